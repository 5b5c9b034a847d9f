/- Parts of the walks. Conditions: as stated with each. -/
import Derived.Test.YtdpgblncijojiaaGreatDoorPk28
import Derived.Test.YtdpgblncijojiaaGreatDoorPk32
namespace Go.Proofs.YtdpgblncijojiaaGreatDoor
open Go.RowKit Tryz
set_option linter.all false
set_option maxHeartbeats 8000000
set_option maxRecDepth 100000
variable{C:Code}{E V W:aa}{L:List jR}{N b m n:Nat}{a:Act}{o:ie}{p:Int}{rest:List Oper}{row:Option Nat}{s:Sy}{t:dE}{v:av}
def At(lo:Nat)(P:iQ)(w:aa):Prop:=∃hi,hi<=(w:Nat)/\Fr w lo hi P
section
variable{lo lo' b:Nat}{P Q:iQ}{w w':aa}
def At.now(h:At lo P w):P w:=by obtain⟨_,_,h⟩:=h;exact h.now
def At.ext(h:At lo P w)(B:aj w w'):At lo P w':=by obtain⟨hi,z,D⟩:=h;exact⟨hi,bE z B.size,D.ext B z⟩
def At.drawn(h:At lo P w)(B:w.grownBy w' (some b))(E:b<lo):At lo P w':=by obtain⟨hi,z,D⟩:=h;exact⟨hi,bE z B.size,D.grown B z fun g e=>aG (by cases e;exact E)⟩
def At.mono(h:At lo P w)(D:lo'<=lo):At lo' P w:=by obtain⟨hi,z,B⟩:=h;exact⟨hi,z,B.mono D (ah _)⟩
def At.imp(h:At lo P w)(f:∀W,P W->Q W):At lo Q w:=by obtain⟨hi,z,B⟩:=h;exact⟨hi,z,B.imp f⟩
def At.of(h:Fr w lo w P):At lo P w:=⟨_,ah _,h⟩
def At.setCell(h:At lo P w){a:dw}(D:a.block<lo)(v:av):At lo P (w.setCell a v):=by obtain⟨hi,h1,z⟩:=h;exact⟨hi,St,z.same fun k B _=>bx _ _ _ _ Ry⟩
def At.kept(h:At lo P w)(E:(w:Nat)<=w')(D:∀k,lo<=k->w'.heap[k]?=w.heap[k]?∨(w:Nat)<=k):At lo P w':=by obtain⟨hi,z,B⟩:=h;exact⟨hi,bE z E,B.same fun k a b=>(D k a).elim id fun h=>Ry⟩
end
def cy.iM{b:Nat}{w:aa}(h:cy C b m w){a:dw}(z:b<a.block)(v:av):cy C b m (w.setCell a v):=h.oD fun q B=>bx _ _ _ _ Ry
def bV{w:aa}(h:w.grownBy E row){a:dw}(z:(w:Nat)<=a.block)(v:av):w.grownBy (E.setCell a v) row:=jl h ((ai w E).setCell z v)
abbrev n_(lo:Nat)(L:List jR)(A:aq)(w:aa):Prop:=At lo (fun V=>de 3 nH V A L) w
def zbx(L:List jR)(w:aa)(e:Ending)(w':aa):Prop:=∃A c,e=.returned (.agg (bJ A L c))/\L.length<=c/\n_ w L A w'/\aj w w'
def CS{D:iF}{Q:ir}(I:o.guard=none)(B x:kE)(O:o.op=.call {callee:=.builtin .append,args:=#[B,x],argTypes:=#[174,174]})(z:Nat)(W:aa)(v:av)(A:aq)(cap:Nat)(xs ys:List jR)(hW:bP 192 3 nH W z v xs)(F:de 3 nH W A ys)(E:0<ys.length)(IP:z<=(W:Nat))(ac:xs.length+ys<=1048576)(R:a.eval B=v)(hx:a.eval x=.slice A ys cap)(h:∀v' w',bP 192 3 nH w' z v' (xs++ys)->Below z W w'->wpList prog D Q rest (a.put o.dst v') w'):wpList prog D Q (o::rest) a W:=by
 obtain⟨ab,hi,T,U,Z⟩:=cM Dh.info;obtain⟨cs,hW⟩:=hW;obtain⟨b,of,rfl,hc⟩:=F.here E;have H:∀c∈ys.map ndC,c.length=3:=fun c hc=>UY
 have IQ:∀(k:Nat) (x:jR) (c:bN),ys[k]?=some x->(ys.map ndC)[k]?=some c->c.length=3/\(∀u∈c,u.oneCell'=true)/\j2 nH W z v x c:=fun k x c hx hc=>YQ
 refine ze W I B x 174 O z 192 ab _ 3 32 Dh.und hi T U Z Dh.zs Dh.pos v _ _ R hW.outer ⟨b,of,none⟩ ys cap (ys.map ndC).flatten hx (by rw[mK H,bl]) (fun j u J=>by rw[dy];exact zat hc j u J) ?_ ?_ ?_ IP ?_
 .exact YY
 .unfold maxLen;omega
 .omega
 .exact Zo
def zg8{k v:Int}(h:aW W b (g_ k v (ByteArray.mk #[])) 192):de 3 nH W (some ⟨b,0,none⟩) [me k v]:=
 aB ⟨b,0,rfl,fun i x hi=>by
  match i,hi with
  |0,hi=>
   cases hi
   refine⟨_,fun j y z=>?_,rfl⟩;have:0+0*3+j=j:=Ry;rw[this,aV h j];exact z
  |i+1,hi=>simp at hi⟩
def vp(w:aa)(z B D:Obj):Below w w (((w.alloc z).alloc B).alloc D)/\(((w.alloc z).alloc B).alloc D).heap[w.heap.size]?=some z/\(((w.alloc z).alloc B).alloc D).heap[(w:Nat)+1]?=some B/\(((w.alloc z).alloc B).alloc D).heap[(w:Nat)+2]?=some D:=⟨((((ai w w).alloc (ah _) _).alloc Rx _).alloc RX _),cv w z B D⟩
def bD{g:Nat}{o:Obj}(h:V.heap[g]?=some o)(z:V.grownBy E (some b))(B:b<g):E.heap[g]?=some o:=(z.block g (aP.1 h).1 fun e=>TN).trans h
def dW{g:Nat}(v':av)(h:aW V g #[v] t):af V g 0 v/\V.frozen? ⟨g,0,none⟩=false/\(V.setCell ⟨g,0,none⟩ v').cell? ⟨g,0,none⟩=some v':=⟨di h 0 rfl,aS h 0,di (bw _ g 0 _ _ v' h) 0 rfl⟩
def iZ(k v:Int)(w:aa):ax 184 (bI k v) w (zbx [me k v] w):=by
 have D:=aD w (.cells fg 176) rfl;have B:=aE w (.cells fg 176);go_enter func184,ntmps184
 go_upto_region 1 with(fail)
 generalize w.alloc _=W at B D ⊢;have z:(w:Nat)<W:=(aP.1 D).1;have H:=(bZ W (.cells (g_ k v (ByteArray.mk #[])) 192) z).trans D;have F:=aD W (.cells (g_ k v (ByteArray.mk #[])) 192) rfl;have E:=B.alloc B.size (.cells (g_ k v (ByteArray.mk #[])) 192);obtain⟨R,f0,T⟩:=dW (.slice (aX W) 1 1) H;obtain⟨J,O,I⟩:=dD F z E;clear D B H F z E;go_wp2;refine az (v:=.agg #[.slice (aX W) 1 1]) (by simp[results,results184,go_sem, *]) rfl ?_;have z:=O.o;refine⟨_,1,rfl,ah _,?_,I.setCell (p:=⟨w,0,none⟩) (ah _) _⟩;have h:At W (fun V=>de 3 nH V (some ⟨W,0,none⟩) [me k v]) (W.alloc (.cells (g_ k v (ByteArray.mk #[])) 192)):=
  ⟨(W:Nat)+1,Rx,fun V Q=>zg8 ((Q W (ah _) Ry).trans J.o)⟩
 exact(h.setCell (a:=⟨w,0,none⟩) z _).mono Ry
def rB(n:Int)(w:aa):ax 179 (bc n) w (zbx [me 1 n] w):=by
 have D:=aD w (.cells fg 176) rfl;have z:=aE w (.cells fg 176);go_enter func179,ntmps179
 go_upto_region 1 with(fail)
 generalize w.alloc _=W at z D ⊢;obtain⟨E,J⟩:=bL D z;clear D z;go_wp2_with (go_at_call 184;(with_reducible refine(iZ 1 n W).mono ?_);rintro e T ⟨A,c,rfl,H,F,B⟩;obtain⟨U,f0,Z⟩:=dW (.slice A 1 c) (aA E.o B);have I:=zH F;have Q:=zH H;have O:=zH (bQ J.o B);clear H F B)
 refine az (v:=.agg (fH A c)) (by simp[results,results179,go_sem, *]) rfl ?_;have R:(w:Nat)<W:=(aP.1 E.o).1;exact⟨A,c,rfl,Q.o,(At.setCell I (a:=⟨w,0,none⟩) R _).mono Ry,O.setCell (p:=⟨w,0,none⟩) (ah _) _⟩
def idB:List jR->Bool
 |[x]=>decide (x.k=1)
 |_=>false
def zbC(L:List jR)(A:aq)(cap:Nat)(w:aa)(E:de 3 nH w A L):ax 187 (cB (bJ A L cap)) w (fp w (idB L)):=by
 have hB:=aE w (.cells (bJ A L cap) 176);have z:=di (aD w (.cells (bJ A L cap) 176) rfl) 0 rfl;have K7:=dB E hB
 match L,K7 with
 |[],K7=>
  go_enter func187,ntmps187
  go_upto_region 1 with(fail)
  dsimp only[List.length_nil]at z hB ⊢;generalize w.alloc _=W at hB z ⊢;have HB:=zH hB;clear hB K7;exact WG
 |[x],K7=>
  obtain⟨b,o,rfl,B,-,-⟩:=jS K7 (k:=0) rfl;simp only[ta,jJ]at B;by_cases hk:x.k=1
  .have F:(x.k==1)=true:=by simp[hk]
   go_enter func187,ntmps187
   go_upto_region 1 with(fail)
   dsimp only[List.length_cons,List.length_nil]at z hB ⊢;generalize w.alloc _=W at hB z B ⊢;obtain⟨HB,HK⟩:=bL hB (by unfold idB;simp[hk]:idB [x]=true);exact Xd
  .have F:(x.k==1)=false:=by simp[hk]
   go_enter func187,ntmps187
   go_upto_region 1 with(fail)
   dsimp only[List.length_cons,List.length_nil]at z hB ⊢;generalize w.alloc _=W at hB z B ⊢;obtain⟨HB,HK⟩:=bL hB (by unfold idB;simp[hk]:idB [x]=false);exact Xd
 |x::y::L,K7=>
  obtain⟨n,D⟩:=aK ((x::y::L).length);rw[<-D]at z hB ⊢;have H:((n:Int)==1)=false:=by have:n=L.length+2:=D;simp;omega
  clear K7 D E;go_enter func187,ntmps187
  go_upto_region 1 with(fail)
  generalize w.alloc _=W at hB z ⊢;have HB:=zH hB;clear hB;exact WG
def z_(B E:List jR)(A1 A2:aq)(c1 c2:Nat)(k:Int)(w:aa)(U:de 3 nH w A1 B)(J:de 3 nH w A2 E)(b5:0<B.length)(n2:0<E.length)(b3:B.length+E+1<=1048576):ax 178 #[.agg (bJ A1 B c1),.agg (bJ A2 E c2),k] w (zbx (B++E++[me k 0]) w):=by
 obtain⟨M,O⟩:=aK (B++E);obtain⟨L,Z⟩:=aK (M++[me k 0]);rw[<-O,<-Z];obtain⟨T,a8,a9⟩:=dD Z O (by rw[O,bS];exact b3:M.length+1<=1048576);clear Z O;obtain⟨F,ad,am,Q⟩:=vp w (.cells (bJ A1 B c1) 176) (.cells (bJ A2 E c2) 176) (.cells fg 176);go_enter func178,ntmps178
 go_upto_region 1 with(fail)
 generalize ((w.alloc _).alloc _).alloc _=W at F ad am Q ⊢;have H:=aE W (.cells #[] 192);have cb:=di (aA ad H) 0 rfl;obtain⟨bi,ba,bb,bz,a3,a5,I,bp,br⟩:=zH9 (bP.lit 192 3 nH W W (ah _)) (dB (dB U F) H) (dB J F) (show(W:Nat)<=(W.alloc (.cells #[] 192)) from H.size) (show(w:Nat)+2<W from(aP.1 Q).1) F H am Q;clear U J F ad am Q H;go_upto_region 2 with(at_builtin;refine qQ rfl _ _ rfl W _ _ A1 c1 B bi.o ba.o b5 bz.o Ry rfl rfl ?_;intro v' b9 D z;have cc:=di (aA bp (I.trans z)) 0 rfl;have bm:=zH D;have a6:=zH (I.trans z);have bd:=zH (dB bb (I.trans z));have b0:=zH (I.trans z).size;clear D z)
 go_upto_region 3 with(at_builtin;refine CS rfl _ _ rfl W _ _ A2 c2 B E bm.o bd.o n2 b0.o Ry rfl rfl ?_;intro b6 ao D z;rw[<-a8.o]at D;have bo:=zH D;have a7:=zH (a6.trans z);clear D z)
 have ab:=aE ao (.cells #[k,(),.string (ByteArray.mk #[])] 192);obtain⟨R,a0⟩:=bL (bQ a7 ab) (bo.ext ab);obtain⟨bv,be,a2⟩:=dD (aA br R.o) (aD ao (.cells #[k,(),.string (ByteArray.mk #[])] 192) rfl) R.o.size;clear ab;go_wp2_with (at_builtin;refine ef Dh rfl (.tmp 16) (.tmp 19) rfl W _ b6 M (me k 0) [.int .i64 k,.int .i64 0,.string (ByteArray.mk #[])] ao a0.o rfl TM (j2.flat a0 a2 fun _=>rfl) a9.o a2.o rfl rfl be.o ?_;intro g cap ca D b2 b1 z;obtain⟨ch,f0,ce⟩:=dW (.slice (aX g) (M.length+1) cap) ((z.block _ a3.o).trans bv);have a1:=zH D;have ap:=zH (R.o.trans z);clear D b2 b1 z)
 refine az (v:=.agg (ey (aX g) (M.length+1) cap)) (by simp[results,results178,go_sem, *]) rfl ?_;have b4:=a3.o;have ac:L.length=M+1:=by rw[T.o];simp
 have a4:=a1.view;rw[<-T.o,ac]at a4;obtain⟨b7,b8,e,U,J,-⟩:=a4;cases e
 refine⟨_,cap,by rw[ac],?_,?_,(bQ a5 ap).setCell (p:=⟨(w:Nat)+2,0,none⟩) (by show(w:Nat)<=w+2;omega) _⟩
 .rw[ac];exact J
 .have h:=a1.fr (fun _ _ _ _ _ h=>h) ap.size;rw[<-T.o]at h;exact((At.of h).setCell (a:=⟨(w:Nat)+2,0,none⟩) b4 _).mono Ry
def Bz(z B:List jR)(A1 A2:aq)(c1 c2:Nat)(w:aa)(R:de 3 nH w A1 z)(T:de 3 nH w A2 B)(am:0<z.length)(n2:0<B.length)(ad:z.length+B+1<=1048576):ax 170 (jI (bJ A1 z c1) (bJ A2 B c2)) w (zbx (z++B++[me 15 0]) w):=by
 obtain⟨D,F,H,I⟩:=vp w (.cells (bJ A1 z c1) 176) (.cells (bJ A2 B c2) 176) (.cells fg 176);have O:=zH (fun W (ab:aj w W)=>z_ z B A1 A2 c1 c2 15 W (dB R ab) (dB T ab) am n2 ad);obtain⟨M,Z⟩:=aK (z++B++[me 15 0]);rw[<-Z]at O ⊢;clear R T am n2 ad Z;go_enter func170,ntmps170
 go_upto_region 1 with(fail)
 generalize ((w.alloc _).alloc _).alloc _=W at D F H I ⊢;have a3:=di F 0 rfl;have a4:=di H 0 rfl;obtain⟨Q,J⟩:=bL I D;clear F H I D;go_wp2_with (go_at_call 178;(with_reducible refine(O.o W J.o).mono ?_);rintro e a2 ⟨A,c,rfl,ac,U,E⟩;obtain⟨a6,f0,a5⟩:=dW (.slice A M c) (aA Q.o E);have ao:=zH U;have a0:=zH ac;have ap:=zH (bQ J.o E);clear ac U E)
 refine az (v:=.agg (bJ A M c)) (by simp[results,results170,go_sem, *]) rfl ?_;have a1:(w:Nat)+2<W:=(aP.1 Q.o).1;exact⟨A,c,rfl,a0,(At.setCell ao (a:=⟨(w:Nat)+2,0,none⟩) a1 _).mono Ry,ap.setCell (p:=⟨(w:Nat)+2,0,none⟩) (by show(w:Nat)<=w+2;omega) _⟩
def wX(z B:List jR)(A1 A2:aq)(c1 c2:Nat)(w:aa)(R:de 3 nH w A1 z)(T:de 3 nH w A2 B)(am:0<z.length)(n2:0<B.length)(ad:z.length+B+1<=1048576):ax 168 (jI (bJ A1 z c1) (bJ A2 B c2)) w (zbx (z++B++[me 16 0]) w):=by
 obtain⟨D,F,H,I⟩:=vp w (.cells (bJ A1 z c1) 176) (.cells (bJ A2 B c2) 176) (.cells fg 176);have O:=zH (fun W (ab:aj w W)=>z_ z B A1 A2 c1 c2 16 W (dB R ab) (dB T ab) am n2 ad);obtain⟨M,Z⟩:=aK (z++B++[me 16 0]);rw[<-Z]at O ⊢;clear R T am n2 ad Z;go_enter func168,ntmps168
 go_upto_region 1 with(fail)
 generalize ((w.alloc _).alloc _).alloc _=W at D F H I ⊢;have a3:=di F 0 rfl;have a4:=di H 0 rfl;obtain⟨Q,J⟩:=bL I D;clear F H I D;go_wp2_with (go_at_call 178;(with_reducible refine(O.o W J.o).mono ?_);rintro e a2 ⟨A,c,rfl,ac,U,E⟩;obtain⟨a6,f0,a5⟩:=dW (.slice A M c) (aA Q.o E);have ao:=zH U;have a0:=zH ac;have ap:=zH (bQ J.o E);clear ac U E)
 refine az (v:=.agg (bJ A M c)) (by simp[results,results168,go_sem, *]) rfl ?_;have a1:(w:Nat)+2<W:=(aP.1 Q.o).1;exact⟨A,c,rfl,a0,(At.setCell ao (a:=⟨(w:Nat)+2,0,none⟩) a1 _).mono Ry,ap.setCell (p:=⟨(w:Nat)+2,0,none⟩) (by show(w:Nat)<=w+2;omega) _⟩
def TmP(p:Int)(c:gY)(n lo:Nat)(w':aa)(v:av):Prop:=∃L A cap,v=.agg (bJ A L cap)/\L.length<=cap/\L.length<=n/\ll p L c/\n_ lo L A w'
def ll.pos{c:gY}(h:ll p L c):0<L.length:=by
 obtain⟨⟨t,B,-⟩,-⟩:=h;have z:=ml List.length B;have D:0<t.flat.length:=by cases t <;>simp[Tm.flat] <;>omega
 unfold dR at z;rw[bl]at z;omega
def zhX(h:idB L=true):∃x,L=[x]/\x.k=1:=by
 match L,h with
 |[x],h=>exact⟨x,rfl,by unfold idB at h;simpa using h⟩
def ll.idB{c:gY}(h:ll p L c)(hi:idB L=true):c.1=c.2:=by obtain⟨⟨k,v,s⟩,rfl,z⟩:=zhX hi;have z:k=1:=z;subst z;exact h.zjs
def D4(C:Code)(b m:Nat)(w:aa)(p:Int)(D B:List jR)(A1 A2:aq)(c1 c2 a3 lo i j o:Nat)(E:cy C b m w)(b4:m<=549755813888)(bi:b<a3)(z:b<lo)(bp:lo<=(w:Nat))(O:n_ a3 D A1 w)(a1:n_ lo B A2 w)(br:B.length<=c2)(t1:ll p D (i,j))(t2:ll p B (j,o))(bo:D.length+B+1<=1048576):ax 182 #[.pointer (aX b),.agg (bJ A1 D c1),.agg (bJ A2 B c2)] w (kQ C b (m+2) (TmP p (i,o) (D.length+B+1) lo) w):=by
 obtain⟨Q,F,T,U⟩:=vp w (.cells (bJ A1 D c1) 176) (.cells (bJ A2 B c2) 176) (.cells fg 176);obtain⟨Ez,a7,ap⟩:=dD E.lt (fun W (O:n_ a3 D A1 W) (a1:n_ lo B A2 W)=>Bz D B A1 A2 c1 c2 W O.now a1.now t1.pos t2.pos bo) (fun W (O:n_ a3 D A1 W)=>zbC D A1 c1 W O.now);obtain⟨M,a2⟩:=aK (D++B++[me 15 0]);obtain⟨HM,KO⟩:=bL (by rw[a2];simp;omega:M.length<=D+B+1) (by rw[a2];exact t1.seq t2:ll p M (i,o));rw[<-a2]at a7;obtain⟨a0,KN,bb,bv,bz,bd,am,a4⟩:=zH8 (show idB D=true->ll p B (i,o) from fun h=>by have:=t1.idB h;have e:i=j:=this;subst e;exact t2) bp z bi br E O a1;clear O a1 bo a2 t1 t2 bp z bi br E;by_cases hid:idB D=true
 .rw[hid]at ap;have a0:=zH (a0 hid);clear hid;go_enter func182,ntmps182
  go_upto_region 1 with(fail)
  generalize ((w.alloc _).alloc _).alloc _=W at Q F T U ⊢;have b7:=di F 0 rfl;obtain⟨a9,ba,a8,Z⟩:=fS F T U Q;clear F T U Q;go_wp2_with (first
   |(go_at_call 187;((with_reducible refine(ap.o W (am.o.ext Z.o)).mono ?_);rintro e b5 ⟨rfl,z⟩;have ao:=zH (bQ Z z);have b0:=zH (aA a9 z);have b1:=zH (aA ba z);have b2:=zH (aA a8 z);clear z))
   |(go_at_call 46;(with_reducible refine(gH C b m b5 5 (bd.o.ext ao.o) b4).mono ?_);rintro e ad ⟨v,rfl,⟨y,rfl⟩,bm,I⟩;have b3:=Ez.o;have b8:=di (bD b0 I Ry) 0 rfl;have b9:=di (bD b1 I Ry) 0 rfl;have J:=zH (bD b2 I Ry);obtain⟨ce,f0,cc⟩:=dW (.slice A2 B c2) J.o;have H:=zH ((aN (row:=some b) ao).trans I);have a6:=zH ((a4.ext ao).drawn I bb);have a5:=zH ((am.ext ao).drawn I bv);have be:=zH bm;have KP:=zH (show(w:Nat)+2<ad from(aP.1 J.o).1);clear bm I b3)
   |(go_at_call 170;(with_reducible refine(a7.o ad a5.o a6.o).mono ?_);rintro e b6 ⟨A,c,rfl,E,ac,z⟩;obtain⟨cb,f1,ca⟩:=dW (.slice A M c) (aA J.o z);have HA:=zH ac;have HK:=zH E;have ab:=zH z;clear E ac z))
  .have R:=bV H.o (a:=⟨(w:Nat)+2,0,none⟩) (by show(w:Nat)<=w+2;omega) (.slice A2 B c2);refine az (v:=.agg (bJ A2 B c2)) Vv rfl ⟨_,rfl,?_,be.iM (a:=⟨(w:Nat)+2,0,none⟩) VX _,R⟩;exact⟨B,A2,c2,rfl,bz,Ry,a0,a4.drawn R bb⟩
  .have R:=bV (H.o.trans (aN ab)) (a:=⟨(w:Nat)+2,0,none⟩) (by show(w:Nat)<=w+2;omega) (.slice A M c);refine az (v:=.agg (bJ A M c)) Vv rfl ⟨_,rfl,?_,(be.ext ab).iM (a:=⟨(w:Nat)+2,0,none⟩) VX _,R⟩;exact YO
 .rw[td]at hid;rw[hid]at ap;clear hid a0;go_enter func182,ntmps182
  go_upto_region 1 with(fail)
  generalize ((w.alloc _).alloc _).alloc _=W at Q F T U ⊢;have b7:=di F 0 rfl;obtain⟨a9,ba,a8,Z⟩:=fS F T U Q;clear F T U Q;go_wp2_with (first
   |(go_at_call 187;(with_reducible refine(ap.o W (am.o.ext Z.o)).mono ?_);rintro e ad ⟨rfl,z⟩;have H:=zH (bQ Z z);have b8:=di (aA a9 z) 0 rfl;have b9:=di (aA ba z) 0 rfl;have J:=zH (aA a8 z);have KP:=zH (show(w:Nat)+2<ad from(aP.1 J.o).1);have a5:=zH (am.ext H.o);have a6:=zH (a4.ext H.o);clear z)
   |(go_at_call 170;(with_reducible refine(a7.o ad a5.o a6.o).mono ?_);rintro e b6 ⟨A,c,rfl,E,ac,z⟩;obtain⟨cb,f1,ca⟩:=dW (.slice A M c) (aA J.o z);have HA:=zH ac;have HK:=zH E;have ab:=zH z;clear E ac z))
  have R:=bV (row:=some b) ((aN H.o).trans (aN ab)) (a:=⟨(w:Nat)+2,0,none⟩) (by show(w:Nat)<=w+2;omega) (.slice A M c);refine az (v:=.agg (bJ A M c)) Vv rfl ⟨_,rfl,?_,(((bd.ext H.o).ext ab).iM (a:=⟨(w:Nat)+2,0,none⟩) VX _).mono Ry,R⟩;exact YO
def zda{k v:Int}(h:2<=k):(qe ⟨k,v,true⟩,tK ⟨k,v,true⟩)=(oB k,qT k):=by
 by_cases z:k=2
 .subst z;rfl
 .have:=vu (k:=k) (v:=v) Ry;rw[this.1,this.2]
def zdb{k v:Int}(z:k=7∨k=13)(D:0<=v)(B:v<p)(E:p<=97):ll p [me k v] (oB k,qT k):=by rw[<-zda (v:=v) Ry];refine ll.leaf ?_ ⟨show k≠8 by omega,show k≠14 by omega,fun _=>B⟩;unfold dV;rw[ak (Ry:¬k=1),ar z];simp;omega
def zdc{k:Int}(z:2<=k)(E:k<=13)(B:k≠7)(F:k≠8)(D:k≠13):ll p [me k 0] (oB k,qT k):=by
 rw[<-zda (v:=0) z];refine ll.leaf ?_ ⟨show k≠8 by omega,show k≠14 by omega,fun h=>?_⟩
 .unfold dV;rw[ak (Ry:¬k=1),ak (Ry:¬(k=7∨k=13))];simp;omega
 .rcases h with h|h
  .exact absurd h B
  .exact absurd h D
def LfP(p:Int)(lo:Nat)(w':aa)(v:av):Prop:=∃k x A cap,v=.agg (fH A cap)/\1<=cap/\(2:Int)<=k/\k<=13/\ll p [me k x] (oB k,qT k)/\n_ lo [me k x] A w'
def zgz(C:Code)(b m:Nat)(w:aa)(p:Int)(hc:cy C b m w)(a1:m<=549755813000)(a2:2<=p)(Jz:p<=97):ax 180 #[.pointer (aX b),p,.bool false] w (kQ C b (m+4) (LfP p w) w):=by
 have F:=aD w (.cells fg 176) rfl;have D:=aE w (.cells fg 176);have U:∀r:Nat,r<13->IntKind.i64.wrap ((2:Int)+(r:Int))=(2:Int)+(r:Int):=fun r T=>Sq
 obtain⟨Ez,Z⟩:=bL hc.lt hc;clear hc;go_enter func180,ntmps180
 go_upto_region 1 with(fail)
 generalize w.alloc _=W at D F ⊢;obtain⟨ac,I⟩:=bL F D;clear F D;go_upto_region 2 with(go_at_call 88;(with_reducible refine(cY C b m W 13 (Z.o.ext I.o) Ry).mono ?_);rintro e w1 ⟨v,rfl,⟨r,rfl,T,-⟩,Q,E⟩;have H:r<13:=Ry;have ad:=U r H;have O:=zH H;have Jy:=zH Q;have JF:=zH ((aN (row:=some b) I).trans E);have JE:=zH (bD ac E Ez);clear Q E T H)
 obtain⟨k,R⟩:∃k:Int,k=(2:Int)+(r:Int):=⟨_,rfl⟩;rw[<-R];have Jx:=zH (show 2<=k/\k<=14 by have:=O.o;omega);clear R ad U O;by_cases h8:k=8
 .subst h8;exact Z0
 by_cases B:k=14
 .subst B;exact Z1
 by_cases h7:k=7
 .subst h7;exact Z0
 by_cases z:k=13
 .subst z;exact Z1
 have a0:(k==8)=false:=Sg;have ao:(k==14)=false:=by simpa using B
 have ap:(k==7)=false:=Sh;have am:(k==13)=false:=by simpa using z
 obtain⟨ab,J⟩:=bL (zdc (p:=p) Jx.1 (by have:=Jx.2;omega) h7 h8 z) (show 2<=k/\k<=13 by have:=Jx.o;omega);clear Jx h8 B h7 z;go_wp2_with (go_at_call 184;(with_reducible refine(iZ k 0 w1).mono ?_);rintro e w3 ⟨A,c,rfl,hc,hA,hb⟩;obtain⟨z0,f0,y0⟩:=dW (.slice A 1 c) (aA JE hb);have HA:=zH hA;have HK:=zH hc;have Eu:=zH hb;clear hc hA hb)
 have hG:=bV (JF.trans (aN Eu)) (a:=⟨w,0,none⟩) (ah _) (.slice A 1 c);refine az (v:=.agg (fH A c)) (by simp[results,results180,go_sem, *]) rfl ⟨_,rfl,?_,((Jy.ext Eu).iM (a:=⟨w,0,none⟩) Ez _).mono Ry,hG⟩;have hs:(w:Nat)<w1:=(aP.1 JE).1;exact⟨k,0,A,c,rfl,HK,J.o.1,J.o.2,ab,(At.setCell HA (a:=⟨w,0,none⟩) hs _).mono Ry⟩
def zje(p:Int)(c:gY)(n lo:Nat)(w:aa)(e:Ending)(w':aa):Prop:=∃L A cap,e=.returned (.agg (bJ A L cap))/\L.length<=cap/\L.length<=n/\ll p L c/\n_ lo L A w'/\aj w w'
def zdg(z:List jR)(A1 B:aq)(c1 d f:Nat)(w:aa)(D:de 3 nH w B [me 1 (f:Int)])(E:de 3 nH w A1 z)(n:0<z.length)(F:z.length<=1002):ax 168 (jI (fH B d) (bJ A1 z c1)) w (zbx ([me 1 (f:Int)]++z++[me 16 0]) w):=wX [me 1 (f:Int)] z B A1 d c1 w D E Rx n RX
def zdh(z:List jR)(A1 B:aq)(c1 d f:Nat)(w:aa)(E:de 3 nH w A1 z)(D:de 3 nH w B [me 1 (f:Int)])(n:0<z.length)(F:z.length<=1002):ax 168 (jI (bJ A1 z c1) (fH B d)) w (zbx (z++[me 1 (f:Int)]++[me 16 0]) w):=wX z [me 1 (f:Int)] A1 B c1 d w E D n Rx RX
def zaS(p:Int)(z:List jR)(A1:aq)(c1 lo f g i o:Nat)(w:aa)(c6:lo<=(w:Nat))(cO:n_ lo z A1 w)(c8:z.length<=c1)(t1:ll p z (i,o))(hi:f+i+g<=12)(c7:f+o+g<=12)(bi:z.length<=1000):ax 183 #[f,.agg (bJ A1 z c1),g] w (zje p (f+i+g,f+o+g) (z.length+4) lo w):=by
 have F:=((ai w w).alloc (ah _) (.cells (bJ A1 z c1) 176)).alloc Rx (.cells fg 176);have ap:=(bZ (w.alloc (.cells (bJ A1 z c1) 176)) (.cells fg 176) (k:=w.heap.size) Rx).trans (aD w _ rfl);have a0:=aD (w.alloc (.cells (bJ A1 z c1) 176)) (.cells fg 176) (n:=(w:Nat)+1) Rx;have ao:=At.ext cO F;obtain⟨da,b0,c9,FZ,cj,b3,K_⟩:=zH7 cO c6 c8 bi t1.pos t1 (aY hi c7);clear cO c6 c8 bi t1 hi c7;by_cases c5:f=0
 .subst c5;by_cases bm:g=0
  .subst bm;go_enter func183,ntmps183
   go_upto_region 1 with(fail)
   generalize (w.alloc _).alloc _=W at ap a0 F ao ⊢;obtain⟨a3,a4,a7,be⟩:=fS ap a0 F ao;clear ap a0 F ao;have Q:=di a3.o 0 rfl;obtain⟨a2,f0,cR⟩:=dW (.slice A1 z c1) a4;go_wp2;refine az (v:=.agg (bJ A1 z c1)) Vn rfl ?_;have bi:=b0.o;have F:=a7.setCell (p:=⟨(w:Nat)+1,0,none⟩) (by show(w:Nat)<=w+1;omega) (.slice A1 z c1);exact⟨z,A1,c1,rfl,c9,Ry,(by have h:=b3.o;simpa using h),da.ext F,F⟩
  have dc:0 < (g:Int):=Ry;clear bm;go_enter func183,ntmps183
  go_upto_region 1 with(fail)
  generalize (w.alloc _).alloc _=W at ap a0 F ao ⊢;obtain⟨a3,a4,a7,be⟩:=fS ap a0 F ao;clear ap a0 F ao;go_upto_region 4 with(fail)
  have Q:=di a3.o 0 rfl;have bp:(W.drew).cell? ⟨w,0,none⟩=some (.slice A1 z c1):=Q;refine bk (S:=fun V=>af V w 0 (.slice A1 z c1)) 3 RU bp (fun hHeld=>?_);refine ay 0 ?_;refine ay 1 ?_;refine bu 2 fun K hK=>?_
  go_simp
  (with_reducible refine(rB g _).mono ?_)
  rintro e bv ⟨b5,cK,rfl,ba,a1,E⟩;obtain⟨a6,cb⟩:=bL ((aF W).trans E) a1;clear E a1 ba;go_simp;refine hK.out _ _ (fun _=>ag a6 Q) (fun hHeld=>?_);clear hK K;try simp only[Act.put,zA]
  have hHeld:=hHeld RC;refine bu 3 fun K hK=>?_
  go_simp
  (with_reducible refine(zdh z A1 b5 c1 cK g bv (be.o.ext a6.o).now cb.o.now cj.o (by have:=FZ.o;have:=FZ.o;omega)).mono ?_)
  rintro e bd ⟨I,J,rfl,ab,Z,E⟩;obtain⟨D,H⟩:=aK (z++[me 1 (g:Int)]++[me 16 0]);rw[<-H]at Z ab ⊢;obtain⟨ce,cz,a9⟩:=dD (show D.length<=z+2 by rw[H];simp;try omega) (show ll p D (i+g,o+g) by rw[H];exact b3.par (ll.id p (n:=g) Tb) Tb Tb) (bQ a6 E);have ad:=aA a3 a9;obtain⟨a2,f0,-⟩:=dW (.slice I D J) ad;obtain⟨co,b7,cc,K9⟩:=fS ad Z ab (show(w:Nat)+1<bv by have:=a6.size;have:=(aP.1 a4).1;omega);clear Z ab E H ad;go_simp;refine hK.out _ _ (fun h=>absurd h RC) (fun hHeld=>?_);clear hK K;try simp only[Act.put,zA]
  refine bu 4 fun K hK=>?_
  go_simp;refine hK.out _ _ (fun h=>absurd h RC) (fun hHeld=>?_);clear hK K;try simp only[Act.put,zA]
  refine dS RU ?_ _;have O:=bw bd w 0 _ _ (.slice I D J) co;simp only[nm,jK]at O;have am:=(bx bd ⟨w,0,none⟩ (.slice I D J) ((w:Nat)+1) (by show(w:Nat)+1≠w.heap.size;omega)).trans (aA a4 a9);have U:=(bQ a7 a9).setCell (p:=⟨w,0,none⟩) (ah _) (.slice I D J);have ac:=(At.setCell b7 (a:=⟨w,0,none⟩) VT (.slice I D J)).mono (lo':=(w:Nat)+2) (by have:=K9.o;omega);generalize bd.setCell ⟨w,0,none⟩ _=db at O am U ac ⊢;obtain⟨cr,ct,b9,ci⟩:=fS O am U ac;clear O am U ac a2 f0 Q bp;have Q:=di cr.o 0 rfl;obtain⟨a2,f0,cR⟩:=dW (.slice I D J) ct;go_wp2;refine az (v:=.agg (bJ I D J)) Vn rfl ?_;have bi:=b0.o;have F:=b9.setCell (p:=⟨(w:Nat)+1,0,none⟩) (by show(w:Nat)<=w+1;omega) (.slice I D J);exact⟨D,I,J,rfl,cc,by have:=ce.o;omega,(by have h:=cz.o;simpa using h),(At.setCell ci (a:=⟨(w:Nat)+1,0,none⟩) (by show(w:Nat)+1<w+2;omega) _).mono Ry,F⟩
 have dl:0 < (f:Int):=Ry;clear c5;by_cases bm:g=0
 .subst bm;go_enter func183,ntmps183
  go_upto_region 1 with(fail)
  generalize (w.alloc _).alloc _=W at ap a0 F ao ⊢;obtain⟨a3,a4,a7,be⟩:=fS ap a0 F ao;clear ap a0 F ao;go_upto_region 2 with(fail)
  have Q:=di a3.o 0 rfl;have bo:(W.drew).cell? ⟨w,0,none⟩=some (.slice A1 z c1):=Q;refine bk (S:=fun V=>af V w 0 (.slice A1 z c1)) 3 RU bo (fun hHeld=>?_);refine ay 0 ?_;refine ay 2 ?_;refine bu 1 fun K hK=>?_
  go_simp
  (with_reducible refine(rB f _).mono ?_)
  rintro e br ⟨b4,cI,rfl,ba,a1,E⟩;obtain⟨a5,ca⟩:=bL ((aF W).trans E) a1;clear E a1 ba;go_simp;refine hK.out _ _ (fun _=>ag a5 Q) (fun hHeld=>?_);clear hK K;try simp only[Act.put,zA]
  have hHeld:=hHeld RC;refine bu 3 fun K hK=>?_
  go_simp
  (with_reducible refine(zdg z A1 b4 c1 cI f br ca.o.now (be.o.ext a5.o).now cj.o Th).mono ?_)
  rintro e bb ⟨R,T,rfl,ab,Z,E⟩;obtain⟨B,H⟩:=aK ([me 1 (f:Int)]++z++[me 16 0]);rw[<-H]at Z ab ⊢;obtain⟨bz,c4,cu,a8⟩:=fS (show B.length<=z+2 by rw[H];simp;try omega) (by rw[H];simp:0<B.length) (show ll p B (f+i,f+o) by rw[H];exact(ll.id p (n:=f) Tb).par b3 Tb Tb) (bQ a5 E);have ad:=aA a3 a8;obtain⟨a2,f0,-⟩:=dW (.slice R B T) ad;obtain⟨cn,b6,c0,K8⟩:=fS ad Z ab (show(w:Nat)+1<br by have:=a5.size;have:=(aP.1 a4).1;omega);clear Z ab E H ad;go_simp;refine hK.out _ _ (fun h=>absurd h RC) (fun hHeld=>?_);clear hK K;try simp only[Act.put,zA]
  refine bu 4 fun K hK=>?_
  go_simp;refine hK.out _ _ (fun h=>absurd h RC) (fun hHeld=>?_);clear hK K;try simp only[Act.put,zA]
  refine dS RU ?_ _;have O:=bw bb w 0 _ _ (.slice R B T) cn;simp only[nm,jK]at O;have am:=(bx bb ⟨w,0,none⟩ (.slice R B T) ((w:Nat)+1) (by show(w:Nat)+1≠w.heap.size;omega)).trans (aA a4 a8);have U:=(bQ a7 a8).setCell (p:=⟨w,0,none⟩) (ah _) (.slice R B T);have ac:=(At.setCell b6 (a:=⟨w,0,none⟩) VS (.slice R B T)).mono (lo':=(w:Nat)+2) (by have:=K8.o;omega);generalize bb.setCell ⟨w,0,none⟩ _=cF at O am U ac ⊢;obtain⟨b1,b2,b8,ch⟩:=fS O am U ac;clear O am U ac a2 f0 Q bo;have Q:=di b1.o 0 rfl;obtain⟨a2,f0,cR⟩:=dW (.slice R B T) b2;go_wp2;refine az (v:=.agg (bJ R B T)) Vn rfl ?_;have bi:=b0.o;have F:=b8.setCell (p:=⟨(w:Nat)+1,0,none⟩) (by show(w:Nat)<=w+1;omega) (.slice R B T);exact⟨B,R,T,rfl,c0,by have:=bz.o;omega,(by have h:=cu.o;simpa using h),(At.setCell ch (a:=⟨(w:Nat)+1,0,none⟩) (by show(w:Nat)+1<w+2;omega) _).mono Ry,F⟩
 have dc:0 < (g:Int):=Ry;clear bm;go_enter func183,ntmps183
 go_upto_region 1 with(fail)
 generalize (w.alloc _).alloc _=W at ap a0 F ao ⊢;obtain⟨a3,a4,a7,be⟩:=fS ap a0 F ao;clear ap a0 F ao;go_upto_region 2 with(fail)
 have Q:=di a3.o 0 rfl;have bo:(W.drew).cell? ⟨w,0,none⟩=some (.slice A1 z c1):=Q;refine bk (S:=fun V=>af V w 0 (.slice A1 z c1)) 3 RU bo (fun hHeld=>?_);refine ay 0 ?_;refine ay 2 ?_;refine bu 1 fun K hK=>?_
 go_simp
 (with_reducible refine(rB f _).mono ?_)
 rintro e br ⟨b4,cI,rfl,ba,a1,E⟩;obtain⟨a5,ca⟩:=bL ((aF W).trans E) a1;clear E a1 ba;go_simp;refine hK.out _ _ (fun _=>ag a5 Q) (fun hHeld=>?_);clear hK K;try simp only[Act.put,zA]
 have hHeld:=hHeld RC;refine bu 3 fun K hK=>?_
 go_simp
 (with_reducible refine(zdg z A1 b4 c1 cI f br ca.o.now (be.o.ext a5.o).now cj.o Th).mono ?_)
 rintro e bb ⟨R,T,rfl,ab,Z,E⟩;obtain⟨B,H⟩:=aK ([me 1 (f:Int)]++z++[me 16 0]);rw[<-H]at Z ab ⊢;obtain⟨bz,c4,cu,a8⟩:=fS (show B.length<=z+2 by rw[H];simp;try omega) (by rw[H];simp:0<B.length) (show ll p B (f+i,f+o) by rw[H];exact(ll.id p (n:=f) Tb).par b3 Tb Tb) (bQ a5 E);have ad:=aA a3 a8;obtain⟨a2,f0,-⟩:=dW (.slice R B T) ad;obtain⟨cn,b6,c0,K8⟩:=fS ad Z ab (show(w:Nat)+1<br by have:=a5.size;have:=(aP.1 a4).1;omega);clear Z ab E H ad;go_simp;refine hK.out _ _ (fun h=>absurd h RC) (fun hHeld=>?_);clear hK K;try simp only[Act.put,zA]
 refine bu 4 fun K hK=>?_
 go_simp;refine hK.out _ _ (fun h=>absurd h RC) (fun hHeld=>?_);clear hK K;try simp only[Act.put,zA]
 refine dS RU ?_ _;have O:=bw bb w 0 _ _ (.slice R B T) cn;simp only[nm,jK]at O;have am:=(bx bb ⟨w,0,none⟩ (.slice R B T) ((w:Nat)+1) (by show(w:Nat)+1≠w.heap.size;omega)).trans (aA a4 a8);have U:=(bQ a7 a8).setCell (p:=⟨w,0,none⟩) (ah _) (.slice R B T);have ac:=(At.setCell b6 (a:=⟨w,0,none⟩) VS (.slice R B T)).mono (lo':=(w:Nat)+2) (by have:=K8.o;omega);generalize bb.setCell ⟨w,0,none⟩ _=cF at O am U ac ⊢;obtain⟨b1,b2,b8,ch⟩:=fS O am U ac;clear O am U ac a2 f0 Q bo;go_upto_region 4 with(fail)
 have Q:=di b1.o 0 rfl;have bp:(cF.drew).cell? ⟨w,0,none⟩=some (.slice R B T):=Q;refine bk (S:=fun V=>af V w 0 (.slice R B T)) 3 RU bp (fun hHeld=>?_);refine ay 0 ?_;refine ay 1 ?_;refine bu 2 fun K hK=>?_
 go_simp
 (with_reducible refine(rB g _).mono ?_)
 rintro e bv ⟨b5,cK,rfl,ba,a1,E⟩;obtain⟨a6,cb⟩:=bL ((aF cF).trans E) a1;clear E a1 ba;go_simp;refine hK.out _ _ (fun _=>ag a6 Q) (fun hHeld=>?_);clear hK K;try simp only[Act.put,zA]
 have hHeld:=hHeld RC;refine bu 3 fun K hK=>?_
 go_simp
 (with_reducible refine(zdh B R b5 T cK g bv (ch.o.ext a6.o).now cb.o.now c4.o (by have:=FZ.o;have:=bz.o;omega)).mono ?_)
 rintro e bd ⟨I,J,rfl,ab,Z,E⟩;obtain⟨D,H⟩:=aK (B++[me 1 (g:Int)]++[me 16 0]);rw[<-H]at Z ab ⊢;obtain⟨ce,cz,a9⟩:=dD (show D.length<=B+2 by rw[H];simp;try omega) (show ll p D (f+i+g,f+o+g) by rw[H];exact cu.par (ll.id p (n:=g) Tb) Tb Tb) (bQ a6 E);have ad:=aA b1 a9;obtain⟨a2,f0,-⟩:=dW (.slice I D J) ad;obtain⟨co,b7,cc,K9⟩:=fS ad Z ab (show(w:Nat)+1<bv by have:=a6.size;have:=(aP.1 b2).1;omega);clear Z ab E H ad;go_simp;refine hK.out _ _ (fun h=>absurd h RC) (fun hHeld=>?_);clear hK K;try simp only[Act.put,zA]
 refine bu 4 fun K hK=>?_
 go_simp;refine hK.out _ _ (fun h=>absurd h RC) (fun hHeld=>?_);clear hK K;try simp only[Act.put,zA]
 refine dS RU ?_ _;have O:=bw bd w 0 _ _ (.slice I D J) co;simp only[nm,jK]at O;have am:=(bx bd ⟨w,0,none⟩ (.slice I D J) ((w:Nat)+1) (by show(w:Nat)+1≠w.heap.size;omega)).trans (aA b2 a9);have U:=(bQ b8 a9).setCell (p:=⟨w,0,none⟩) (ah _) (.slice I D J);have ac:=(At.setCell b7 (a:=⟨w,0,none⟩) VT (.slice I D J)).mono (lo':=(w:Nat)+2) (by have:=K9.o;omega);generalize bd.setCell ⟨w,0,none⟩ _=db at O am U ac ⊢;obtain⟨cr,ct,b9,ci⟩:=fS O am U ac;clear O am U ac a2 f0 Q bp;have Q:=di cr.o 0 rfl;obtain⟨a2,f0,cR⟩:=dW (.slice I D J) ct;go_wp2;refine az (v:=.agg (bJ I D J)) Vn rfl ?_;have bi:=b0.o;have F:=b9.setCell (p:=⟨(w:Nat)+1,0,none⟩) (by show(w:Nat)<=w+1;omega) (.slice I D J);exact⟨D,I,J,rfl,cc,by have:=ce.o;have:=bz.o;omega,cz,(At.setCell ci (a:=⟨(w:Nat)+1,0,none⟩) (by show(w:Nat)+1<w+2;omega) _).mono Ry,F⟩
section
variable{M:aC}
def zfa(B:cP p=true)(s:gZ p N n M):gZ p (N-(gp p n M (yr N)).1) N ((gp p n M (yr N)).2.2.drop (gp p n M (yr N)).1)/\(gp p n M (yr N)).1<=N:=by have z:=(et B).1;obtain⟨c,l,e,D,_,_⟩:=qk (n2:=N) B z s (De z);exact⟨e.s2.drop D,D⟩
def zbb(p:Int)(M:aC)(A:aq)(cap N n:Nat)(w:aa)(a0:cP p=true)(b7:aL w A M)(s:gZ p N n M)(B:N<=1048576)(hn:n<=1048576):ax 109 #[p,.slice A N cap,n] w (yv (zbL p n M) w):=by
 obtain⟨a3,ce⟩:=zfa a0 s;have a1:zbL p n M=jM p N ((gp p n M (yr N)).2.2.drop (gp p n M (yr N)).1):=by unfold zbL zd7;rw[s.1]
 obtain⟨z,am⟩:=aK (gp p n M (yr N));rw[<-am]at a3 ce a1;obtain⟨b2,I,Z,bv⟩:=fS am a1 a3 (show ∀r∈M,r.length<=1048576 from fun r hr=>Ue);have b6:=s.1;subst b6;obtain⟨bz,H⟩:=bL s a0;clear am a1 a3 s a0;have p2:=(et H.o).1;go_enter func109,ntmps109
 go_wp2_with fail
 refine(uT _ _ M _ b7 B bv).mono ?_;rintro e bi ⟨u,rfl,a2,ao⟩;obtain⟨A1,c1,rfl,_,cj,cn⟩:=a2.view;obtain⟨b0,bp⟩:=bL a2 ao;have bd:=ao.size;clear a2 ao;go_wp2_with fail
 refine(xd M _ B).mono ?_;rintro e bm ⟨u2,rfl,O,ap⟩;obtain⟨A2,c2,rfl,_,b8,co⟩:=O.view;rw[CQ]at O b8 ⊢;obtain⟨b1,a4⟩:=bL O ap;have cc:=ap.size;clear O ap;go_wp2_with fail
 refine(tG p w bi bi bm M n M c1 c2 A1 A2 M (yr M) bm H.o ((Has.of b0).ext a4) (Has.of b1) bz (De p2) (ah _) bd cc (ah _) B hn B).mono ?_;rintro e D ⟨rfl,_,ac,be⟩;rw[<-b2.o]at ac ⊢;obtain⟨HW,a5⟩:=bL (show aj w D from(bp.trans (a4.mono bd)).trans (be.below (ah _) Ry)) ac.own;have b9:=xl a5;have a9:(z.2.2.drop z.1).length=M-z.1:=Z.1;have cb:((M:Int)-(z.1:Int))=((M.length-z.1:Nat):Int):=Ry;clear ac be;rcases b9 with⟨rfl,b5,rfl,ba⟩|⟨g,rfl,ca,_,_⟩
 .obtain⟨b3,T⟩:=bL (Ry:z.1=0) (show aL D none (z.2.2.drop z.1) from aG (by rw[ba];simp));rw[b3.o];clear a9 cb ba;have J:=rD p (z.2.2.drop z.1) none 0 (M.length-z.1) M D H.o T Z Ry B;obtain⟨b4,ad⟩:=aK (jM p M (z.2.2.drop z.1));have a6:=zH ad;rw[<-ad]at J;rw[show M.length-z.1=0 by omega,b5]at J;have br:=zH (show ax 82 #[p,fA,()] D (yv b4 D) from J);clear J ad;go_wp2_with fail
  refine br.mono ?_;rintro e ch ⟨Q,ab,rfl,F,E⟩;obtain⟨U,R⟩:=bL F E;clear F E;go_wp2;go_ret
  exact⟨Q,ab,by rw[I.o,<-a6.o];rfl,by rw[I.o,<-a6.o];exact U.o.mono HW.size,HW.trans (R.o.mono Ua)⟩
 .obtain⟨_,_,a7,bb,_⟩:=a5.view;simp only[ez]at a7;obtain⟨rfl,-,rfl⟩:=a7;obtain⟨Q,ci,a8⟩:=zdY bb (Ry:z.2.2.length<=c2) z.1;have T:=zH a8;clear bb a8 ca a9;go_wp2_with fail
  with_reducible refine(rD p (z.2.2.drop z.1) (some Q) (c2-z.1) (M.length-z.1) M D H.o T.o Z.o Ry B).mono ?_
  rintro e ch ⟨bo,ab,rfl,F,E⟩;obtain⟨U,R⟩:=bL F E;clear F E;go_wp2;go_ret
  exact⟨bo,ab,by rw[I.o];rfl,by rw[I.o];exact U.o.mono HW.size,HW.trans (R.o.mono Ua)⟩
def q_(p:Int)(M:aC)(A:aq)(cap N n:Nat)(w:aa)(F:cP p=true)(a2:aL w A M)(s:gZ p N n M)(D:N<=1048576)(H:n<=1048576):ax 81 #[p,.slice A N cap,n] w (yv (jE p M n) w):=by
 have I:jE p M n=zbL p N (B5 M n):=by unfold jE;rw[s.1]
 have B:=zH I;have R:=Dd s;have ap:=zH R;have a1:=s.1;subst a1;obtain⟨ao,ac⟩:=bL (show ∀r∈M,n<=r.length from fun r a3=>by rw[s.row r a3];exact ah _) F;clear I R s F;go_enter func81,ntmps81
 go_wp2_with fail
 refine(AS M _ _ n _ a2 D H ao).mono ?_;rintro e a4 ⟨u,rfl,T,z⟩;obtain⟨A1,c1,rfl,J,_⟩:=T.view;rw[yO]at ⊢;obtain⟨ad,Z⟩:=bL J z;have Q:=z.size;clear T z J;go_wp2_with fail
 with_reducible refine(zbb p (B5 M n) A1 c1 n M a4 ac.o ad.o ap.o H D).mono ?_
 rintro e a5 ⟨U,a0,rfl,O,E⟩;obtain⟨am,ab⟩:=bL O E;clear O E;go_wp2;go_ret
 exact⟨U,a0,by rw[B.o];rfl,by rw[B.o];exact am.mono Q,Z.trans (ab.mono Q)⟩
end
def DU(h:s.Ok p):∃r,r<=s.n/\gZ p r s.v.toNat (uq p s):=by obtain⟨N,D,z,_⟩:=yJ h;obtain⟨r,_,E,B,_⟩:=j7 (Sys.f h) (Sys.p2 h) z;exact⟨r,Ry,B⟩
def ze_{i:Int}(h:i∈iota n):0<=i/\i<n:=by obtain⟨k,z,rfl⟩:=cd.1 h;rw[dQ]at z;omega
def zt(p:Int)(s:Sy)(A:aq)(cap:Nat)(w:aa)(be:aL w A s.rows)(D:s.Ok p):ax 40 (jG (ae s.v s.h A s.rows cap) p) w (yv (uq p s) w):=by
 have ct:=Sys.v0 D;have c5:=Sys.v24 D;have cn:=Sys.h0 D;have cR:=Sys.h100 D;have Q:=Sys.f D;obtain⟨a4,c7,c4,B,_,_⟩:=qi Q (Sys.p2 D) (Sy.shp D);have hrel:uq p s=jM p s.v.toNat (jB (jE p s.rows s.n) (iota s.v.toNat)):=by unfold uq;rw[vU B SW]
 have R:gZ p a4 s.v.toNat (jB (jE p s.rows s.n) (iota s.v.toNat)):=by rw[vU B SW];exact rm B SW
 have c0:s.n<=124:=SW;have br:((s.n:Nat):Int)=s.v+s.h:=SW;have a3:((s.v.toNat:Nat):Int)=s.v:=Ry;obtain⟨E,Z⟩:=aK (jE p s.rows s.n);rw[<-Z]at B hrel R;obtain⟨cK,cI,cF,b7⟩:=fS hrel R B B.1;have b8:=zH (fun(z:aa) (ab:aL z A s.rows)=>(by
  have:=q_ p s.rows A cap s.rows s.n z Q ab (Sy.shp D) (by have:=Sys.n D;omega) Ry;rw[br,<-Z]at this;exact this:ax 81 (wB p A s.rows cap (s.v+s.h)) z (yv E z)))
 have bd:=zH be;have ci:=zH (fun(z:aa)=>(by
  have:=zfp s.v.toNat z Ry;rw[a3]at this;exact this:ax 84 #[s.v] z fun e w'=>∃u,e=.returned u/\au w' z u (iota s.v.toNat)/\aj z w'))
 have b9:=zH (xW E (iota s.v.toNat));have ce:=zH (fun(z:aa) (A1:aq) (c1:Nat) (ab:aL z A1 (jB E (iota s.v.toNat)))=>(by
  have:=rD p (jB E (iota s.v.toNat)) A1 c1 a4 s.v.toNat z Q ab R Ry Ry;rw[a3,<-hrel]at this;exact this:ax 82 (wB p A1 a4 c1 s.v) z (yv (uq p s) z)))
 obtain⟨b5,b6⟩:=bL (show ∀r∈E,∀i∈iota s.v.toNat,0<=i/\i<r.length from fun r a2 i hi=>by have:=ze_ hi;have:=B.row r a2;have:s.v.toNat<=s.n:=SW;omega) (show ∀r∈E,r.length<=1048576 from fun r a2=>by have:=B.row r a2;omega);have co:=B.1;clear br a3 Z hrel R B Q be D;have cr:E.length<=1048576:=Ry;clear co;obtain⟨v,h,rows⟩:=s;dsimp only at *;have c6:IntKind.i64.wrap (v+h)=v+h:=Sq;have a8:=zH ((ai w w).alloc (ah _) (.cells (ae v h A rows cap) 26));go_enter func40,ntmps40
 go_upto_region 1 with(fail)
 have a1:(w.alloc (.cells (ae v h A rows cap) 26)).heap[w.heap.size]?=some (.cells (ae v h A rows cap) 26 (0,0)):=aD _ _ rfl;obtain⟨T,ad⟩:=aK (w.alloc (.cells (ae v h A rows cap) 26));rw[<-ad]at a1 ⊢;have U:aj w T:=by rw[ad];exact a8
 clear ad a8;obtain⟨O,ch⟩:=bL U (bd.ext U);obtain⟨a5,a6,a7⟩:=al a1;clear a1 U bd;go_region_held3 (fun w'=>af w' w 0 (zI v)/\af w' w 1 (zI h)/\af w' w 2 (.slice A rows cap))
  (first|exact ac|exact F|exact⟨a5,a6,a7⟩)
  ((first|(go_at_call 66;refine(pC v h _ _ ct Ry cn Ry).mono ?_;rintro e cu ⟨rfl,I⟩;have F:=aY (ag I a5) (aY (ag I a6) (ag I a7));have bb:=zH ((ai T T).drew.trans I);clear I)|(go_at_call 81;refine(b8.o _ (ch.ext bb)).mono ?_;rintro e b0 ⟨A2,c2,rfl,bm,H⟩;have ac:=aY (ag H F.1) (aY (ag H F.2.1) (ag H F.2.2));have ca:=zH bm;have J:=zH (bQ bb H);clear bm H F)))
 have b1:=ac.1;clear ac a5 a6 a7;go_wp2_with fail
 go_region_held3 (fun w'=>af w' w 0 (zI v))
  (first|exact t3|exact t2|exact t1|exact b1)
  ((first|(go_at_call 84;refine(ci.o _).mono ?_;rintro e cu ⟨u3,rfl,bv,am⟩;have t1:=ag am b1;obtain⟨A3,c3,rfl,bi,_⟩:=bv.view;rw[fE]at ⊢;have b4:=zH bi;have a9:=zH ((ai b0 b0).drew.trans am);clear bv bi am)|(go_at_call 83;have a0:=Bj E A2 c2 (iota v.toNat) A3 c3 _ (ca.at.ext a9) b4 cr b6 Sp b5;rw[fE]at a0;refine a0.mono ?_;clear a0;rintro e c8 ⟨u4,rfl,bz,ao⟩;have t2:=ag ao t1;obtain⟨cz,cO,rfl,bo,_⟩:=bz.view;rw[b9.o,b7.o]at ⊢;have cb:=zH bo;have ba:=zH (bQ a9 ao);clear bz bo ao)|(go_at_call 82;refine(ce.o _ _ _ cb.o).mono ?_;rintro e c9 ⟨b2,cj,rfl,bp,ap⟩;have t3:=ag ap t2;have cc:=zH bp;have b3:=zH (bQ ba ap);clear bp ap)))
 all_goals go_wp2
 all_goals go_ret
 all_goals exact⟨b2,cj,rfl,cc.mono ((bQ O J.o).trans (ba.mono (bQ O J.o).size)).size,(bQ O J.o).trans (b3.mono (bQ O J.o).size)⟩
end Go.Proofs.YtdpgblncijojiaaGreatDoor
