/- Parts of the walks. Conditions: as stated with each. -/
import Derived.Test.YtdpgblncijojiaaGreatDoorPk16
import Derived.Test.YtdpgblncijojiaaGreatDoorPk27
namespace Go.Proofs.YtdpgblncijojiaaGreatDoor
open Go.RowKit Tryz
set_option linter.all false
set_option maxHeartbeats 2000000
set_option maxRecDepth 100000
variable{A:aq}{Q:iF}{R:ir}{a:Act}{b:Nat}{o:ie}{rest:List Oper}{w:aa}
def zb8(L:List jR)(A:aq)(cap:Nat)(w:aa)(am:de 3 nH w A L)(be:L.length<=1048576):ax 174 (cB (bJ A L cap)) w (zhq L w):=by
 have R:=((ai w w).alloc (ah _) (.cells (bJ A L cap) 176)).alloc Rx (.cells oT 202);have U:=(bZ (w.alloc (.cells (bJ A L cap) 176)) (.cells oT 202) (k:=w.heap.size) Rx).trans (aD w _ rfl);have B:=aD (w.alloc (.cells (bJ A L cap) 176)) (.cells oT 202) (n:=(w:Nat)+1) Rx;have a0:=zH (fun V (bb:aj w V)=>zbN L A cap V (dB am bb) be);clear am;go_enter func174,ntmps174
 go_upto_region 1 with(fail)
 generalize (w.alloc _).alloc _=W at R U B ⊢;have bv:=di U 0 rfl;obtain⟨E,a2,a3⟩:=dD R B (show(w:Nat)+1<W from(aP.1 B).1);clear R U B;go_wp2_with ((go_at_call 185;(with_reducible refine(a0.o _ E.o).mono ?_);intro e br h;unfold zhq at h;obtain⟨D,Z,I,F,ab,J,H,ac,O,a5,T,ao⟩:=h;subst a5;have z:=aA a2 T;obtain⟨bm,bo,bp⟩:=al z;have f0:=aS z 0;have f1:=aS z 1;have f2:=aS z 2;have y:=gh (v0:=.slice D Z I) (v1:=.slice F ab J) (v2:=.slice H ac O) z;obtain⟨u0,u1,u2⟩:=al y;have a1:=zH ao;have ap:=zH (bQ E.o T);clear T z y ao))
 refine az (v:=.tuple #[.agg #[.slice D Z I,.slice F ab J,.slice H ac O],.bool (pL (dR L))]) (by simp[results,results174,go_sem, *]) rfl ⟨D,Z,I,F,ab,J,H,ac,O,rfl,((ap.setCell (p:=⟨(w:Nat)+1,0,none⟩) (by show(w:Nat)<=w+1;omega) _).setCell (p:=⟨(w:Nat)+1,1,none⟩) (by show(w:Nat)<=w+1;omega) _).setCell (p:=⟨(w:Nat)+1,2,none⟩) (by show(w:Nat)<=w+1;omega) _,fun h=>?_⟩;obtain⟨s,a4,a6,a7,a8,a9,ad,Q⟩:=a1 h;refine⟨s,a4,a6,a7,a8,a9,fun a e=>bE E.o.size (ad a e),?_⟩;rcases Q with Q|⟨b,o,e,bd⟩
 .exact aG Q
 .subst e;refine Cj (aB ⟨b,o,rfl,bd⟩) fun e=>?_
  have ba:=ad _ rfl;have bi:=a3.o;cases e
  dsimp only at ba;omega
def Dh:RT prog 174 192 3 (.agg #[(),(),.string (ByteArray.mk #[])]) 32:=⟨underlying174,RU,RC,RC,RC⟩
def ndC(x:jR):List Value:=[.int .i64 x.k,.int .i64 x.v,.string x.s]
def zat{o:Nat}:∀{xs:List jR},(∀(k:Nat) (x:jR),xs[k]?=some x->∃c,(∀(j:Nat) (y:av),c[j]?=some y->af w b (o+k*3+j) y)/\nH w x c)->∀(j:Nat) (u:av),(xs.map ndC).flatten[j]?=some u->af w b (o+j) u:=by
 intro xs h j u E;have D:∀c∈xs.map ndC,c.length=3:=fun c hc=>UY
 have I:j < (xs.map ndC).flatten.length:=(bs.1 E).1;rw[mK D,bl]at I;obtain⟨x,F⟩:=aw (Ry:j / 3<xs.length);have B:=r_ (j:=j%3) D (by rw[bR,F];rfl:(xs.map ndC)[j / 3]?=some (ndC x)) (Nat.mod_lt _ RC);rw[show j / 3*3+j%3=j by omega,E]at B;obtain⟨c,H,z⟩:=h _ x F;unfold nH at z;subst z;have:=H (j%3) u B.symm;rwa[show o+j / 3*3+j%3=o+j by omega]at this
def qQ(H:o.guard=none)(B x:kE)(J:o.op=.call {callee:=.builtin .append,args:=#[B,x],argTypes:=#[174,174]})(z:Nat)(W:aa)(v:av)(A:aq)(cap:Nat)(ys:List jR)(hW:bP 192 3 nH W z v [])(E:de 3 nH W A ys)(D:0<ys.length)(IP:z<=(W:Nat))(ac:ys.length<=1048576)(O:a.eval B=v)(hx:a.eval x=.slice A ys cap)(h:∀v' w',bP 192 3 nH w' z v' ys->Below z W w'->wpList prog Q R rest (a.put o.dst v') w'):wpList prog Q R (o::rest) a W:=by
 obtain⟨ab,hi,T,U,Z⟩:=cM Dh.info;obtain⟨cs,hW⟩:=hW;obtain⟨b,of,rfl,hc⟩:=E.here D;have F:∀c∈ys.map ndC,c.length=3:=fun c hc=>UY
 have IQ:∀(k:Nat) (x:jR) (c:bN),ys[k]?=some x->(ys.map ndC)[k]?=some c->c.length=3/\(∀u∈c,u.oneCell'=true)/\j2 nH W z v x c:=fun k x c hx hc=>YQ
 refine ze W H B x 174 J z 192 ab _ 3 32 Dh.und hi T U Z Dh.zs Dh.pos v _ _ O hW.outer ⟨b,of,none⟩ ys cap (ys.map ndC).flatten hx (by rw[mK F,bl]) (fun j u I=>by rw[dy];exact zat hc j u I) ?_ ?_ ?_ IP ?_
 .exact YY
 .unfold maxLen;simp;omega
 .simp;omega
 .exact Zo
def B9(L:List jR)(A:aq)(cap:Nat)(w:aa)(ab:de 3 nH w A L)(a5:0<L.length)(a6:L.length<=1048576):ax 175 (bJ A L cap) w fun e w'=>∃z B,e=.returned (.agg (bJ z L B))/\L.length<=B/\Fr w' w w' (fun V=>de 3 nH V z L)/\aj w w':=by
 obtain⟨E,H⟩:=dC w (.cells fg 176);have O:=dB ab E;go_enter func175,ntmps175
 go_upto_region 1 with(fail)
 generalize w.alloc _=W at E H O ⊢;have Z:=zH (show(w:Nat)<W from(aP.1 H).1);have F:=aE W (.cells #[] 192);obtain⟨a0,ap⟩:=bL (bP.lit 192 3 nH W W (ah _)) (dB O F);have a3:=zH (aE W (.cells #[] 192)).size;have ad:=aA H F;obtain⟨J,T,a1⟩:=dD E F ad;clear ab O E H F ad;go_wp2_with ((at_builtin;refine qQ rfl _ _ rfl W _ _ A cap L a0.o ap.o a5 a3.o a6 rfl rfl ?_;intro v' am Q D;obtain⟨z,B,rfl,-,ac,-⟩:=Q.view;have R:=a1.o;have I:=(D.block w Z).trans R;have bb:=di I 0 rfl;have f0:=aS I 0;have ba:=di (bw _ _ 0 _ _ (.slice z L B) I) 0 rfl;have a2:=zH (Q.same (w':=am.setCell ⟨w,0,none⟩ (.slice z L B)) (fun k a8 a9=>bx _ _ _ _ (by show k≠w.heap.size;have:=Z.o;omega)) Rx);have ao:=zH ac;have a4:=zH (show(W:Nat)<=(am.setCell ⟨w,0,none⟩ (.slice z L B)) by have:=T.size;have:=D.size;simp;omega);have U:=zH (((bQ J.o T).trans (D.mono J.o.size)).setCell (p:=⟨w,0,none⟩) (ah _) (.slice z L B));clear Q D R I ac))
 refine az (v:=.agg (bJ z L B)) (by simp[results,results175,go_sem, *]) rfl ?_;have R:=U.o.size;have a7:=a4.o;exact⟨z,B,rfl,ao,(a2.fr (fun _ _ _ _ _ h=>h) a7).mono J.o.size (ah _),U.o⟩
def B_(L:List jR)(x:jR)(A:aq)(cap:Nat)(w:aa)(F:de 3 nH w A L)(D:L[L.length-1]?=some x)(O:L.length<=1048576):ax 162 (cB (bJ A L cap)) w fun e w'=>e=.returned (zI x.k)/\aj w w':=by
 have J:L.length-1<L:=(bs.1 D).1;obtain⟨z,B⟩:=dC w (.cells (bJ A L cap) 176);obtain⟨b,o,e,E,-,-⟩:=jS (dB F z) D;obtain⟨m,H⟩:=aK (L.length-1);rw[<-H]at E J;have Q:IntKind.i64.wrap ((L:Int)-1)=(m:Int):=Sq;clear F D H;generalize L.length=n at *;subst e;go_enter func162,ntmps162
 go_upto_region 1 with(fail)
 generalize w.alloc _=W at z B E ⊢;have R:=di B 0 rfl;have I:=zH z;clear z B;go_wp2;go_ret
 exact⟨rfl,I⟩
def Ap(n:Nd)(L:List Nd)(s:q8):lv (n::L) s=match kI s n with|some z=>lv L z|none=>none:=rfl
def Ca:∀(X Y:List Nd) (s:q8),lv (X++Y) s=match lv X s with|some z=>lv Y z|none=>none
 |[],Y,s=>rfl
 |n::X,Y,s=>by
  rw[y_,Ap,Ap];cases kI s n with
  |none=>rfl
  |some B=>exact Ca X Y B
def zea{s z:q8}{n:Nd}(h:kI s n=some z):∃a b c,z=s.add a b c:=by
 unfold kI at h;split at h
 .cases h;exact⟨_,_,_,rfl⟩
 .split at h
  .split at h
   .cases h;exact⟨_,_,_,rfl⟩
   .cases h
  .cases h
def zfU{k:Int}{a b:Tm}{c:gY}{s:q8}(I:(Tm.op k a b).ty=some c)(h:lv (Tm.op k a b).flat ⟨[],[],[]⟩=some s):s.f.length=a.flat+b.flat+1/\s.f.getD (a.flat.length+b.flat-1) 0=a.flat.length:=by
 obtain⟨x,y,O,Q,-⟩:=Tm.BW I;have J:(Tm.op k a b).flat=(a.flat++b.flat)++[⟨k,0,true⟩]:=rfl;rw[J,Ca]at h;have F:jc (a.flat++b.flat) []=some [b,a]:=by rw[sE,pG [] O];exact pG [a] Q
 rcases zy (a.flat++b.flat) (s:=⟨[],[],[]⟩) (S:=[]) ⟨rfl,rfl,rfl⟩with⟨z,R,E,B,h'⟩|⟨E,B⟩
 .rw[F]at B;cases B
  rw[E]at h;dsimp only at h;unfold lv at h;cases D:kI z ⟨k,0,true⟩with
  |none=>rw[D]at h;cases h
  |some a5=>
   rw[D]at h;dsimp only at h;unfold lv at h;cases h
   obtain⟨u,v,a6,rfl⟩:=zea D;obtain⟨d,ap,a0,a1,a2,a3,a4,T,U,Z,ab,ac,ad,am,H⟩:=h'.ch;have ao:z.f.getD (z.f.getD (z.f.length-1) 0-1) 0=0:=H;refine⟨by show(z.f++[u]).length=_;rw[bS,yY];omega,?_⟩
   show(z.f++[u]).getD _ 0=_
   rw[va Ry,show a.flat.length+b.flat-1=z.f-1 by omega];omega
 .rw[F]at B;cases B
def BK{B:Type}{s:Nat}{z:World->B->List Value->Prop}{xs:List B}(h:de s z w A xs)(n:Nat):de s z w A (xs.take n):=by
 rcases h with h|⟨b,o,e,D⟩
 .exact WC
 .exact aB ⟨b,o,e,fun k x E=>D k x (yi E)⟩
def zdK{D:Type}{s:Nat}{z:World->D->List Value->Prop}{o:Nat}{xs:List D}(h:de s z w (some ⟨b,o,none⟩) xs)(n:Nat):de s z w (some ⟨b,o+n*s,none⟩) (xs.drop n):=by
 rcases h with h|⟨J,O,e,H⟩
 .exact WC
 .cases e
  refine aB ⟨b,o+n*s,rfl,fun k x B=>?_⟩;rw[fI]at B;obtain⟨c,E,F⟩:=H _ x B;refine⟨c,fun j y I=>?_,F⟩;have:=E j y I;rwa[Nat.add_mul,<-qD]at this
def zjz(L:List jR)(m n:Nat)(w:aa)(e:Ending)(w':aa):Prop:=∃A1 c1 A2 c2,e=.returned (.tuple (jI (ey A1 m c1) (ey A2 n c2)))/\m<=c1/\n<=c2/\de 3 nH w' A1 (L.take m)/\de 3 nH w' A2 ((L.drop m).take n)/\aj w w'
def El(k:Int)(a b:Tm)(c:gY)(L:List jR)(A:aq)(cap:Nat)(w:aa)(R:de 3 nH w A L)(hL:dR L=(Tm.op k a b).flat)(bb:(Tm.op k a b).ty=some c)(ce:L.length<=400)(U:L.length<=cap):ax 164 (cB (bJ A L cap)) w (zjz L a.flat b.flat w):=by
 have E:L.length=a.flat+b.flat+1:=XJ;have b5:pL (dR L)=true:=(zaI (by rw[hL];exact Tm.pz _) (by rw[show(dR L).length=L by simp[dR]];exact ce)).2 ⟨_,hL,_,bb⟩;have a2:=fun s (h:lv (dR L) ⟨[],[],[]⟩=some s)=>(zfU bb (by rw[<-hL];exact h)).2
 have Z:=a.pz;have ab:=b.pz;obtain⟨F,H,rfl,-⟩:=R.here (Ry:0<L.length);obtain⟨bz,a9,Q⟩:=dD (fun V (T:aj w V)=>zb8 L (some ⟨F,H,none⟩) cap V (dB R T) Ry) (fun V (T:aj w V)=>B9 (L.take a.flat) (some ⟨F,H,none⟩) cap V (BK (dB R T) _) Sd Sd) (fun V (T:aj w V)=>B9 ((L.drop a.flat).take b.flat) (some ⟨F,H+a.flat.length*3,none⟩) (cap-a.flat.length) V (BK (zdK (dB R T) _) _) SU SU);rw[show(L.take a.flat).length=a.flat by rw[dX];omega]at a9;rw[show((L.drop a.flat).take b.flat).length=b.flat by rw[dX,mh];omega]at Q;have a1:=below_alloc3 w (.cells (bJ (some ⟨F,H,none⟩) L cap) 176) (.cells fg 176) (.cells fg 176);obtain⟨ad,a7,a8⟩:=cv w (.cells (bJ (some ⟨F,H,none⟩) L cap) 176) (.cells fg 176) (.cells fg 176);obtain⟨ac,cj⟩:=aK a.flat.length;obtain⟨bo,cn⟩:=aK b.flat.length;obtain⟨l,be⟩:=aK L.length;rw[<-cj]at E a2 Z a9 Q ⊢;rw[<-cn]at E a2 ab Q ⊢;rw[<-be]at E ce U bz a1 ad a7 a8 ⊢;obtain⟨d0,b0,br⟩:=dD a2 b5 be;obtain⟨z,ek⟩:=aK (l-1);have bi:bo=z-ac:=Ry;have a5:l=z+1:=Ry;have fn:z<=cap:=Ry;have es:ac<=z:=Ry;have eo:ac<=cap:=Ry;rw[bi]at Q ⊢;obtain⟨db,dc,fa,d2,d1,da⟩:=lq E a5 bi ab Z U;clear hL bb a2 b5 R cj cn be E ek a5 bi ab Z U;go_enter func164,ntmps164
 go_upto_region 1 with(fail)
 generalize (((w.alloc _).alloc _).alloc _)=W at a1 ad a7 a8 ⊢;have D:=di ad 0 rfl;obtain⟨bp,c0,c4,c5⟩:=fS a1 ad a7 a8;clear a1 ad a7 a8;go_upto_region 2 with(go_at_call 174;(with_reducible refine(bz.o _ bp.o).mono ?_);intro e cO h;unfold zhq at h;obtain⟨cR,e2,ee,ea,e3,eg,eb,e4,ei,b2,b6,co⟩:=h;rw[b0.o]at b2;subst b2;have dT:=zH (co b0);have c6:=zH b6;clear b6 co)
 obtain⟨a3,a6⟩:=dC cO (.cells #[.slice cR e2 ee,.slice ea e3 eg,.slice eb e4 ei] 202);generalize cO.alloc _=e7 at a3 a6 ⊢;obtain⟨s,fb,cu,-,cz,ci,-,b3⟩:=dT.o;have cc:=d0.o s cu;have b4:=b3.ext a3;rw[ci,<-br.o]at a6;have ev:s.f.length=l:=cz.trans br.symm;have E:=db.o;have Z:=d1.o;have ab:=d2.o;have U:=da.o;have a5:=dc.o;obtain⟨v,bm⟩:=aw (Ry:ac+bo-1<s.f.length);have eA:v=ac:=by rw[<-cc,bg,bm];rfl
 subst eA;obtain⟨fd,fl,rfl,ca⟩:=b4.here (Sl:0 < (bC s.f).length);have cb:=ca _ _ (fk bm);obtain⟨m,ch⟩:=aK (v+bo-1);rw[<-ch]at cb;have O:=zH (bQ c6 a3);have ap:=zH (bQ bp O);have D:=di (aA c0 O) 0 rfl;obtain⟨e8,e9,z2⟩:=al a6;obtain⟨ao,J⟩:=bL (aA c4 O) (aA c5 O);have fo:¬(cap=v):=Ry;have en:m<l:=Ry;have e0:IntKind.i64.wrap ((l:Int)-1)=(z:Nat):=Sq;have e1:IntKind.i64.wrap ((z:Int)-1)=(m:Int):=Sq;obtain⟨bv,dl⟩:=bL (Ry:w.heap.size≠(w:Nat)+1) (Ry:w.heap.size≠(w:Nat)+1+1);clear a3 a6 cc b3 b4 cz ci bm ca cu E ch ev Z ab U a5;go_upto_region 4 with(fail)
 clear e8 e9 z2 e0 e1 cb en;obtain⟨am,cF⟩:=aK e7;rw[<-cF]at O ap ao J D ⊢;clear cF;go_region_held3 (fun V=>af V w 0 (.slice (some ⟨F,H,none⟩) l cap))
  (first|with_reducible exact D|with_reducible exact ag (aF _) D|with_reducible exact ag a0.o D|with_reducible exact ag B.o D|with_reducible exact(cD bv.o).trans (ag B.o D)|with_reducible exact(cD dl.o).trans ((cD bv.o).trans (ag B.o D)))
  ((first|(go_at_call 175;(with_reducible refine(a9.o _ (ap.o.trans ((aF am).mono ap.o.size))).mono ?_);rintro e fs ⟨A1,c1,rfl,b8,cr,b7⟩;have a0:=zH ((aF am).trans (b7.mono (aF am).size));have b1:=zH (bQ ap a0);have c8:=zH b8;have d3:=zH cr;clear b8 cr b7)|(go_at_call 175;(with_reducible refine(Q.o _ b1.o).mono ?_);rintro e I ⟨A2,c2,rfl,b9,ct,a4⟩;have B:=zH (bQ a0 a4);have d9:=zH (bQ b1 a4);have c9:=zH b9;have d5:=zH ct;have d7:=zH (d3.ext a4 (ah _));have d8:=zH (a0.size);have e5:=di (aA ao B) 0 rfl;have f0:=aS (aA ao B) 0;have e6:=di (aA J.o B) 0 rfl;have f1:=aS (aA J.o B) 0;clear b9 ct a4)))
 have cI:=aA ao B;have cK:=aA J.o B;have fz:=(cD (w:=I.setCell ⟨(w:Nat)+1,0,none⟩ (.slice A1 v c1)) (p:=⟨(w:Nat)+1,0,none⟩) (a:=⟨(w:Nat)+1+1,0,none⟩) (u:=.slice A2 (z-v) c2) (by show(w:Nat)+1≠(w:Nat)+1+1;omega)).trans (di (bw _ _ 0 _ _ (.slice A1 v c1) cI) 0 rfl);have f2:=di (bw _ _ 0 _ _ (.slice A2 (z-v) c2) ((bx I ⟨(w:Nat)+1,0,none⟩ (.slice A1 v c1) ((w:Nat)+1+1) (by show(w:Nat)+1+1≠(w:Nat)+1;omega)).trans cK)) 0 rfl;have em:(w:Nat)+1+1<am:=(aP.1 J.o).1;have bd:∀k,(am:Nat)<=k->((I.setCell ⟨(w:Nat)+1,0,none⟩ (.slice A1 v c1)).setCell ⟨(w:Nat)+1+1,0,none⟩ (.slice A2 (z-v) c2)).heap[k]?=I.heap[k]?:=fun k h=>(bx _ _ _ _ (by show k≠(w:Nat)+1+1;omega)).trans (bx _ _ _ _ (by show k≠(w:Nat)+1;omega))
 have d4:=zH (d7.same (w':=(I.setCell ⟨(w:Nat)+1,0,none⟩ (.slice A1 v c1)).setCell ⟨(w:Nat)+1+1,0,none⟩ (.slice A2 (z-v) c2)) fun k ba ej=>bd k ba).now;have d6:=zH (d5.same (w':=(I.setCell ⟨(w:Nat)+1,0,none⟩ (.slice A1 v c1)).setCell ⟨(w:Nat)+1+1,0,none⟩ (.slice A2 (z-v) c2)) fun k ba ej=>bd k (bE d8 ba)).now;have c7:=zH ((d9.setCell (p:=⟨(w:Nat)+1,0,none⟩) (by show(w:Nat)<=w+1;omega) (.slice A1 v c1)).setCell (p:=⟨(w:Nat)+1+1,0,none⟩) (by show(w:Nat)<=w+1+1;omega) (.slice A2 (z-v) c2));clear cI cK em bd e5 e6 f0 f1 D es eo;go_wp2;exact az (v:=.tuple (jI (ey A1 v c1) (ey A2 (z-v) c2))) (by simp[results,results164,go_sem, *]) rfl ⟨A1,c1,A2,c2,rfl,c8,c9,d4,d6,c7⟩
end Go.Proofs.YtdpgblncijojiaaGreatDoor
