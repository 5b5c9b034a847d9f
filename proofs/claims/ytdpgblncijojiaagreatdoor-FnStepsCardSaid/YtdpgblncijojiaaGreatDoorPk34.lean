/- Parts of the walks. Conditions: as stated with each. -/
import Derived.Test.YtdpgblncijojiaaGreatDoorPk25
import Derived.Test.YtdpgblncijojiaaGreatDoorPk28
import Derived.Test.YtdpgblncijojiaaGreatDoorPk33
namespace Go.Proofs.YtdpgblncijojiaaGreatDoor
open Go.RowKit Tryz
set_option linter.all false
set_option maxHeartbeats 4000000
set_option maxRecDepth 100000
variable{A:an}{B D N b c hi k lo n:Nat}{H u v v' v0 v1 v2 v3:au}{J:iq}{P:iS}{Q:gU}{RN:List Ed}{T t:dG}{W w w':aa}{a:Act}{e:Ending}{o:gI}{p:Int}{rest:List Oper}{row:Option Nat}{us:bG}{xs:aG}{ys:List cS}
section
variable{B0 B0' B:Nat}{V V':aa}{A1 A2 A3:an}{c1 c2 c3:Nat}{g:Gr}
def ar.eh{B:Nat}(h:ar V B v xs)(z:b<B):ar (eh V b v0 v1 v2 v3) B v xs:=(((h.setCell (a:=⟨b,0,none⟩) z _).setCell (a:=⟨b,1,none⟩) z _).setCell (a:=⟨b,2,none⟩) z _).setCell (a:=⟨b,3,none⟩) z _
def tZ.ext(h:tZ B0 B V A1 c1 A2 c2 A3 c3 g)(z:ai V V'):tZ B0 B V' A1 c1 A2 c2 A3 c3 g:=⟨h.b,bc h.s z.size,h.i.ext z,h.o.ext z,h.d2,h.d3,h.es.ext z⟩
def tZ.mono(h:tZ B0 B V A1 c1 A2 c2 A3 c3 g)(z:B0'<=B0):tZ B0' B V A1 c1 A2 c2 A3 c3 g:=⟨bc z h.b,h.s,h.i.mono z,h.o.mono z,h.d2,h.d3,h.es⟩
def tZ.eh(h:tZ B0 B V A1 c1 A2 c2 A3 c3 g)(z:b<B0):tZ B0 B (eh V b v0 v1 v2 v3) A1 c1 A2 c2 A3 c3 g:=⟨h.b,by rw[ey];exact h.s,h.i.eh z,h.o.eh z,h.d2,h.d3,h.es.eh (gZ z h.b)⟩
def tZ.fr(h:tZ B0 B V A1 c1 A2 c2 A3 c3 g):Fr V B0 V (fun W=>nX W A1 A2 A3 g):=zf4 ((h.es.fr (fun _ _ _ _ z h=>h.ext z) h.s).to h.b (ag _)) (h.i.fr (bc h.b h.s)) (h.o.fr (bc h.b h.s))
end
def mP.gr{g:Gr}(h:mP g w e w'):B9 g w e w':=by obtain⟨A1,c1,A2,c2,A3,c3,B,z,D,E⟩:=h;exact⟨A1,c1,A2,c2,A3,c3,z,D.fr,E⟩
def zhQ{g:Gr}(h:rC g)(A1 A2 A3 At:an)(c1 c2 c3 z:Nat)(w:aa)(D:nX w A1 A2 A3 g)(E:aT w At (iota g.w)):aw 161 #[.agg (bI g A1 c1 A2 c2 A3 c3),.slice At g.w z,(g.w:Nat)] w (mP g w):=by have:=rE g g.w (iota g.w) (fun x=>x) A1 A2 A3 At c1 c2 c3 z w D E (zaZ h.inr) (by rw[fG];have:=h.w;omega) Tj Tj (by have:=h.es;omega) (by have:=h.i;omega) (by have:=h.o;omega) (fun e F=>by have:=h.el e F;omega);rw[fG]at this;rw[show g.map g.w (fun x=>x)=g by unfold Gr.map;simp[show(Ed.map fun x=>x)=id from funext fun e=>by simp[Ed.map]]]at this;exact this
def zhR{g:Gr}(h:rC g)(a:Nat)(H:a<=4096)(A1 A2 A3 At:an)(c1 c2 c3 z:Nat)(w:aa)(D:nX w A1 A2 A3 g)(E:aT w At (bF (jj a g.w))):aw 161 #[.agg (bI g A1 c1 A2 c2 A3 c3),.slice At g.w z,(g.w:Nat)] w (mP (g.map g.w (· +a)) w):=by have:=rE g g.w (bF (jj a g.w)) (fun x=>x+a) A1 A2 A3 At c1 c2 c3 z w D E (za0 h.inr a) (by rw[bj,nk];have:=h.w;omega) Tj Tj (by have:=h.es;omega) (by have:=h.i;omega) (by have:=h.o;omega) (fun e F=>by have:=h.el e F;omega);rw[bj,nk]at this;exact this
def AY(g:Gr)(A1 A2 A3:an)(c1 c2 c3:Nat)(w:aa)(ap:nX w A1 A2 A3 g)(R:rC g):aw 157 (cJ (bI g A1 c1 A2 c2 A3 c3)) w (mP g w):=by
 obtain⟨b0,hi,bv,bz,Es⟩:=cU fI;have I:=((aj w w).alloc (ag _) (.cells (bI g A1 c1 A2 c2 A3 c3) 151)).alloc RS (.cells cw 151);have D:=(b_ (w.alloc (.cells (bI g A1 c1 A2 c2 A3 c3) 151)) (.cells cw 151) (k:=w.heap.size) RS).trans (az w _ rfl);have J:=az (w.alloc (.cells (bI g A1 c1 A2 c2 A3 c3) 151)) (.cells cw 151) (n:=(w:Nat)+1) RS;have Z:=zH (fun V (bp:ai w V) At bi (bo:aT V At (iota g.w))=>zhQ R A1 A2 A3 At c1 c2 c3 bi V (ap.ext bp) bo);have br:g.w<=4096:=R.w;obtain⟨n,a1⟩:=aO g.w;rw[<-a1]at Z br D J I ⊢;clear ap R a1;go_enter func157,ntmps157
 go_upto_region 1 with(fail)
 generalize (w.alloc _).alloc _=W at I D J ⊢;obtain⟨a4,a5,a6,a7⟩:=aK D;obtain⟨a9,be,bd⟩:=d_ I J D;clear I J D;go_wp2_with ((at_make;refine jg _ rfl _ _ 27 rfl W.heap.size 3 b0 (zI 0) 1 dS hi bv bz .i64 .i64 n n n rfl rfl rfl rfl SW TS (ag _) ?_;intro b1 Eo a0))
 have U:=zH (cd a0);rw[ig]at Eo;have ab:=zH (by rw[jT,fG];exact Eo:b1.ownsRow W 3 1 (.slice (aY W) n n) n ((fh (iota n) 0 0).map (Value.int .i64)));clear Eo a0 a4 a5 a6 a7;go_loopw [4,10] (fun _ i wr=>∃k:Nat,k<=n/\i=.int .i64 k/\wr.ownsRow W 3 1 (.slice (aY W) n n) n ((fh (iota n) 0 k).map (Value.int .i64))/\ai W wr) (fun _ i _=>n-(intOf i).toNat)
 case atStart=>exact⟨0,bf _,rfl,ab,U.o⟩
 case round=>
  obtain⟨k,ca,rfl,Eo,z⟩:=hrel;clear ab U;by_cases Ez:k<n
  .have b8:ah wr W k (zI 0):=XP;have b9:=Eo.frozenAt k;have FL:=(Eo.stored k (zI k)).1;rw[<-h_,kO _ _ _ _ (qG Ez)]at FL;obtain⟨HS,E9⟩:=bS FL (z.setCell (p:=⟨W,k,none⟩) (ag _) (zI k));exact YI
  .rw[kN _ _ _ SI]at Eo;have a3:ar wr W (.slice (aY W) n n) (iota n):=by unfold ar;rw[fG];exact Eo
   obtain⟨b6,b7,am,ao,-⟩:=a3.view;rw[fG]at am;cases am
   obtain⟨a8,Y⟩:=bS ao (cC a9 z);obtain⟨a4,a5,a6,a7⟩:=aK (ak bd z);have ac:=zH (ak be z);have ad:=zH (show(w:Nat)+1<wr from(aM.1 ac).1);clear Eo a3 ao z;go_wp2_with ((go_at_call 161;(with_reducible refine(Z.o _ Y.o _ _ a8.o).mono ?_);intro e ci h;unfold mP at h;obtain⟨E,d1,F,d2,H,d3,B,bm,a2,Q⟩:=h;subst bm;have O:=ak ac Q;obtain⟨cb,cc,ce,ch⟩:=aK O;obtain⟨f0,f1,f2,f3⟩:=cP O;have y:=cT (v0:=.int .i64 (g.w:Nat)) (v1:=.slice E g.es d1) (v2:=.slice F g.i d2) (v3:=.slice H g.o d3) O;obtain⟨b2,b3,b4,b5⟩:=aK y;unfold eh at b2 b3 b4 b5;have bb:=zH a2;have ba:=zH (de (cC Y.o Q) (b:=(w:Nat)+1) RU (zI (g.w:Nat)) (.slice E g.es d1) (.slice F g.i d2) (.slice H g.o d3));clear O y a2 Q))
   exact ax (v:=.agg (bI g E d1 F d2 H d3)) (by simp[results,results157,go_sem, *]) rfl ⟨E,d1,F,d2,H,d3,B,rfl,(bb.eh ad).mono (by have:=ad.o;omega),ba⟩
def ar.mJ(h:ar w B v xs)(D:w.grownBy w' row)(E:∀g,row=some g->v.ownBlock≠some g):ar w' B v xs:=
 h.kept D (by
  cases e:v.ownBlock with
  |none=>exact aF rfl
  |some g=>exact aA fun z=>E g z.symm e)
def qR(W:aa)(b i:Nat)(v:au):W.grownBy (W.setCell ⟨b,i,none⟩ v) (some b):=⟨rfl,rfl,rfl,RS,fun k _ z=>bw _ _ _ _ (fun e=>z RV)⟩
def D7(W:aa)(z:Nat)(o:Obj):World:={W with heap:=W.heap.setIfInBounds z o}
def Bu{o:Obj}(h:D < (W:Nat)):(D7 W D o).heap[D]?=some o:=by simp[D7,h]
def zd{o:Obj}(h:k≠D):(D7 W D o).heap[k]?=W.heap[k]?:=by simp[D7,Array.getElem?_setIfInBounds_ne (gJ h)]
def zbm{p:dD}(h:W.heap[p.block]?=w.heap[p.block]?):w.cell? p=W.cell? p:=by unfold World.cell?;rw[h]
def zdB(F:aU w D #[v0,v1,v2,v3] 151)(h:bN 166 4 EEd w B (.slice A n c) RN)(a2:∀x,v1≠.int .i64 x)(Y:B<=(w:Nat)):Fr (w.setCell ⟨D,1,none⟩ u) B w (fun V=>dp 4 EEd V A RN):=fun W J=>by
 have a0:=(aM.1 F).1;by_cases am:B<=D
 rotate_left
 .exact(h.fr (fun _ _ _ _ O h=>h.ext O) Y) W fun k I E=>(J k I E).trans (bw _ _ _ _ (by show k≠D;omega))
 have y:=bs w D 1 _ _ u F;simp only[zA]at y;have Z:=(J D am a0).trans y;have ab:=(aM.1 Z).1;have E:=(h.fr (fun _ _ _ _ O h=>h.ext O) Y) (D7 W D (.cells #[v0,v1,v2,v3] 151 (0,0))) fun k I E=>by
  by_cases e:k=D
  .subst e;rw[Bu ab,F]
  .rw[zd e];exact(J k I E).trans (bw _ _ _ _ e)
 have a1:=zfq h F RX;have ac:∀p:dD,p.block≠D->W.cell? p=(D7 W D (.cells #[v0,v1,v2,v3] 151 (0,0))).cell? p:=fun p U=>zbm (zd U)
 have ao:∀(b o:Nat) (x:Int),(D7 W D (.cells #[v0,v1,v2,v3] 151 (0,0))).cell? ⟨b,o,none⟩=some (.int .i64 x)->ah W b o (zI x):=fun b o x z=>by
  by_cases e:b=D
  .subst e;have U:=Bu (W:=W) (o:=.cells #[v0,v1,v2,v3] 151 (0,0)) ab;unfold World.cell? at z ⊢;rw[U]at z;rw[Z];dsimp only at z ⊢
   match o,z with
   |0,z=>simpa using z
   |1,z=>simp at z;exact absurd z (a2 x)
   |2,z=>simpa using z
   |3,z=>simpa using z
   |o+4,z=>simp at z
  .rw[ac _ e];exact z
 have ad:∀(H:an) (xs:aG),aT (D7 W D (.cells #[v0,v1,v2,v3] 151 (0,0))) H xs->aT W H xs:=fun H xs h=>h.imp id fun⟨b,o,e,Q⟩=>⟨b,o,e,fun k x R=>ao _ _ _ (Q k x R)⟩
 rcases E with E|⟨b,o,e,Q⟩
 .exact aF E
 .subst e;refine aA ⟨b,o,rfl,fun k x R=>?_⟩;obtain⟨c,d1,A1,c1,A2,c2,d2,d3,d4⟩:=Q k x R;refine⟨c,fun j y ap=>?_,A1,c1,A2,c2,d2,ad _ _ d3,ad _ _ d4⟩;rw[ac _ (fun e=>a1 (by rw[show b=D from e];rfl))];exact d1 j y ap
def qS(E:o.guard=none)(s x:js)(H:o.op=.call {callee:=.builtin .append,args:=#[s,x],argTypes:=#[27,27]})(B:Nat)(W:aa)(v:au)(xs ys:aG)(A:an)(n c:Nat)(I:a.eval s=v)(D:a.eval x=.slice A n c)(ab:n=ys.length)(Eo:ar W B v xs)(Fi:aT W A ys)(a0:xs.length+ys<=1099511627776)(U:B<=(W:Nat))(h:∀v' w',ar w' B v' (xs++ys)->W.grownBy w' v.ownBlock->(∀g,v'.ownBlock=some g->v.ownBlock=some g∨g=(W:Nat))->Below B W w'->wpList prog J Q rest (a.put o.dst v') w'):wpList prog J Q (o::rest) a W:=by
 subst ab;obtain⟨O,hi,am,ao,ap⟩:=cU fI;cases A with
 |none=>
  have hy:ys=[]:=Xh;subst hy;refine qd E fun K hK=>?_
  have ac:=jm (P:=prog) (w:=W) B 27 o.type 3 O 1 dS hi v _ c _ Eo;unfold Oper.wp;simp only[ix]at D;simp[execOp,H,resolve,invoke,builtin,I,D,ac,Result.andThen];exact hK _ _ (h v W S7 ⟨rfl,rfl,rfl,ag _,fun _ _ _=>rfl⟩ (fun g e=>aF e) (aj _ _))
 |some R=>
  refine xV W E s x 27 H B 3 O (zI 0) 1 8 dS hi am ao ap rfl RX v _ _ I Eo R ys c (ys.map (Value.int .i64)) D RS ?_ ?_ ?_ ?_ ?_ ?_
  .exact YU
  .intro u ad;obtain⟨y,_,rfl⟩:=cf.1 ad;rfl
  .unfold maxLen;omega
  .omega
  .omega
  .intro v' w' Fj F _ Y;exact h v' w' T7 F (fun g e=>Y.elim (fun z=>aF (z ▸ e)) fun z=>aA (by rw[e]at z;cases z;rfl)) ((aj _ _).grown F U fun k Z=>(bZ Eo k Z).1)
def xl{am:Type}{s bytes:Nat}{I:World->am->List Value->Prop}(E:RT prog t T s H bytes)(ao:o.guard=none)(ad x:js)(ap:o.op=.call {callee:=.builtin .append,args:=#[ad,x],argTypes:=#[t,t]})(B F:Nat)(W:aa)(v v2:au)(xs ys:List am)(D:bN T s I W B v xs)(z:bN T s I W F v2 ys)(a9:∀g,v.ownBlock=some g->g<F)(b0:B<=F)(b1:F<=(W:Nat))(bd:xs.length+ys<=1048576)(a0:a.eval ad=v)(U:a.eval x=v2)(h:∀v' w',bN T s I w' B v' (xs++ys)->W.grownBy w' v.ownBlock->Below B W w'->wpList prog J Q rest (a.put o.dst v') w'):wpList prog J Q (o::rest) a W:=by
 obtain⟨a1,hi,bo,bp,br⟩:=cU E.info;obtain⟨cs,D⟩:=D;obtain⟨ds,z⟩:=z;have ba:∀(k:Nat) (x:am) (c:bG),ys[k]?=some x->ds[k]?=some c->c.length=s/\(∀u∈c,u.oneCell'=true)/\jS I W B v x c:=fun k x c U Y=>by obtain⟨a2,a3,lo,hi,bv,a4,bz,a5⟩:=z.each k x c U Y;exact⟨a2,a3,lo,hi,RU,a4,fun g e=>aF (by have:=a9 g e;omega),a5⟩
 rcases z.outer.2 with⟨rfl,a6⟩|⟨g,cap,cur,rfl,b5,b4,b6,b2,b3,b7⟩
 .have ac:ys=[]:=eS a6;subst ac;refine qd ao fun K hK=>?_
  have bi:=jm (P:=prog) (w:=W) B t o.type T a1 s E.und hi v _ 0 _ D.outer;unfold Oper.wp;simp[execOp,ap,resolve,invoke,builtin,a0,U,bi,Result.andThen];exact hK _ _ (h v W ⟨cs,by simpa using D⟩ ⟨rfl,rfl,rfl,ag _,fun _ _ _=>rfl⟩ (aj _ _))
 .have a8:=pX z.outer (g:=g) rfl;refine xV W ao ad x t ap B T a1 H s bytes E.und hi bo bp br E.zs E.pos v _ _ a0 D.outer ⟨g,0,none⟩ ys cap ds.flatten U (by rw[mn z.cl,z.len]) (fun j u bb=>a8 j u bb) ?_ ?_ ?_ RU ?_
  .intro u ab;obtain⟨c,Y,ab⟩:=qf.1 ab;obtain⟨k,R⟩:=e_.1 Y;obtain⟨y,ac⟩:=aB (by rw[<-z.len];exact(bA.1 R).1:k<ys.length);exact(z.each k y c ac R).2.1 u ab
  .unfold maxLen;omega
  .have:(xs.length+ys)*bytes<=1048576*1000:=Nat.mul_le_mul bd E.bts;omega
  .intro v' w' be Z _ a7;have bm:∀O,v'.ownBlock=some O->v.ownBlock=some O∨(W:Nat)<=O:=fun O e=>by
    rcases a7 with h|h
    .rw[<-h];exact aF e
    .rw[h]at e;cases e;exact aA (ag _)
   exact h v' w' ⟨cs++ds,D.nt z.len ba be Z bm⟩ Z ((aj _ _).grown Z RU fun k R=>(bZ D.outer k R).1)
def Fr.over(h:Fr w lo hi P)(z:w.grownBy w' row)(D:hi<=(w:Nat))(E:∀g,row=some g->g<lo):Fr w' lo hi P:=h.grown z D fun g e=>aF (E g e)
def zh7(g:Gr)(w:aa)(e:Ending)(w':aa):Prop:=∃A1 c1 A2 c2 A3 c3,e=.returned (.agg (bI g A1 c1 A2 c2 A3 c3))/\(g.i.length<=c2/\g.o.length<=c3)/\Fr w' w w' (fun W=>nX W A1 A2 A3 g)/\ai w w'
def uw(a b:Gr)(A1 A2 A3 b4 b5 b6:an)(c1 c2 c3 d1 d2 d3:Nat)(w:aa)(ba:rC a)(E:rC b)(hd:nX w A1 A2 A3 a)(he:nX w b4 b5 b6 b):aw 177 (kg (bI a A1 c1 A2 c2 A3 c3) (bI b b4 d1 b5 d2 b6 d3)) w (zh7 (o_ a b) w):=by
 obtain⟨is,hi,io,ip,Es⟩:=cU fI;obtain⟨h4,hZ⟩:=bS (fun(V:aa) (em:ai w V)=>AY a A1 A2 A3 c1 c2 c3 V (hd.ext em) ba) (fun(V:aa) (em:ai w V) At ia (ii:aT V At (bF (jj a.w b.w)))=>zhR E a.w ba.w b4 b5 b6 At d1 d2 d3 ia V (he.ext em) ii);have en:=below_alloc3 w (.cells (bI a A1 c1 A2 c2 A3 c3) 151) (.cells (bI b b4 d1 b5 d2 b6 d3) 151) (.cells cw 151);obtain⟨Z,Y,ab⟩:=cA w (.cells (bI a A1 c1 A2 c2 A3 c3) 151) (.cells (bI b b4 d1 b5 d2 b6 d3) 151) (.cells cw 151);have i5:=ba.w;have i9:=E.w;have i3:=ba.i;have i4:=ba.o;have i2:=ba.es;have i7:=E.i;have i8:=E.o;have i6:=E.es;have kc:IntKind.i64.wrap ((a.w:Int)+(b.w:Int))=(a.w:Int)+(b.w:Int):=SQ;have c5:=zH (show(b.map b.w (· +a.w)).es=b.es.map (Ed.map (· +a.w))/\(b.map b.w (· +a.w)).i=b.i.map (· +a.w)/\(b.map b.w (· +a.w)).o=b.o.map (· +a.w)/\(b.map b.w (· +a.w)).w=b.w from⟨rfl,rfl,rfl,rfl⟩);clear hd he ba E;go_enter func177,ntmps177
 go_upto_region 1 with(fail)
 generalize ((w.alloc _).alloc _).alloc _=W at en Z Y ab ⊢;obtain⟨fz,f0,f4,f5⟩:=aK Y;obtain⟨hB,g2,h8,h9⟩:=fU en Z Y ab;clear en Z Y ab;go_wp2_with ((at_make;refine jg _ rfl _ _ 27 rfl W.heap.size 3 is (zI 0) 1 dS hi io ip .i64 .i64 b.w b.w b.w rfl rfl rfl rfl SW TS (ag _) ?_;intro it Eo hk))
 have gc:=zH (cd hk);rw[ig]at Eo;have cb:=zH (by rw[bj,nk]:(bF (jj a.w b.w)).length=b.w);have gs:=zH (by rw[jT,cb.o];exact Eo:it.ownsRow W 3 1 (.slice (aY W) b.w b.w) b.w ((fh (bF (jj a.w b.w)) 0 0).map (Value.int .i64)));clear Eo hk fz f0 f4 f5;go_loopw [6,14] (fun _ i wr=>∃k:Nat,k<=b.w/\i=.int .i64 k/\wr.ownsRow W 3 1 (.slice (aY W) b.w b.w) b.w ((fh (bF (jj a.w b.w)) 0 k).map (Value.int .i64))/\ai W wr) (fun _ i _=>b.w-(intOf i).toNat)
 case atStart=>exact⟨0,bf _,rfl,gs,gc⟩
 case round=>
  obtain⟨k,hl,rfl,Eo,bb⟩:=hrel;clear gs gc;by_cases hm:k<b.w
  .have jp:ah wr W k (zI 0):=by rw[Eo.cellAt k RU,cp,nK _ _ _ (by rw[cb.o];exact hm)];rfl
   have eo:=Eo.frozenAt k;have FL:=(Eo.stored k (zI ((k:Int)+(a.w:Int)))).1;rw[<-h_,kO _ _ _ _ (by rw[fv (AP hm)];simp:(bF (jj a.w b.w))[k]?=some ((k:Int)+(a.w:Int)))]at FL;obtain⟨HS,E9⟩:=bS FL (bb.setCell (p:=⟨W,k,none⟩) (ag _) (zI ((k:Int)+(a.w:Int))));obtain⟨fl,fn,fo,fs⟩:=aK (ak g2 bb);have j0:IntKind.i64.wrap ((k:Int)+(a.w:Int))=(k:Int)+(a.w:Int):=SQ;exact YI
  .rw[kN _ _ _ (by rw[cb.o];omega)]at Eo;have hn:ar wr W (.slice (aY W) b.w b.w) (bF (jj a.w b.w)):=by unfold ar;rw[cb.o];exact Eo
   obtain⟨i0,i1,cj,hb,-⟩:=hn.view;rw[cb.o]at cj;cases cj
   obtain⟨g1,c4⟩:=bS hb (cC hB bb);obtain⟨fl,fn,fo,fs⟩:=aK (ak g2 bb);obtain⟨ei,ej⟩:=bS (ak h8 bb) (ak h9 bb);obtain⟨c0,hp⟩:=aO wr;rw[<-hp]at fl fn fo fs ei ej c4 g1 ⊢;have gL:=zH (show(w:Nat)+1+1<c0 from(aM.1 ej).1);clear Eo hn hb bb hp;go_upto_region 8 with(go_at_call 157;(with_reducible refine(h4.o _ c4.o).mono ?_);intro e z h;unfold mP at h;obtain⟨be,b0,b7,e2,bi,ac,ao,ib,cn,hg⟩:=h;subst ib;have ap:=zH cn;have a7:=zH hg;clear cn hg)
   clear fl fn fo fs;have ad:=aD z (.cells (bI a be b0 b7 e2 bi ac) 151);obtain⟨gB,gw,bm,Gb⟩:=fU (az z (.cells (bI a be b0 b7 e2 bi ac) 151) rfl) (ap.ext ad) (cC a7 ad) (RS:(z:Nat) < (z.alloc (.cells (bI a be b0 b7 e2 bi ac) 151)));obtain⟨d0,d4,z2,d5⟩:=aK (ak ei bm);obtain⟨g0,gb⟩:=bS (g1.ext bm) ad;generalize z.alloc _=k0 at gB gw bm Gb g0 gb d0 d4 z2 d5 ⊢;clear ad;have h5:=zH (cC c4 bm);go_upto_region 9 with(go_at_call 161;(with_reducible refine(hZ.o _ h5.o _ _ g0.o).mono ?_);intro e am h;unfold mP at h;obtain⟨b8,f1,b9,f2,ca,f3,f6,ha,cn,hh⟩:=h;rw[c5.o.1,c5.o.2.1,c5.o.2.2.1,c5.o.2.2.2,bt,bt,bt]at ha;subst ha;have bp:=zH cn;have d6:=zH hh;clear cn hh)
   clear d0 d4 z2 d5;have ad:=aD am (.cells (bI b b8 f1 b9 f2 ca f3) 151);obtain⟨c6,ea,a8,bo,gf⟩:=lv (az am (.cells (bI b b8 f1 b9 f2 ca f3) 151) rfl) (bp.ext ad) (cC d6 ad) (RS:(am:Nat) < (am.alloc (.cells (bI b b8 f1 b9 f2 ca f3) 151))) ad;generalize am.alloc _=D at c6 ea a8 bo gf ⊢;clear ad;obtain⟨eb,gA,hE,hD⟩:=fU (ak gB a8) (gw.ext a8) (cC bm a8) (cC gb a8);obtain⟨a4,a5,p2,a6⟩:=aK eb;obtain⟨a0,a1,a2,a3⟩:=cP eb;obtain⟨d0,d4,z2,d5⟩:=aK ((ak ei bm |> fun h=>ak h a8));go_upto_region 10 with(fail)
   clear a4 a5 p2 a6 a0 a1 a2 a3 d0 d4 z2 d5;have hf:ao<=(z:Nat):=ap.s;obtain⟨br,bv,KB,KC⟩:=fU (fun g (e:(Value.slice b7 a.i e2).ownBlock=some g)=>ap.d2 g e) (fun g (e:(Value.slice bi a.o ac).ownBlock=some g)=>ap.d3 g e) hf (show(z:Nat)<D from gZ Gb a8.size);have ch:=bs D z 0 _ _ (zI ((a.w:Int)+(b.w:Int))) eb;simp only[zA]at ch;have dl:=qR D z 0 (zI ((a.w:Int)+(b.w:Int)));have e3:=gA.i.mJ dl (fun g e e2=>by cases e;have:=(br.o _ e2).2;omega);have e6:=gA.o.o.mJ dl (fun g e e2=>by cases e;have:=bv.o _ e2;omega);have cr:∀k,k≠z.heap.size->(D.setCell ⟨z,0,none⟩ (zI ((a.w:Int)+(b.w:Int)))).heap[k]?=D.heap[k]?:=fun k hl=>bw _ _ _ _ hl
   have e9:(D.setCell ⟨z,0,none⟩ (zI ((a.w:Int)+(b.w:Int))):Nat)=D:=RS;have f8:=zH (hE.setCell (p:=⟨z,0,none⟩) a7.size (zI ((a.w:Int)+(b.w:Int))));generalize D.setCell ⟨z,0,none⟩ _=fd at ch dl e3 e6 cr e9 f8 ⊢;have g4:=(cr am (by have:=Gb.o;have:=d6.size;omega)).trans c6;have ho:(z:Nat)<am:=gZ Gb d6.size;have KD:=zH ho
   -- In
   obtain⟨a4,a5,p2,a6⟩:=aK ch;obtain⟨Z,Y,ab,b2⟩:=aK g4;obtain⟨hS,h1,hF,hV,bz⟩:=lv e3 e6 ch cr e9;have h7:=zH (show aT fd b9 (bF (b.i.map (· +a.w))) from(ea.fr.imp fun V h=>h.i) fd fun k a9 O=>cr k Tx);have hX:=zH (by rw[bQ,bj,bj,bt]:(bF a.i++bF (b.i.map (· +a.w))).length=a.i+b.i);have hY:=zH (by rw[bQ,bj,bj,bt]:(bF a.o++bF (b.o.map (· +a.w))).length=a.o+b.o);clear dl e3 e6 ch cr e9 g4 ho hf;go_upto_region 11 with((at_builtin;refine qS rfl (.tmp 39) (.tmp 41) rfl c0 fd (.slice b7 a.i e2) (bF a.i) (bF (b.i.map (· +a.w))) b9 b.i f2 rfl rfl Sj hS.o h7.o (by rw[bj,bj,bt];omega) (by have:=bz.o;have:=a7.size;have:=KC.o;omega) ?_;intro kk cO R Q ck E;obtain⟨F,J,g9,-,es,-⟩:=R.view;rw[hX.o]at g9 es;subst g9;have hL:=zH es;clear es;have da:=(Q.block z (by have:=bz.o;have:=KC.o;omega) (fun e=>by have:=(br.o _ e.symm).2;have:=KB.o;omega)).trans hF;obtain⟨cu,cy,cF,cI⟩:=aK da;obtain⟨a0,a1,a2,a3⟩:=cP da;have hT:=zH R;have d8:=zH Q;have ga:=zH ck;have hG:=zH da;have hy:=zH (f8.trans E);clear R Q ck E da))
   clear a4 a5 p2 a6 Z Y ab b2 cu cy cF cI a0 a1 a2 a3;have hv:=h1.mJ d8 (fun g e e2=>(br g e).1 e2);have eA:∀g,(Value.slice F (a.i.length+b.i) J).ownBlock=some g->g<ao∨(D:Nat)<=g:=fun g e=>(ga g e).elim (fun e2=>aF (br g e2).2) fun e2=>aA (by rw[e2,bz.o];exact ag _)
   have hj:∀g,(Value.slice F (a.i.length+b.i) J).ownBlock=some g->(Value.slice bi a.o ac).ownBlock≠some g:=fun g e ac=>(ga g e).elim (fun e2=>(br g e2).1 ac) fun e2=>by have:=bv g ac;have:=bz.o;have:=KB.o;have:=KC.o;omega
   have ci:=bs cO z 2 _ _ (.slice F (a.i.length+b.i) J) hG;simp only[zA]at ci;have dT:=qR cO z 2 (.slice F (a.i.length+b.i) J);have e4:=hT.mJ dT (fun g e e2=>by cases e;have:=eA _ e2;have:=KB.o;have:=KC.o;omega);have e7:=hv.mJ dT (fun g e e2=>by cases e;have:=bv.o _ e2;have:=KB.o;omega);have ct:∀k,ao<=k->k < (D:Nat)->k≠z.heap.size->(cO.setCell ⟨z,2,none⟩ (.slice F (a.i.length+b.i) J)).heap[k]?=D.heap[k]?:=fun k a9 O b1=>(bw _ _ _ _ b1).trans ((d8.block k (by rw[bz.o];exact O) (fun e=>by have:=(br.o _ e.symm).2;omega)).trans (hV k b1))
   have fa:(D:Nat)<=(cO.setCell ⟨z,2,none⟩ (.slice F (a.i.length+b.i) J)):=by have:=d8.size;rw[bz.o]at this;simpa using this
   have f9:=zH (hy.setCell (p:=⟨z,2,none⟩) a7.size (.slice F (a.i.length+b.i) J));generalize cO.setCell ⟨z,2,none⟩ _=fi at ci dT e4 e7 ct fa f9 ⊢;have g5:=(ct am Vy bo (by have:=KD.o;omega)).trans c6
   -- Out
   obtain⟨a4,a5,p2,a6⟩:=aK ci;obtain⟨Z,Y,ab,b2⟩:=aK g5;obtain⟨hU,h2,hH,hW,cc,KE,hN⟩:=zH7 e4 e7 ci ct fa eA hj;have h6:=zH (show aT fi ca (bF (b.o.map (· +a.w))) from(ea.fr.imp fun V h=>h.o) fi fun k a9 O=>ct k Vn O Tx);clear dT e4 e7 ci ct fa g5 hv eA hj;go_upto_region 12 with((at_builtin;refine qS rfl (.tmp 45) (.tmp 47) rfl c0 fi (.slice bi a.o ac) (bF a.o) (bF (b.o.map (· +a.w))) ca b.o f3 rfl rfl Sj h2.o h6.o (by rw[bj,bj,bt];omega) (by have:=cc.o;have:=a7.size;have:=KC.o;omega) ?_;intro kl cR R Q ck E;obtain⟨H,U,cj,-,ev,-⟩:=R.view;rw[hY.o]at cj ev;subst cj;have hM:=zH ev;clear ev;have db:=(Q.block z (by have:=cc.o;have:=KC.o;omega) (fun e=>by have:=bv.o _ e.symm;have:=KB.o;omega)).trans hH;obtain⟨cu,cy,cF,cI⟩:=aK db;obtain⟨a0,a1,a2,a3⟩:=cP db;have h3:=zH R;have d9:=zH Q;have hA:=zH ck;have hI:=zH db;have hz:=zH (f9.trans E);clear R Q ck E db))
   clear a4 a5 p2 a6 Z Y ab b2 cu cy cF cI a0 a1 a2 a3;have hs:=hU.mJ d9 (fun g e e2=>hN g e2 e);have e0:∀g,(Value.slice H (a.o.length+b.o) U).ownBlock=some g->g<ao∨(D:Nat)<=g:=fun g e=>(hA g e).elim (fun e2=>aF (bv g e2)) fun e2=>aA (by rw[e2];exact cc)
   have ce:=bs cR z 3 _ _ (.slice H (a.o.length+b.o) U) hI;simp only[zA]at ce;have dc:=qR cR z 3 (.slice H (a.o.length+b.o) U);have e1:=hs.mJ dc (fun g e e2=>WO);have e5:=h3.mJ dc (fun g e e2=>by cases e;have:=e0 _ e2;have:=KB.o;have:=KC.o;omega);have co:∀k,ao<=k->k < (D:Nat)->k≠z.heap.size->(cR.setCell ⟨z,3,none⟩ (.slice H (a.o.length+b.o) U)).heap[k]?=D.heap[k]?:=fun k a9 O b1=>(bw _ _ _ _ b1).trans ((d9.block k (gZ O cc) (fun e=>by have:=bv.o _ e.symm;omega)).trans (hW k a9 O b1))
   have e8:(D:Nat)<=(cR.setCell ⟨z,3,none⟩ (.slice H (a.o.length+b.o) U)):=by have:=d9.size;have:=cc.o;simp;omega
   have f7:=zH (hz.setCell (p:=⟨z,3,none⟩) a7.size (.slice H (a.o.length+b.o) U));generalize cR.setCell ⟨z,3,none⟩ _=fb at ce dc e1 e5 co e8 f7 ⊢;have g3:=(co am Vy bo (by have:=KD.o;omega)).trans c6
   -- Edges
   have g6:bN 166 4 EEd fb ao (.slice be a.es b0) a.es:=ap.es.same (fun k a9 O=>(co k a9 (by have:=KC.o;omega) RU).trans (hD.block k O)) (by have:=KC.o;omega);have f10:bN 166 4 EEd fb f6 (.slice b8 b.es f1) (b.es.map (Ed.map (· +a.w))):=by have:=bp.es;rw[show(b.map b.w (· +a.w)).es.length=b.es from bt ..]at this;refine this.same (fun k a9 O=>?_) (by have:=bo.o;omega);have b1:=bp.b;exact(co k Vn (by have:=bo.o;omega) Tx).trans (gf.block k O)
   have c7:=zH (show ∀g,(Value.slice be a.es b0).ownBlock=some g->ao<=g/\g < (z:Nat) from fun g e=>by obtain⟨cs,h⟩:=ap.es;exact bZ h.outer g e)
   obtain⟨a4,a5,p2,a6⟩:=aK ce;obtain⟨Z,Y,ab,b2⟩:=aK g3;obtain⟨hR,h0,hC,eg,gC,hO,hQ,gn⟩:=zH8 e1 e5 ce e8 e0 g6 f10 (by unfold jc;rw[bQ,bt]:(jc a b).length=a.es+b.es);clear dc e1 e5 ce co e8 g3 hs e0 g6 f10;go_upto_region 13 with((at_builtin;refine xl zhJ rfl (.tmp 51) (.tmp 53) rfl ao f6 fb (.slice be a.es b0) (.slice b8 b.es f1) a.es (b.es.map (Ed.map (· +a.w))) hO.o hQ.o (fun g e=>by have:=(c7 g e).2;have:=Gb.o;have:=bp.b;omega) (by have:=KB.o;have:=Gb.o;have:=bp.b;omega) (by have:=bp.s;have:=bo.o;have:=eg.o;omega) (by rw[bt];omega) rfl rfl ?_;intro ke bd R Q E;obtain⟨G1,I,g7,-⟩:=R.view;rw[show(a.es++b.es.map (Ed.map (· +a.w))).length=a.es+b.es from gn.o]at g7;subst g7;have c8:=(Q.block z (by have:=eg.o;have:=KC.o;omega) (fun e=>by have:=(c7.o _ e.symm).2;omega)).trans hC;obtain⟨cu,cy,cF,cI⟩:=aK c8;obtain⟨a0,a1,a2,a3⟩:=cP c8;have hP:=zH R;have d7:=zH Q;have gd:=zH c8;have hx:=zH (f7.trans (E.mono ap.b));clear R Q E c8))
   clear a4 a5 p2 a6 Z Y ab b2 cu cy cF cI a0 a1 a2 a3;have hq:=hR.mJ d7 (fun g e e2=>by have:=c7 g e;have:=KE g e2;have:=KC.o;omega);have ht:=h0.mJ d7 (fun g e e2=>by have:=c7 g e;have:=gC g e2;have:=KC.o;omega);have c9:=bs bd z 1 _ _ (.slice G1 (a.es.length+b.es) I) gd;simp only[zA]at c9;have ek:=qR bd z 1 (.slice G1 (a.es.length+b.es) I);have hr:=hq.mJ ek (fun g e e2=>WO);have hu:=ht.mJ ek (fun g e e2=>by cases e;have:=gC.o _ e2;have:=KB.o;have:=KC.o;omega);have hc:=hP.o;have g8:=zdB (u:=.slice G1 (a.es.length+b.es) I) (A:=G1) (n:=a.es.length+b.es) (c:=I) gd hc (fun x h=>RZ) (by have:=d7.size;have:=eg.o;have:=KC.o;have:=KB.o;omega);have b3:=hx.setCell (p:=⟨z,1,none⟩) a7.size (.slice G1 (a.es.length+b.es) I);have hw:(bd.setCell ⟨z,1,none⟩ (.slice G1 (a.es.length+b.es) I):Nat)=bd:=RS;have eo:Fr (bd.setCell ⟨z,1,none⟩ (.slice G1 (a.es.length+b.es) I)) c0 (bd.setCell ⟨z,1,none⟩ (.slice G1 (a.es.length+b.es) I)) (fun V=>nX V G1 F H (o_ a b)):=
    zf4 (g:=o_ a b) (g8.to ap.b (lr hw.symm)) ((hr.fr b3.size).imp fun V h=>by show aT V F (bF (a.i++b.i.map (· +a.w)));rw[nx];exact h) ((hu.fr b3.size).imp fun V h=>by show aT V H (bF (a.o++b.o.map (· +a.w)));rw[nx];exact h)
   have cz:=(b3.block _ gL.o).trans ej;obtain⟨gm,gi,gV⟩:=d_ eo (cC c4 b3) (show(w:Nat)+1+1<c0 from gL.o);generalize bd.setCell ⟨z,1,none⟩ _=kw at c9 cz gm gi ⊢;obtain⟨a4,a5,p2,a6⟩:=aK c9;obtain⟨Z,Y,ab,b2⟩:=aK cz;obtain⟨a0,a1,a2,a3⟩:=cP cz;have y:=cT (v0:=.int .i64 ((a.w:Int)+(b.w:Int))) (v1:=.slice G1 (a.es.length+b.es) I) (v2:=.slice F (a.i.length+b.i) J) (v3:=.slice H (a.o.length+b.o) U) cz;obtain⟨fz,f0,f4,f5⟩:=aK y;unfold eh at fz f0 f4 f5;clear hq ht ek hr hu hc g8 b3 hw eo cz y c9;go_wp2;refine ax (v:=.agg #[.int .i64 ((a.w:Int)+(b.w:Int)),.slice G1 (a.es.length+b.es) I,.slice F (a.i.length+b.i) J,.slice H (a.o.length+b.o) U]) (by simp[results,results177,go_sem, *]) rfl ⟨G1,I,F,J,H,U,?_,⟨by show(a.i++b.i.map (· +a.w)).length<=J;rw[bQ,bt];exact hL,by show(a.o++b.o.map (· +a.w)).length<=U;rw[bQ,bt];exact hM⟩,(gm.eh (b:=(w:Nat)+1+1) gV).to (by have:=gV.o;omega) (lr ey.symm),de gi (b:=(w:Nat)+1+1) RU _ _ _ _⟩;rw[<-gn.o]
   show _=Ending.returned (Value.agg #[.int .i64 ((a.w+b.w:Nat):Int),.slice G1 (jc a b) I,.slice F (a.i++b.i.map (· +a.w)) J,.slice H (a.o++b.o.map (· +a.w)) U])
   rw[bQ,bQ,bt,bt,Int.natCast_add]
def zdC(a b:Gr)(A1 A2 A3 z D E:an)(c1 c2 c3 d1 d2 d3:Nat)(w:aa)(a1:rC a)(a2:rC b)(ao:nX w A1 A2 A3 a)(ap:nX w z D E b):aw 167 (kg (bI a A1 c1 A2 c2 A3 c3) (bI b z d1 D d2 E d3)) w (B9 (o_ a b) w):=by
 have am:=zH (fun(V:aa) (a0:ai w V)=>uw a b A1 A2 A3 z D E c1 c2 c3 d1 d2 d3 V a1 a2 (ao.ext a0) (ap.ext a0));have Y:=below_alloc3 w (.cells (bI a A1 c1 A2 c2 A3 c3) 151) (.cells (bI b z d1 D d2 E d3) 151) (.cells cw 151);obtain⟨ab,ac,U⟩:=cA w (.cells (bI a A1 c1 A2 c2 A3 c3) 151) (.cells (bI b z d1 D d2 E d3) 151) (.cells cw 151);obtain⟨g,a4⟩:=aO (o_ a b);rw[<-a4]at am ⊢;clear ao ap a1 a2 a4;go_enter func167,ntmps167
 go_upto_region 1 with(fail)
 generalize ((w.alloc _).alloc _).alloc _=W at Y ab ac U ⊢;obtain⟨bp,br,bv,bz⟩:=aK ab;obtain⟨b0,b1,b2,b3⟩:=aK ac;obtain⟨ad,a7,EV⟩:=d_ Y U (show(w:Nat)+1+1<W from(aM.1 U).1);clear Y ab ac U;go_wp2_with ((go_at_call 177;(with_reducible refine(am.o _ ad.o).mono ?_);intro e bo h;unfold zh7 at h;obtain⟨F,J,H,O,I,Q,a8,-,a3,Z⟩:=h;subst a8;have R:=ak a7 Z;obtain⟨bd,be,bi,bm⟩:=aK R;obtain⟨f0,f1,f2,f3⟩:=cP R;have y:=cT (v0:=.int .i64 (g.w:Nat)) (v1:=.slice F g.es J) (v2:=.slice H g.i O) (v3:=.slice I g.o Q) R;obtain⟨a9,ba,z2,bb⟩:=aK y;unfold eh at a9 ba z2 bb;have a6:=zH a3;have a5:=zH (de (cC ad Z) (b:=(w:Nat)+1+1) RU (zI (g.w:Nat)) (.slice F g.es J) (.slice H g.i O) (.slice I g.o Q));clear R y a3 Z))
 exact ax (v:=.agg (bI g F J H O I Q)) (by simp[results,results167,go_sem, *]) rfl ⟨F,J,H,O,I,Q,rfl,(a6.eh (b:=(w:Nat)+1+1) EV).to TJ (lr ey.symm),a5⟩
def BR:∀{xs ys:List cS} {us us2:bG},us.length=xs->fS (xs++ys) (us++us2)=fS xs us++fS ys us2
 |[],ys,us,us2,h=>Xu
 |x::xs,ys,[],_,h=>Sf
 |x::xs,ys,u::us,us2,h=>by have:=BR (xs:=xs) (ys:=ys) (us:=us) (us2:=us2) So;simp[fS,this]
def BS:∀{xs:List cS} {us:bG},(∀u∈us,∃A n c,u=.slice A n c)->∀D∈fS xs us,D.oneCell'=true
 |[],us,_,D,z=>by simp[fS]at z
 |x::xs,[],_,D,z=>by simp[fS]at z
 |x::xs,u::us,h,D,z=>by
  rw[fS]at z;rcases fc.1 z with E|E
  .obtain⟨A,n,c,rfl⟩:=h u (lW ..);simp[dq]at E;rcases E with rfl|rfl|rfl|rfl|rfl <;>rfl
  .exact BS (fun u F=>h u (lV _ F)) D E
def bq.nt{xs:List cS}{us2:bG}(h:bq w B v xs us)(I:bq w D v2 ys us2)(ab:B<=D)(am:∀u∈us,∀b,u.ownBlock=some b->b<D)(ap:w'.ownsRow B 29 5 v' (xs.length+ys) (fS xs us++fS ys us2))(Z:w.grownBy w' v.ownBlock):bq w' B v' (xs++ys) (us++us2):=by
 refine⟨by simp[h.len,I.len],by rw[BR h.len];simpa using ap,?_,?_⟩
 .intro k u x F H;by_cases hk:k<us.length
  .rw[dx hk]at F;rw[dx T8]at H;exact ar.kept (h.each k u x F H) Z (iI RX (h.each k u x F H) h.outer)
  .rw[gv RU]at F;rw[gv (by rw[<-h.len];omega),<-h.len]at H;exact(ar.kept (I.each _ u x F H) Z (iI RX (I.each _ u x F H) h.outer)).mono ab
 .have Y:∀(u Q:au) (b:Nat),u∈us->Q∈us2->u.ownBlock=some b->Q.ownBlock=some b->False:=fun u Q b F a0 ac ad=>by have z:=am u F b ac;obtain⟨k,hk⟩:=e_.1 a0;obtain⟨x,_,ao⟩:=I.kU hk;have:=(ao.lt b ad).1;omega
  intro i j u1 u2 b z E J O;by_cases R:i<us.length <;>by_cases U:j<us.length
  .rw[dx R]at z;rw[dx U]at E;exact h.apart i j u1 u2 b z E J O
  .rw[dx R]at z;rw[gv RU]at E;exact(Y u1 u2 b (a_ z) (a_ E) J O).elim
  .rw[gv RU]at z;rw[dx U]at E;exact(Y u2 u1 b (a_ E) (a_ z) O J).elim
  .rw[gv RU]at z;rw[gv RU]at E;have:=I.apart _ _ u1 u2 b z E J O;omega
def zF(U:o.guard=none)(s x:js)(ab:o.op=.call {callee:=.builtin .append,args:=#[s,x],argTypes:=#[44,44]})(B D:Nat)(W:aa)(v v2:au)(xs ys:List cS)(be:cB W B v xs)(am:cB W D v2 ys)(a2:∃I,I.heap.size<=D/\cB I B v xs/\ai I W)(ao:B<=D)(bi:D<=(W:Nat))(bv:xs.length+ys<=1048576)(ad:a.eval s=v)(z:a.eval x=v2)(h:∀v' w',cB w' B v' (xs++ys)->Below B W w'->wpList prog J Q rest (a.put o.dst v') w'):wpList prog J Q (o::rest) a W:=by
 obtain⟨bd,hi,a9,ba,bb⟩:=cU xt;obtain⟨I,b0,⟨us,ac⟩,a0⟩:=a2;have F:=ac.ext a0;obtain⟨us2,H⟩:=am;have a4:∀u∈us,∀b,u.ownBlock=some b->b<D:=fun u O b ap=>by obtain⟨k,E⟩:=e_.1 O;obtain⟨x,_,z⟩:=ac.kU E;have:=(z.lt b ap).2;omega
 have a7:∀u∈us2,∃A n c,u=.slice A n c:=fun u O=>by obtain⟨k,E⟩:=e_.1 O;obtain⟨x,_,z⟩:=H.kU E;obtain⟨A,c,e,_⟩:=z.view;exact⟨A,_,c,e⟩
 rcases H.outer.2 with⟨rfl,R⟩|⟨g,cap,cur,rfl,br,bp,Z,bm,bo,bz⟩
 .have a8:ys=[]:=eS R;subst a8;refine qd U fun K hK=>?_
  have a6:(Builtin.append_ #[44,44] o.type #[v,.slice none 0 0]).run prog W=.ok v W:=by
   rcases F.outer.2 with⟨rfl,R⟩|⟨g,cap,cur,rfl,_,_,Z,_⟩
   .simp[Builtin.append_,ya sx,sizeOf,typeInfo,hi,Builtin.lenOf,Builtin.firstCells]
   .simp[Builtin.append_,ya sx,sizeOf,typeInfo,hi,Builtin.lenOf,Builtin.firstCells,Z,storeCells]
  unfold Oper.wp;simp[execOp,ab,resolve,invoke,builtin,ad,z,a6,Result.andThen];exact hK _ _ (h v W ⟨us,by simpa using F⟩ (aj _ _))
 .have a1:=pX H.outer (g:=g) rfl;refine vC _ U s x 44 ab B 29 bd (.agg df) 5 56 sx hi a9 ba bb rfl RX v _ _ ad F.outer ⟨g,0,none⟩ ys cap (fS ys us2) z (vR H.len) (fun j u a3=>a1 j u a3) (BS a7) ?_ ?_ ?_ ?_
  .unfold maxLen;omega
  .omega
  .omega
  .intro v' w' a5 Y _;exact h v' w' ⟨_,F.nt H ao a4 a5 Y⟩ ((aj _ _).grown Y RU fun k E=>(bZ F.outer k E).1)
section
variable{M:aE}
def zeF(D:dr p=true)(s:iO p N n M):iO p (N-(iB p n M (xh N)).1) N ((iB p n M (xh N)).2.2.drop (iB p n M (xh N)).1)/\(iB p n M (xh N)).1<=N:=by have z:=(eY D).1;obtain⟨c,l,e,E,_,_⟩:=pD (n2:=N) D z s (Cv z);exact⟨e.s2.drop E,E⟩
def zaF(p:Int)(M:aE)(A:an)(cap N n:Nat)(w:aa)(a1:dr p=true)(b9:aX w A M)(s:iO p N n M)(D:N<=1048576)(bb:n<=1048576):aw 109 #[p,.slice A N cap,n] w (zba (zbf p n M) w):=by
 obtain⟨a4,cj⟩:=zeF a1 s;have a2:zbf p n M=qy p N ((iB p n M (xh N)).2.2.drop (iB p n M (xh N)).1):=by unfold zbf zdv;rw[s.1]
 obtain⟨z,ao⟩:=aO (iB p n M (xh N));rw[<-ao]at a4 cj a2;obtain⟨b4,J,ab,b0⟩:=fU ao a2 a4 (show ∀r∈M,r.length<=1048576 from fun r ce=>by rw[s.row r ce];exact bb);have b8:=s.1;subst b8;obtain⟨b1,I⟩:=bS s a1;clear ao a2 a4 s a1;have p2:=(eY I).1;go_enter func109,ntmps109
 go_wp2_with fail
 refine(tI _ _ M _ b9 D b0).mono ?_;rintro e bo ⟨u,rfl,a3,ap⟩;obtain⟨A1,c1,rfl,_,co,cr⟩:=a3.view;obtain⟨b2,bv⟩:=bS a3 ap;have bi:=ap.size;clear a3 ap;go_wp2_with fail
 refine(vW M _ D).mono ?_;rintro e bp ⟨u2,rfl,Q,a0⟩;obtain⟨A2,c2,rfl,_,ca,ct⟩:=Q.view;rw[Cd]at Q ca ⊢;obtain⟨b3,a5⟩:=bS Q a0;have ci:=a0.size;clear Q a0;go_wp2_with fail
 refine(sL p w bo bo bp M n M c1 c2 A1 A2 M (xh M) bp I ((Has.of b2).ext a5) (Has.of b3) b1 (Cv p2) (ag _) bi ci (ag _) D bb D).mono ?_;rintro e E ⟨rfl,_,ad,bm⟩;rw[<-b4.o]at ad ⊢;obtain⟨HW,a6⟩:=bS (show ai w E from(bv.trans (a5.mono bi)).trans (bm.below (ag _) RU)) ad.own;have cb:=Bg a6;have ba:(z.2.2.drop z.1).length=M-z.1:=ab.1;have ch:((M:Int)-(z.1:Int))=((M.length-z.1:Nat):Int):=RU;clear ad bm;rcases cb with⟨rfl,b7,rfl,bd⟩|⟨g,rfl,cc,_,_⟩
 .obtain⟨b5,Y⟩:=bS (RU:z.1=0) (show aX E none (z.2.2.drop z.1) from aF (by rw[bd];simp));rw[b5.o];clear ba ch bd;have O:=qM p (z.2.2.drop z.1) none 0 (M.length-z.1) M E I Y.o ab RU D;obtain⟨b6,am⟩:=aO (qy p M (z.2.2.drop z.1));have a7:=zH am;rw[<-am]at O;rw[show M.length-z.1=0 by omega,b7]at O;have bz:=zH (show aw 82 #[p,fe,()] E (zba b6 E) from O);clear O am;go_wp2_with fail
  refine bz.mono ?_;rintro e ck ⟨R,ac,rfl,H,F⟩;obtain⟨Z,U⟩:=bS H F;clear H F;go_wp2;go_ret
  exact⟨R,ac,by rw[J.o,<-a7.o];rfl,by rw[J.o,<-a7.o];exact Z.o.mono HW.size,HW.trans (U.o.mono Uq)⟩
 .obtain⟨_,_,a8,be,_⟩:=a6.view;simp only[fO]at a8;obtain⟨rfl,-,rfl⟩:=a8;obtain⟨R,cn,a9⟩:=zdn be (RU:z.2.2.length<=c2) z.1;have Y:=zH a9;clear be a9 cc ba;go_wp2_with fail
  with_reducible refine(qM p (z.2.2.drop z.1) (some R) (c2-z.1) (M.length-z.1) M E I.o Y.o ab.o RU D).mono ?_
  rintro e ck ⟨br,ac,rfl,H,F⟩;obtain⟨Z,U⟩:=bS H F;clear H F;go_wp2;go_ret
  exact⟨br,ac,by rw[J.o];rfl,by rw[J.o];exact Z.o.mono HW.size,HW.trans (U.o.mono Uq)⟩
def yg(p:Int)(M:aE)(A:an)(cap N n:Nat)(w:aa)(H:dr p=true)(a3:aX w A M)(s:iO p N n M)(E:N<=1048576)(I:n<=1048576):aw 81 #[p,.slice A N cap,n] w (zba (n_ p M n) w):=by
 have J:n_ p M n=zbf p N (Bo M n):=by unfold n_;rw[s.1]
 have D:=zH J;have U:=Cu s;have a0:=zH U;have a2:=s.1;subst a2;obtain⟨ap,ad⟩:=bS (show ∀r∈M,n<=r.length from fun r a4=>by rw[s.row r a4];exact ag _) H;clear J U s H;go_enter func81,ntmps81
 go_wp2_with fail
 refine(zz M _ _ n _ a3 E I ap).mono ?_;rintro e a5 ⟨u,rfl,Y,z⟩;obtain⟨A1,c1,rfl,O,_⟩:=Y.view;rw[xE]at ⊢;obtain⟨am,ab⟩:=bS O z;have R:=z.size;clear Y z O;go_wp2_with fail
 with_reducible refine(zaF p (Bo M n) A1 c1 n M a5 ad.o am.o a0.o I E).mono ?_
 rintro e a6 ⟨Z,a1,rfl,Q,F⟩;obtain⟨ao,ac⟩:=bS Q F;clear Q F;go_wp2;go_ret
 exact⟨Z,a1,by rw[D.o];rfl,by rw[D.o];exact ao.mono R,ab.trans (ac.mono R)⟩
end
end Go.Proofs.YtdpgblncijojiaaGreatDoor
