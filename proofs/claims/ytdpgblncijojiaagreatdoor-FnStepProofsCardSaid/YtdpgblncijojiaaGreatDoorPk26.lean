/- Parts of the walks. Conditions: as stated with each. -/
import Derived.Test.YtdpgblncijojiaaGreatDoorPk23
import Derived.Test.YtdpgblncijojiaaGreatDoorPk25
namespace Go.Proofs.YtdpgblncijojiaaGreatDoor
open Go.RowKit Tryz
set_option linter.all false
set_option maxHeartbeats 2000000
set_option maxRecDepth 100000
variable{D J i m n:Nat}{L Re:List jR}{Q:iF}{R:ir}{Rr:List Ed}{Rs:bW}{a:Act}{g:Gr}{o:ie}{p:Int}{ps:qX}{rest:List Oper}{s:Sy}{us:bN}{v v' v2:av}{w w':aa}{ys:List cZ}
def sq.of(h:g.okB=true):sq g:=by
 have z:=(Gr.nT h);have B:mX g=true:=by rw[<-z.okB];exact h
 unfold mX at B;simp only[bn,cw]at B;exact⟨z.inr,Ry,Ry,Ry,Ry,fun e D=>by have:=G1.el z e D;omega⟩
def NdP(p:Int)(x:jR):Prop:=x.k≠8/\x.k≠14/\(x.k=7∨x.k=13->x.v<p)
def me(k v:Int):jR:=⟨k,v,ByteArray.mk #[]⟩
def ze6(k v:Int):(me k v).nd=⟨k,v,true⟩:=by
 have h:(ByteArray.mk #[]).toList.isEmpty=true:=by
  have:(ByteArray.mk #[]).toList=[]:=by unfold ByteArray.toList;unfold ByteArray.toList.loop;rfl
  rw[this];rfl
 unfold me jR.nd;rw[h]
structure ll(p:Int)(L:List jR)(c:gY):Prop where
 ex:∃t:Tm,dR L=t.flat/\t.ty=some c
 nd:∀x∈L,NdP p x
def ll.leaf{k v:Int}(h:dV ⟨k,v,true⟩=true)(z:NdP p (me k v)):ll p [me k v] (qe ⟨k,v,true⟩,tK ⟨k,v,true⟩):=⟨⟨.lf ⟨k,v,true⟩,ml (fun x=>[x]) (ze6 k v),by unfold Tm.ty;rw[ar h]⟩,fun x B=>by rw[gy.1 B];exact z⟩
def ll.op{p:Int}{B D:List jR}{a b c:gY}{k:Int}(Q:ll p B a)(R:ll p D b)(h:jw k a b=some c):ll p (B++D++[me k 0]) c:=by
 obtain⟨⟨t,E,F⟩,H⟩:=Q;obtain⟨⟨u,I,J⟩,O⟩:=R;refine⟨⟨.op k t u,?_,?_⟩,fun x z=>?_⟩
 .rw[Tm.qc,<-E,<-I];simp[dR,ze6]
 .unfold Tm.ty;rw[F,J];exact h
 .rcases eO.1 z with z|z
  .rcases eO.1 z with z|z
   .exact H x z
   .exact O x z
  .rw[gy.1 z];have T:=qf h;refine⟨?_,?_,fun h=>?_⟩
   .show k≠8;omega
   .show k≠14;omega
   .rcases h with h|h
    .have h:k=7:=h;omega
    .have h:k=13:=h;omega
def ll.seq{z:List jR}{o:Nat}(B:ll p Re (i,m))(D:ll p z (m,o)):ll p (Re++z++[me 15 0]) (i,o):=B.op D (by simp[jw])
def ll.par{z:List jR}{o:Nat}(F:ll p Re (i,o))(H:ll p z (D,J))(B:i+D<=12)(E:o+J<=12):ll p (Re++z++[me 16 0]) (i+D,o+J):=F.op H (by simp[jw,B,E])
def ll.id(p:Int)(h:n<=12):ll p [me 1 n] (n,n):=by have:=ll.leaf (p:=p) (k:=1) (v:=n) (by simp[dV];omega) ⟨show(1:Int)≠8 by decide,show(1:Int)≠14 by decide,fun h=>by rcases h with h|h<;>exact absurd (show(1:Int)=_ from h) RC⟩;simpa[qe,tK]using this
def ll.zjs{v:Int}{s:ByteArray}{c:gY}(h:ll p [⟨1,v,s⟩] c):c.1=c.2:=by
 obtain⟨⟨t,B,z⟩,_⟩:=h;cases t with
 |lf n=>
  have e:n=⟨1,v,s.toList.isEmpty⟩:=by have:=B;simp[dR,Tm.flat,jR.nd]at this;exact this.symm
  unfold Tm.ty at z;split at z
  .cases z;rw[e];rfl
  .cases z
 |op k a b=>
  have:=ml List.length B;rw[Tm.qc]at this;simp[dR]at this;have D:0<a.flat.length:=by cases a <;>simp[Tm.flat] <;>omega
  omega
def ll.le{c:gY}(h:ll p L c):c.1<=12/\c.2<=12:=by obtain⟨⟨t,_,z⟩,_⟩:=h;exact Tm.zcS z
def ll.over{c:gY}{t:Tm}(h:ll p L c)(E:dR L=t.flat)(F:t.ty=some c):t.yo p:=by
 refine(Tm.ve F).2 ⟨?_,?_⟩
 .rw[<-E];unfold xX dR;rw[eD];intro n B;obtain⟨x,D,rfl⟩:=cd.1 B;have:=h.nd x D;simp only[bn,cw];exact⟨this.1,this.2.1⟩
 .rw[<-E];unfold xY dR;rw[eD];intro n B;obtain⟨x,D,rfl⟩:=cd.1 B;have:=(h.nd x D).2.2;simp only[mg,Bool.not_eq_true',DC,cw,DD];by_cases z:x.k=7∨x.k=13
  .exact aB (this z)
  .exact aG ⟨fun e=>z (aG e),fun e=>z (aB e)⟩
structure xQ(p:Int)(g:Gr):Prop where
 ok:g.okB=true
 val:∀e∈g.es,0<=e.v/\e.v<p
def gr0:Gr:=⟨0,[],[],[]⟩
def xQ.nil(p:Int):xQ p gr0:=⟨RC,fun e z=>by cases z⟩
def zdr(g:Gr)(c:bW):(lT g c).length<=g.w:=by have:=yW (fun r=>decide (c.getD r 0=r)&&(List.range g.w).any fun x=>g.onB x&&decide (c.getD x 0=r)) (List.range g.w);rw[hJ]at this;exact this
def zgP{i o:bW}(h:g.okB=true)(hi:i.length<=12/\∀x∈i,x<g.w)(E:o.length<=12/\∀x∈o,x<g.w)(O:∀q∈ps,q.1<g.w/\q.2<g.w):(iB ⟨g.w,g.es,i,o⟩ ps).okB=true:=by
 have B:=Gr.nT h;have J:Gr.In ⟨g.w,g.es,i,o⟩:=fun x z=>by
  rcases z with z|z|z
  .exact hi.2 x z
  .exact E.2 x z
  .exact B.inr x (aB (aB z))
 have F:(iB ⟨g.w,g.es,i,o⟩ ps).G1:=zcx J B.fit O;rw[F.okB];have D:=Gr.gx.1 h;have H:=zdr ⟨g.w,g.es,i,o⟩ (ji g.w ps);unfold mX;simp only[bn,cw];refine⟨?_,?_,?_,?_⟩
 .show(lT _ _).length<=100
  have I:(lT ⟨g.w,g.es,i,o⟩ (ji g.w ps)).length<=g.w:=H;exact bE I D.1
 .show(g.es.map _).length<=60
  rw[bl];exact D.2.1
 .show(i.map _).length<=12
  rw[bl];exact hi.1
 .show(o.map _).length<=12
  rw[bl];exact E.1
def xQ.glue{i o:bW}(h:xQ p g)(hi:i.length<=12/\∀x∈i,x<g.w)(E:o.length<=12/\∀x∈o,x<g.w)(F:∀q∈ps,q.1<g.w/\q.2<g.w):xQ p (iB ⟨g.w,g.es,i,o⟩ ps):=
 ⟨zgP h.ok hi E F,fun e B=>by obtain⟨z,D,rfl⟩:=cd.1 B;exact h.val z D⟩
def xQ.ziT{W:bW}(h:xQ p g)(R:W.Perm (List.range g.w))(ac:Rs.Perm (List.range g.es))(ao:Rr.length=g.es)(T:∀(j k:Nat) (e:Ed),Rs[j]?=some k->g.es[j]?=some e->Rr[k]?=some (e.map fun x=>W.getD x 0)):xQ p ⟨g.w,Rr,g.i.map (fun x=>W.getD x 0),g.o.map (fun x=>W.getD x 0)⟩:=by
 obtain⟨f,U⟩:∃f:gj,f=fun x=>W.getD x 0:=⟨_,rfl⟩
 rw[<-U]at T ⊢;have H:=Gr.nT h.ok;have a2:W.length=g.w:=by rw[R.length_eq,hJ]
 have a1:Rs.length=g.es:=by rw[ac.length_eq,hJ]
 have O:∀x,x<g.w->f x<g.w:=fun x z=>by
  rw[U]
  show W.getD x 0<g.w
  rw[bg,dq Ry];exact dQ.1 (R.mem_iff.1 (oX _))
 have ap:∀y,y<g.w->∃x,x<g.w/\f x=y:=fun y E=>by
  obtain⟨x,z,e⟩:=wD.1 (R.mem_iff.2 (dQ.2 E));refine⟨x,Ry,?_⟩;rw[U]
  show W.getD x 0=y
  rw[bg,dq z,e];rfl
 have Z:∀e∈Rr,∃B∈g.es,e=B.map f:=fun e D=>by obtain⟨k,am,Q⟩:=wD.1 D;obtain⟨j,ab,ad⟩:=wD.1 (ac.mem_iff.2 (dQ.2 (Ry:k<g.es.length)));have I:=T j k _ (by rw[dq ab,ad]) (dq (Ry:j<g.es.length));rw[dq am,Q]at I;exact⟨_,oX _,eE I⟩
 have a0:∀B∈g.es,B.map f∈Rr:=fun B D=>by obtain⟨j,ab,Q⟩:=wD.1 D;have I:=T j (Rs[j]'Ry) B (dq _) (by rw[dq ab,Q]);exact aR I
 have I:Gr.G1 ⟨g.w,Rr,g.i.map f,g.o.map f⟩:=by
  refine⟨fun x z=>?_,fun e D=>?_,fun x z=>?_⟩
  .show x<g.w
   rcases z with z|z|⟨e,D,z⟩
   .obtain⟨y,E,rfl⟩:=cd.1 z;exact O y (H.inr y (aG E))
   .obtain⟨y,E,rfl⟩:=cd.1 z;exact O y (H.inr y (aB (aG E)))
   .obtain⟨B,F,rfl⟩:=Z e D;rcases z with z|z
    .obtain⟨y,E,rfl⟩:=cd.1 z;exact O y (H.inr y (aB (aB ⟨B,F,aG E⟩)))
    .obtain⟨y,E,rfl⟩:=cd.1 z;exact O y (H.inr y (aB (aB ⟨B,F,aB E⟩)))
  .obtain⟨B,F,rfl⟩:=Z e D;rw[Ed.CG];exact H.fit B F
  .obtain⟨y,E,rfl⟩:=ap x z;rcases H.on y E with h|h|⟨e,D,h⟩
   .exact aG (cd.2 ⟨y,h,rfl⟩)
   .exact aB (aG (cd.2 ⟨y,h,rfl⟩))
   .refine aB (aB ⟨_,a0 e D,?_⟩);exact Xl
 refine⟨?_,fun e D=>?_⟩
 .rw[I.okB];have J:=Gr.gx.1 h.ok;unfold mX;simp only[bn,cw];exact⟨J.1,by rw[ao];exact J.2.1,by rw[bl];exact J.2.2.1,by rw[bl];exact J.2.2.2.1⟩
 .obtain⟨B,F,rfl⟩:=Z e D;exact h.val B F
def zhp:decide ((n:Int)<=3000)=decide (n<=3000):=by rw[nl];simp;omega
def Dp(p:Int)(s:Sy)(n:Nat):Bool:=gg p s.v s.h s.rows&&decide (n<=3000)
def vG:Dp p s n=true↔s.Ok p/\n<=3000:=by unfold Dp Sy.Ok;rw[bn,il,cw]
def yf(p:Int)(s:Sy)(A:aq)(cap n:Nat)(w:aa)(Q:aq)(Z:Nat)(I:cU w)(J:aL w A s.rows)(R:s.rows.length<=1048576)(O:∀r∈s.rows,r.length<=1048576)(ab:n<=1048576):ax 47 #[p,.agg (ae s.v s.h A s.rows cap),.slice Q n Z] w (fp w (Dp p s n)):=by
 have D:=zH ((ai w w).alloc (ah _) (.cells (ae s.v s.h A s.rows cap) 26));have E:=zH (jg p s.v s.h A cap s.rows _ (I.ext D.o) (J.ext D.o) (dM R) (fun r T=>dM (O r T)));clear I J O;cases z:gg p s.v s.h s.rows with
 |false=>
  have H:=zH z;rw[z]at E;clear z;go_enter func47,ntmps47
  go_wp2_with (go_at_call 33;refine E.o.mono ?_;rintro e U ⟨rfl,B⟩;have F:=zH (an D.o B);clear B)
  go_ret
  exact⟨aO (by simp[Dp,H.o]),F⟩
 |true=>
  have H:=zH z;rw[z]at E;clear z;go_enter func47,ntmps47
  go_wp2_with (go_at_call 33;refine E.o.mono ?_;rintro e U ⟨rfl,B⟩;have F:=zH (an D.o B);clear B)
  go_ret
  exact⟨aO (by simp[Dp,H.o,zhp]),F⟩
def yu(p:Int)(s:Sy)(xs:List cZ):Bool:=Dp p s xs.length&&decide (bB p s xs=xs.length)
def Cx:∀{xs ys:List cZ} {us us2:bN},us.length=xs->gU (xs++ys) (us++us2)=gU xs us++gU ys us2
 |[],ys,us,us2,h=>Xe
 |x::xs,ys,[],_,h=>RR
 |x::xs,ys,u::us,us2,h=>by have:=Cx (xs:=xs) (ys:=ys) (us:=us) (us2:=us2) R3;simp[gU,this]
def Cy:∀{xs:List cZ} {us:bN},(∀u∈us,∃A n c,u=.slice A n c)->∀B∈gU xs us,B.oneCell'=true
 |[],us,_,B,z=>by simp[gU]at z
 |x::xs,[],_,B,z=>by simp[gU]at z
 |x::xs,u::us,h,B,z=>by
  rw[gU]at z;rcases eO.1 z with D|D
  .obtain⟨A,n,c,rfl⟩:=h u (nw ..);simp[dx]at D;rcases D with rfl|rfl|rfl|rfl|rfl <;>rfl
  .exact Cy (fun u E=>h u (nv _ E)) B D
def bG.nQ{xs:List cZ}{us2:bN}(h:bG w D v xs us)(H:bG w J v2 ys us2)(ab:D<=J)(am:∀u∈us,∀b,u.ownBlock=some b->b<J)(ap:w'.ownsRow D 29 5 v' (xs.length+ys) (gU xs us++gU ys us2))(Z:w.grownBy w' v.ownBlock):bG w' D v' (xs++ys) (us++us2):=by
 refine⟨by simp[h.len,H.len],by rw[Cx h.len];simpa using ap,?_,?_⟩
 .intro k u x E F;by_cases hk:k<us.length
  .rw[dr hk]at E;rw[dr TQ]at F;exact au.kept (h.each k u x E F) Z (iY RC (h.each k u x E F) h.outer)
  .rw[gD Ry]at E;rw[gD (by rw[<-h.len];omega),<-h.len]at F;exact(au.kept (H.each _ u x E F) Z (iY RC (H.each _ u x E F) h.outer)).mono ab
 .have U:∀(u Q:av) (b:Nat),u∈us->Q∈us2->u.ownBlock=some b->Q.ownBlock=some b->False:=fun u Q b E a0 ac ad=>by have z:=am u E b ac;obtain⟨k,hk⟩:=eN.1 a0;obtain⟨x,_,ao⟩:=H.lp hk;have:=(ao.lt b ad).1;omega
  intro i j u1 u2 b z B I O;by_cases R:i<us.length <;>by_cases T:j<us.length
  .rw[dr R]at z;rw[dr T]at B;exact h.apart i j u1 u2 b z B I O
  .rw[dr R]at z;rw[gD Ry]at B;exact(U u1 u2 b (aR z) (aR B) I O).elim
  .rw[gD Ry]at z;rw[dr T]at B;exact(U u2 u1 b (aR B) (aR z) O I).elim
  .rw[gD Ry]at z;rw[gD Ry]at B;have:=H.apart _ _ u1 u2 b z B I O;omega
def ox(T:o.guard=none)(s x:kE)(ab:o.op=.call {callee:=.builtin .append,args:=#[s,x],argTypes:=#[44,44]})(z D:Nat)(W:aa)(v v2:av)(xs ys:List cZ)(be:bX W z v xs)(am:bX W D v2 ys)(a2:∃I,I.heap.size<=D/\bX I z v xs/\aj I W)(ao:z<=D)(bi:D<=(W:Nat))(bv:xs.length+ys<=1048576)(ad:a.eval s=v)(B:a.eval x=v2)(h:∀v' w',bX w' z v' (xs++ys)->Below z W w'->wpList prog Q R rest (a.put o.dst v') w'):wpList prog Q R (o::rest) a W:=by
 obtain⟨bd,hi,a9,ba,bb⟩:=cM CO;obtain⟨I,b0,⟨us,ac⟩,a0⟩:=a2;have F:=ac.ext a0;obtain⟨us2,H⟩:=am;have a4:∀u∈us,∀b,u.ownBlock=some b->b<D:=fun u J b ap=>by obtain⟨k,E⟩:=eN.1 J;obtain⟨x,_,B⟩:=ac.lp E;have:=(B.lt b ap).2;omega
 have a7:∀u∈us2,∃A n c,u=.slice A n c:=fun u J=>by obtain⟨k,E⟩:=eN.1 J;obtain⟨x,_,B⟩:=H.lp E;obtain⟨A,c,e,_⟩:=B.view;exact⟨A,_,c,e⟩
 rcases H.outer.2 with⟨rfl,O⟩|⟨g,cap,cur,rfl,br,bp,Z,bm,bo,bz⟩
 .have a8:ys=[]:=fw O;subst a8;refine qH T fun K hK=>?_
  have a6:(Builtin.append_ #[44,44] o.type #[v,.slice none 0 0]).run prog W=.ok v W:=by
   rcases F.outer.2 with⟨rfl,O⟩|⟨g,cap,cur,rfl,_,_,Z,_⟩
   .simp[Builtin.append_,zm wT,sizeOf,typeInfo,hi,Builtin.lenOf,Builtin.firstCells]
   .simp[Builtin.append_,zm wT,sizeOf,typeInfo,hi,Builtin.lenOf,Builtin.firstCells,Z,storeCells]
  unfold Oper.wp;simp[execOp,ab,resolve,invoke,builtin,ad,B,a6,Result.andThen];exact hK _ _ (h v W ⟨us,by simpa using F⟩ (ai _ _))
 .have a1:=pc H.outer (g:=g) rfl;refine wH _ T s x 44 ab z 29 bd (.agg dH) 5 56 wT hi a9 ba bb rfl RC v _ _ ad F.outer ⟨g,0,none⟩ ys cap (gU ys us2) B (w_ H.len) (fun j u a3=>a1 j u a3) (Cy a7) ?_ ?_ ?_ ?_
  .unfold maxLen;omega
  .omega
  .omega
  .intro v' w' a5 U _;exact h v' w' ⟨_,F.nQ H ao a4 a5 U⟩ ((ai _ _).grown U Ry fun k E=>(b_ F.outer k E).1)
def sd(A A2:aq)(cap z:Nat)(xs ys:aH)(w:aa)(h:aU w A xs)(h2:aU w A2 ys)(D:xs.length<=maxLen)(E:ys.length<=maxLen):ax 120 (nj A xs cap A2 ys z) w (fp w (decide (xs=ys))):=by
 unfold maxLen at D E;by_cases hn:xs.length=ys
 .have B:((xs:Int)!=(ys:Int))=false:=RN;have Hn:=zH hn;clear hn;go_enter func120,ntmps120
  exact Z5
 .have B:((xs:Int)!=(ys:Int))=true:=RX;go_enter func120,ntmps120
  exact Xr
def zcj(A A2:aq)(cap a7:Nat)(xs ys:aC)(w:aa)(h:aL w A xs)(U:aL w A2 ys)(bb:xs.length<=maxLen)(bd:ys.length<=maxLen)(a4:∀r∈xs,r.length<=maxLen)(a5:∀r∈ys,r.length<=maxLen):ax 122 (nj A xs cap A2 ys a7) w (fp w (decide (xs=ys))):=by
 unfold maxLen at bb bd;by_cases hn:xs.length=ys
 .have ba:((xs:Int)!=(ys:Int))=false:=RN;have Hn:=zH hn;clear hn;go_enter func122,ntmps122
  go_wp2;go_loopw [13] (fun i wr=>∃k:Nat,k<=xs.length/\i=.int .i64 k/\xs.take k=ys.take k/\aj w wr) (fun i _=>xs.length-(intOf i).toNat)
  case atStart=>exact⟨0,aT _,rfl,Rx,ai _ _⟩
  case round=>
   obtain⟨k,bi,rfl,Z,Ey⟩:=hrel;have EB:=zH Z;clear Z;by_cases a2:k<xs.length
   .have a3:k<ys.length:=by have:=Hn.o;omega
    obtain⟨x,B⟩:=aw a2;obtain⟨y,D⟩:=aw a3;obtain⟨b,o,rfl,ab⟩:=(h.ext Ey).here a2;obtain⟨a6,be,rfl,ac⟩:=(U.ext Ey).here a3;obtain⟨A3,a8,ad,ao⟩:=ab k x B;obtain⟨H,a9,am,a0⟩:=ac k y D;have c1:∀W:Ext wr,af W.W b (o+k) (.slice A3 x a8):=fun W=>W.cell ad
    have c2:∀W:Ext wr,af W.W a6 (be+k) (.slice H y a9):=fun W=>W.cell am
    have ap:∀W:Ext wr,aU W.W A3 x:=fun W=>ao.ext W.ok
    have a1:∀W:Ext wr,aU W.W H y:=fun W=>a0.ext W.ok
    obtain⟨I,J,R,T,O,Q⟩:=lq ap a1 (a4 x (aR B)) (a5 y (aR D)) B D;clear B D ab ac h U a4 a5 ao a0 ap a1 ad am;by_cases z:x=y
    .obtain⟨E,F⟩:=bL (fJ z) z;clear z;go_wp2;refine bM RU RU ?_
     repeat (go_big_quiet_step ((go_at_call 140;exact Calls.eF (Calls.bj (AY _ _ _ _ _ _ _ (I.o _) (J.o _) R.o T) E.o))))
     refine dm ?_;rintro _ ⟨W,rfl⟩;go_wp2;go_roundw
     case rel=>exact⟨k+1,Ry,RB,lu EB O (by rw[F.o];exact Q.o),an Ey W.ok⟩
     case measure=>simp[intOf];omega
    .obtain⟨E,F⟩:=bL (fh z) z;clear z;go_wp2;refine bM RU RU ?_
     repeat (go_big_quiet_step ((go_at_call 140;exact Calls.eF (Calls.bj (AY _ _ _ _ _ _ _ (I.o _) (J.o _) R.o T) E.o))))
     refine dm ?_;rintro _ ⟨W,rfl⟩;go_wp2;go_ret
     exact⟨aO (fh (DW O Q.o F)).symm,an Ey W.ok⟩
   .exact XT
 .have ba:((xs:Int)!=(ys:Int))=true:=RX;go_enter func122,ntmps122
  exact Xr
def Bv(A A2:aq)(cap a4:Nat)(xs ys:aC)(w:aa)(h:aL w A xs)(ab:aL w A2 ys)(a6:xs.length<=maxLen)(a7:ys.length<=maxLen)(a2:∀r∈xs,r.length<=maxLen)(a3:∀r∈ys,r.length<=maxLen):ax 125 #[.slice A xs cap,.slice A2 ys a4,.func (.func 120) #[] #[]] w (fp w (decide (xs=ys))):=by
 unfold maxLen at a6 a7;by_cases hn:xs.length=ys
 .have a5:((xs:Int)!=(ys:Int))=false:=RN;have Hn:=zH hn;clear hn;go_enter func125,ntmps125
  go_wp2;go_loopw [17] (fun i wr=>∃k:Nat,k<=xs.length/\i=.int .i64 k/\xs.take k=ys.take k/\aj w wr) (fun i _=>xs.length-(intOf i).toNat)
  case atStart=>exact⟨0,aT _,rfl,Rx,ai _ _⟩
  case round=>
   obtain⟨k,bm,rfl,ac,Ey⟩:=hrel;have EB:=zH ac;clear ac;by_cases a0:k<xs.length
   .have a1:k<ys.length:=by have:=Hn.o;omega
    obtain⟨x,D⟩:=aw a0;obtain⟨y,E⟩:=aw a1;obtain⟨b,o,rfl,ad⟩:=(h.ext Ey).here a0;obtain⟨ba,bo,rfl,am⟩:=(ab.ext Ey).here a1;obtain⟨A3,bb,be,ao⟩:=ad k x D;obtain⟨a9,bd,bi,ap⟩:=am k y E;obtain⟨O,Q,U,Z,R,T,J⟩:=zH7 ao ap (a2 x (aR D)) (a3 y (aR E)) D E Ey;clear D E ad am h ab a2 a3 ao ap Ey;by_cases z:x=y
    .obtain⟨F,I⟩:=bL (fJ z) z;clear z;go_wp2_with (go_at_call 120;refine(Calls.bj (sd _ _ _ _ x y _ O Q.o U.o Z) F).mono ?_;rintro e a8 ⟨rfl,B⟩;have H:=zH (an J.o B);clear B)
     go_roundw
     case rel=>exact⟨k+1,Ry,RB,lu EB R.o (by rw[I.o];exact T),H.o⟩
     case measure=>simp[intOf];omega
    .obtain⟨F,I⟩:=bL (fh z) z;clear z;go_wp2_with (go_at_call 120;refine(Calls.bj (sd _ _ _ _ x y _ O Q.o U.o Z) F).mono ?_;rintro e a8 ⟨rfl,B⟩;have H:=zH (an J.o B);clear B)
     go_ret
     exact⟨aO (fh (DW R.o T I)).symm,H.o⟩
   .exact XT
 .have a5:((xs:Int)!=(ys:Int))=true:=RX;go_enter func125,ntmps125
  exact Xr
def Dx(A A2:aq)(cap D:Nat)(xs ys:aC)(w:aa)(h:aL w A xs)(E:aL w A2 ys)(F:xs.length<=maxLen)(H:ys.length<=maxLen)(I:∀r∈xs,r.length<=maxLen)(J:∀r∈ys,r.length<=maxLen):ax 98 (nj A xs cap A2 ys D) w (fp w (decide (xs=ys))):=by
 go_enter func98,ntmps98
 go_wp2_with (go_at_call 125;refine(Bv _ _ _ _ xs ys _ h E F H I J).mono ?_;rintro e O ⟨rfl,z⟩;have B:=zH z;clear z)
 go_ret
 exact⟨rfl,B⟩
def jm(a b:Sy):Bool:=decide (a.v=b.v)&&(decide (a.h=b.h)&&decide (a.rows=b.rows))
def l9(a b:Sy)(A A2:aq)(cap E:Nat)(w:aa)(h:aL w A a.rows)(I:aL w A2 b.rows)(T:a.rows.length<=maxLen)(U:b.rows.length<=maxLen)(O:∀r∈a.rows,r.length<=maxLen)(Q:∀r∈b.rows,r.length<=maxLen):ax 58 (jI (ae a.v a.h A a.rows cap) (ae b.v b.h A2 b.rows E)) w (fp w (jm a b)):=by
 have D:=((ai w w).alloc Rx (.cells (ae a.v a.h A a.rows cap) 26)).alloc Rx (.cells (ae b.v b.h A2 b.rows E) 26);obtain⟨HB,H⟩:=bL D (Dx A A2 cap E a.rows b.rows _ (h.ext D) (I.ext D) T U O Q);clear D h I O Q;by_cases B:a.v=b.v
 .have Z:(a.v==b.v)=true:=by simp[B]
  have HV:=zH (fJ B);clear B;by_cases z:a.h=b.h
  .have R:(a.h==b.h)=true:=by simp[z]
   have HH:=zH (fJ z);clear z;obtain⟨q,F⟩:=aK (decide (a.rows=b.rows));rw[<-F]at H;have HQ:=zH F;clear F;go_enter func58,ntmps58
   go_wp2_with (go_at_call 98;refine H.o.mono ?_;rintro e ab ⟨rfl,J⟩;have EE:=zH (an HB J);clear J)
   exact Xf
  .have R:(a.h==b.h)=false:=by simp[z]
   have HH:=zH (fh z);clear z;go_enter func58,ntmps58
   exact Xb
 .have Z:(a.v==b.v)=false:=by simp[B]
  have HV:=zH (fh B);clear B;go_enter func58,ntmps58
  exact WV
def zck(a b:Sy)(A A2:aq)(cap E:Nat)(w:aa)(h:aL w A a.rows)(I:aL w A2 b.rows)(T:a.rows.length<=maxLen)(U:b.rows.length<=maxLen)(O:∀r∈a.rows,r.length<=maxLen)(Q:∀r∈b.rows,r.length<=maxLen):ax 95 (jI (ae a.v a.h A a.rows cap) (ae b.v b.h A2 b.rows E)) w (fp w (jm a b)):=by
 have D:=((ai w w).alloc Rx (.cells (ae a.v a.h A a.rows cap) 26)).alloc Rx (.cells (ae b.v b.h A2 b.rows E) 26);obtain⟨HB,H⟩:=bL D (zcj A A2 cap E a.rows b.rows _ (h.ext D) (I.ext D) T U O Q);clear D h I O Q;by_cases B:a.v=b.v
 .have Z:(a.v==b.v)=true:=by simp[B]
  have HV:=zH (fJ B);clear B;by_cases z:a.h=b.h
  .have R:(a.h==b.h)=true:=by simp[z]
   have HH:=zH (fJ z);clear z;obtain⟨q,F⟩:=aK (decide (a.rows=b.rows));rw[<-F]at H;have HQ:=zH F;clear F;go_enter func95,ntmps95
   go_wp2_with (go_at_call 122;refine H.o.mono ?_;rintro e ab ⟨rfl,J⟩;have EE:=zH (an HB J);clear J)
   exact Xf
  .have R:(a.h==b.h)=false:=by simp[z]
   have HH:=zH (fh z);clear z;go_enter func95,ntmps95
   exact Xb
 .have Z:(a.v==b.v)=false:=by simp[B]
  have HV:=zH (fh B);clear B;go_enter func95,ntmps95
  exact WV
end Go.Proofs.YtdpgblncijojiaaGreatDoor
