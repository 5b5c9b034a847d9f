/- Parts of the walks. Conditions: as stated with each. -/
import Derived.Test.YtdpgblncijojiaaGreatDoorPk36
namespace Go.Proofs.YtdpgblncijojiaaGreatDoor
open Go.RowKit Tryz
set_option linter.all false
set_option maxHeartbeats 2000000
variable{D RP i m n:Nat}{L RD:List jJ}{RN:List Ed}{RO:bX}{g:Gr}{p:Int}{ps:qx}{s:Sy}
def zbW(p v h k a b c:Int)(rows:aE)(row:aG)(w:aa)(e:Ending)(w':aa):Prop:=
 e=.returned (.tuple #[.bool (fZ p v h rows&&ja p v h rows k a b c row),.bool (fZ p v h rows)])/\ai w w'
def CZ(p v h k a b c:Int)(A:an)(cap:Nat)(rows:aE)(w:aa)(H:an)(row:aG)(Q:Nat)(J:dm w)(O:aX w A rows)(Y:aT w H row)(ac:rows.length<=maxLen)(ad:∀r∈rows,r.length<=maxLen)(am:row.length<=1048576):aw 9 (eB p (ae v h A rows cap) (bB k a b c H row Q)) w (zbW p v h k a b c rows row w):=by
 obtain⟨ao,ap,a2⟩:=d_ ac ad am;clear ac ad am;have I:Below w w ((w.alloc (.cells (ae v h A rows cap) 26)).alloc (.cells (bB k a b c H row Q) 29)):=((aj w w).alloc RS _).alloc RS _;obtain⟨R,F,a0,a1,a3⟩:=lv I (jV p v h A cap rows _ (J.ext I) (O.ext I) ao ap) J O Y;clear I J O Y;go_enter func9,ntmps9
 cases E:fZ p v h rows with
 |false=>
  have HS:=zH E;rw[E]at F;clear E;go_wp2_with (go_at_call 33;refine F.mono ?_;rintro e a4 ⟨rfl,z⟩;have D:=zH z;clear z)
  refine ax (v:=.tuple #[.bool false,.bool false]) U6 rfl ⟨SK,?_⟩;exact R.o.trans (D.o.mono SJ)
 |true=>
  have HS:=zH E;rw[E]at F;clear E;go_wp2_with (first|(go_at_call 33;refine F.mono ?_;rintro e a4 ⟨rfl,z⟩;have ab:=R.o.trans (z.mono (B':=w.heap.size) SJ);have D:=zH ab;obtain⟨a5,c1,c2,_⟩:=kV z (b:=w.heap.size) ((b_ _ _ RS).trans (az _ _ rfl));obtain⟨⟨d0,d1,d2,d3,d4⟩,_⟩:=jk z (b:=(w:Nat)+1) (az _ _ RS);clear z ab)|(go_at_call 34;refine(yU p v h k a b c A cap rows _ H row Q (a0.ext D.o) (a1.ext D.o) (a3.ext D.o) a2 (jI.1 HS)).mono ?_;rintro e a8 ⟨v2,a7,A2,n2,a6,rfl,_,_,Z⟩;have U:=zH (af D.o Z);clear Z))
  refine ax (v:=.tuple #[.bool (ja p v h rows k a b c row),.bool true]) U6 rfl ⟨SK,U.o.alloc (U.o.size) _⟩
def C0(p v h k a b c:Int)(A:an)(cap:Nat)(rows:aE)(w:aa)(H:an)(row:aG)(O:Nat)(J:aX w A rows)(R:aT w H row)(Z:rows.length<=maxLen)(ab:∀r∈rows,r.length<=maxLen)(ac:row.length<=1048576):aw 10 (eB p (ae v h A rows cap) (bB k a b c H row O)) w (zbW p v h k a b c rows row w):=by
 obtain⟨am,ao,a0⟩:=d_ Z ab ac;clear Z ab ac;have I:Below w w ((w.alloc (.cells (ae v h A rows cap) 26)).alloc (.cells (bB k a b c H row O) 29)):=((aj w w).alloc RS _).alloc RS _;obtain⟨Q,F,ap,a1⟩:=fU I (pv p v h A cap rows _ (J.ext I) am ao) J R;clear I J R;go_enter func10,ntmps10
 cases D:fZ p v h rows with
 |false=>
  have HS:=zH D;rw[D]at F;clear D;go_wp2_with (go_at_call 35;refine F.mono ?_;rintro e a2 ⟨rfl,z⟩;have E:=zH z;clear z)
  refine ax (v:=.tuple #[.bool false,.bool false]) Vd rfl ⟨SK,?_⟩;exact Q.o.trans (E.o.mono SJ)
 |true=>
  have HS:=zH D;rw[D]at F;clear D;go_wp2_with (first|(go_at_call 35;refine F.mono ?_;rintro e a2 ⟨rfl,z⟩;have Y:=Q.o.trans (z.mono (B':=w.heap.size) SJ);have E:=zH Y;obtain⟨a3,c1,c2,_⟩:=kV z (b:=w.heap.size) ((b_ _ _ RS).trans (az _ _ rfl));obtain⟨⟨d0,d1,d2,d3,d4⟩,_⟩:=jk z (b:=(w:Nat)+1) (az _ _ RS);clear z Y)|(go_at_call 36;refine(nm p v h k a b c A cap rows _ H row O (ap.ext E.o) (a1.ext E.o) a0 (jI.1 HS)).mono ?_;rintro e a4 ⟨rfl,U⟩;have ad:=zH (af E.o U);clear U))
  refine ax (v:=.tuple #[.bool (ja p v h rows k a b c row),.bool true]) Vd rfl ⟨SK,ad⟩
def NdP(p:Int)(x:jJ):Prop:=x.k≠8/\x.k≠14/\(x.k=7∨x.k=13->x.v<p)
def lJ(k v:Int):jJ:=⟨k,v,ByteArray.mk #[]⟩
def zew(k v:Int):(lJ k v).nd=⟨k,v,true⟩:=by
 have h:(ByteArray.mk #[]).toList.isEmpty=true:=by
  have:(ByteArray.mk #[]).toList=[]:=by unfold ByteArray.toList;unfold ByteArray.toList.loop;rfl
  rw[this];rfl
 unfold lJ jJ.nd;rw[h]
structure kS(p:Int)(L:List jJ)(c:gW):Prop where
 ex:∃t:Tm,dY L=t.flat/\t.ty=some c
 nd:∀x∈L,NdP p x
def kS.leaf{k v:Int}(h:dZ ⟨k,v,true⟩=true)(z:NdP p (lJ k v)):kS p [lJ k v] (pz ⟨k,v,true⟩,sN ⟨k,v,true⟩):=⟨⟨.lf ⟨k,v,true⟩,mX (fun x=>[x]) (zew k v),by unfold Tm.ty;rw[ay h]⟩,fun x D=>by rw[gp.1 D];exact z⟩
def kS.op{p:Int}{D E:List jJ}{a b c:gW}{k:Int}(R:kS p D a)(U:kS p E b)(h:jl k a b=some c):kS p (D++E++[lJ k 0]) c:=by
 obtain⟨⟨t,F,H⟩,I⟩:=R;obtain⟨⟨u,J,O⟩,Q⟩:=U;refine⟨⟨.op k t u,?_,?_⟩,fun x z=>?_⟩
 .rw[Tm.py,<-F,<-J];simp[dY,zew]
 .unfold Tm.ty;rw[H,O];exact h
 .rcases fc.1 z with z|z
  .rcases fc.1 z with z|z
   .exact I x z
   .exact Q x z
  .rw[gp.1 z];have Y:=pA h;refine⟨?_,?_,fun h=>?_⟩
   .show k≠8;omega
   .show k≠14;omega
   .rcases h with h|h
    .have h:k=7:=h;omega
    .have h:k=13:=h;omega
def kS.seq{z:List jJ}{o:Nat}(D:kS p RD (i,m))(E:kS p z (m,o)):kS p (RD++z++[lJ 15 0]) (i,o):=D.op E (by simp[jl])
def kS.par{z:List jJ}{o:Nat}(H:kS p RD (i,o))(I:kS p z (D,RP))(E:i+D<=12)(F:o+RP<=12):kS p (RD++z++[lJ 16 0]) (i+D,o+RP):=H.op I (by simp[jl,E,F])
def kS.id(p:Int)(h:n<=12):kS p [lJ 1 n] (n,n):=by have:=kS.leaf (p:=p) (k:=1) (v:=n) (by simp[dZ];omega) ⟨show(1:Int)≠8 by decide,show(1:Int)≠14 by decide,fun h=>by rcases h with h|h<;>exact absurd (show(1:Int)=_ from h) RX⟩;simpa[pz,sN]using this
def kS.zi6{v:Int}{s:ByteArray}{c:gW}(h:kS p [⟨1,v,s⟩] c):c.1=c.2:=by
 obtain⟨⟨t,D,z⟩,_⟩:=h;cases t with
 |lf n=>
  have e:n=⟨1,v,s.toList.isEmpty⟩:=by have:=D;simp[dY,Tm.flat,jJ.nd]at this;exact this.symm
  unfold Tm.ty at z;split at z
  .cases z;rw[e];rfl
  .cases z
 |op k a b=>
  have:=mX List.length D;rw[Tm.py]at this;simp[dY]at this;have E:0<a.flat.length:=by cases a <;>simp[Tm.flat] <;>omega
  omega
def kS.le{c:gW}(h:kS p L c):c.1<=12/\c.2<=12:=by obtain⟨⟨t,_,z⟩,_⟩:=h;exact Tm.zcd z
def kS.over{c:gW}{t:Tm}(h:kS p L c)(F:dY L=t.flat)(H:t.ty=some c):t.xe p:=by
 refine(Tm.tW H).2 ⟨?_,?_⟩
 .rw[<-F];unfold wP dY;rw[fp];intro n D;obtain⟨x,E,rfl⟩:=cf.1 D;have:=h.nd x E;simp only[bC,cK];exact⟨this.1,this.2.1⟩
 .rw[<-F];unfold wQ dY;rw[fp];intro n D;obtain⟨x,E,rfl⟩:=cf.1 D;have:=(h.nd x E).2.2;simp only[lQ,Bool.not_eq_true',CN,cK,CO];by_cases z:x.k=7∨x.k=13
  .exact aA (this z)
  .exact aF ⟨fun e=>z (aF e),fun e=>z (aA e)⟩
structure wG(p:Int)(g:Gr):Prop where
 ok:g.okB=true
 val:∀e∈g.es,0<=e.v/\e.v<p
def gr0:Gr:=⟨0,[],[],[]⟩
def wG.nil(p:Int):wG p gr0:=⟨RX,fun e z=>by cases z⟩
def zcR(g:Gr)(c:bX):(lA g c).length<=g.w:=by have:=List.length_filter_le (fun r=>decide (c.getD r 0=r)&&(List.range g.w).any fun x=>g.DT x&&decide (c.getD x 0=r)) (List.range g.w);rw[g_]at this;exact this
def zgj{i o:bX}(h:g.okB=true)(hi:i.length<=12/\∀x∈i,x<g.w)(F:o.length<=12/\∀x∈o,x<g.w)(Q:∀q∈ps,q.1<g.w/\q.2<g.w):(iK ⟨g.w,g.es,i,o⟩ ps).okB=true:=by
 have D:=Gr.nv h;have O:Gr.In ⟨g.w,g.es,i,o⟩:=fun x z=>by
  rcases z with z|z|z
  .exact hi.2 x z
  .exact F.2 x z
  .exact D.inr x (aA (aA z))
 have H:(iK ⟨g.w,g.es,i,o⟩ ps).G1:=zbY O D.fit Q;rw[H.okB];have E:=Gr.gl.1 h;have I:=zcR ⟨g.w,g.es,i,o⟩ (jb g.w ps);unfold mH;simp only[bC,cK];refine⟨?_,?_,?_,?_⟩
 .show(lA _ _).length<=100
  have J:(lA ⟨g.w,g.es,i,o⟩ (jb g.w ps)).length<=g.w:=I;exact bc J E.1
 .show(g.es.map _).length<=60
  rw[bt];exact E.2.1
 .show(i.map _).length<=12
  rw[bt];exact hi.1
 .show(o.map _).length<=12
  rw[bt];exact F.1
def wG.glue{i o:bX}(h:wG p g)(hi:i.length<=12/\∀x∈i,x<g.w)(F:o.length<=12/\∀x∈o,x<g.w)(H:∀q∈ps,q.1<g.w/\q.2<g.w):wG p (iK ⟨g.w,g.es,i,o⟩ ps):=
 ⟨zgj h.ok hi F H,fun e D=>by obtain⟨z,E,rfl⟩:=cf.1 D;exact h.val z E⟩
def wG.ziu{W:bX}(h:wG p g)(U:W.Perm (List.range g.w))(ad:RO.Perm (List.range g.es))(ap:RN.length=g.es)(Y:∀(j k:Nat) (e:Ed),RO[j]?=some k->g.es[j]?=some e->RN[k]?=some (e.map fun x=>W.getD x 0)):wG p ⟨g.w,RN,g.i.map (fun x=>W.getD x 0),g.o.map (fun x=>W.getD x 0)⟩:=by
 obtain⟨f,Z⟩:∃f:gF,f=fun x=>W.getD x 0:=⟨_,rfl⟩
 rw[<-Z]at Y ⊢;have I:=Gr.nv h.ok;have a3:W.length=g.w:=by rw[U.length_eq,g_]
 have a2:RO.length=g.es:=by rw[ad.length_eq,g_]
 have Q:∀x,x<g.w->f x<g.w:=fun x z=>by
  rw[Z]
  show W.getD x 0<g.w
  rw[bu,dA RU];exact et.1 (U.mem_iff.1 (oz _))
 have a0:∀y,y<g.w->∃x,x<g.w/\f x=y:=fun y F=>by
  obtain⟨x,z,e⟩:=vx.1 (U.mem_iff.2 (et.2 F));refine⟨x,RU,?_⟩;rw[Z]
  show W.getD x 0=y
  rw[bu,dA z,e];rfl
 have ab:∀e∈RN,∃D∈g.es,e=D.map f:=fun e E=>by obtain⟨k,ao,R⟩:=vx.1 E;obtain⟨j,ac,am⟩:=vx.1 (ad.mem_iff.2 (et.2 (RU:k<g.es.length)));have J:=Y j k _ (by rw[dA ac,am]) (dA (RU:j<g.es.length));rw[dA ao,R]at J;exact⟨_,oz _,eH J⟩
 have a1:∀D∈g.es,D.map f∈RN:=fun D E=>by obtain⟨j,ac,R⟩:=vx.1 E;have J:=Y j (RO[j]'RU) D (dA _) (by rw[dA ac,R]);exact a_ J
 have J:Gr.G1 ⟨g.w,RN,g.i.map f,g.o.map f⟩:=by
  refine⟨fun x z=>?_,fun e E=>?_,fun x z=>?_⟩
  .show x<g.w
   rcases z with z|z|⟨e,E,z⟩
   .obtain⟨y,F,rfl⟩:=cf.1 z;exact Q y (I.inr y (aF F))
   .obtain⟨y,F,rfl⟩:=cf.1 z;exact Q y (I.inr y (aA (aF F)))
   .obtain⟨D,H,rfl⟩:=ab e E;rcases z with z|z
    .obtain⟨y,F,rfl⟩:=cf.1 z;exact Q y (I.inr y (aA (aA ⟨D,H,aF F⟩)))
    .obtain⟨y,F,rfl⟩:=cf.1 z;exact Q y (I.inr y (aA (aA ⟨D,H,aA F⟩)))
  .obtain⟨D,H,rfl⟩:=ab e E;rw[Ed.B5];exact I.fit D H
  .obtain⟨y,F,rfl⟩:=a0 x z;rcases I.on y F with h|h|⟨e,E,h⟩
   .exact aF (cf.2 ⟨y,h,rfl⟩)
   .exact aA (aF (cf.2 ⟨y,h,rfl⟩))
   .refine aA (aA ⟨_,a1 e E,?_⟩);exact Xz
 refine⟨?_,fun e E=>?_⟩
 .rw[J.okB];have O:=Gr.gl.1 h.ok;unfold mH;simp only[bC,cK];exact⟨O.1,by rw[ap];exact O.2.1,by rw[bt];exact O.2.2.1,by rw[bt];exact O.2.2.2.1⟩
 .obtain⟨D,H,rfl⟩:=ab e E;exact h.val D H
def Dz{p:Int}{a c:Nat}{iv:Int}{q:Sy×List cS}:∀i,(tc p a c iv i q).2.length<=q.2+i
 |0=>ag _
 |i+1=>by
  have ih:=Dz (p:=p) (a:=a) (c:=c) (iv:=iv) (q:=q) i;unfold tc;split
  .unfold push;dsimp only;rw[bQ];simp;omega
  .omega
def yC{p:Int}:∀(b:Nat) (q:Sy×List cS),q.1.Ok p->q.1.h=b->(kX p b q).2.length<=q.2+b*161/\(kX p b q).1.Ok p/\(kX p b q).1.h=0/\(kX p b q).1.v=q.1.v
 |0,q,z,Q=>⟨ag _,z,Q,rfl⟩
 |b+1,q,z,Q=>by
  have ab:=Sys.n z;by_cases H:dU q.1 (q.1.v+b).toNat 0=q.1.rows.length
  .obtain⟨R,D,E,F,Y⟩:=DG (b:=b) z RU H;rw[AZ H];obtain⟨U,I,J,O⟩:=yC b (r1N p b q) D F;exact⟨RU,I,J,O.trans E⟩
  .obtain⟨f1,f2,_,_⟩:=gy q.1 (q.1.v+b).toNat 0 (bf _);obtain⟨ac,c1,R,D,E,F,_,Z⟩:=DH (b:=b) z RU rfl (RU:dU q.1 (q.1.v+b).toNat 0<q.1.rows.length);rw[A_ H];obtain⟨U,I,J,O⟩:=yC b (r1S p b q) D F;exact⟨RU,I,J,O.trans E⟩
def yD{p v:Int}:∀(m c:Nat) (z:Nat×(Sy×List cS)),Inv2 p v c z.1 z.2.1->(c+m:Int)<=v->(lB p m c z).2.2.length<=z.2.2+m*162/\Inv2 p v (c+m) (lB p m c z).1 (lB p m c z).2.1
 |0,c,z,hi,_=>⟨ag _,hi⟩
 |m+1,c,(r,q),hi,ab=>by
  rw[show c+(m+1)=(c+1)+m by omega];by_cases E:dU q.1 c r=q.1.rows.length
  .rw[Ba E];obtain⟨F,H⟩:=yD m (c+1) (r,q) (zd_ hi E) RU;exact⟨by dsimp only at F ⊢;omega,H⟩
  .obtain⟨f1,f2,_,_⟩:=gy q.1 c r hi.hr;have D:(c:Int)<v:=RU;obtain⟨Y,J,O,Q⟩:=AF hi D (by show dU q.1 c r<_;dsimp only at f2 ⊢;omega);obtain⟨Z,I,R,U⟩:=AG J D O Q;have c1:=AH I D R U;have ad:(kt p c r q).2.length<=q.2+1:=by
    unfold kt;split
    .unfold push;simp
    .omega
   have am:(mg p c r (kt p c r q)).2.length<=(kt p c r q).2+1:=by
    unfold mg;split
    .unfold push;simp
    .omega
   have ao:(mG p c r (mg p c r (kt p c r q))).2.length<=(mg p c r (kt p c r q)).2+160:=by have ac:(mg p c r (kt p c r q)).1.rows.length<=160:=Sys.n I.ok;refine bc (Dz _) RU
   rw[Bb E];obtain⟨F,H⟩:=yD m (c+1) (r+1,mG p c r (mg p c r (kt p c r q))) c1 RU;exact⟨by dsimp only at F ⊢;omega,H⟩
def DA{p:Int}{r:Nat}:∀(n:Nat) (q:Sy×List cS),(tP p r n q).2.length<=q.2+n
 |0,q=>ag _
 |n+1,q=>by
  by_cases z:r<=n
  .rw[zcc z];have:=DA (p:=p) (r:=r) n (push p q ⟨4,n,0,0,[]⟩);have D:(push p q ⟨4,n,0,0,[]⟩).2.length=q.2+1:=by unfold push;simp
   omega
  .rw[DI RU];omega
def zeW(z:s.Ok p):(CY p s).2.length<=30000:=by have U:=Sys.h0 z;have ab:=Sys.v0 z;have Y:=Sys.h100 z;have ac:=Sys.v24 z;obtain⟨D,F,H,I⟩:=yC s.h.toNat (s,[]) z (by show s.h=_;omega);obtain⟨J,O⟩:=yD (v:=s.v) s.v.toNat 0 (0,kX p s.h.toNat (s,[])) ⟨F,H,I,bf _,fun d R=>RU⟩ RU;have Q:=DA (p:=p) (r:=(lB p s.v.toNat 0 (0,kX p s.h.toNat (s,[]))).1) (lB p s.v.toNat 0 (0,kX p s.h.toNat (s,[]))).2.1.rows (lB p s.v.toNat 0 (0,kX p s.h.toNat (s,[]))).2;have Z:=Sys.n O.ok;have e:CY p s=tP p (lB p s.v.toNat 0 (0,kX p s.h.toNat (s,[]))).1 (lB p s.v.toNat 0 (0,kX p s.h.toNat (s,[]))).2.1.rows (lB p s.v.toNat 0 (0,kX p s.h.toNat (s,[]))).2:=rfl;rw[<-e]at Q;have E:([]:List cS).length=0:=rfl;dsimp only at J D;rw[E]at D;have ad:s.h.toNat*161<=100*161:=oF _ RU;have am:s.v.toNat*162<=24*162:=oF _ RU;omega
end Go.Proofs.YtdpgblncijojiaaGreatDoor
