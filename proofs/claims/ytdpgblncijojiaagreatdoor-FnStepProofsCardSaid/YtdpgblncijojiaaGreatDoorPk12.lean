/- Parts of the walks. Conditions: as stated with each. -/
import Derived.Test.YtdpgblncijojiaaGreatDoorPk11
namespace Go.Proofs.YtdpgblncijojiaaGreatDoor
open Go.RowKit Tryz
set_option linter.all false
set_option maxHeartbeats 4000000
set_option maxRecDepth 100000
variable{A Ri:aq}{D N N' b d hi i j k lo n r x:Nat}{E Rh w w':aa}{H Ru Rw u v v0 v1 v2 v3 v4 y z2:av}{Rb Rf Rk:dw}{Rj:gj}{Rp S:List Tm}{U:aC}{cs:gq}{g:Gr}{l:bW}{p:Int}{ps:qX}{row:Option Nat}{t:dE}{xs:aH}
section
variable{w2:aa}{E8 E10 E11 E12:gq}{v8 v10 v11 v12:av}{R8 R10:aC}{r11:aH}{R12:aC}{l8 h8 b8 l10 h10 b10 l11 h11 b11 l12 h12 b12:Nat}{W W':aa}
end
def jZ(h:Below D w w')(z:D<=b)(v0 v1 v2:av):Below D w (((w'.setCell ⟨b,0,none⟩ v0).setCell ⟨b,1,none⟩ v1).setCell ⟨b,2,none⟩ v2):=((h.setCell z _).setCell z _).setCell z _
def oh(h:aW w b #[H,Rw,z2] t):(((w.setCell ⟨b,0,none⟩ v0).setCell ⟨b,1,none⟩ v1).setCell ⟨b,2,none⟩ v2).heap[b]?=some (.cells #[v0,v1,v2] t (0,0)):=by have z:=bw w b 0 _ _ v0 h;have B:=bw _ b 1 _ _ v1 z;have D:=bw _ b 2 _ _ v2 B;simpa using D
def kT{x:av}(h:aW w b #[x,y] t):af w b 0 x/\af w b 1 y/\w.frozen? ⟨b,0,none⟩=false/\w.frozen? ⟨b,1,none⟩=false:=by simp[World.cell?,World.frozen?,h]
def aJ{x:av}(h:aW w b #[x,y,H,u] t):af w b 0 x/\af w b 1 y/\af w b 2 H/\af w b 3 u:=by simp[World.cell?,h]
def cH{x:av}(h:aW w b #[x,y,H,u] t):w.frozen? ⟨b,0,none⟩=false/\w.frozen? ⟨b,1,none⟩=false/\w.frozen? ⟨b,2,none⟩=false/\w.frozen? ⟨b,3,none⟩=false:=by simp[World.frozen?,h]
abbrev zgZ(w:aa)(b:Nat)(v0 v1:av):World:=(w.setCell ⟨b,0,none⟩ v0).setCell ⟨b,1,none⟩ v1
abbrev ed(w:aa)(b:Nat)(v0 v1 v2 v3:av):World:=(((w.setCell ⟨b,0,none⟩ v0).setCell ⟨b,1,none⟩ v1).setCell ⟨b,2,none⟩ v2).setCell ⟨b,3,none⟩ v3
def zS(h:aW w b #[H,Rw] t):(zgZ w b v0 v1).heap[b]?=some (.cells #[v0,v1] t (0,0)):=by have z:=bw w b 0 _ _ v0 h;have B:=bw _ b 1 _ _ v1 z;simpa[zgZ]using B
def cJ(h:aW w b #[H,Rw,z2,Ru] t):(ed w b v0 v1 v2 v3).heap[b]?=some (.cells #[v0,v1,v2,v3] t (0,0)):=by have z:=bw w b 0 _ _ v0 h;have B:=bw _ b 1 _ _ v1 z;have D:=bw _ b 2 _ _ v2 B;have E:=bw _ b 3 _ _ v3 D;simpa[ed]using E
def j6(h:k≠b):(ed w b v0 v1 v2 v3).heap[k]?=w.heap[k]?:=(bx _ _ _ _ R3).trans ((bx _ _ _ _ R3).trans ((bx _ _ _ _ R3).trans (bx _ _ _ _ R3)))
def eu:(ed w b v0 v1 v2 v3:Nat)=w:=by simp[ed]
def cX(h:Below D w w')(z:D<=b)(v0 v1 v2 v3:av):Below D w (ed w' b v0 v1 v2 v3):=(((h.setCell z _).setCell z _).setCell z _).setCell z _
def mR{p2:dw}(z:aj w w')(t:w.cell? Rk=some v1/\w.cell? p2=some v2):w'.cell? Rk=some v1/\w'.cell? p2=some v2:=⟨ag z t.1,ag z t.2⟩
def ru{p2:dw}(z:aj w w')(t:w.cell? Rk=some v1/\w.cell? p2=some v2/\w.cell? Rf=some v3):w'.cell? Rk=some v1/\w'.cell? p2=some v2/\w'.cell? Rf=some v3:=⟨ag z t.1,ag z t.2.1,ag z t.2.2⟩
def zbs{p2:dw}(z:aj w w')(t:w.cell? Rk=some v1/\w.cell? p2=some v2/\w.cell? Rf=some v3/\w.cell? Rb=some v4):w'.cell? Rk=some v1/\w'.cell? p2=some v2/\w'.cell? Rf=some v3/\w'.cell? Rb=some v4:=⟨ag z t.1,ag z t.2.1,ag z t.2.2.1,ag z t.2.2.2⟩
def zfq{p2 B:dw}(z:aj w w')(t:w.cell? Rk=some v1/\w.cell? p2=some v2/\w.cell? Rf=some v3/\w.cell? Rb=some v4/\w.cell? B=some H):w'.cell? Rk=some v1/\w'.cell? p2=some v2/\w'.cell? Rf=some v3/\w'.cell? Rb=some v4/\w'.cell? B=some H:=⟨ag z t.1,ag z t.2.1,ag z t.2.2.1,ag z t.2.2.2.1,ag z t.2.2.2.2⟩
def Bk{p2 B D:dw}(z:aj w w')(t:w.cell? Rk=some v1/\w.cell? p2=some v2/\w.cell? Rf=some v3/\w.cell? Rb=some v4/\w.cell? B=some H/\w.cell? D=some Rw):w'.cell? Rk=some v1/\w'.cell? p2=some v2/\w'.cell? Rf=some v3/\w'.cell? Rb=some v4/\w'.cell? B=some H/\w'.cell? D=some Rw:=⟨ag z t.1,ag z t.2.1,ag z t.2.2.1,ag z t.2.2.2.1,ag z t.2.2.2.2.1,ag z t.2.2.2.2.2⟩
def aE(w:aa)(o:Obj):Below w w (w.alloc o):=(ai _ _).alloc (ah _) o
def zbt(w:aa)(o:Obj):(w.alloc o).drew.heap[w.heap.size]?=some o:=aD w o rfl
def aF(w:aa):Below w w w.drew:=(ai _ _).drew

section
variable{M:aC}
structure Rl where
 l:Nat
 r:Nat
 b:List (List Int)
def Rl.gZ(p:Int)(z:Rl):Prop:=Go.Proofs.YtdpgblncijojiaaGreatDoor.gZ p z.b (z.l+z.r) z.b
def ze2(p:Int)(l r:Nat)(rows:aC):Rl:=⟨l,r,jM p (l+r) rows⟩
def Rl.Red(p:Int)(z:Rl):Prop:=lS p (z.l+z.r) z.b (eM z.b) (pw z.b)
structure Rl.Ok(p:Int)(R:Rl):Prop where
 shp:R.gZ p
 red:R.Red p
def zhS{A:aC}:eM (A++U) i d=if i<A.length then eM A i d else eM U (i-A.length) d:=by
 unfold eM;rw[bg (l:=A++U),List.getElem?_append];split
 .rw[bg (l:=A)]
 .rw[bg (l:=U)]
def gZ.app{A:aC}(h:gZ p N n A)(h':gZ p N' n U):gZ p (N+N') n (A++U):=by
 refine⟨by rw[bS,h.1,h'.1],fun i hi=>?_,fun i d hi z=>?_⟩
 .rw[bg,List.getElem?_append];split
  .rename_i hl;rw[<-bg];exact h.2.1 i TD
  .rename_i hl;rw[<-bg];have:=h.1;exact h'.2.1 _ Ry
 .rw[zhS];have:=h.1;split
  .exact h.2.2 i d Ry z
  .exact h'.2.2 _ d Ry z
def gZ.fB(h:gZ p N n M){r:aH}(B:r∈M)(z:d<n):0<=r.getD d 0/\r.getD d 0<p:=by obtain⟨i,hi⟩:=eN.1 B;have hl:=(bs.1 hi).1;have:=h.2.2 i d TD z;unfold eM at this;rwa[getD_some hi]at this
def ze3(p:Int)(c:aH)(M:aC)(n:Nat):Nat->List Int
 |0=>List.replicate n 0
 |i+1=>cV p (c.getD i 0) (ze3 p c M n i) (M.getD i [])
def zjr(p:Int)(y:aH):List Int:=cV p (-1) (List.replicate y 0) y
def ziQ(z:Rl):List (List Int):=z.b.map fun r=>r.take z.l
def ziR(z:Rl):List (List Int):=z.b.map fun r=>r.drop z.l
def ze4(p:Int)(A z:Rl):List (List Int):=ziR A++(ziQ z).map (zjr p)
def ze5(p:Int)(A z:Rl)(c:aH):List Int:=ze3 p (c.take A.b) (ziQ A) A.l A.b++ze3 p (c.drop A.b) (ziR z) z.r z.b
def zdq(p:Int)(A z:Rl):List (List Int):=(zbL p A.r (ze4 p A z)).map (ze5 p A z)
def ziS(p:Int)(A z:Rl):Rl:=ze2 p A.l z.r (zdq p A z)
end
def zi1(p:Int)(z:Rl):Rl:=ze2 p z.r z.l (z.b.map fun row=>row.drop z.l++row.take z.l)
def zgX(n:Nat):List Int:=List.replicate n 0
def zjx(A z:Rl)(row:aH):List Int:=row.take A.l++(zgX z.l++(row.drop A.l++zgX z.r))
def zjy(A z:Rl)(row:aH):List Int:=zgX A.l++(row.take z.l++(zgX A.r++row.drop z.l))
def zi2(p:Int)(A z:Rl):Rl:=ze2 p (A.l+z.l) (A.r+z.r) (A.b.map (zjx A z)++z.b.map (zjy A z))
section
variable{M:aC}
def zfl(h:∀r∈M,r.length=n/\∀x∈r,0<=x/\x<p):gZ p M n M:=by
 refine⟨rfl,fun i hi=>(h _ (gT hi)).1,fun i d hi E=>?_⟩;obtain⟨B,D⟩:=h _ (gT hi);unfold eM;have z:d < (M.getD i []).length:=by rw[B];exact E
 rw[bg (l:=M.getD i []),dq z];exact D _ (oX z)
def zgT(k v:Int):List (List Int):=if k=3 then[[1,1,1]] else if k=4 then[[1]] else if k=5 then[[1,0,1],[0,1,1]] else if k=7 then[[1,v]] else[]
def gIn(k:Int):Nat:=if k=5 then 2 else if k=6 then 0 else 1
def zbk(k:Int):Nat:=if k=3 then 2 else if k=4 then 0 else 1
def zh0(n:Nat):List (List Int):=(yr n).map fun r=>r++r
def idR(n:Nat):Rl:=⟨n,n,zh0 n⟩
def swR(p:Int):Rl:=ze2 p 2 2 [[1,0,0,1],[0,1,1,0]]
def ziY(p k v:Int):Rl:=ze2 p (gIn k) (zbk k) (zgT k v)
def ziZ(p:Int)(n:Nd):Rl:=
 if n.k=1 then idR n.v.toNat else if n.k=2 then swR p else if 9<=n.k then zi1 p (ziY p (n.k-6) n.v) else ziY p n.k n.v
def zcC(p:Int)(n:Nd):Prop:=dV n=true/\n.k≠8/\n.k≠14/\(n.k=7∨n.k=13->n.v<p)
def Tm.rel(p:Int):Tm->Rl
 |.lf n=>ziZ p n
 |.op k a b=>if k=15 then ziS p (a.rel p) (b.rel p) else zi2 p (a.rel p) (b.rel p)
def Tm.yo(p:Int):Tm->Prop
 |.lf n=>zcC p n
 |.op _ a b=>a.yo p/\b.yo p
def zcD(I:g.In)(O:∀q∈ps,q.1<g.w/\q.2<g.w):(iB g ps).In:=by
 have J:oL g.w (ji g.w ps):=C9 ps _ (An g.w) O;intro x B;have D:∀y,g.On y->(lT g (ji g.w ps)).idxOf ((ji g.w ps).getD y 0) < (lT g (ji g.w ps)).length:=fun y z=>List.idxOf_lt_length_of_mem (zam J I z)
 unfold iB Gr.map at B ⊢;dsimp only at B ⊢;rcases B with h|h|⟨e,H,B⟩
 .obtain⟨y,z,rfl⟩:=cd.1 h;exact D y (aG z)
 .obtain⟨y,z,rfl⟩:=cd.1 h;exact D y (aB (aG z))
 .obtain⟨E,F,rfl⟩:=cd.1 H;unfold Ed.map at B;rcases B with h|h
  .obtain⟨y,z,rfl⟩:=cd.1 h;exact D y (aB (aB ⟨E,F,aG z⟩))
  .obtain⟨y,z,rfl⟩:=cd.1 h;exact D y (aB (aB ⟨E,F,aB z⟩))
def D5(n:Nd):(gF n).In:=by
 unfold gF;split
 .rintro x (h|h|⟨e,B,_⟩)
  .exact dQ.1 h
  .exact dQ.1 h
  .simp at B
 split
 .rintro x (h|h|⟨e,B,_⟩)
  .simp at h;dsimp only;omega
  .simp at h;dsimp only;omega
  .simp at B
 .have hi:∀x,x∈List.range (qe n)->x<qe n+tK n:=fun x z=>by have:=dQ.1 z;omega
  have D:∀x,x∈(List.range (tK n)).map (· +qe n)->x<qe n+tK n:=fun x z=>by obtain⟨y,E,rfl⟩:=cd.1 z;have:=dQ.1 E;omega
  rintro x (h|h|⟨e,B,z⟩)
  .exact hi x h
  .exact D x h
  .rw[gy.1 B]at z;exact z.elim (hi x) (D x)
def BC(n:Nd)(h:dV n=true):(gF n).i.length=qe n/\(gF n).o.length=tK n:=by
 unfold gF qe tK;split
 .simp
 split
 .simp
 .simp[qe,tK, *]
def Tm.zcE:∀{t:Tm} {c:gY},t.ty=some c->t.gr.In/\t.gr.i.length=c.1/\t.gr.o.length=c.2
 |.lf n,c,h=>by
  unfold Tm.ty at h;split at h
  .rename_i J;simp only[dt]at h;subst h;exact⟨D5 n,BC n J⟩
  .cases h
 |.op k a b,c,h=>by
  obtain⟨x,y,ac,J,B⟩:=Tm.BW h;obtain⟨F,O,T⟩:=Tm.zcE ac;obtain⟨H,U,Q⟩:=Tm.zcE J;unfold Tm.gr;unfold jw at B;by_cases e:k=15
  .rw[ar e]at B ⊢;split at B
   .rename_i ad;simp only[dt]at B;subst B;refine⟨zcD (sH F H (fun I z=>by have:=F I (aG z);omega) (fun I z=>by
     obtain⟨E,D,rfl⟩:=cd.1 z;have:=H E (aB (aG D));omega)) (fun q R=>by
     have Z:=(qB R).1;have ab:=(qB R).2;obtain⟨E,D,e⟩:=cd.1 ab;have:=F _ (aB (aG Z));have:=H E (aG D);dsimp only;omega),?_,?_⟩
    .show(List.map _ a.gr.i).length=_
     rw[bl];exact O
    .show(List.map _ (List.map _ b.gr.o)).length=_
     rw[bl,bl];exact Q
   .cases B
  .rw[ak e]at B ⊢;split at B
   .split at B
    .simp only[dt]at B;subst B;unfold pH;refine⟨sH F H (fun I z=>?_) (fun I z=>?_),by dsimp only;rw[bS,bl,O,U],by dsimp only;rw[bS,bl,T,Q]⟩
     .rcases eO.1 z with z|z
      .have:=F I (aG z);omega
      .obtain⟨E,D,rfl⟩:=cd.1 z;have:=H E (aG D);omega
     .rcases eO.1 z with z|z
      .have:=F I (aB (aG z));omega
      .obtain⟨E,D,rfl⟩:=cd.1 z;have:=H E (aB (aG D));omega
    .cases B
   .cases B
end

def rT(p:Int):List (Nat×Int)->List Int->List Int
 |[],r=>r
 |q::L,r=>rT p L (r.set q.1 ((r.getD q.1 0+q.2)%p))
def Cp:List (Nat×Int)->Nat->Int
 |[],_=>0
 |q::L,d=>(if q.1=d then q.2 else 0)+Cp L d
def zb5(q:Nat×Int)(L:wg)(d:Nat):Cp (q::L) d=(if q.1=d then q.2 else 0)+Cp L d:=rfl
def l5(p:Int)(n:Nat)(L:wg):List Int:=rT p L (List.replicate n 0)
def zaL{r:aH}{a:Nat}{x:Int}(z:a<r.length):(r.set a x).getD d 0=if a=d then x else r.getD d 0:=by
 rw[bg,ph];by_cases h:a=d
 .subst h;rw[ar rfl,ar z,ar rfl];rfl
 .rw[ak h,ak h,bg]
def zaM{p:Int}{n:Nat}(J:2<=p):∀(L:wg) (r:aH),r.length=n->(∀d,d<n->0<=r.getD d 0/\r.getD d 0<p)->(∀q∈L,q.1<n)->(rT p L r).length=n/\∀d,d<n->(rT p L r).getD d 0=(r.getD d 0+Cp L d)%p
 |[],r,D,B,_=>⟨D,fun d z=>by unfold rT Cp;rw[qz,lO (B d z).1 (B d z).2]⟩
 |q::L,r,D,B,F=>by
  have Q:=F q (nw ..);have E:∀d,(r.set q.1 ((r.getD q.1 0+q.2)%p)).getD d 0=if q.1=d then(r.getD q.1 0+q.2)%p else r.getD d 0:=fun d=>zaL Ry
  obtain⟨H,I⟩:=zaM J L (r.set q.1 ((r.getD q.1 0+q.2)%p)) (by rw[fx];exact D) (fun d z=>by
   rw[E];split
   .exact WN
   .exact B d z) (fun O h'=>F O (nv _ h'))
  refine⟨H,fun d z=>(I d z).trans ?_⟩;rw[E,zb5];split
  .rename_i h;subst h;rw[Int.emod_add_emod];congr 1;omega
  .rw[Int.zero_add]
def AM{L:wg}(F:2<=p)(H:∀q∈L,q.1<n):(l5 p n L).length=n/\∀d,d<n->(l5 p n L).getD d 0=Cp L d%p:=by
 have B:∀d,d<n->(List.replicate n (0:Int)).getD d 0=0:=fun d z=>by rw[bg,fR,ar z];rfl
 obtain⟨D,E⟩:=zaM (n:=n) F L (List.replicate n 0) Rx (fun d z=>by rw[B d z];omega) H;refine⟨D,fun d z=>(E d z).trans ?_⟩;rw[B d z,Int.zero_add]
def Ds(p k v:Int)(i o:bW):List (List (Nat×Int)):=
 if k=3 then[[(o.getD 0 0,1),(i.getD 0 0,p-1)],[(o.getD 1 0,1),(i.getD 0 0,p-1)]]
 else if k=5 then[[(o.getD 0 0,1),(i.getD 0 0,p-1),(i.getD 1 0,p-1)]]
 else if k=6 then[[(o.getD 0 0,1)]]
 else if k=7 then[[(o.getD 0 0,1),(i.getD 0 0,(p-v)%p)]]
 else[]
def Ed.eqns(p:Int)(e:Ed):List (List (Nat×Int)):=if 9<=e.k then Ds p (e.k-6) e.v e.o e.i else Ds p e.k e.v e.i e.o
def zex{e:Ed}(h:e.mT=true):3<=e.k/\e.k<=14/\e.i.length=qe ⟨e.k,e.v,true⟩/\e.o.length=tK ⟨e.k,e.v,true⟩:=by
 unfold Ed.mT at h;simp only[bn,cw]at h;obtain⟨z,B,hi,D⟩:=h;refine⟨B,?_,hi,D⟩;unfold dV at z;simp only[wF]at z;rw[ak Ry]at z;split at z
 .omega
 .simp only[bn,cw]at z;omega
def zjc{k v:Int}{b:Bool}(z:3<=k)(B:k<=8):qe ⟨k,v,b⟩=gIn k/\tK ⟨k,v,b⟩=zbk k/\qe ⟨k+6,v,b⟩=zbk k/\tK ⟨k+6,v,b⟩=gIn k:=by have:k=3∨k=4∨k=5∨k=6∨k=7∨k=8:=Ry;rcases this with rfl|rfl|rfl|rfl|rfl|rfl <;>exact⟨rfl,rfl,rfl,rfl⟩
def qo(h:j<l.length):l.getD j 0∈l:=by rw[bg,dq h];exact oX h
def zc4{k v:Int}{i o:bW}{w:Nat}(hi:gIn k<=i.length)(E:zbk k<=o.length)(T:∀x∈i,x<w)(U:∀x∈o,x<w):∀L∈Ds p k v i o,∀q∈L,q.1<w:=by
 have D:∀j,j<i.length->i.getD j 0<w:=fun j H=>T _ (qo H)
 have go:∀j,j<o.length->o.getD j 0<w:=fun j H=>U _ (qo H)
 unfold Ds;by_cases J:k=3
 .subst J;have I:1<=i.length:=hi;have F:2<=o.length:=E;rw[ar rfl];intro L z q B;have a:=D 0 Ry;have b:=go 0 Ry;have c:=go 1 Ry;simp only[jq,kC,kY]at z;rcases z with rfl|rfl <;>simp only[jq,kC,kY]at B <;>rcases B with rfl|rfl <;>assumption
 rw[ak J];by_cases O:k=5
 .subst O;have I:2<=i.length:=hi;have F:1<=o.length:=E;rw[ar rfl];intro L z q B;have a:=D 0 Ry;have b:=D 1 Ry;have c:=go 0 Ry;simp only[jq,kC,kY]at z;subst z;simp only[jq,kC,kY]at B;rcases B with rfl|rfl|rfl <;>assumption
 rw[ak O];by_cases Q:k=6
 .subst Q;have F:1<=o.length:=E;rw[ar rfl];intro L z q B;have c:=go 0 Ry;simp only[jq,kC,kY]at z;subst z;simp only[jq,kC,kY]at B;subst B;assumption
 rw[ak Q];by_cases R:k=7
 .subst R;have I:1<=i.length:=hi;have F:1<=o.length:=E;rw[ar rfl];intro L z q B;have a:=D 0 Ry;have c:=go 0 Ry;simp only[jq,kC,kY]at z;subst z;simp only[jq,kC,kY]at B;rcases B with rfl|rfl <;>assumption
 .rw[ak R];intro L z;simp at z
def Gr.gx:g.okB=true↔g.w<=100/\g.es.length<=60/\g.i.length<=12/\g.o.length<=12/\(∀e∈g.es,e.mT=true)/\(∀x,x<g.w->g.onB x=true)/\(∀x∈g.i,x<g.w)/\(∀x∈g.o,x<g.w)/\∀e∈g.es,(∀x∈e.i,x<g.w)/\∀x∈e.o,x<g.w:=by unfold Gr.okB;simp only[bn,eD,cw]
def Gr.eqs(p:Int)(g:Gr):List (List (Nat×Int)):=g.es.flatMap (Ed.eqns p)
def Gr.rows(p:Int)(g:Gr):List (List Int):=(g.eqs p).map (l5 p g.w)
def Gr.zfN(h:∀e∈g.es,e.mT=true)(J:g.In):∀L∈g.eqs p,∀q∈L,q.1<g.w:=by
 intro L z;unfold Gr.eqs at z;obtain⟨e,E,z⟩:=wO.1 z;obtain⟨R,T,H,I⟩:=zex (h e E);have O:∀x∈e.i,x<g.w:=fun x F=>J x (aB (aB ⟨e,E,aG F⟩))
 have Q:∀x∈e.o,x<g.w:=fun x F=>J x (aB (aB ⟨e,E,aB F⟩))
 unfold Ed.eqns at z;split at z
 .obtain⟨_,_,B,D⟩:=zjc (k:=e.k-6) (v:=e.v) (b:=true) Ry Ry;rw[show e.k-6+6=e.k by omega]at B D;exact zc4 (by rw[I,D];exact ah _) (by rw[H,B];exact ah _) Q O L z
 .obtain⟨B,D,_,_⟩:=zjc (k:=e.k) (v:=e.v) (b:=true) Ry Ry;exact zc4 (by rw[H,B];exact ah _) (by rw[I,D];exact ah _) O Q L z
def BY{X:List (List (Nat×Int))}(D:2<=p)(h:∀L∈X,∀q∈L,q.1<n):gZ p X n (X.map (l5 p n)):=by
 have:=zfl (p:=p) (n:=n) (M:=X.map (l5 p n)) fun r H=>by obtain⟨L,E,rfl⟩:=cd.1 H;obtain⟨z,B⟩:=AM D (h L E);refine⟨z,fun x I=>?_⟩;obtain⟨d,F,rfl⟩:=List.getElem_of_mem I;have:=B d Ry;rw[bg,dq F,yZ]at this;rw[this];exact WN
 rwa[bl]at this
def Gr.zfO(z:2<=p)(h:∀e∈g.es,e.mT=true)(B:g.In):gZ p (g.eqs p) g.w (g.rows p):=BY z (Gr.zfN h B)

def Gr.yo(p:Int)(g:Gr):Prop:=∀e∈g.es,e.mT=true/\zcC p ⟨e.k,e.v,true⟩
section
variable{p:Int}{g:Gr}{A B:Rl}{X Y W:aH}
end
def BM{n:Nd}(h:dV n=true):dV ⟨n.k,n.v,true⟩=true:=by unfold dV at h ⊢;rw[bn]at h;rw[bn];exact⟨rfl,h.2⟩
def zfr{n:Nd}(h:dV n=true):(gF n).okB=true:=by
 have J:=vq h;have E:=D5 n;obtain⟨O,Q⟩:=BC n h;rw[Gr.gx];have H:(∀x∈(gF n).i,x < (gF n).w)/\(∀x∈(gF n).o,x < (gF n).w)/\∀e∈(gF n).es,(∀x∈e.i,x < (gF n).w)/\∀x∈e.o,x < (gF n).w:=
  ⟨fun x z=>E x (aG z),fun x z=>E x (aB (aG z)),fun e B=>⟨fun x z=>E x (aB (aB ⟨e,B,aG z⟩)),fun x z=>E x (aB (aB ⟨e,B,aB z⟩))⟩⟩
 have F:(gF n).w<=100/\(gF n).es.length<=60/\(∀e∈(gF n).es,e.mT=true)/\∀x,x < (gF n).w->(gF n).onB x=true:=by
  by_cases D:n.k=1
  .have:gF n=⟨n.v.toNat,[],List.range n.v.toNat,List.range n.v.toNat⟩:=by unfold gF;rw[ar D]
   rw[this];have:n.v.toNat<=12:=by unfold dV at h;rw[bn]at h;have h:=h.2;rw[ar D]at h;simp only[bn,cw]at h;omega
   exact⟨SP,Rx,fun e B=>by simp at B,fun x z=>Gr.j9.2 (aG (dQ.2 z))⟩
  by_cases I:n.k=2
  .have:gF n=⟨2,[],[0,1],[1,0]⟩:=by unfold gF;rw[ak D,ar I]
   rw[this];refine⟨SP,Rx,fun e B=>by simp at B,fun x z=>Gr.j9.2 (aG ?_)⟩;have:x=0∨x=1:=by dsimp only at z;omega
   rcases this with rfl|rfl <;>simp
  .have:gF n=⟨qe n+tK n,[⟨n.k,n.v,List.range (qe n),(List.range (tK n)).map (· +qe n)⟩],List.range (qe n),(List.range (tK n)).map (· +qe n)⟩:=by unfold gF;rw[ak D,ak I]
   rw[this];refine⟨SP,Rx,fun e B=>?_,fun x z=>Gr.j9.2 ?_⟩
   .have B:e=_:=gy.1 B;subst B;have U:3<=n.k:=by
     unfold dV at h;rw[bn]at h;have h:=h.2;rw[ak D]at h;by_cases Z:n.k=7∨n.k=13
     .omega
     .rw[ak Z]at h;simp only[bn,cw]at h;omega
    have R:qe ⟨n.k,n.v,true⟩=qe n:=rfl;have T:tK ⟨n.k,n.v,true⟩=tK n:=rfl;unfold Ed.mT;dsimp only;rw[BM h,R,T];simp[U]
   .dsimp only at z;by_cases ab:x<qe n
    .exact aG (dQ.2 ab)
    .exact aB (aG (cd.2 ⟨x-qe n,dQ.2 Ry,Ry⟩))
 exact⟨F.1,F.2.1,by rw[O];exact J.1,by rw[Q];exact J.2,F.2.2.1,F.2.2.2,H.1,H.2.1,H.2.2⟩
def Tm.qc(k:Int)(a b:Tm):(Tm.op k a b).flat=a.flat++b.flat++[⟨k,0,true⟩]:=rfl
def Tm.zhJ(k:Int)(a b:Tm):(Tm.op k a b).gr=if k=15 then Bo a.gr b.gr else pH a.gr b.gr:=rfl
def Tm.leaves:Tm->List Nd
 |.lf n=>[n]
 |.op _ a b=>a.leaves++b.leaves
def Gr.kv(g:Gr):List (Int×Int):=g.es.map fun e=>(e.k,e.v)
def BN(a b:Gr):(jj a b).map (fun e=>(e.k,e.v))=a.kv++b.kv:=by unfold jj Gr.kv;rw[wM,kB];rfl
def zh3(a b:Gr):(Bo a b).kv=a.kv++b.kv:=by rw[<-BN];unfold Bo iB Gr.kv Gr.map;dsimp only;rw[kB];rfl
def zh4(a b:Gr):(pH a b).kv=a.kv++b.kv:=by rw[<-BN];rfl
def zg0(n:Nd):(gF n).kv=if n.k=1∨n.k=2 then[] else[(n.k,n.v)]:=by
 unfold gF;by_cases z:n.k=1
 .rw[ar z,ar (aG z)];rfl
 by_cases B:n.k=2
 .rw[ak z,ar B,ar (aB B)];rfl
 .rw[ak z,ak B,ak Ry];rfl
def Tm.zbu:∀{t:Tm} {x:Int×Int},x∈t.gr.kv↔∃n∈t.leaves,n.k≠1/\n.k≠2/\x=(n.k,n.v)
 |.lf n,x=>by
  show x∈(gF n).kv↔∃m∈[n],_
  rw[zg0];by_cases h:n.k=1∨n.k=2
  .rw[ar h];simp only[kC,gy,exists_eq_left,false_iff];omega
  .rw[ak h];simp only[gy,exists_eq_left];constructor
   .intro e;exact⟨Ry,Ry,e⟩
   .rintro⟨_,_,e⟩;exact e
 |.op k a b,x=>by
  have z:(Tm.op k a b).gr.kv=a.gr.kv++b.gr.kv:=by
   rw[Tm.zhJ];by_cases e:k=15
   .rw[ar e];exact zh3 _ _
   .rw[ak e];exact zh4 _ _
  rw[z,eO,Tm.zbu (t:=a),Tm.zbu (t:=b)]
  show _↔∃n∈a.leaves++b.leaves,_
  constructor
  .rintro(⟨n,h,r⟩|⟨n,h,r⟩)
   .exact⟨n,s_ _ h,r⟩
   .exact⟨n,o5 _ h,r⟩
  .rintro⟨n,h,r⟩;rcases eO.1 h with h|h
   .exact aG ⟨n,h,r⟩
   .exact aB ⟨n,h,r⟩
def xX(L:List Nd):Bool:=L.all fun n=>decide (n.k≠8)&&decide (n.k≠14)
def xY(p:Int)(L:List Nd):Bool:=L.all fun n=>!(decide (n.k=7)||decide (n.k=13))||decide (n.v<p)
def Tm.ve{p:Int}:∀{t:Tm} {c:gY},t.ty=some c->(t.yo p↔xX t.flat=true/\xY p t.flat=true)
 |.lf n,c,h=>by
  unfold Tm.ty at h;split at h
  .rename_i F;unfold Tm.yo zcC xX xY Tm.flat;simp only[wL,List.all_nil,Bool.and_true,bn,cw,mg,Bool.not_eq_true',DC,DD];constructor
   .rintro⟨_,z,B,D⟩;refine⟨⟨z,B⟩,?_⟩;by_cases e:n.k=7∨n.k=13
    .exact aB (D e)
    .exact aG Ry
   .rintro⟨⟨z,B⟩,D⟩;exact⟨F,z,B,fun e=>Ry⟩
  .cases h
 |.op k a b,c,h=>by
  obtain⟨x,y,O,F,Q⟩:=Tm.BW h;have H:=qf Q;have I:xX (Tm.op k a b).flat=(xX a.flat&&xX b.flat):=by rw[Tm.qc];unfold xX;rw[zc,zc];rcases H with rfl|rfl <;>simp
  have J:xY p (Tm.op k a b).flat=(xY p a.flat&&xY p b.flat):=by rw[Tm.qc];unfold xY;rw[zc,zc];rcases H with rfl|rfl <;>simp
  rw[I,J];unfold Tm.yo;rw[Tm.ve O,Tm.ve F];simp only[bn];constructor
  .rintro⟨⟨z,B⟩,D,E⟩;exact⟨⟨z,D⟩,B,E⟩
  .rintro⟨⟨z,D⟩,B,E⟩;exact⟨⟨z,B⟩,D,E⟩
structure q8 where
 f:List Nat
 i:List Nat
 o:List Nat
def q8.add(s:q8)(a b c:Nat):q8:=⟨s.f++[a],s.i++[b],s.o++[c]⟩
def kI(s:q8)(n:Nd):Option q8:=
 if dV n=true then some (s.add s.f (qe n) (tK n))
 else if opB n=true/\n.v=0/\n.e=true/\2<=s.f.length/\1<=s.f.getD (s.f.length-1) 0 then
  match jw n.k (s.i.getD (s.f.getD (s.f.length-1) 0-1) 0,s.o.getD (s.f.getD (s.f.length-1) 0-1) 0) (s.i.getD (s.f.length-1) 0,s.o.getD (s.f.length-1) 0)with
  |some c=>some (s.add (s.f.getD (s.f.getD (s.f.length-1) 0-1) 0) c.1 c.2)
  |none=>none
 else none
def lv:List Nd->q8->Option q8
 |[],s=>some s
 |n::L,s=>match kI s n with
  |some z=>lv L z
  |none=>none
def rh(s:q8):Nat->List Tm->Prop
 |k,[]=>k=0
 |k,t::S=>∃c,t.ty=some c/\1<=k/\k<=s.f.length/\s.f.getD (k-1) 0+t.flat.length=k/\s.i.getD (k-1) 0=c.1/\s.o.getD (k-1) 0=c.2/\rh s (s.f.getD (k-1) 0) S
structure u_(s:q8)(S:List Tm):Prop where
 li:s.i.length=s.f
 lo:s.o.length=s.f
 ch:rh s s.f.length S
def va{a:Nat}(h:k<l.length):(l++[a]).getD k 0=l.getD k 0:=by rw[bg,dr h,bg]
def zw{a:Nat}:(l++[a]).getD l 0=a:=by rw[bg,gD (ah _),tb];rfl
def Tm.pz(t:Tm):1<=t.flat.length:=by
 cases t with
 |lf n=>simp[Tm.flat]
 |op k a b=>simp[Tm.flat];omega
def rh.add{s:q8}{a b c:Nat}(Q:s.i.length=s.f)(lo:s.o.length=s.f):∀{S:List Tm} {k:Nat},k<=s.f.length->rh s k S->rh (s.add a b c) k S
 |[],k,_,h=>h
 |t::S,k,T,⟨d,E,F,R,H,I,J,O⟩=>by have z:(s.add a b c).f.getD (k-1) 0=s.f.getD (k-1) 0:=va Ry;have B:(s.add a b c).i.getD (k-1) 0=s.i.getD (k-1) 0:=va Ry;have D:(s.add a b c).o.getD (k-1) 0=s.o.getD (k-1) 0:=va Ry;refine⟨d,E,F,by show k<=(s.f++[a]).length;rw[bS];omega,by rw[z];exact H,by rw[B];exact I,by rw[D];exact J,?_⟩;rw[z];exact rh.add Q lo Ry O
def zfe{s:q8}{t:Tm}{c:gY}{a:Nat}(h:u_ s S)(F:t.ty=some c)(E:a+t.flat.length=s.f+1)(D:rh s a Rp):u_ (s.add a c.1 c.2) (t::Rp):=by
 have H:=t.pz;have B:(s.add a c.1 c.2).f.length=s.f+1:=by show(s.f++[a]).length=_;simp
 have z:(s.add a c.1 c.2).f.getD s.f 0=a:=zw;refine⟨by show(s.i++[c.1]).length=(s.f++[a]);simp[h.li],by show(s.o++[c.2]).length=(s.f++[a]);simp[h.lo],?_⟩;rw[B];refine⟨c,F,Ry,by rw[B];exact ah _,?_,?_,?_,?_⟩ <;>rw[Nat.add_sub_cancel]
 .rw[z];exact E
 .show(s.i++[c.1]).getD s.f 0=c.1
  rw[<-h.li];exact zw
 .show(s.o++[c.2]).getD s.f 0=c.2
  rw[<-h.lo];exact zw
 .rw[z];exact rh.add h.li h.lo Ry D
def zcz{n:Nd}(h:opB n=true):dV n=false:=by
 unfold opB at h;simp only[mg,cw]at h;cases z:dV n with
 |false=>rfl
 |true=>
  exfalso;unfold dV at z;rw[bn]at z;have z:=z.2;rw[ak Ry,ak Ry]at z;simp only[bn,cw]at z;omega
def zx{s:q8}(n:Nd)(h:u_ s S):(∃T H,kI s n=some T/\stepT S n=some H/\u_ T H)∨(kI s n=none/\stepT S n=none):=by
 by_cases D:opB n=true
 .have z:=zcz D;unfold kI stepT;rw[z,ak RC,ar D];by_cases E:n.v=0/\n.e=true
  .rw[ar E];have F:=h.ch
   match S,F with
   |[],F=>
    right;have:s.f.length=0:=F;exact⟨ak (fun B=>Ry),rfl⟩
   |[t],⟨d,J,am,ao,ap,O,Q,a0⟩=>
    right;have:s.f.getD (s.f.length-1) 0=0:=a0;exact⟨ak (fun B=>Ry),rfl⟩
   |b::a::a7,⟨d,J,am,ao,ap,O,Q,I,U,Z,a8,a9,ab,ac,ad⟩=>
    have ba:=b.pz;rw[ar ⟨D,E.1,E.2,Ry,Z⟩,O,Q,ab,ac];dsimp only;have R:(Tm.op n.k a b).ty=jw n.k I d:=by unfold Tm.ty;rw[U,J]
    rw[R];obtain⟨a3,a4⟩:=d;obtain⟨a5,a6⟩:=I;cases a2:jw n.k (a5,a6) (a3,a4)with
    |none=>right;exact⟨rfl,rfl⟩
    |some c=>
     left;refine⟨_,_,rfl,rfl,?_⟩;refine zfe h (R.trans a2) ?_ ad;have a1:(Tm.op n.k a b).flat=a.flat++b.flat++[⟨n.k,0,true⟩]:=rfl;rw[a1,bS,bS,yY];omega
  .rw[ak E,ak (fun B=>E ⟨B.2.1,B.2.2.1⟩)];right;exact⟨rfl,rfl⟩
 .unfold kI stepT;rw[ak D];by_cases z:dV n=true
  .rw[ar z,ar z];left;exact⟨_,_,rfl,rfl,zfe (c:=(qe n,tK n)) h (by unfold Tm.ty;rw[ar z]) (by simp[Tm.flat]) h.ch⟩
  .rw[ak z,ak z,ak (fun B=>D B.1)];right;exact⟨rfl,rfl⟩
def zy:∀(L:List Nd) {s:q8} {S:List Tm},u_ s S->(∃E z,lv L s=some E/\jc L S=some z/\u_ E z)∨(lv L s=none/\jc L S=none)
 |[],s,S,h=>aG ⟨s,S,rfl,rfl,h⟩
 |n::L,s,S,h=>by
  unfold lv jc;rcases zx n h with⟨E,z,B,D,h'⟩|⟨B,D⟩
  .rw[B,D];exact zy L h'
  .rw[B,D];exact aB ⟨rfl,rfl⟩
def zdu{L:List Nd}(am:L≠[]):(∃s,lv L ⟨[],[],[]⟩=some s/\s.f.getD (L.length-1) 0=0)↔∃t,zie L t:=by
 have ad:u_ ⟨[],[],[]⟩ []:=⟨rfl,rfl,rfl⟩;rcases zy L ad with⟨s,S,F,z,h⟩|⟨F,z⟩
 .have ab:=uh z;simp only[tM,tc]at ab;have ao:∀{S:List Tm} {k:Nat},rh s k S->(tM S).length=k:=by
   intro S;induction S with
   |nil=>intro k E;have:k=0:=E;rw[this];rfl
   |cons t S ih=>
    rintro k ⟨d,J,O,Q,R,T,U,D⟩;unfold tM;rw[bS,ih D];omega
  have E:=ao h.ch;rw[ab]at E;constructor
  .rintro⟨a3,B,Z⟩;rw[F]at B;simp only[dt]at B;subst B;have H:=h.ch
   match S,H with
   |[],H=>
    have:s.f.length=0:=H;exact absurd (wG.1 (E.trans this)) am
   |t::ac,⟨d,J,O,Q,R,T,U,D⟩=>
    rw[E]at Z;rw[Z]at D
    match ac,D with
    |[],_=>exact⟨t,rC.2 z⟩
    |a4::ap,⟨a0,a1,a2,_⟩=>omega
  .rintro⟨t,I⟩;have:=(rC.1 I).symm.trans z;simp only[dt]at this;subst this;obtain⟨d,J,O,Q,R,T,U,D⟩:=h.ch;have:s.f.getD (s.f.length-1) 0=0:=D;exact⟨s,F,by rw[E];exact this⟩
 .constructor
  .rintro⟨s,B,_⟩;rw[F]at B;cases B
  .rintro⟨t,I⟩;rw[rC.1 I]at z;cases z
section
variable{M:aC}
def Gr.jU(g:Gr):Nat:=g.i.length+g.o
def Gr.ends(p:Int)(g:Gr):List (List Int):=(List.range g.jU).map fun k=>l5 p (g.jU+g.w) [(k,1),(g.jU+(g.i++g.o).getD k 0,p-1)]
def Gr.m9(p:Int)(g:Gr):List (List Int):=g.ends p++(g.rows p).map fun r=>List.replicate g.jU 0++r
def Gr.sys(p:Int)(g:Gr):Sy:=⟨g.jU,g.w,g.m9 p⟩
def Ad(p k v:Int)(i o:bW):(Ds p k v i o).length<=2:=by
 unfold Ds
 (repeat' split) <;>simp
def Af{z B:Type}{f:z->List B}(h:∀a,(f a).length<=2):∀(l:List z),(l.flatMap f).length<=2*l
 |[]=>Rx
 |a::l=>by rw[List.flatMap_cons,bS,mr];have:=Af h l;have:=h a;omega
def Gr.zha(p:Int)(g:Gr):(g.eqs p).length<=2*g.es:=Af (fun e=>by unfold Ed.eqns;split<;>exact Ad ..) g.es
def zfG(s:gZ p N n M):∀r∈M,r.length=n/\∀x∈r,0<=x/\x<p:=fun r z=>by have D:=s.row r z;refine⟨D,fun x E=>?_⟩;obtain⟨d,B,rfl⟩:=List.getElem_of_mem E;have:=s.fB z (d:=d) Ry;rwa[bg,dq B]at this
def Gr.zfH(E:cP p=true)(h:g.okB=true):(g.sys p).Ok p:=by
 have D:=(et E).1;obtain⟨ac,ad,am,ao,J,ap,O,Q,a0⟩:=Gr.gx.1 h;have U:=Gr.lX h;have T:=zfG (BY (p:=p) (n:=g.jU+g.w) (X:=(List.range g.jU).map fun k=>[(k,1),(g.jU+(g.i++g.o).getD k 0,p-1)]) D fun L R q I=>by
  obtain⟨k,F,rfl⟩:=cd.1 R;have F:=dQ.1 F;simp only[jq,kC,kY]at I;rcases I with rfl|rfl
  .dsimp only;omega
  .have:=qo (l:=g.i++g.o) (j:=k) (by rw[bS];exact F);have a2:(g.i++g.o).getD k 0<g.w:=by
    rcases eO.1 this with B|B
    .exact O _ B
    .exact Q _ B
   dsimp only;omega)
 have ab:=zfG (Gr.zfO D J U);have a1:(g.rows p).length<=2*g.es:=by unfold Gr.rows;rw[bl];exact Gr.zha p g
 have H:∀r∈g.m9 p,r.length=g.jU+g.w/\∀x∈r,0<=x/\x<p:=fun r z=>by
  unfold Gr.m9 at z;rcases eO.1 z with z|z
  .refine T r ?_;unfold Gr.ends at z;rw[kB];exact z
  .obtain⟨r',Z,rfl⟩:=cd.1 z;obtain⟨c1,c2⟩:=ab r' Z;refine⟨by rw[bS,iU,c1],fun x B=>?_⟩;rcases eO.1 B with B|B
   .rw[(zh.1 B).2];omega
   .exact c2 x B
 unfold Gr.sys Sy.Ok;refine⟨E,D,(et E).2,SP,by dsimp only;unfold Gr.jU;omega,SP,SP,?_,fun r z=>by have:=(H r z).1;dsimp only;omega,fun r z=>(H r z).2⟩;dsimp only;unfold Gr.m9 Gr.ends;rw[bS,bl,bl,hJ];unfold Gr.jU;omega
end
def Bm(g:Gr)(c:bW)(r:Nat):Bool:=decide (c.getD r 0=r)&&(List.range g.w).any fun x=>g.onB x&&decide (c.getD x 0=r)
def vn(g:Gr)(c:bW):lT g c=(List.range g.w).filter (Bm g c):=rfl
def zW{z:Nat->Bool}{r:Nat}:∀{w:Nat},r<w->z r=true->((List.range w).filter z).idxOf r=((List.range r).filter z).length
 |0,h,_=>Ry
 |w+1,h,D=>by
  rw[mo,zi];by_cases e:r=w
  .subst e;have E:r∉(List.range r).filter z:=fun B=>by have:=dQ.1 (s9.1 B).1;omega
   rw[List.idxOf_append,ak E];have:([r].filter z)=[r]:=by simp[D]
   rw[this,List.idxOf_cons];simp
  .have B:r∈(List.range w).filter z:=s9.2 ⟨dQ.2 Ry,D⟩;rw[List.idxOf_append,ar B];exact zW Ry D
def zaa{z:Nat->Bool}(w:Nat):((List.range (w+1)).filter z).length=((List.range w).filter z)+if z w=true then 1 else 0:=by
 rw[mo,zi,bS];congr 1
 by_cases h:z w=true
 .rw[ar h];simp[h]
 .rw[ak h];simp[h]
def zib{c:bW}(h:oL g.w c)(z:g.In)(B:g.On x):Bm g c (c.getD x 0)=true:=by have:=zam h z B;rw[vn]at this;exact(s9.1 this).2
def CV(g:Gr)(c:bW)(x:Nat):Nat:=((List.range (c.getD x 0)).filter (Bm g c)).length
def zg5{c:bW}(h:oL g.w c)(z:g.In)(B:g.On x):(lT g c).idxOf (c.getD x 0)=CV g c x:=by have D:=z x B;have E:=h.le x D;exact zW Ry (zib h z B)
def Ed.map_congr{f:gj}{e:Ed}(h:∀x,x∈e.i∨x∈e.o->f x=Rj x):e.map f=e.map Rj:=by unfold Ed.map;rw[jr (fun x z=>h x (aG z)),jr (l:=e.o) (fun x z=>h x (aB z))]
def Gr.map_congr{w:Nat}{f:gj}(h:∀x,g.On x->f x=Rj x):g.map w f=g.map w Rj:=by unfold Gr.map;rw[jr (l:=g.es) (fun e B=>Ed.map_congr fun x z=>h x (aB (aB ⟨e,B,z⟩))),jr (l:=g.i) (fun x z=>h x (aG z)),jr (l:=g.o) (fun x z=>h x (aB (aG z)))]
def zfw(z:g.In)(D:∀q∈ps,q.1<g.w/\q.2<g.w):iB g ps=g.map ((List.range g.w).filter (Bm g (ji g.w ps))) (CV g (ji g.w ps)):=by
 have B:oL g.w (ji g.w ps):=C9 ps _ (An g.w) D;unfold iB;rw[vn];refine Gr.map_congr fun x E=>?_
 rw[<-vn];exact zg5 B z E
def zfx(n:Nat)(ps:qX)(q:gY):ji n (ps++[q])=yc (ji n ps) q.1 q.2:=by unfold ji;rw[List.foldl_append];rfl
def Tm.zfY(k:Int)(a b:Tm):(Tm.op k a b).xh=(a.xh&&(b.xh&&((Tm.op k a b).gr).okB)):=rfl
def Tm.As:∀{t:Tm},t.xh=true->t.gr.okB=true
 |.lf _,h=>h
 |.op k a b,h=>by rw[Tm.zfY,bn,bn]at h;exact h.2.2
def Tm.rH{p:Int}:∀{t:Tm},t.yo p->∀n∈t.leaves,zcC p n
 |.lf n,h,m,z=>by have z:m=n:=gy.1 z;subst z;exact h
 |.op k a b,h,m,z=>by
  rcases eO.1 z with z|z
  .exact Tm.rH h.1 m z
  .exact Tm.rH h.2 m z
def Tm.zcW{t:Tm}(R:t.yo p)(J:t.xh=true):t.gr.yo p:=fun e B=>by have I:=(Gr.gx.1 (Tm.As J)).2.2.2.2.1 e B;have O:(e.k,e.v)∈t.gr.kv:=cd.2 ⟨e,B,rfl⟩;obtain⟨n,Q,_,_,z⟩:=Tm.zbu.1 O;obtain⟨D,E,F,H⟩:=Tm.rH R n Q;simp only[Prod.mk.injEq]at z;refine⟨I,?_⟩;rw[z.1,z.2];exact⟨BM D,E,F,H⟩
def zaw{n:Nd}(F:2<=p)(z:dV n=true)(D:n.k≠1)(E:n.k=7∨n.k=13->n.v<p):n.v<p:=by
 unfold dV at z;rw[bn]at z;have z:=z.2;rw[ak D]at z;by_cases B:n.k=7∨n.k=13
 .exact E B
 .rw[ak B]at z;simp only[bn,cw]at z;omega
structure Gr.G1(g:Gr):Prop where
 inr:g.In
 fit:∀e∈g.es,e.mT=true
 on:∀x,x<g.w->g.On x
def Gr.nT(h:g.okB=true):g.G1:=⟨Gr.lX h,(Gr.gx.1 h).2.2.2.2.1,fun x z=>Gr.j9.1 ((Gr.gx.1 h).2.2.2.2.2.1 x z)⟩
def Ed.CG(f:gj)(e:Ed):(e.map f).mT=e.mT:=by unfold Ed.mT Ed.map;simp only[bl]
def Gr.ze7{w:Nat}{f:gj}{y:Nat}(h:g.On y):(g.map w f).On (f y):=by
 rcases h with h|h|⟨e,z,h⟩
 .exact aG (cd.2 ⟨y,h,rfl⟩)
 .exact aB (aG (cd.2 ⟨y,h,rfl⟩))
 .refine aB (aB ⟨e.map f,cd.2 ⟨e,z,rfl⟩,?_⟩);exact Xl
def tZ(n:Nat)(q:Nat->Bool):((List.range n).filter q).Nodup:=List.Pairwise.filter _ List.nodup_range
def zcx(R:g.In)(Q:∀e∈g.es,e.mT=true)(U:∀q∈ps,q.1<g.w/\q.2<g.w):(iB g ps).G1:=by
 refine⟨zcD R U,fun e J=>?_,fun x z=>?_⟩
 .obtain⟨I,O,rfl⟩:=cd.1 J;rw[Ed.CG];exact Q I O
 .have z:x < (lT g (ji g.w ps)).length:=z;have T:(lT g (ji g.w ps)).Nodup:=tZ _ _;obtain⟨r,H⟩:=aK ((lT g (ji g.w ps))[x]);have F:r∈lT g (ji g.w ps):=H ▸ oX z;rw[vn,s9]at F;have B:=F.2;unfold Bm at B;rw[bn,mn]at B;obtain⟨y,Z,D⟩:=B.2;rw[bn,cw]at D;have E:=Gr.ze7 (w:=(lT g (ji g.w ps)).length) (f:=fun x=>(lT g (ji g.w ps)).idxOf ((ji g.w ps).getD x 0)) (Gr.j9.1 D.1);have e:(lT g (ji g.w ps)).idxOf ((ji g.w ps).getD y 0)=x:=by rw[D.2,H];exact T.idxOf_getElem x z
  rw[e]at E;exact E
def zp{a b:Gr}(D:∀e∈a.es,e.mT=true)(E:∀e∈b.es,e.mT=true):∀e∈jj a b,e.mT=true:=fun e z=>by
 rcases eO.1 z with z|z
 .exact D e z
 .obtain⟨B,F,rfl⟩:=cd.1 z;rw[Ed.CG];exact E B F
def ls(a b:Gr):Gr:=⟨a.w+b.w,jj a b,a.i,b.o.map (· +a.w)⟩
def zcy(a b:Gr):List (Nat×Nat):=a.o.zip (b.i.map (· +a.w))
def zr{a b:Gr}(B:a.In)(D:b.In):(ls a b).In:=
 sH B D (fun x z=>by have:=B x (aG z);omega) fun x z=>by obtain⟨y,E,rfl⟩:=cd.1 z;have:=D y (aB (aG E));omega
def DT{a b:Gr}(D:a.In)(E:b.In):∀q∈zcy a b,q.1 < (ls a b).w/\q.2 < (ls a b).w:=fun q F=>by
 obtain⟨z,B⟩:=qB F;obtain⟨y,H,e⟩:=cd.1 B;have:=D q.1 (aB (aG z));have:=E y (aG H)
 show q.1<a.w+b.w/\q.2<a.w+b.w
 omega
def ze8{a b:Gr}(z:a.G1)(B:b.G1):(Bo a b).G1:=zcx (g:=ls a b) (ps:=zcy a b) (zr z.inr B.inr) (zp z.fit B.fit) (DT z.inr B.inr)
def ze9{a b:Gr}(B:a.G1)(D:b.G1):(pH a b).G1:=by
 have up:∀{l:bW},(∀x∈l,b.On x)->∀x∈l.map (· +a.w),x<a.w+b.w:=fun h x z=>by obtain⟨y,H,rfl⟩:=cd.1 z;have:=D.inr y (h y H);omega
 refine⟨sH B.inr D.inr (fun x z=>?_) (fun x z=>?_),zp B.fit D.fit,fun x z=>?_⟩
 .rcases eO.1 z with h|h
  .have:=B.inr x (aG h);omega
  .exact up (fun x z=>aG z) x h
 .rcases eO.1 z with h|h
  .have:=B.inr x (aB (aG h));omega
  .exact up (fun x z=>aB (aG z)) x h
 .have z:x<a.w+b.w:=z;by_cases h:x<a.w
  .rcases B.on x h with h|h|⟨e,E,h⟩
   .exact aG (s_ _ h)
   .exact aB (aG (s_ _ h))
   .exact aB (aB ⟨e,s_ _ E,h⟩)
  .have F:=Gr.ze7 (w:=0) (f:=(· +a.w)) (D.on (x-a.w) Ry);rw[show x-a.w+a.w=x by omega]at F;rcases F with h|h|⟨e,E,h⟩
   .exact aG (o5 _ h)
   .exact aB (aG (o5 _ h))
   .exact aB (aB ⟨e,o5 _ E,h⟩)
def mX(g:Gr):Bool:=decide (g.w<=100)&&(decide (g.es.length<=60)&&(decide (g.i.length<=12)&&decide (g.o.length<=12)))
def Gr.G1.okB(h:g.G1):g.okB=mX g:=by
 rw[nl,Gr.gx];unfold mX;simp only[bn,cw];constructor
 .rintro⟨B,D,E,F,_⟩;exact⟨B,D,E,F⟩
 .rintro⟨B,D,E,F⟩;exact⟨B,D,E,F,h.fit,fun x z=>Gr.j9.2 (h.on x z),fun x z=>h.inr x (aG z),fun x z=>h.inr x (aB (aG z)),fun e H=>⟨fun x z=>h.inr x (aB (aB ⟨e,H,aG z⟩)),fun x z=>h.inr x (aB (aB ⟨e,H,aB z⟩))⟩⟩
def di(h:aW w b cs t)(j:Nat)(z:cs.toList[j]?=some v):af w b j v:=(aV h j).trans z
def mT(a b:Int):Bool:=decide (a<=12)&&decide (b<=12)
def dd.zjL{a b:aa}{p:dw}(h:dd lo hi a b)(D:lo<=p.block)(E:p.block<hi):dd lo hi a (b.setCell p v):=⟨h.os,h.tape,h.output,by simpa using h.size,fun k z B=>(bx _ _ _ _ Ry).trans (h.block k z B)⟩
def zV(w:aa)(b o:Nat)(x:cZ)(z:aq)(cap:Nat):Prop:=
 af w b o (zI x.k)/\af w b (o+1) (zI x.a)/\af w b (o+2) (zI x.b)/\af w b (o+3) (zI x.c)/\af w b (o+4) (.slice z x.row cap)
def fF(w:aa)(A:aq)(xs:List cZ):Prop:=
 xs=[]∨∃b o,A=some ⟨b,o,none⟩/\∀(k:Nat) (x:cZ),xs[k]?=some x->∃z cap,zV w b (o+k*5) x z cap/\aU w z x.row
def zV.ext{o:Nat}{x:cZ}{cap:Nat}(h:zV w b o x Ri cap)(z:aj w w'):zV w' b o x Ri cap:=⟨ag z h.1,ag z h.2.1,ag z h.2.2.1,ag z h.2.2.2.1,ag z h.2.2.2.2⟩
def fF.ext{xs:List cZ}(h:fF w A xs)(z:aj w w'):fF w' A xs:=by
 rcases h with h|⟨b,o,F,H⟩
 .exact aG h
 .refine aB ⟨b,o,F,fun k x I=>?_⟩;obtain⟨B,cap,D,E⟩:=H k x I;exact⟨B,cap,D.ext z,E.ext z⟩
def fF.here{xs:List cZ}(h:fF w A xs)(B:k<xs.length):∃b o,A=some ⟨b,o,none⟩/\∀(k:Nat) (x:cZ),xs[k]?=some x->∃z cap,zV w b (o+k*5) x z cap/\aU w z x.row:=by
 rcases h with h|h
 .simp[h]at B
 .exact h
def jl(h:w.grownBy E row)(z:Below w E Rh):w.grownBy Rh row:=⟨z.os.trans h.os,z.tape.trans h.tape,z.output.trans h.output,bE h.size z.size,fun k B D=>(z.block k B).trans (h.block k B D)⟩
def vF(p:Int)(xs:aH):Prop:=∀x∈xs,0<=x/\(x<p∨x=0)
def vF.snoc(h:vF p xs)(B:(r:Int)<p∨r=0):vF p (xs++[(r:Int)]):=fun x z=>by
 rcases eO.1 z with z|z
 .exact h x z
 .rw[gy.1 z];omega
def zeD(C:Code)(b m:Nat)(w:aa)(p:Int)(n:Nat)(D:cy C b m w)(a7:m<=549755000000)(a8:n<=65536):ax 105 (wy (aX b) p n) w (kQ C b (m+2*n) (fun w' v=>∃xs,xs.length=n/\vF p xs/\au w' w v xs) w):=by
 obtain⟨ab,F⟩:=bL D D.lt;clear D;go_enter func105,ntmps105
 go_wp2;go_loopw [2,7] (fun i u wr=>∃(j:Nat) (xs:aH),j<=n/\i=.int .i64 j/\Hd (j+xs.length=n)/\Hd (vF p xs)/\Hd (au wr w u xs)/\Hd (cy C b (m+2*xs.length) wr)/\Hd (w.grownBy wr (some b))) (fun i _ _=>(intOf i).toNat)
 case atStart=>exact⟨n,[],ah _,rfl,zH rfl,zH (fun x a2=>by cases a2),zH (au.nil _ _),ab,zH (vB _ _)⟩
 case round=>
  obtain⟨j,xs,a4,rfl,z,I,Q,H,J⟩:=hrel;by_cases R:j=0
  .subst R;have a6:=z.o;go_wp2;go_ret
   exact⟨_,rfl,⟨xs,Ry,I,Q.o⟩,H.o.mono Ry,J.o⟩
  .have a5:0 < (j:Int):=Ry;have a9:IntKind.i64.wrap ((j:Int)-1)=((j:Int)-1):=Sq;have Gu:=zH (show xs.length<n by have:=z.o;omega);have ao:=zH (kJ C b (m+2*xs.length) wr p H.o Tf);clear R;go_wp2_with (first
    |(go_at_call 104;(with_reducible refine ao.o.mono ?_);rintro e a3 ⟨v,rfl,⟨r,rfl,Z,-⟩,T,E⟩;have a1:=zH Z;have ap:=zH (Q.o.drawn E F);have ac:=zH T;have O:=zH (J.o.trans E);clear T E Z)
    |(at_builtin;refine nZ rfl _ _ rfl _ a3 _ _ _ rfl rfl ap.o Tf O.o.size ?_;intro ba bb U _ B;have a0:=zH U;have ad:=zH (ac.below B F);have am:=zH (jl O B);clear U B))
   go_roundw
   case rel=>exact⟨j-1,xs++[(r:Int)],Ry,RB,zH (by have:=z.o;simp;omega),zH (I.snoc a1),a0,zH (ad.mono RX),am⟩
   case measure=>simp[intOf];omega
def Du(A A2:aq)(cap z:Nat)(xs ys:aH)(w:aa)(h:aU w A xs)(h2:aU w A2 ys)(D:xs.length<=maxLen)(E:ys.length<=maxLen):ax 57 (nj A xs cap A2 ys z) w (fp w (decide (xs=ys))):=by
 unfold maxLen at D E;by_cases hn:xs.length=ys
 .have B:((xs:Int)!=(ys:Int))=false:=RN;have Hn:=zH hn;clear hn;go_enter func57,ntmps57
  exact Z5
 .have B:((xs:Int)!=(ys:Int))=true:=RX;go_enter func57,ntmps57
  exact Xr
def zgR(A A2:aq)(n c n2 c2:Nat)(w:aa):ax 5 #[.slice A n c,.slice A2 n2 c2] w fun e w'=>∃y:Bool,e=.returned (.bool y)/\(y=false->n<=1048576/\n2<=1048576)/\w=w':=by
 by_cases B:1048576<n
 .have z:(1048576:Int)<n:=Ry;go_enter func5,ntmps5
  go_wp2;go_ret
  exact⟨true,rfl,(fun h=>RE),rfl⟩
 .have z:(n:Int)<=1048576:=Ry;have E:IntKind.i64.wrap (1048576-(n:Int))=1048576-(n:Int):=Sq;have D:decide (1048576 < (n:Int))=false:=RX;go_enter func5,ntmps5
  go_wp2;go_ret
  exact⟨_,rfl,(fun h=>by simp at h;omega),rfl⟩
def AY(A A2:aq)(cap z:Nat)(xs ys:aH)(w:aa)(h:aU w A xs)(h2:aU w A2 ys)(D:xs.length<=maxLen)(E:ys.length<=maxLen):ax 140 (nj A xs cap A2 ys z) w (fp w (decide (xs=ys))):=by
 unfold maxLen at D E;by_cases hn:xs.length=ys
 .have B:((xs:Int)!=(ys:Int))=false:=RN;have Hn:=zH hn;clear hn;go_enter func140,ntmps140
  exact Z5
 .have B:((xs:Int)!=(ys:Int))=true:=RX;go_enter func140,ntmps140
  exact Xr
def ldA(n:Nat)(z:aC):Nat->List Int
 |0=>List.replicate n (-1)
 |k+1=>(ldA n z k).set (pw z k) k
def CW(n:Nat)(z:aC):∀k,(ldA n z k).length=n
 |0=>by simp[ldA]
 |k+1=>by rw[ldA,fx];exact CW n z k
def zcP{n:Nat}{B:aC}{j:Nat}:∀{k:Nat} {x:Int},(ldA n B k)[j]?=some x->(0<=x↔∃i,i<k/\pw B i=j)/\-1<=x/\x < (k:Int)+1
 |0,x,h=>by
  rw[ldA,fR]at h;split at h
  .cases h
   exact⟨⟨fun h=>Ry,fun⟨i,h,_⟩=>Ry⟩,Ry,Ry⟩
  .cases h
 |k+1,x,h=>by
  rw[ldA,ph]at h;by_cases e:pw B k=j
  .rw[ar e]at h;split at h
   .cases h
    exact⟨⟨fun _=>⟨k,Ry,e⟩,fun _=>Ry⟩,Ry,Ry⟩
   .cases h
  .rw[ak e]at h;obtain⟨E,F,H⟩:=zcP h;exact⟨E.trans ⟨fun⟨i,hi,z⟩=>⟨i,Ry,z⟩,fun⟨i,hi,z⟩=>⟨i,by
    have:i≠k:=fun D=>e (by rw[<-D];exact z)
    omega,z⟩⟩,F,Ry⟩
def frA(p:Int)(n:Nat)(z:aC)(j:Nat):Nat->List Int
 |0=>tH n j
 |k+1=>(frA p n z j k).set (pw z k) ((p-eM z k j)%p)
def yG(p:Int)(n:Nat)(z:aC)(j:Nat):∀k,(frA p n z j k).length=n
 |0=>xb n j
 |k+1=>by rw[frA,fx];exact yG p n z j k
def zac{p:Int}{n j c:Nat}{z:aC}(B:c<n)(D:j<n):∀{k:Nat},(∀i,i<k->pw z i≠c)->(frA p n z j k)[c]?=some (if c=j then 1 else 0)
 |0,_=>by
  unfold frA tH;rw[ph];by_cases e:j=c
  .rw[ar e,ar (by simpa using D),ar e.symm]
  .rw[ak e,ak (fX e),fR,ar B]
 |k+1,h=>by rw[frA,ph,ak (h k Ry)];exact zac B D fun i hi=>h i Ry
def zad{p:Int}{n j r:Nat}{z:aC}(h:lS p n r (eM z) (pw z)):∀{k i:Nat},k<=r->i<k->(frA p n z j k)[pw z i]?=some ((p-eM z i j)%p)
 |0,i,_,hi=>Ry
 |k+1,i,D,hi=>by
  rw[frA,ph];by_cases e:i=k
  .subst e;rw[ar rfl,ar (by rw[yG];exact h.ln i Ry)]
  .rw[ak (fun B=>e (h.inj Ry Ry B).symm)];exact zad h Ry Ry
def zae{a:Int}:(p-a)%p=-a%p:=by rw[show p-a=-a+p*1 by omega,DI]
def zic(I:2<=p)(H:U.length=r)(h:lS p n r (eM U) (pw U))(F:j<n)(E:lG (pw U) r j):frA p n U j r=iR p n U j:=by
 apply eQ;intro c;by_cases z:c<n
 .unfold iR;rw[bR,kx z,H];by_cases B:∃i,i<r/\pw U i=c
  .obtain⟨i,hi,rfl⟩:=B;rw[zad h (ah _) hi,pa,qh h hi (E i hi),zae]
  .have D:∀i,i<r->pw U i≠c:=fun i hi e=>B ⟨i,hi,e⟩
   rw[zac z F D,pa,k_ D];split
   .rw[lO Ry Ry]
   .rw[Int.zero_emod]
 .rw[fy (by rw[yG];omega),fy (by simp[iR];omega)]
def frJ(n:Nat)(z:aC)(k:Nat):List Nat:=(List.range k).filter fun j=>(List.range z).all fun i=>decide (pw z i≠j)
def zg6(n:Nat)(z:aC):frJ n z n=xS n z:=rfl
def zcR(n:Nat)(z:aC)(k:Nat):(frJ n z k).length<=k:=bE (yW _ _) Rx
def zg7(h:lG (pw U) U k):frJ n U (k+1)=frJ n U k++[k]:=by
 unfold frJ;rw[mo,zi];congr 1
 rw[List.filter_cons_of_pos]
 .rfl
 .rw[eD];intro i hi;rw[dQ]at hi;simpa using h i hi
def zid(h:∃i,i<U.length/\pw U i=k):frJ n U (k+1)=frJ n U k:=by unfold frJ;rw[mo,zi];obtain⟨i,hi,z⟩:=h;rw[List.filter_cons_of_neg,List.filter_nil,mv];rw[eD];intro h;have:=h i (dQ.2 hi);simp[z]at this
end Go.Proofs.YtdpgblncijojiaaGreatDoor
