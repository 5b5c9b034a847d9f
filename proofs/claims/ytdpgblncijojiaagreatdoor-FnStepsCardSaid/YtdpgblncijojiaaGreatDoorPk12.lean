/- Parts of the walks. Conditions: as stated with each. -/
import Derived.Test.YtdpgblncijojiaaGreatDoorPk11
namespace Go.Proofs.YtdpgblncijojiaaGreatDoor
open Go.RowKit Tryz
set_option linter.all false
variable{B N b d hi i k lo n:Nat}{H R U u v v0 v1 v2 v3 v4 y z2:au}{RE RG Rx:dD}{S:List Tm}{cs:gh}{l:bX}{p:Int}{s:Sy}{t:dG}{us:bG}{w w':aa}
section
variable{w2:aa}{E8 E10 E11 E12:gh}{v8 v10 v11 v12:au}{R8 R10:aE}{r11:aG}{R12:aE}{l8 h8 b8 l10 h10 b10 l11 h11 b11 l12 h12 b12:Nat}{W W':aa}
end
def dJ(h:Below B w w')(z:B<=b)(v0 v1 v2:au):Below B w (((w'.setCell ⟨b,0,none⟩ v0).setCell ⟨b,1,none⟩ v1).setCell ⟨b,2,none⟩ v2):=((h.setCell z _).setCell z _).setCell z _
def gQ(h:aU w b #[H,R,z2] t):(((w.setCell ⟨b,0,none⟩ v0).setCell ⟨b,1,none⟩ v1).setCell ⟨b,2,none⟩ v2).heap[b]?=some (.cells #[v0,v1,v2] t (0,0)):=by have z:=bs w b 0 _ _ v0 h;have D:=bs _ b 1 _ _ v1 z;have E:=bs _ b 2 _ _ v2 D;simpa using E
def kC{x:au}(h:aU w b #[x,y] t):ah w b 0 x/\ah w b 1 y/\w.frozen? ⟨b,0,none⟩=false/\w.frozen? ⟨b,1,none⟩=false:=by simp[World.cell?,World.frozen?,h]
def aK{x:au}(h:aU w b #[x,y,H,u] t):ah w b 0 x/\ah w b 1 y/\ah w b 2 H/\ah w b 3 u:=by simp[World.cell?,h]
def cP{x:au}(h:aU w b #[x,y,H,u] t):w.frozen? ⟨b,0,none⟩=false/\w.frozen? ⟨b,1,none⟩=false/\w.frozen? ⟨b,2,none⟩=false/\w.frozen? ⟨b,3,none⟩=false:=by simp[World.frozen?,h]
abbrev zgA(w:aa)(b:Nat)(v0 v1:au):World:=(w.setCell ⟨b,0,none⟩ v0).setCell ⟨b,1,none⟩ v1
abbrev eh(w:aa)(b:Nat)(v0 v1 v2 v3:au):World:=(((w.setCell ⟨b,0,none⟩ v0).setCell ⟨b,1,none⟩ v1).setCell ⟨b,2,none⟩ v2).setCell ⟨b,3,none⟩ v3
def yF(h:aU w b #[H,R] t):(zgA w b v0 v1).heap[b]?=some (.cells #[v0,v1] t (0,0)):=by have z:=bs w b 0 _ _ v0 h;have D:=bs _ b 1 _ _ v1 z;simpa[zgA]using D
def cT(h:aU w b #[H,R,z2,U] t):(eh w b v0 v1 v2 v3).heap[b]?=some (.cells #[v0,v1,v2,v3] t (0,0)):=by have z:=bs w b 0 _ _ v0 h;have D:=bs _ b 1 _ _ v1 z;have E:=bs _ b 2 _ _ v2 D;have F:=bs _ b 3 _ _ v3 E;simpa[eh]using F
def jW(h:k≠b):(eh w b v0 v1 v2 v3).heap[k]?=w.heap[k]?:=(bw _ _ _ _ So).trans ((bw _ _ _ _ So).trans ((bw _ _ _ _ So).trans (bw _ _ _ _ So)))
def ey:(eh w b v0 v1 v2 v3:Nat)=w:=by simp[eh]
def de(h:Below B w w')(z:B<=b)(v0 v1 v2 v3:au):Below B w (eh w' b v0 v1 v2 v3):=(((h.setCell z _).setCell z _).setCell z _).setCell z _
def mC{p2:dD}(z:ai w w')(t:w.cell? RG=some v1/\w.cell? p2=some v2):w'.cell? RG=some v1/\w'.cell? p2=some v2:=⟨av z t.1,av z t.2⟩
def qH{p2:dD}(z:ai w w')(t:w.cell? RG=some v1/\w.cell? p2=some v2/\w.cell? RE=some v3):w'.cell? RG=some v1/\w'.cell? p2=some v2/\w'.cell? RE=some v3:=⟨av z t.1,av z t.2.1,av z t.2.2⟩
def zaW{p2:dD}(z:ai w w')(t:w.cell? RG=some v1/\w.cell? p2=some v2/\w.cell? RE=some v3/\w.cell? Rx=some v4):w'.cell? RG=some v1/\w'.cell? p2=some v2/\w'.cell? RE=some v3/\w'.cell? Rx=some v4:=⟨av z t.1,av z t.2.1,av z t.2.2.1,av z t.2.2.2⟩
def ze0{p2 D:dD}(z:ai w w')(t:w.cell? RG=some v1/\w.cell? p2=some v2/\w.cell? RE=some v3/\w.cell? Rx=some v4/\w.cell? D=some H):w'.cell? RG=some v1/\w'.cell? p2=some v2/\w'.cell? RE=some v3/\w'.cell? Rx=some v4/\w'.cell? D=some H:=⟨av z t.1,av z t.2.1,av z t.2.2.1,av z t.2.2.2.1,av z t.2.2.2.2⟩
def zY{p2 D E:dD}(z:ai w w')(t:w.cell? RG=some v1/\w.cell? p2=some v2/\w.cell? RE=some v3/\w.cell? Rx=some v4/\w.cell? D=some H/\w.cell? E=some R):w'.cell? RG=some v1/\w'.cell? p2=some v2/\w'.cell? RE=some v3/\w'.cell? Rx=some v4/\w'.cell? D=some H/\w'.cell? E=some R:=⟨av z t.1,av z t.2.1,av z t.2.2.1,av z t.2.2.2.1,av z t.2.2.2.2.1,av z t.2.2.2.2.2⟩
def aD(w:aa)(o:Obj):Below w w (w.alloc o):=(aj _ _).alloc (ag _) o
def zaX(w:aa)(o:Obj):(w.alloc o).drew.heap[w.heap.size]?=some o:=az w o rfl
def aI(w:aa):Below w w w.drew:=(aj _ _).drew
section
variable{M:aE}
def ldF(z:aE)(i:Nat):Nat:=zeZ (z.getD i [])
def yp(v:Nat)(M:aE):List (List Int):=M.map fun r=>r.take v
def zeN{v:Nat}(z:d<v):eM (yp v M) i d=eM M i d:=by
 unfold eM yp;rw[bu (l:=List.map _ _),cp,bu (l:=M)];cases M[i]? with
 |none=>simp
 |some r=>simp[bu,fY,z]
def Di{v:Nat}(h:iO p N n M)(E:v<=n):iO p N v (yp v M):=by refine⟨by simp[yp,h.1],fun i hi=>?_,fun i d hi D=>by rw[zeN D];exact h.2.2 i d hi RU⟩;have:=h.2.1 i hi;unfold yp;obtain⟨r,z⟩:=aB (by rw[h.1];exact hi:i<M.length);rw[bu,z]at this;rw[bu,cp,z];simp only[sd,xP,dH]at this ⊢;omega
def yq(f:Nat->Int)(v:Nat):∀(h:Nat),(∀c,v<=c->f c=0)->cN f (v+h)=cN f v
 |0,_=>rfl
 |h+1,z=>by rw[<-pW,cN,yq f v h z,z _ RU];omega
def zaM(v:Nat)(x:Nat->Int)(c:Nat):Int:=if c<v then x c else 0
def zgs{v h:Nat}(x:Nat->Int):(∀i,i<N->p∣cN (fun d=>eM (yp v M) i d*x d) v)↔Cq p (v+h) N (eM M) (zaM v x):=by
 refine sf fun i=>sf fun _=>?_
 rw[yq _ v h (fun c D=>by unfold zaM;rw[al RU,pQ]),dn (f:=fun d=>eM (yp v M) i d*x d) (g:=fun d=>eM M i d*zaM v x d) (fun d z=>by
  try dsimp only
  rw[zeN z];unfold zaM;rw[ay z])]
end
section
variable{M:aE}
def zbF{r:aG}{v:Nat}(h:v<=r.length):ml r (iota v)=r.take v:=by
 apply fu;intro i;unfold ml;rw[cp,fY];by_cases hi:i<v
 .rw[qG hi,ay hi];obtain⟨x,z⟩:=aB (RU:i<r.length);simp[bu,z]
 .rw[al hi,fQ SI];rfl
def iO.row(h:iO p N n M):∀r∈M,r.length=n:=fun r z=>by obtain⟨i,hi⟩:=e_.1 z;have hl:=(bA.1 hi).1;have:=h.2.1 i TV;rwa[bu,hi]at this
def uZ{v:Nat}(h:iO p N n M)(D:v<=n):jq M (iota v)=yp v M:=jD fun r z=>zbF (by rw[h.row r z];exact D)
def zd7(h:s.Ok p):iO p s.rows (s.v+s.h).toNat s.rows:=by
 refine⟨rfl,fun i hi=>?_,fun i d hi z=>?_⟩
 .have:=Sys.len h _ (gT hi);omega
 .exact tb h hi (by have:=Sys.v0 h;have:=Sys.h0 h;omega)
end

structure qC where
 f:List Nat
 i:List Nat
 o:List Nat
def qC.add(s:qC)(a b c:Nat):qC:=⟨s.f++[a],s.i++[b],s.o++[c]⟩
def ku(s:qC)(n:Nd):Option qC:=
 if dZ n=true then some (s.add s.f (pz n) (sN n))
 else if opB n=true/\n.v=0/\n.e=true/\2<=s.f.length/\1<=s.f.getD (s.f.length-1) 0 then
  match jl n.k (s.i.getD (s.f.getD (s.f.length-1) 0-1) 0,s.o.getD (s.f.getD (s.f.length-1) 0-1) 0) (s.i.getD (s.f.length-1) 0,s.o.getD (s.f.length-1) 0)with
  |some c=>some (s.add (s.f.getD (s.f.getD (s.f.length-1) 0-1) 0) c.1 c.2)
  |none=>none
 else none
def kZ:List Nd->qC->Option qC
 |[],s=>some s
 |n::L,s=>match ku s n with
  |some z=>kZ L z
  |none=>none
def qF(s:qC):Nat->List Tm->Prop
 |k,[]=>k=0
 |k,t::S=>∃c,t.ty=some c/\1<=k/\k<=s.f.length/\s.f.getD (k-1) 0+t.flat.length=k/\s.i.getD (k-1) 0=c.1/\s.o.getD (k-1) 0=c.2/\qF s (s.f.getD (k-1) 0) S
structure tS(s:qC)(S:List Tm):Prop where
 li:s.i.length=s.f
 lo:s.o.length=s.f
 ch:qF s s.f.length S
def tT{a:Nat}(h:k<l.length):(l++[a]).getD k 0=l.getD k 0:=by rw[bu,dx h,bu]
def yj{a:Nat}:(l++[a]).getD l 0=a:=by rw[bu,gv (ag _),vA];rfl
def Tm.oS(t:Tm):1<=t.flat.length:=by
 cases t with
 |lf n=>simp[Tm.flat]
 |op k a b=>simp[Tm.flat];omega
def qF.add{s:qC}{a b c:Nat}(R:s.i.length=s.f)(lo:s.o.length=s.f):∀{S:List Tm} {k:Nat},k<=s.f.length->qF s k S->qF (s.add a b c) k S
 |[],k,_,h=>h
 |t::S,k,Y,⟨d,F,H,U,I,J,O,Q⟩=>by have z:(s.add a b c).f.getD (k-1) 0=s.f.getD (k-1) 0:=tT RU;have D:(s.add a b c).i.getD (k-1) 0=s.i.getD (k-1) 0:=tT RU;have E:(s.add a b c).o.getD (k-1) 0=s.o.getD (k-1) 0:=tT RU;refine⟨d,F,H,by show k<=(s.f++[a]).length;rw[bQ];omega,by rw[z];exact I,by rw[D];exact J,by rw[E];exact O,?_⟩;rw[z];exact qF.add R lo RU Q
def zeL{s:qC}{z:List Tm}{t:Tm}{c:gW}{a:Nat}(h:tS s S)(I:t.ty=some c)(H:a+t.flat.length=s.f+1)(F:qF s a z):tS (s.add a c.1 c.2) (t::z):=by
 have J:=t.oS;have E:(s.add a c.1 c.2).f.length=s.f+1:=by show(s.f++[a]).length=_;simp
 have D:(s.add a c.1 c.2).f.getD s.f 0=a:=yj;refine⟨by show(s.i++[c.1]).length=(s.f++[a]);simp[h.li],by show(s.o++[c.2]).length=(s.f++[a]);simp[h.lo],?_⟩;rw[E];refine⟨c,I,RU,by rw[E];exact ag _,?_,?_,?_,?_⟩ <;>rw[Nat.add_sub_cancel]
 .rw[D];exact H
 .show(s.i++[c.1]).getD s.f 0=c.1
  rw[<-h.li];exact yj
 .show(s.o++[c.2]).getD s.f 0=c.2
  rw[<-h.lo];exact yj
 .rw[D];exact qF.add h.li h.lo RU F
def zb0{n:Nd}(h:opB n=true):dZ n=false:=by
 unfold opB at h;simp only[lQ,cK]at h;cases z:dZ n with
 |false=>rfl
 |true=>
  exfalso;unfold dZ at z;rw[bC]at z;have z:=z.2;rw[al RU,al RU]at z;simp only[bC,cK]at z;omega
def yk{s:qC}(n:Nd)(h:tS s S):(∃Y I,ku s n=some Y/\stepT S n=some I/\tS Y I)∨(ku s n=none/\stepT S n=none):=by
 by_cases E:opB n=true
 .have z:=zb0 E;unfold ku stepT;rw[z,al RX,ay E];by_cases F:n.v=0/\n.e=true
  .rw[ay F];have H:=h.ch
   match S,H with
   |[],H=>
    right;have:s.f.length=0:=H;exact⟨al (fun D=>RU),rfl⟩
   |[t],⟨d,O,ao,ap,a0,Q,R,a1⟩=>
    right;have:s.f.getD (s.f.length-1) 0=0:=a1;exact⟨al (fun D=>RU),rfl⟩
   |b::a::a8,⟨d,O,ao,ap,a0,Q,R,J,Z,ab,a9,ba,ac,ad,am⟩=>
    have bb:=b.oS;rw[ay ⟨E,F.1,F.2,RU,ab⟩,Q,R,ac,ad];dsimp only;have U:(Tm.op n.k a b).ty=jl n.k J d:=by unfold Tm.ty;rw[Z,O]
    rw[U];obtain⟨a4,a5⟩:=d;obtain⟨a6,a7⟩:=J;cases a3:jl n.k (a6,a7) (a4,a5)with
    |none=>right;exact⟨rfl,rfl⟩
    |some c=>
     left;refine⟨_,_,rfl,rfl,?_⟩;refine zeL h (U.trans a3) ?_ am;have a2:(Tm.op n.k a b).flat=a.flat++b.flat++[⟨n.k,0,true⟩]:=rfl;rw[a2,bQ,bQ,xO];omega
  .rw[al F,al (fun D=>F ⟨D.2.1,D.2.2.1⟩)];right;exact⟨rfl,rfl⟩
 .unfold ku stepT;rw[al E];by_cases z:dZ n=true
  .rw[ay z,ay z];left;exact⟨_,_,rfl,rfl,zeL (c:=(pz n,sN n)) h (by unfold Tm.ty;rw[ay z]) (by simp[Tm.flat]) h.ch⟩
  .rw[al z,al z,al (fun D=>E D.1)];right;exact⟨rfl,rfl⟩
def yl:∀(L:List Nd) {s:qC} {S:List Tm},tS s S->(∃F z,kZ L s=some F/\iZ L S=some z/\tS F z)∨(kZ L s=none/\iZ L S=none)
 |[],s,S,h=>aF ⟨s,S,rfl,rfl,h⟩
 |n::L,s,S,h=>by
  unfold kZ iZ;rcases yk n h with⟨F,z,D,E,h'⟩|⟨D,E⟩
  .rw[D,E];exact yl L h'
  .rw[D,E];exact aA ⟨rfl,rfl⟩
def zcU{L:List Nd}(ao:L≠[]):(∃s,kZ L ⟨[],[],[]⟩=some s/\s.f.getD (L.length-1) 0=0)↔∃t,zhX L t:=by
 have am:tS ⟨[],[],[]⟩ []:=⟨rfl,rfl,rfl⟩;rcases yl L am with⟨s,S,H,z,h⟩|⟨H,z⟩
 .have ac:=tl z;simp only[sO,r_]at ac;have ap:∀{S:List Tm} {k:Nat},qF s k S->(sO S).length=k:=by
   intro S;induction S with
   |nil=>intro k F;have:k=0:=F;rw[this];rfl
   |cons t S ih=>
    rintro k ⟨d,O,Q,R,U,Y,Z,E⟩;unfold sO;rw[bQ,ih E];omega
  have F:=ap h.ch;rw[ac]at F;constructor
  .rintro⟨a4,D,ab⟩;rw[H]at D;simp only[dX]at D;subst D;have I:=h.ch
   match S,I with
   |[],I=>
    have:s.f.length=0:=I;exact absurd (vB.1 (F.trans this)) ao
   |t::ad,⟨d,O,Q,R,U,Y,Z,E⟩=>
    rw[F]at ab;rw[ab]at E
    match ad,E with
    |[],_=>exact⟨t,qL.2 z⟩
    |a5::a0,⟨a1,a2,a3,_⟩=>omega
  .rintro⟨t,J⟩;have:=(qL.1 J).symm.trans z;simp only[dX]at this;subst this;obtain⟨d,O,Q,R,U,Y,Z,E⟩:=h.ch;have:s.f.getD (s.f.length-1) 0=0:=E;exact⟨s,H,by rw[F];exact this⟩
 .constructor
  .rintro⟨s,D,_⟩;rw[H]at D;cases D
  .rintro⟨t,J⟩;rw[qL.1 J]at z;cases z
def du(h:aU w b cs t)(j:Nat)(z:cs.toList[j]?=some v):ah w b j v:=(aW h j).trans z
def mE(a b:Int):Bool:=decide (a<=12)&&decide (b<=12)
def dh.zjm{a b:aa}{p:dD}(h:dh lo hi a b)(E:lo<=p.block)(F:p.block<hi):dh lo hi a (b.setCell p v):=⟨h.os,h.tape,h.output,by simpa using h.size,fun k z D=>(bw _ _ _ _ RU).trans (h.block k z D)⟩
def bq.cells{g cap:Nat}{xs:List cS}(J:n=xs.length)(h:bq w B (.slice (aY g) n cap) xs us)(I:k<n):∃x u,xs[k]?=some x/\us[k]?=some u/\ar w B u x.row/\(ah w g (k*5) (zI x.k)/\ah w g (k*5+1) (zI x.a)/\ah w g (k*5+2) (zI x.b)/\ah w g (k*5+3) (zI x.c)/\ah w g (k*5+4) u)/\(w.frozen? ⟨g,k*5,none⟩=false/\w.frozen? ⟨g,k*5+1,none⟩=false/\w.frozen? ⟨g,k*5+2,none⟩=false/\w.frozen? ⟨g,k*5+3,none⟩=false/\w.frozen? ⟨g,k*5+4,none⟩=false):=by
 subst J;obtain⟨x,E⟩:=aB I;obtain⟨u,F,O⟩:=h.get E;have D:∀j,j<5->w.cell? ⟨g,k*5+j,none⟩=(dq x u)[j]?:=fun j H=>by rw[h.outer.cellAt _ RU,nn H E F]
 have z:=h.outer.frozenAt;exact⟨x,u,E,F,O,⟨D 0 RX,D 1 RX,D 2 RX,D 3 RX,D 4 RX⟩,⟨z _,z _,z _,z _,z _⟩⟩
end Go.Proofs.YtdpgblncijojiaaGreatDoor
