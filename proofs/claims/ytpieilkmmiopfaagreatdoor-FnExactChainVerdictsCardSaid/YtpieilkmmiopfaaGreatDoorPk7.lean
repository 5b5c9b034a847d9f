/- Parts of the walks and laws (Lin1, Lin2, Lin3). Conditions: as stated with each. -/
import Derived.Test.YtpieilkmmiopfaaGreatDoorPk5
namespace Go.Proofs.YtpieilkmmiopfaaGreatDoor
open Go.RowKit Tryz
set_option linter.all false
variable{H c i j k n r:Nat}{Ri p:Int}
structure zaV(p:Int)(n m:Nat)(A:Nat->Nat->Int)(l:ir):Prop where
 bd:∀i c,i<m->c<n->0<=A i c/\A i c<p
 ln:∀i,i<m->l i<n
 inc:∀i j,i<j->j<m->l i<l j
 one:∀i,i<m->A i (l i)=1
 low:∀i c,i<m->c<l i->A i c=0
 col:∀i j,i<m->j<m->i≠j->A i (l j)=0
section
variable{p:Int}{n m:Nat}{A B:Nat->Nat->Int}{l:ir}
theorem zaV.inj(D:zaV p n m A l)(hi:i<m)(F:j<m)(e:l i=l j):i=j:=by
 rcases Nat.lt_trichotomy i j with h|h|h
 .have:=D.inc i j h F;omega
 .exact h
 .have:=D.inc j i h hi;omega
end
section
open Classical
variable{p:Int}{n m:Nat}{A:Nat->Nat->Int}{l:ir}
end
structure BH(p:Int)(n N:Nat)(M:Nat->Nat->Int)(r c:Nat)(l:ir):Prop where
 bd:∀i d,i<N->d<n->0<=M i d/\M i d<p
 rN:r<=N
 cn:c<=n
 lt:∀i,i<r->l i<c
 inc:∀i j,i<j->j<r->l i<l j
 one:∀i,i<r->M i (l i)=1
 low:∀i d,i<r->d<l i->M i d=0
 col:∀i j,i<r->j<N->j≠i->M j (l i)=0
 z:∀j d,r<=j->j<N->d<c->M j d=0
def swN(r k i:Nat):Nat:=if i=r then k else if i=k then r else i
theorem zgj(r k i:Nat):swN r k (swN r k i)=i:=by unfold swN;split<;>split<;>(try split)<;>omega
theorem zbZ(D:r<H)(h:k<H)(hi:i<H):swN r k i<H:=Vr
theorem pz(r k:Nat):swN r k r=k:=by simp[swN]
theorem Dt(h:r<=k)(hi:i<r):swN r k i=i:=by unfold swN;rw[av Rr,av Rr]
theorem zfl(h:r<=k)(hi:r<=i):r<=swN r k i:=Vr
def qK(p:Int)(r k c:Nat)(h:Int)(M X:Nat->Nat->Int)(i d:Nat):Int:=
 if i=r then X k d*h%p else(X (swN r k i) d-M (swN r k i) c*(X k d*h%p))%p
theorem zdW{M:Nat->Nat->Int}{l:ir}(h:BH p n H M r c l)(I:c<n)(G:∀j,r<=j->j<H->M j c=0):BH p n H M r (c+1) l:=
 ⟨h.bd,h.rN,Rr,fun i hi=>by have:=h.lt i hi;omega,h.inc,h.one,h.low,h.col,fun j d D F J=>by
  by_cases e:d=c
  .subst e;exact G j D F
  .exact h.z j d D F Rr⟩
theorem zdX{M:Nat->Nat->Int}{l:ir}(a1:2<=p)(D:BH p n H M r c l)(a2:c<n)(I:r<=k)(N:k<H)(U:M k c*Ri%p=1):BH p n H (qK p r k c Ri M M) (r+1) (c+1) (fun i=>if i=r then c else l i):=by
 have Y:r<H:=Rr;have ad:p≠0:=Rr;have O:∀d,d<c->M k d*Ri%p=0:=fun d F=>by rw[D.z k d I N F];simp
 have V:∀i,i<r->M k (l i)*Ri%p=0:=fun i hi=>O (l i) (D.lt i hi)
 have R:∀i d,i≠r->M k d*Ri%p=0->i<H->d<n->qK p r k c Ri M M i d=M (swN r k i) d:=fun i d hi ao ap F=>by have Z:=D.bd (swN r k i) d (zbZ Y N ap) F;unfold qK;rw[av hi,ao,Int.mul_zero,Int.sub_zero,qB Z.1 Z.2]
 have T:∀d,qK p r k c Ri M M r d=M k d*Ri%p:=fun d=>by unfold qK;rw[ay rfl]
 refine⟨fun i d hi F=>?_,Rr,Rr,fun i hi=>?_,fun i j a0 J=>?_,fun i hi=>?_,fun i d hi F=>?_,fun i j hi J ac=>?_,fun j d J ab F=>?_⟩
 .unfold qK;split
  .exact⟨gU _ ad,gV _ Rr⟩
  .exact⟨gU _ ad,gV _ Rr⟩
 .try dsimp only
  split
  .omega
  .have:=D.lt i Rr;omega
 .try dsimp only
  rw[av Rr];split
  .exact D.lt i Rr
  .exact D.inc i j a0 Rr
 .try dsimp only
  by_cases e:i=r
  .subst e;rw[ay rfl,T];exact U
  .have h:i<r:=Rr;have:=D.lt i h;rw[av e,R i (l i) e (V i h) Rr Rr,Dt I h];exact D.one i h
 .by_cases e:i=r
  .subst e;try dsimp only at F
   rw[ay rfl]at F;rw[T];exact O d F
  .have h:i<r:=Rr;try dsimp only at F
   rw[av e]at F;have:=D.lt i h;rw[R i d e (O d Rr) Rr Rr,Dt I h];exact D.low i d h F
 .try dsimp only
  by_cases e:i=r
  .subst e;rw[ay rfl];unfold qK;rw[av ac,U,Int.mul_one,Int.sub_self];rfl
  .have h:i<r:=Rr;have a3:=D.lt i h;rw[av e];by_cases G:j=r
   .subst G;rw[T];exact V i h
   .rw[R j (l i) G (V i h) J Rr];refine D.col i _ h (zbZ Y N J) (fun am=>ac ?_);rw[<-zgj r k j,am,Dt I h]
 .have G:j≠r:=Rr;by_cases e:d=c
  .subst e;unfold qK;rw[av G,U,Int.mul_one,Int.sub_self];rfl
  .rw[R j d G (O d Rr) ab Rr];exact D.z _ d (zfl I Rr) (zbZ Y N ab) Rr
theorem zb0{M:Nat->Nat->Int}(h:∀i d,i<H->d<n->0<=M i d/\M i d<p):BH p n H M 0 0 (fun _=>0):=⟨h,aX _,aX _,fun i hi=>Rr,fun i j _ F=>Rr,fun i hi=>Rr,fun i d hi=>Rr,fun i j hi=>Rr,fun j d _ _ D=>Rr⟩
theorem zfm{M:Nat->Nat->Int}{l:ir}(h:BH p n H M r c l):zaV p n r M l:=⟨fun i d hi D=>h.bd i d (by have:=h.rN;omega) D,fun i hi=>by have:=h.lt i hi;have:=h.cn;omega,h.inc,h.one,h.low,fun i j hi F G=>h.col j i F (by have:=h.rN;omega) G⟩
theorem zdY{M:Nat->Nat->Int}{l:ir}(h:BH p n H M r c l)(G:c=n∨r=H):∀i,r<=i->i<H->∀d,d<n->M i d=0:=fun i D F d I=>by
 rcases G with e|e
 .exact h.z i d D F Rr
 .omega
end Go.Proofs.YtpieilkmmiopfaaGreatDoor
