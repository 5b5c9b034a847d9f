/- Parts of the walks. Conditions: as stated with each. -/
import Derived.Test.YtpieilkmmiopfaaGreatDoorPk5
namespace Go.Proofs.YtpieilkmmiopfaaGreatDoor
open Go.RowKit Tryz
set_option linter.all false
variable{J N b c i j k n r x y:Nat}{f:Nat->Int}{iv p:Int}{l:bP}{ps:ng}
def bW(f:Nat->Int):Nat->Int
 |0=>0
 |n+1=>bW f n+f n
def bF{f g}:∀{n:Nat},(∀c,c<n->f c=g c)->bW f n=bW g n
 |0,_=>rfl
 |n+1,h=>by rw[bW,bW,bF fun c D=>h c Qu,h n Qu]
def gQ{f}:∀{n:Nat},(∀c,c<n->f c=0)->bW f n=0
 |0,_=>rfl
 |n+1,h=>by rw[bW,gQ fun c D=>h c Qu,h n Qu];rfl
def iC{f}{k}:∀{n:Nat},k<n->(∀c,c<n->c≠k->f c=0)->bW f n=f k
 |0,h,_=>Qu
 |n+1,H,h=>by
  rw[bW];by_cases F:k=n
  .subst F;rw[gQ fun c D=>h c Qu Qu];omega
  .rw[iC Qu fun c D G=>h c Qu G,h n Qu Qu];omega
def kI f g:∀(n:Nat),bW (fun c=>f c+g c) n=bW f n+bW g n
 |0=>rfl
 |n+1=>by rw[bW,bW,bW,kI f g n];omega
def lH a f:∀(n:Nat),bW (fun c=>a*f c) n=a*bW f n
 |0=>by simp[bW]
 |n+1=>by rw[bW,bW,lH a f n,Aq]
def vN{p}{f}:∀{n:Nat},(∀c,c<n->p∣f c)->p∣bW f n
 |0,_=>⟨0,by simp[bW]⟩
 |n+1,h=>ir (vN fun c D=>h c Qu) (h n Qu)
def eN{p}{f g}:∀{n:Nat},(∀c,c<n->p∣f c-g c)->p∣bW f n-bW g n
 |0,_=>⟨0,by simp[bW]⟩
 |n+1,h=>by have:=ir (eN (n:=n) fun c D=>h c Qu) (h n Qu);rw[bW,bW];rwa[show bW f n+f n-(bW g n+g n)=bW f n-bW g n+(f n-g n) by omega]
structure mi(p:Int)(n m:Nat)(A:Nat->Nat->Int)(l:gN):Prop where
 bd:∀i c,i<m->c<n->0<=A i c/\A i c<p
 ln:∀i,i<m->l i<n
 Ν:∀i j,i<j->j<m->l i<l j
 ψ:∀i,i<m->A i (l i)=1
 À:∀i c,i<m->c<l i->A i c=0
 Å:∀i j,i<m->j<m->i≠j->A i (l j)=0
def Cz(p:Int)(n m:Nat)(A:Nat->Nat->Int)(x:Nat->Int):Prop:=∀i,i<m->p∣bW (fun c=>A i c*x c) n
def mo(A:Nat->Nat->Int)(l:gN)(m j:Nat)(c:Nat):Int:=(if c=j then 1 else 0)-bW (fun i=>if l i=c then A i j else 0) m
section
variable{p:Int}{n m:Nat}{A B:Nat->Nat->Int}{l:gN}
def mi.inj(D:mi p n m A l)(hi:i<m)(F:j<m)(e:l i=l j):i=j:=by
 rcases An i j with h|h|h
 .have:=D.Ν i j h F;omega
 .exact h
 .have:=D.Ν j i h hi;omega
def tP(h:mi p n m A l)(hi:i<m)(F:l i≠j):mo A l m j (l i)=- A i j:=by unfold mo;rw[aj F,iC hi (fun c D G=>aj (fun e=>G (h.inj D hi e))),ak rfl];omega
def kt(h:∀i,i<m->l i≠c):mo A l m j c=if c=j then 1 else 0:=by unfold mo;rw[gQ fun i hi=>aj (h i hi)];omega
def zdT(J:mi p n m A l)(O:mi p n m B l)(hi:i<m)(T:j<n)(F:∀i,i<m->l i≠j):bW (fun c=>B i c*mo A l m j c) n=B i j-A i j:=by
 have e:∀c,c<n->B i c*mo A l m j c=(if c=j then B i j else 0)+(if c=l i then - A i j else 0):=by
  intro c U;by_cases h:c=j
  .subst h;rw[kt F,ak rfl,ak rfl,aj (fun e=>F i hi e.q)];omega
  .rw[aj h];by_cases D:c=l i
   .subst D;rw[tP J hi (F i hi),O.ψ i hi,ak rfl];omega
   .rw[aj D];by_cases I:∃k,k<m/\l k=c
    .obtain⟨k,G,rfl⟩:=I;have:k≠i:=fun e=>D Qv
     rw[O.Å i k hi G (k_ this)];simp
    .rw[kt (fun k G e=>I ⟨k,G,e⟩),aj h];simp
 rw[bF e,kI,iC T (fun c _ H=>aj H),iC (J.ln i hi) (fun c _ H=>aj H),ak rfl,ak rfl];omega
def wP(h:mi p n m A l)(F:j<n)(D:∀i,i<m->l i≠j):Cz p n m A (mo A l m j):=fun i hi=>by rw[zdT h h hi F D];exact⟨0,Qu⟩
def zfu(F:mi p n m A l)(H:∀i,i<m->l i≠j)(G:j<c):mo A l m j c=0:=by
 by_cases D:∃k,k<m/\l k=c
 .obtain⟨k,h,rfl⟩:=D;rw[tP F h (H k h),F.À k j h G];rfl
 .rw[kt (fun k h e=>D ⟨k,h,e⟩),aj Qu]
def zjJ(D:mi p n m A l)(hi:i<m){x}(J:Cz p n m A x)(O:∀c,l i<c->c<n->p∣x c):p∣x (l i):=by
 have F:p∣bW (fun c=>A i c*x c) n-bW (fun c=>if c=l i then x (l i) else 0) n:=by
  refine eN fun c G=>?_
  rcases An c (l i)with h|h|h
  .rw[D.À i c hi h,aj Qu];exact⟨0,Qt⟩
  .subst h;rw[D.ψ i hi,ak rfl];exact⟨0,Qu⟩
  .rw[aj Qu];obtain⟨k,H⟩:=O c h G;exact⟨A i c*k,by rw[H,AK,Int.mul_left_comm]⟩
 rw[iC (D.ln i hi) (fun c _ I=>aj I),ak rfl]at F;have:=eY (J i hi) F;rwa[show bW (fun c=>A i c*x c) n-(bW (fun c=>A i c*x c) n-x (l i))=x (l i) by omega]at this
end
def zdU{p}{n m}{A B}{l D}(U:2<=p)(G:mi p n m A l)(H:mi p n J B D)(O:∀x,Cz p n J B x->Cz p n m A x)(hi:i<m):∃k,k<J/\D k=l i:=by
 by_cases I:∃k,k<J/\D k=l i
 .exact I
 .have F:∀k,k<J->D k≠l i:=fun k T e=>I ⟨k,T,e⟩
  have h:=zjJ G hi (O _ (wP H (G.ln i hi) F)) (fun c h _=>by rw[zfu H F h];exact⟨0,Qt⟩);rw[kt F,ak rfl]at h;have:=Int.le_of_dvd Qu h;omega
def za6{p}{n m}{A B}{l D}(G:mi p n m A l)(H:mi p n J B D)(O:∀i,i<m->∃k,k<J/\D k=l i)(T:∀i,i<J->∃k,k<m/\l k=D i):∀i,i<m->i<J/\D i=l i:=by
 intro i;induction i using Nat.strongRecOn with
 |ind i ih=>
  intro hi;obtain⟨k,Z,ad⟩:=O i hi;have U:i<=k:=by
   rcases xp k i with h|h
   .have:=(ih k h Qu).2;have:=G.Ν k i h hi;omega
   .exact h
  have F:i<J:=Qu;have ab:D i<=l i:=by
   rcases Dk U with h|h
   .have:=H.Ν i k h Z;omega
   .subst h;omega
  obtain⟨q,I,eq⟩:=T i F;have Y:i<=q:=by
   rcases xp q i with h|h
   .have:=(ih q h I).2;have:=H.Ν q i h F;omega
   .exact h
  have ac:l i<=D i:=by
   rcases Dk Y with h|h
   .have:=G.Ν i q h I;omega
   .subst h;omega
  exact⟨F,Qu⟩
def zfv{p}{n m}{A B}{l av}(Z:2<=p)(h:mi p n m A l)(D:mi p n J B av)(O:∀x,Cz p n m A x↔Cz p n J B x):m=J/\∀i,i<m->∀c,c<n->A i c=B i c:=by
 have am:=fun i (hi:i<m)=>zdU Z h D (fun x=>(O x).2) hi
 have an:=fun i (hi:i<J)=>zdU Z D h (fun x=>(O x).1) hi
 have I:=za6 h D am an;have ao:=za6 D h an am;have ah:m=J:=by
  rcases An m J with F|F|F
  .have:=(ao m F).1;omega
  .exact F
  .have:=(I J F).1;omega
 refine⟨ah,fun i hi c G=>?_⟩;subst ah;have U:mi p n m B l:=⟨D.bd,h.ln,h.Ν,fun i hi=>by rw[<-(I i hi).2];exact D.ψ i hi,fun i c hi G=>D.À i c hi (by rw[(I i hi).2];exact G),fun i j hi ad ap=>by rw[<-(I j ad).2];exact D.Å i j hi ad ap⟩;by_cases F:∃k,k<m/\l k=c
 .obtain⟨k,H,rfl⟩:=F;by_cases Y:i=k
  .subst Y;rw[h.ψ i hi,U.ψ i hi]
  .rw[h.Å i k hi H Y,U.Å i k hi H Y]
 .have ac:∀k,k<m->l k≠c:=fun k H e=>F ⟨k,H,e⟩
  have ab:=(O _).1 (wP h G ac) i hi;rw[zdT h U hi G ac]at ab;have a0:=h.bd i c hi G;have a1:=D.bd i c hi G;obtain⟨k,H⟩:=ab;have:k=0:=by
   rcases Int.lt_trichotomy k 0 with T|T|T
   .have:=zca (Qu:k<=-1) (Qu:0<=p);omega
   .exact T
   .have:=zca (Qu:1<=k) (Qu:0<=p);omega
  subst this;omega
def sW(f:Nat->Nat->Int)m:∀(n:Nat),bW (fun a=>bW (fun b=>f a b) m) n=bW (fun b=>bW (fun a=>f a b) n) m
 |0=>by rw[bW];exact(gQ fun _ _=>rfl).q
 |n+1=>by rw[bW,sW f m n,<-kI];exact bF fun c _=>rfl
def mX a f n:bW (fun c=>f c*a) n=bW f n*a:=by rw[gU,<-lH];exact bF fun c _=>gU _ _
def jv{p a b:Int}(h:p∣a-b)(D:p∣b):p∣a:=by have:=ir h D;rwa[show a-b+b=a by omega]at this
def mJ{p a b c:Int}(h:p∣a-b):p∣a*c-b*c:=by rw[<-mz];exact kH h ⟨c,rfl⟩
section
open Classical
variable{p:Int}{n m:Nat}{A:Nat->Nat->Int}{l:gN}
def mK(l:gN)(m j:Nat):Prop:=∀i,i<m->l i≠j
def zhx(D:mi p n m A l){x}(Z:Cz p n m A x)(T:c<n):p∣x c-bW (fun j=>if mK l m j then x j*mo A l m j c else 0) n:=by
 by_cases h:mK l m c
 .rw[iC T (fun j _ I=>by
   split
   .rw[kt h,aj (k_ I),jh]
   .rfl),ak h,kt h,ak rfl]
  exact⟨0,Qu⟩
 .obtain⟨i,hi,rfl⟩:∃i,i<m/\l i=c:=AD fun F=>h fun i hi e=>F ⟨i,hi,e⟩
  have J:bW (fun j=>if mK l m j then x j*mo A l m j (l i) else 0) n=- bW (fun j=>if mK l m j then A i j*x j else 0) n:=by
   rw[show - bW (fun j=>if mK l m j then A i j*x j else 0) n=-1*bW (fun j=>if mK l m j then A i j*x j else 0) n by omega,<-lH];refine bF fun j ac=>?_
   split
   .rename_i U;rw[tP D hi (U i hi),AL,gU];omega
   .rfl
  have O:bW (fun c=>A i c*x c) n=x (l i)+bW (fun j=>if mK l m j then A i j*x j else 0) n:=by
   rw[show x (l i)=bW (fun c=>if c=l i then x (l i) else 0) n by rw[iC (D.ln i hi) (fun c _ I=>aj I),ak rfl],<-kI];refine bF fun c ab=>?_
   by_cases G:c=l i
   .subst G;rw[D.ψ i hi,ak rfl,aj h];omega
   .rw[aj G];by_cases H:mK l m c
    .rw[ak H];omega
    .rw[aj H];obtain⟨k,Y,rfl⟩:∃i,i<m/\l i=c:=AD fun F=>H fun i hi e=>F ⟨i,hi,e⟩
     rw[D.Å i k hi Y (fun e=>G Qv)];simp
  have:=Z i hi;rw[O]at this;rw[J];rwa[Int.sub_neg]
def zhy(G:mi p n m A l)(y:Nat->Int):(∀j,j<n->mK l m j->p∣bW (fun c=>mo A l m j c*y c) n)↔(∀x,Cz p n m A x->p∣bW (fun c=>x c*y c) n):=by
 constructor
 .intro D x J;have H:p∣bW (fun c=>x c*y c) n-bW (fun c=>bW (fun j=>if mK l m j then x j*mo A l m j c else 0) n*y c) n:=
   eN fun c I=>mJ (zhx G J I)
  refine jv H ?_;rw[show bW (fun c=>bW (fun j=>if mK l m j then x j*mo A l m j c else 0) n*y c) n=bW (fun j=>bW (fun c=>(if mK l m j then x j*mo A l m j c else 0)*y c) n) n from by rw[<-sW];exact bF fun c _=>(mX _ _ _).q]
  refine vN fun j F=>?_
  by_cases h:mK l m j
  .rw[show bW (fun c=>(if mK l m j then x j*mo A l m j c else 0)*y c) n=x j*bW (fun c=>mo A l m j c*y c) n from by rw[<-lH];exact bF fun c _=>by rw[ak h,rW]]
   exact kH (D j F h) ⟨x j,gU _ _⟩
  .rw[gQ fun c _=>by rw[aj h,np]];exact⟨0,Qt⟩
 .intro D j F h;exact D _ (wP G F h)
end
def zdt{p}{n M}{H μ h:Nat->Nat->Int}{l}(av:r<=M)(G:mi p n r μ l)(Y:∀i,r<=i->i<M->∀c,c<n->μ i c=0)(U:∀i,i<M->∀c,c<n->p∣μ i c-bW (fun k=>h i k*H k c) M)(ad:∀x:Nat->Int,∃y:Nat->Int,∀k,k<M->p∣x k-bW (fun i=>y i*h i k) M)(z:Nat->Int):(∀i,r<=i->i<M->p∣bW (fun k=>h i k*z k) M)↔(∀x:Nat->Int,(∀c,c<n->p∣bW (fun k=>x k*H k c) M)->p∣bW (fun k=>x k*z k) M):=by
 constructor
 .intro F x an;obtain⟨y,ao⟩:=ad x;have O:∀w:Nat->Int,p∣bW (fun k=>x k*w k) M-bW (fun i=>y i*bW (fun k=>h i k*w k) M) M:=fun w=>by
   have D:p∣bW (fun k=>x k*w k) M-bW (fun k=>bW (fun i=>y i*h i k) M*w k) M:=eN fun k ah=>mJ (ao k ah)
   rwa[show bW (fun k=>bW (fun i=>y i*h i k) M*w k) M=bW (fun i=>y i*bW (fun k=>h i k*w k) M) M from by
    rw[show bW (fun i=>y i*bW (fun k=>h i k*w k) M) M=bW (fun i=>bW (fun k=>y i*h i k*w k) M) M from
     bF fun i _=>by rw[<-lH];exact bF fun k _=>(rW _ _ _).q,<-sW]
    exact bF fun k _=>(mX _ _ _).q]at D
  have ap:∀i,i<r->p∣y i:=fun i hi=>by
   have D:=O (fun k=>H k (l i));have I:=an (l i) (G.ln i hi);have Z:p∣bW (fun j=>y j*bW (fun k=>h j k*H k (l i)) M) M:=by have:=eY I D;exact Xe
   have ab:p∣bW (fun j=>y j*μ j (l i)) M-bW (fun j=>y j*bW (fun k=>h j k*H k (l i)) M) M:=eN fun j J=>by rw[<-oE];exact kH (U j J (l i) (G.ln i hi)) ⟨y j,gU _ _⟩
   have ac:=jv ab Z;rwa[iC (Qu:i<M) (fun j J am=>by
    rcases xp j r with F|F
    .rw[G.Å j i F hi am,jh]
    .rw[Y j F J (l i) (G.ln i hi),jh]),G.ψ i hi,r_]at ac
  refine jv (O z) (vN fun i hi=>?_);rcases xp i r with D|D
  .exact kH (ap i D) ⟨_,rfl⟩
  .exact kH (F i D hi) ⟨y i,gU _ _⟩
 .intro F i D I;refine F (fun k=>h i k) fun c T=>?_
  have:=U i I c T;rw[Y i D I c T]at this;have:=eY (Int.dvd_zero p) this;rwa[show ∀a:Int,0-(0-a)=a from fun a=>Qu]at this
structure FG(p:Int)(n N:Nat)(M:Nat->Nat->Int)(r c:Nat)(l:gN):Prop where
 bd:∀i d,i<N->d<n->0<=M i d/\M i d<p
 rN:r<=N
 cn:c<=n
 lt:∀i,i<r->l i<c
 Ν:∀i j,i<j->j<r->l i<l j
 ψ:∀i,i<r->M i (l i)=1
 À:∀i d,i<r->d<l i->M i d=0
 Å:∀i j,i<r->j<N->j≠i->M j (l i)=0
 z:∀j d,r<=j->j<N->d<c->M j d=0
def mF(r k i:Nat):Nat:=if i=r then k else if i=k then r else i
def zbI r k i:mF r k (mF r k i)=i:=by unfold mF;split<;>split<;>(try split)<;>omega
def EK(D:r<N)(h:k<N)(hi:i<N):mF r k i<N:=U3
def m8 r k:mF r k r=k:=by simp[mF]
def zbJ(h:r<=k)(hi:i<r):mF r k i=i:=by unfold mF;rw[aj Qu,aj Qu]
def zjx(h:r<=k)(hi:r<=i):r<=mF r k i:=U3
def jZ(p:Int)(r k c:Nat)(iv:Int)(M X:Nat->Nat->Int)(i d:Nat):Int:=
 if i=r then X k d*iv%p else(X (mF r k i) d-M (mF r k i) c*(X k d*iv%p))%p
def zhL{M}{l}(h:FG p n N M r c l)(H:c<n)(G:∀j,r<=j->j<N->M j c=0):FG p n N M r (c+1) l:=
 ⟨h.bd,h.rN,Qu,fun i hi=>by have:=h.lt i hi;omega,h.Ν,h.ψ,h.À,h.Å,fun j d D F I=>by
  by_cases e:d=c
  .subst e;exact G j D F
  .exact h.z j d D F Qu⟩
def zhM{M}{l}(a0:2<=p)(D:FG p n N M r c l)(a1:c<n)(H:r<=k)(J:k<N)(Y:M k c*iv%p=1):FG p n N (jZ p r k c iv M M) (r+1) (c+1) (fun i=>if i=r then c else l i):=by
 have ab:r<N:=Qu;have am:p≠0:=Qu;have O:∀d,d<c->M k d*iv%p=0:=fun d F=>by rw[D.z k d H J F];simp
 have Z:∀i,i<r->M k (l i)*iv%p=0:=fun i hi=>O (l i) (D.lt i hi)
 have T:∀i d,i≠r->M k d*iv%p=0->i<N->d<n->jZ p r k c iv M M i d=M (mF r k i) d:=fun i d hi ao ap F=>by have ac:=D.bd (mF r k i) d (EK ab J ap) F;unfold jZ;rw[aj hi,ao,jh,AK,nq ac.1 ac.2]
 have U:∀d,jZ p r k c iv M M r d=M k d*iv%p:=fun d=>by unfold jZ;rw[ak rfl]
 refine⟨fun i d hi F=>?_,Qu,Qu,fun i hi=>?_,fun i j av I=>?_,fun i hi=>?_,fun i d hi F=>?_,fun i j hi I ah=>?_,fun j d I ad F=>?_⟩
 .unfold jZ;split
  .exact⟨gV _ am,gW _ Qu⟩
  .exact⟨gV _ am,gW _ Qu⟩
 .try dsimp only
  split
  .omega
  .have:=D.lt i Qu;omega
 .try dsimp only
  rw[aj Qu];split
  .exact D.lt i Qu
  .exact D.Ν i j av Qu
 .try dsimp only
  by_cases e:i=r
  .subst e;rw[ak rfl,U];exact Y
  .have h:i<r:=Qu;have:=D.lt i h;rw[aj e,T i (l i) e (Z i h) Qu Qu,zbJ H h];exact D.ψ i h
 .by_cases e:i=r
  .subst e;try dsimp only at F
   rw[ak rfl]at F;rw[U];exact O d F
  .have h:i<r:=Qu;try dsimp only at F
   rw[aj e]at F;have:=D.lt i h;rw[T i d e (O d Qu) Qu Qu,zbJ H h];exact D.À i d h F
 .try dsimp only
  by_cases e:i=r
  .subst e;rw[ak rfl];unfold jZ;rw[aj ah,Y,r_,Int.sub_self];rfl
  .have h:i<r:=Qu;have a2:=D.lt i h;rw[aj e];by_cases G:j=r
   .subst G;rw[U];exact Z i h
   .rw[T j (l i) G (Z i h) I Qu];refine D.Å i _ h (EK ab J I) (fun an=>ah ?_);rw[<-zbI r k j,an,zbJ H h]
 .have G:j≠r:=Qu;by_cases e:d=c
  .subst e;unfold jZ;rw[aj G,Y,r_,Int.sub_self];rfl
  .rw[T j d G (O d Qu) ad Qu];exact D.z _ d (zjx H Qu) (EK ab J ad) Qu
def zfh{M}(h:∀i d,i<N->d<n->0<=M i d/\M i d<p):FG p n N M 0 0 (fun _=>0):=⟨h,aW _,aW _,fun i hi=>Qu,fun i j _ F=>Qu,fun i hi=>Qu,fun i d hi=>Qu,fun i j hi=>Qu,fun j d _ _ D=>Qu⟩
def zjy{M}{l}(h:FG p n N M r c l):mi p n r M l:=⟨fun i d hi D=>h.bd i d (by have:=h.rN;omega) D,fun i hi=>by have:=h.lt i hi;have:=h.cn;omega,h.Ν,h.ψ,h.À,fun i j hi F G=>h.Å j i F (by have:=h.rN;omega) G⟩
def zhN{M}{l}(h:FG p n N M r c l)(G:c=n∨r=N):∀i,r<=i->i<N->∀d,d<n->M i d=0:=fun i D F d H=>by
 rcases G with e|e
 .exact h.z i d D F Qu
 .omega
structure pg(p:Int)(r k:Nat)(iv:Int)(g:Nat->Int)(f f':Nat->Int):Prop where
 Ë:p∣f' r-f k*iv
 oth:∀i,i≠r->p∣f' i-(f (mF r k i)-g (mF r k i)*f' r)
def pg.all{g h}(D:pg p r k iv g f h)(I:r<N)(G:k<N)(F:∀i,i<N->p∣f i):∀i,i<N->p∣h i:=by
 have H:p∣h r:=jv D.Ë (kH (F k G) ⟨iv,rfl⟩);intro i hi;by_cases e:i=r
 .subst e;exact H
 .exact jv (D.oth i e) (eY (F _ (EK I G hi)) (kH H ⟨_,gU _ _⟩))
def pg.back{b}{g h}(I:pg p r k iv g f h)(H:r<N)(U:k<N)(T:p∣b*iv-1)(G:∀i,i<N->p∣h i):∀i,i<N->p∣f i:=by
 have Y:p∣f k:=by
  have D:p∣f k*iv:=by have:=eY (G r H) I.Ë;rwa[show h r-(h r-f k*iv)=f k*iv by omega]at this
  have F:p∣f k*iv*b:=kH D ⟨b,rfl⟩;have O:p∣f k*(b*iv-1):=kH T ⟨f k,gU _ _⟩;have:=eY F O;rwa[show f k*iv*b-f k*(b*iv-1)=f k by rw[oE,r_,rW,gU iv b];omega]at this
 intro i hi;by_cases e:i=k
 .subst e;exact Y
 .have Z:mF r k i≠r:=fun J=>e (by rw[<-zbI r k i,J,m8])
  have D:=I.oth (mF r k i) Z;rw[zbI]at D;have F:=eY (G _ (EK H U hi)) D;rw[show h (mF r k i)-(h (mF r k i)-(f i-g i*h r))=f i-g i*h r by omega]at F;exact jv F (kH (G r H) ⟨_,gU _ _⟩)
structure Ed where
 k:Int
 v:Int
 i:List Nat
 o:List Nat
variable{e:Ed}
structure Gr where
 w:Nat
 es:List Ed
 i:List Nat
 o:List Nat
variable{g:Gr}
def Ed.map(f:gN)(e:Ed):Ed:=⟨e.k,e.v,e.i.map f,e.o.map f⟩
def Gr.map(g:Gr)(w:Nat)(f:gN):Gr:=⟨w,g.es.map (Ed.map f),g.i.map f,g.o.map f⟩
def Gr.On(g:Gr)(x:Nat):Prop:=x∈g.i∨x∈g.o∨∃e∈g.es,x∈e.i∨x∈e.o
def Gr.In(g:Gr):Prop:=∀x,g.On x->x<g.w
def zi(p k v:Int)(a b:aL):Prop:=
 if k=3 then p∣b.getD 0 0-a.getD 0 0/\p∣b.getD 1 0-a.getD 0 0
 else if k=5 then p∣b.getD 0 0-(a.getD 0 0+a.getD 1 0)
 else if k=6 then p∣b.getD 0 0
 else if k=7 then p∣b.getD 0 0-v*a.getD 0 0
 else True
def Ed.Ok(p:Int)(e:Ed)(f:Nat->Int):Prop:=if 9<=e.k then zi p (e.k-6) e.v (e.o.map f) (e.i.map f) else zi p e.k e.v (e.i.map f) (e.o.map f)
def Gr.Fh(p:Int)(g:Gr)(f:Nat->Int):Prop:=∀e∈g.es,e.Ok p f
def nB(p:Int)(l:bP)(f z:Nat->Int):Prop:=∀(j:Nat) (x:Nat),l[j]?=some x->p∣z j-f x
def Gr.M(p:Int)(g:Gr)(z:Nat->Int):Prop:=∃f,g.Fh p f/\nB p g.i f z/\nB p g.o f (fun j=>z (g.i.length+j))
def zaI{g}(h:∀x∈l,p∣f x-g x)j:p∣(l.map f).getD j 0-(l.map g).getD j 0:=by
 rw[bf,bf,bI,bI];cases D:l[j]? with
 |none=>exact⟨0,Qt⟩
 |some x=>exact h x (aU D)
def jW{a b}(h:p∣a-b):p∣a↔p∣b:=⟨fun D=>jv (b:=a) (by have:=xl.2 h;rwa[Int.neg_sub]at this) D,fun F=>jv h F⟩
def Ec{k v}{a h b D}(J:∀j,p∣a.getD j 0-h.getD j 0)(O:∀j,p∣b.getD j 0-D.getD j 0):zi p k v a b↔zi p k v h D:=by
 have d1:∀i j,p∣b.getD i 0-a.getD j 0↔p∣D.getD i 0-h.getD j 0:=fun i j=>jW (by
  have:=eY (O i) (J j);rwa[show b.getD i 0-D.getD i 0-(a.getD j 0-h.getD j 0)=b.getD i 0-a.getD j 0-(D.getD i 0-h.getD j 0) by omega]at this)
 unfold zi;by_cases F:k=3
 .rw[ak F,ak F,d1,d1]
 rw[aj F,aj F];by_cases G:k=5
 .rw[ak G,ak G];refine jW ?_;have:=eY (O 0) (ir (J 0) (J 1));rwa[show b.getD 0 0-D.getD 0 0-(a.getD 0 0-h.getD 0 0+(a.getD 1 0-h.getD 1 0))=b.getD 0 0-(a.getD 0 0+a.getD 1 0)-(D.getD 0 0-(h.getD 0 0+h.getD 1 0)) by omega]at this
 rw[aj G,aj G];by_cases H:k=6
 .rw[ak H,ak H];exact jW (O 0)
 rw[aj H,aj H];by_cases I:k=7
 .rw[ak I,ak I];refine jW ?_;have:=eY (O 0) (qd (b:=v) (J 0));rwa[oE,show b.getD 0 0-D.getD 0 0-(v*a.getD 0 0-v*h.getD 0 0)=b.getD 0 0-v*a.getD 0 0-(D.getD 0 0-v*h.getD 0 0) by omega]at this
 rw[aj I,aj I]
def Ed.zfZ{g}(D:∀x,x∈e.i∨x∈e.o->p∣f x-g x):e.Ok p f↔e.Ok p g:=by
 unfold Ed.Ok;have F:=zaI (l:=e.i) fun x h=>D x (ay h)
 have G:=zaI (l:=e.o) fun x h=>D x (au h)
 split
 .exact Ec G F
 .exact Ec F G
def Ed.zby h:(e.map h).Ok p f↔e.Ok p (fun x=>f (h x)):=by unfold Ed.Ok Ed.map;simp only[nr];exact Iff.rfl
def Gr.zf0 w h:(g.map w h).Fh p f↔g.Fh p (fun x=>f (h x)):=by
 unfold Gr.Fh Gr.map;constructor
 .intro D e F;exact(Ed.zby h).1 (D _ (zcf F))
 .intro D e F;obtain⟨G,H,rfl⟩:=cH.1 F;exact(Ed.zby h).2 (D G H)
def Gr.Ee{h}(D:∀x,g.On x->p∣f x-h x):g.Fh p f↔g.Fh p h:=by unfold Gr.Fh;refine lg fun e=>lg fun F=>Ed.zfZ fun x G=>D x (au (au ⟨e,F,G⟩))
def nB.map{z}{D}:nB p (l.map D) f z↔nB p l (fun x=>f (D x)) z:=by
 unfold nB;constructor
 .intro h j x hx;exact h j (D x) RH
 .intro h j x hx;rw[bI]at hx;obtain⟨y,F,rfl⟩:=oF.1 hx;exact h j y F
def nB.zmB{h z}(G:∀x∈l,p∣f x-h x)(F:nB p l f z):nB p l h z:=fun j x D=>by have:=ir (F j x D) (G x (aU D));rwa[show z j-f x+(f x-h x)=z j-h x by omega]at this
def mI(c:bP)(x y:Nat):List Nat:=c.map fun q=>if q=max (c.getD x 0) (c.getD y 0) then min (c.getD x 0) (c.getD y 0) else q
def jF(n:Nat)(ps:ng):List Nat:=ps.foldl (fun c q=>mI c q.1 q.2) (List.range n)
structure l9(n:Nat)(c:bP):Prop where
 ι:c.length=n
 le:∀x,x<n->c.getD x 0<=x
 rep:∀x,x<n->c.getD (c.getD x 0) 0=c.getD x 0
def bj(h:Gr)(D F G H I J):M (#[.int .i64 (h.w:Nat),.slice D h.es F,.slice G h.i H,.slice I h.o J]:Array Value):=⟨⟩
def zj(h:Ed)(D F G H):M (#[.int .i64 h.k,.int .i64 h.v,.slice D h.i F,.slice G h.o H]:Array Value):=⟨⟩
def CI{c:bP}(h:x<c.length):c[x]?=some (c.getD x 0):=by rw[bf,di h];rfl
def kP{z}{c}(h:l9 n c)(D:z<n):(mI c x y).getD z 0=if c.getD z 0=max (c.getD x 0) (c.getD y 0) then min (c.getD x 0) (c.getD y 0) else c.getD z 0:=by unfold mI;rw[bf,bI,CI (by rw[h.ι];exact D)];rfl
def vB{c}(h:l9 n c)(G:x<n)(H:y<n):l9 n (mI c x y):=by
 have Y:=h.le x G;have Z:=h.le y H;have O:=h.rep x G;have T:=h.rep y H;refine⟨by unfold mI;rw[bs];exact h.ι,fun z D=>?_,fun z D=>?_⟩
 .have I:=h.le z D;rw[kP h D];split
  .omega
  .exact I
 .have I:=h.le z D;have U:=h.rep z D;rw[kP h D];by_cases e:c.getD z 0=max (c.getD x 0) (c.getD y 0)
  .rw[ak e,kP h Qu];have J:c.getD (min (c.getD x 0) (c.getD y 0)) 0=min (c.getD x 0) (c.getD y 0):=by
    rcases Aw (c.getD x 0) (c.getD y 0)with F|F
    .rw[iw F];exact O
    .rw[uG F];exact T
   rw[J];split<;>rfl
  .rw[aj e,kP h Qu,U,aj e]
def qx n:l9 n (List.range n):=by
 have D:∀x,x<n->(List.range n).getD x 0=x:=fun x h=>by rw[bf,iy h];rfl
 exact⟨fK,fun x h=>by rw[D x h];exact ae _,fun x h=>by rw[D x h,D x h]⟩
def Ef{n}:∀(ps:ng) (c:bP),l9 n c->(∀q∈ps,q.1<n/\q.2<n)->l9 n (ps.foldl (fun c q=>mI c q.1 q.2) c)
 |[],c,h,_=>h
 |q::ps,c,h,D=>Ef ps _ (vB h (D q (kb ..)).1 (D q (kb ..)).2) fun r F=>D r (kC _ F)
def zhl{a}{c}(h:l9 n c)(D:a<n)(F:b<n)(e:c.getD a 0=c.getD b 0):(mI c x y).getD a 0=(mI c x y).getD b 0:=by rw[kP h D,kP h F,e]
def zi6{c}(D:l9 n c)(F:x<n)(G:y<n):(mI c x y).getD x 0=(mI c x y).getD y 0:=by
 rw[kP D F,kP D G];rcases Aw (c.getD x 0) (c.getD y 0)with h|h
 .rw[Nat.max_eq_right h,iw h,ak rfl];split<;>rfl
 .rw[Nat.max_eq_left h,uG h,ak rfl];split<;>rfl
def zdk{n a b}(F:a<n)(G:b<n):∀(ps:ng) (c:bP),l9 n c->(∀q∈ps,q.1<n/\q.2<n)->c.getD a 0=c.getD b 0->(ps.foldl (fun c q=>mI c q.1 q.2) c).getD a 0=(ps.foldl (fun c q=>mI c q.1 q.2) c).getD b 0
 |[],c,_,_,e=>e
 |q::ps,c,D,h,e=>zdk F G ps _ (vB D (h q (kb ..)).1 (h q (kb ..)).2) (fun r H=>h r (kC _ H)) (zhl D F G e)
def zdl{n}{G}:∀(ps:ng) (c:bP),l9 n c->(∀q∈ps,q.1<n/\q.2<n)->G∈ps->(ps.foldl (fun c q=>mI c q.1 q.2) c).getD G.1 0=(ps.foldl (fun c q=>mI c q.1 q.2) c).getD G.2 0
 |[],c,_,_,h=>QO
 |q::ps,c,h,I,F=>by
  have D:=I q (kb ..);have H:=vB h D.1 D.2;have J:∀r∈ps,r.1<n/\r.2<n:=fun r O=>I r (kC _ O)
  rcases et.1 F with e|F
  .subst e;exact zdk D.1 D.2 ps _ H J (zi6 h D.1 D.2)
  .exact zdl ps _ H J F
def zf1{p}{n}{f:Nat->Int}:∀(ps:ng) (c:bP),l9 n c->(∀q∈ps,q.1<n/\q.2<n)->(∀q∈ps,p∣f q.1-f q.2)->(∀x,x<n->p∣f x-f (c.getD x 0))->∀x,x<n->p∣f x-f ((ps.foldl (fun c q=>mI c q.1 q.2) c).getD x 0)
 |[],c,_,_,_,h=>h
 |q::ps,c,O,T,J,h=>by
  have F:=T q (kb ..);refine zf1 ps _ (vB O F.1 F.2) (fun r G=>T r (kC _ G)) (fun r G=>J r (kC _ G)) fun x H=>?_
  have ab:=J q (kb ..);have U:=h q.1 F.1;have Y:=h q.2 F.2;have Z:p∣f (max (c.getD q.1 0) (c.getD q.2 0))-f (min (c.getD q.1 0) (c.getD q.2 0)):=by
   have I:p∣f (c.getD q.1 0)-f (c.getD q.2 0):=by have:=ir (eY ab U) Y;rwa[show f q.1-f q.2-(f q.1-f (c.getD q.1 0))+(f q.2-f (c.getD q.2 0))=f (c.getD q.1 0)-f (c.getD q.2 0) by omega]at this
   rcases Aw (c.getD q.1 0) (c.getD q.2 0)with D|D
   .rw[Nat.max_eq_right D,iw D];have:=xl.2 I;rwa[Int.neg_sub]at this
   .rw[Nat.max_eq_left D,uG D];exact I
  rw[kP O H];split
  .rename_i e;have:=ir (h x H) (by rw[e];exact Z:p∣f (c.getD x 0)-f (min (c.getD q.1 0) (c.getD q.2 0)));rwa[show f x-f (c.getD x 0)+(f (c.getD x 0)-f (min (c.getD q.1 0) (c.getD q.2 0)))=f x-f (min (c.getD q.1 0) (c.getD q.2 0)) by omega]at this
  .exact h x H
def Gr.O(g:Gr)(x:Nat):Bool:=g.i.contains x||(g.o.contains x||g.es.any fun e=>e.i.contains x||e.o.contains x)
def Gr.lO:g.O x=true↔g.On x:=by unfold Gr.O Gr.On;simp
def lG(g:Gr)(c:bP):List Nat:=(List.range g.w).filter fun r=>decide (c.getD r 0=r)&&(List.range g.w).any fun x=>g.O x&&decide (c.getD x 0=r)
def js(g:Gr)(ps:ng):Gr:=g.map (lG g (jF g.w ps)) fun x=>(lG g (jF g.w ps)).idxOf ((jF g.w ps).getD x 0)
def Eg{c}(D:l9 g.w c)(G:g.In)(F:g.On x):c.getD x 0∈lG g c:=by have h:=G x F;have:=D.le x h;unfold lG;rw[xj,fj,bN,cf,nl];exact⟨Qu,D.rep x h,x,fj.2 h,by rw[Gr.lO.2 F];simp⟩
def zkx{a}(h:a∈l):l.getD (l.idxOf a) 0=a:=by have:=List.idxOf_lt_length_of_mem h;rw[bf,di this];simp
def zi7(T:g.In)(J:∀q∈ps,q.1<g.w/\q.2<g.w)z:(js g ps).M p z↔∃f,g.Fh p f/\(∀q∈ps,p∣f q.1-f q.2)/\nB p g.i f z/\nB p g.o f (fun j=>z (g.i.length+j)):=by
 have U:l9 g.w (jF g.w ps):=Ef ps _ (qx g.w) J;have⟨c,D⟩:=aR (jF g.w ps);have Z:js g ps=g.map (lG g c) fun x=>(lG g c).idxOf (c.getD x 0):=by rw[D];rfl
 have ab:∀q∈ps,c.getD q.1 0=c.getD q.2 0:=fun q O=>by rw[D];exact zdl ps _ (qx g.w) J O
 rw[Z];rw[<-D]at U;constructor
 .rintro⟨f,F,G,H⟩;refine⟨fun x=>f ((lG g c).idxOf (c.getD x 0)),(Gr.zf0 _ _).1 F,fun q O=>?_,nB.map.1 G,?_⟩
  .dsimp only;rw[ab q O];exact⟨0,Qt⟩
  .have:=nB.map.1 H;unfold Gr.map at this;simpa using this
 .rintro⟨f,F,G,H,Y⟩;have ac:∀x,x<g.w->p∣f x-f (c.getD x 0):=by rw[D];exact zf1 ps _ (qx g.w) J G fun x h=>by rw[bf,iy h];exact⟨0,Qt⟩
  have I:∀x,g.On x->p∣f x-f ((lG g c).getD ((lG g c).idxOf (c.getD x 0)) 0):=fun x h=>by rw[zkx (Eg U T h)];exact ac x (T x h)
  refine⟨fun k=>f ((lG g c).getD k 0),(Gr.zf0 _ _).2 ((Gr.Ee I).1 F),nB.map.2 (H.zmB fun x h=>I x (ay h)),?_⟩;have:nB p (g.o.map fun x=>(lG g c).idxOf (c.getD x 0)) (fun k=>f ((lG g c).getD k 0)) (fun j=>z (g.i.length+j)):=nB.map.2 (Y.zmB fun x h=>I x (au (ay h)));unfold Gr.map;simpa using this
def fG(a b:Gr):List Ed:=a.es++b.es.map (Ed.map (· +a.w))
def pK(a b:Gr):Gr:=js ⟨a.w+b.w,fG a b,a.i,b.o.map (· +a.w)⟩ (a.o.zip (b.i.map (· +a.w)))
def ls(a b:Gr):Gr:=⟨a.w+b.w,fG a b,a.i++b.i.map (· +a.w),a.o++b.o.map (· +a.w)⟩
def tD{a b}{w}{i o}:Gr.Fh p ⟨w,fG a b,i,o⟩ f↔a.Fh p f/\b.Fh p (fun x=>f (x+a.w)):=by
 unfold Gr.Fh fG;constructor
 .intro F;exact⟨fun e h=>F e (oD _ h),fun e h=>(Ed.zby (· +a.w)).1 (F _ (kE _ (zcf h)))⟩
 .rintro⟨H,I⟩ e h;rcases dP.1 h with D|D
  .exact H e D
  .obtain⟨G,J,rfl⟩:=cH.1 D;exact(Ed.zby (· +a.w)).2 (I G J)
def Bj(n:Nat)(f g:Nat->Int)(x:Nat):Int:=if x<n then f x else g (x-n)
def zf2{a:Gr}{g}(h:a.In)x(D:a.On x):p∣f x-Bj a.w f g x:=by unfold Bj;rw[ak (h x D)];exact⟨0,Qt⟩
def wk{g}x:Bj n f g (x+n)=g x:=by unfold Bj;rw[aj Qu,Nat.add_sub_cancel]
def sU{a b}{i o}(T:a.In)(I:b.In)(hi:∀x∈i,x<a.w+b.w)(U:∀x∈o,x<a.w+b.w):Gr.In ⟨a.w+b.w,fG a b,i,o⟩:=by
 intro x D;rcases D with h|h|⟨e,J,D⟩
 .exact hi x h
 .exact U x h
 .dsimp only;unfold fG at J;rcases dP.1 J with F|F
  .have:=T x (au (au ⟨e,F,D⟩));omega
  .obtain⟨H,O,rfl⟩:=cH.1 F;unfold Ed.map at D;rcases D with h|h
   .obtain⟨y,G,rfl⟩:=cH.1 h;have:=I y (au (au ⟨H,O,ay G⟩));omega
   .obtain⟨y,G,rfl⟩:=cH.1 h;have:=I y (au (au ⟨H,O,au G⟩));omega
def zky{a b}(F:a.In)(J:b.In)(ap:a.o.length=b.i)z:(pK a b).M p z↔∃y:Nat->Int,a.M p (fun j=>if j<a.i.length then z j else y (j-a.i.length))/\b.M p (fun j=>if j<b.i.length then y j else z (a.i.length+(j-b.i.length))):=by
 unfold pK;rw[zi7 (sU F J (fun x hx=>by have:=F x (ay hx);omega) (fun x hx=>by
   obtain⟨y,G,rfl⟩:=cH.1 hx;have:=J y (au (ay G));omega)) (fun q I=>by
   have h:=(pS I).1;have D:=(pS I).2;obtain⟨y,G,e⟩:=cH.1 D;have:=F _ (au (ay h));have:=J y (ay G);dsimp only;omega)]
 dsimp only;constructor
 .rintro⟨f,h,D,ac,ad⟩;obtain⟨v1,v2⟩:=tD.1 h;refine⟨fun j=>f (a.o.getD j 0),⟨f,v1,fun j x hx=>?_,fun j x hx=>?_⟩,⟨fun x=>f (x+a.w),v2,fun j x hx=>?_,fun j x hx=>?_⟩⟩
  .dsimp only;rw[ak (bG.1 hx).1];exact ac j x hx
  .dsimp only;rw[aj Qu,iY,bf,hx];exact⟨0,Qt⟩
  .have H:=(bG.1 hx).1;dsimp only;rw[ak H];have⟨y,G⟩:=aq (Qu:j<a.o.length);have:=D (y,x+a.w) (eH.2 ⟨j,by rw[Aj];exact⟨G,RH⟩⟩);rw[bf,G];exact this
  .dsimp only;rw[aj Qu,iY];exact ad j (x+a.w) RH
 .rintro⟨y,⟨fa,an,U,Y⟩,⟨fb,vb,Z,ab⟩⟩;refine⟨Bj a.w fa fb,tD.2 ⟨(Gr.Ee (zf2 F)).1 an,?_⟩,fun q I=>?_,fun j x hx=>?_,fun j x hx=>?_⟩
  .exact XC
  .obtain⟨j,H⟩:=eH.1 I;rw[Aj]at H;obtain⟨O,T⟩:=H;rw[bI]at T;obtain⟨x,hx,ex⟩:=oF.1 T;have ah:=(bG.1 hx).1;have h:=Y j _ O;have D:=Z j x hx;dsimp only at h D;rw[aj Qu,iY]at h;rw[ak ah]at D;rw[<-ex,wk,show Bj a.w fa fb q.1=fa q.1 by unfold Bj;rw[ak (F _ (au (ay (aU O))))]];have:=eY D h;rwa[show y j-fb x-(y j-fa q.1)=fa q.1-fb x by omega]at this
  .have h:=U j x hx;dsimp only at h;rw[ak (bG.1 hx).1]at h;unfold Bj;rw[ak (F x (ay (aU hx)))];exact h
  .rw[bI]at hx;obtain⟨ao,am,rfl⟩:=oF.1 hx;have h:=ab j ao am;dsimp only at h ⊢;rw[aj Qu,iY]at h;rw[wk];exact h
def zkz{a b}(G:a.In)(Z:b.In)z:(ls a b).M p z↔a.M p (fun j=>if j<a.i.length then z j else z (a.i.length+b.i+(j-a.i.length)))/\b.M p (fun j=>if j<b.i.length then z (a.i.length+j) else z (a.i.length+b.i+a.o+(j-b.i.length))):=by
 unfold ls Gr.M;dsimp only;rw[bm,bs];constructor
 .rintro⟨f,h,H,I⟩;obtain⟨v1,v2⟩:=tD.1 h;refine⟨⟨f,v1,fun j x hx=>?_,fun j x hx=>?_⟩,⟨fun x=>f (x+a.w),v2,fun j x hx=>?_,fun j x hx=>?_⟩⟩
  .have D:=(bG.1 hx).1;dsimp only;rw[ak D];exact H j x (by rw[dU D];exact hx)
  .have D:=(bG.1 hx).1;dsimp only;rw[aj Qu,iY];exact I j x (by rw[dU D];exact hx)
  .have D:=(bG.1 hx).1;dsimp only;rw[ak D];exact H (a.i.length+j) (x+a.w) Ue
  .dsimp only;rw[aj Qu,iY];have:=I (a.o.length+j) (x+a.w) Ue;dsimp only at this;rwa[show a.i.length+b.i+(a.o.length+j)=a.i+b.i+a.o+j by omega]at this
 .rintro⟨⟨fa,Y,J,O⟩,⟨fb,vb,T,U⟩⟩;refine⟨Bj a.w fa fb,tD.2 ⟨(Gr.Ee (zf2 G)).1 Y,?_⟩,fun j x hx=>?_,fun j x hx=>?_⟩
  .exact XC
  .by_cases D:j<a.i.length
   .rw[dU D]at hx;have h:=J j x hx;dsimp only at h;rw[ak D]at h;unfold Bj;rw[ak (G x (ay (aU hx)))];exact h
   .rw[fi Qu,bI]at hx;obtain⟨y,F,rfl⟩:=oF.1 hx;have h:=T _ y F;dsimp only at h;rw[ak (bG.1 F).1,show a.i.length+(j-a.i.length)=j by omega]at h;rw[wk];exact h
  .by_cases D:j<a.o.length
   .rw[dU D]at hx;have h:=O j x hx;dsimp only at h ⊢;rw[aj Qu,iY]at h;unfold Bj;rw[ak (G x (au (ay (aU hx))))];exact h
   .rw[fi Qu,bI]at hx;obtain⟨y,F,rfl⟩:=oF.1 hx;have h:=U _ y F;dsimp only at h ⊢;rw[aj Qu,iY,show a.i.length+b.i+a.o+(j-a.o.length)=a.i+b.i+j by omega]at h;rw[wk];exact h
end Go.Proofs.YtpieilkmmiopfaaGreatDoor
