/- Parts of the walks. Conditions: as stated with each. -/
import Derived.Test.YtdpgblncijojiaaGreatDoorPk4
import Derived.Test.YtdpgblncijojiaaGreatDoorPk6
namespace Go.Proofs.YtdpgblncijojiaaGreatDoor
open Go.RowKit Tryz
set_option linter.all false
set_option maxHeartbeats 2000000
set_option maxRecDepth 100000
variable{D N c i j k n r x:Nat}{Rj:gj}{Rn:Nat->Int}{iv p:Int}{l:bW}
def cm(f:Nat->Int):Nat->Int
 |0=>0
 |n+1=>cm f n+f n
def cG{f g:Nat->Int}:∀{n:Nat},(∀c,c<n->f c=g c)->cm f n=cm g n
 |0,_=>rfl
 |n+1,h=>by rw[cm,cm,cG fun c z=>h c Ry,h n Ry]
def lY{f:Nat->Int}:∀{n:Nat},(∀c,c<n->f c=0)->cm f n=0
 |0,_=>rfl
 |n+1,h=>by rw[cm,lY fun c z=>h c Ry,h n Ry];rfl
def jV{f:Nat->Int}{k:Nat}:∀{n:Nat},k<n->(∀c,c<n->c≠k->f c=0)->cm f n=f k
 |0,h,_=>Ry
 |n+1,F,h=>by
  rw[cm];by_cases D:k=n
  .subst D;rw[lY fun c z=>h c Ry Ry];omega
  .rw[jV Ry fun c z E=>h c Ry E,h n Ry Ry];omega
def lF(f g:Nat->Int):∀(n:Nat),cm (fun c=>f c+g c) n=cm f n+cm g n
 |0=>rfl
 |n+1=>by rw[cm,cm,cm,lF f g n];omega
def mM(a:Int)(f:Nat->Int):∀(n:Nat),cm (fun c=>a*f c) n=a*cm f n
 |0=>by simp[cm]
 |n+1=>by rw[cm,cm,mM a f n,Int.mul_add]
def Am{p:Int}{f:Nat->Int}:∀{n:Nat},(∀c,c<n->p∣f c)->p∣cm f n
 |0,_=>⟨0,by simp[cm]⟩
 |n+1,h=>qJ (Am fun c z=>h c Ry) (h n Ry)
def fN{p:Int}{f g:Nat->Int}:∀{n:Nat},(∀c,c<n->p∣f c-g c)->p∣cm f n-cm g n
 |0,_=>⟨0,by simp[cm]⟩
 |n+1,h=>by have:=qJ (fN (n:=n) fun c z=>h c Ry) (h n Ry);rw[cm,cm];rwa[show cm f n+f n-(cm g n+g n)=cm f n-cm g n+(f n-g n) by omega]
structure lS(p:Int)(n m:Nat)(A:Nat->Nat->Int)(l:gj):Prop where
 bd:∀i c,i<m->c<n->0<=A i c/\A i c<p
 ln:∀i,i<m->l i<n
 inc:∀i j,i<j->j<m->l i<l j
 one:∀i,i<m->A i (l i)=1
 low:∀i c,i<m->c<l i->A i c=0
 col:∀i j,i<m->j<m->i≠j->A i (l j)=0
def xm(p:Int)(n m:Nat)(A:Nat->Nat->Int)(x:Nat->Int):Prop:=∀i,i<m->p∣cm (fun c=>A i c*x c) n
def lh(A:Nat->Nat->Int)(l:gj)(m j:Nat)(c:Nat):Int:=(if c=j then 1 else 0)-cm (fun i=>if l i=c then A i j else 0) m
section
variable{p:Int}{n m:Nat}{A B:Nat->Nat->Int}{l:gj}
def lS.inj(h:lS p n m A l)(hi:i<m)(D:j<m)(e:l i=l j):i=j:=by
 rcases sZ i j with z|z|z
 .have:=h.inc i j z D;omega
 .exact z
 .have:=h.inc j i z hi;omega
def qh(h:lS p n m A l)(hi:i<m)(D:l i≠j):lh A l m j (l i)=- A i j:=by unfold lh;rw[ak D,jV hi (fun c z E=>ak (fun e=>E (h.inj z hi e))),ar rfl];omega
def k_(z:∀i,i<m->l i≠c):lh A l m j c=if c=j then 1 else 0:=by unfold lh;rw[lY fun i hi=>ak (z i hi)];omega
def zaj(J:lS p n m A l)(O:lS p n m B l)(hi:i<m)(Q:j<n)(E:∀i,i<m->l i≠j):cm (fun c=>B i c*lh A l m j c) n=B i j-A i j:=by
 have e:∀c,c<n->B i c*lh A l m j c=(if c=j then B i j else 0)+(if c=l i then - A i j else 0):=by
  intro c R;by_cases z:c=j
  .subst z;rw[k_ E,ar rfl,ar rfl,ak (fun e=>E i hi e.symm)];omega
  .rw[ak z];by_cases D:c=l i
   .subst D;rw[qh J hi (E i hi),O.one i hi,ar rfl];omega
   .rw[ak D];by_cases I:∃k,k<m/\l k=c
    .obtain⟨k,F,rfl⟩:=I;have:k≠i:=fun e=>D Rz
     rw[O.col i k hi F (fX this)];simp
    .rw[k_ (fun k F e=>I ⟨k,F,e⟩),ak z];simp
 rw[cG e,lF,jV Q (fun c _ H=>ak H),jV (J.ln i hi) (fun c _ H=>ak H),ar rfl,ar rfl];omega
def xn(z:lS p n m A l)(E:j<n)(D:∀i,i<m->l i≠j):xm p n m A (lh A l m j):=fun i hi=>by rw[zaj z z hi E D];exact⟨0,Ry⟩
def zbI(E:lS p n m A l)(H:∀i,i<m->l i≠j)(F:j<c):lh A l m j c=0:=by
 by_cases D:∃k,k<m/\l k=c
 .obtain⟨k,z,rfl⟩:=D;rw[qh E z (H k z),E.low k j z F];rfl
 .rw[k_ (fun k z e=>D ⟨k,z,e⟩),ak Ry]
def zfP(z:lS p n m A l)(hi:i<m){x:Nat->Int}(I:xm p n m A x)(J:∀c,l i<c->c<n->p∣x c):p∣x (l i):=by
 have D:p∣cm (fun c=>A i c*x c) n-cm (fun c=>if c=l i then x (l i) else 0) n:=by
  refine fN fun c E=>?_
  rcases sZ c (l i)with h|h|h
  .rw[z.low i c hi h,ak Ry];exact⟨0,Rx⟩
  .subst h;rw[z.one i hi,ar rfl];exact⟨0,Ry⟩
  .rw[ak Ry];obtain⟨k,F⟩:=J c h E;exact⟨A i c*k,by rw[F,Int.sub_zero,Int.mul_left_comm]⟩
 rw[jV (z.ln i hi) (fun c _ H=>ak H),ar rfl]at D;have:=nn (I i hi) D;rwa[show cm (fun c=>A i c*x c) n-(cm (fun c=>A i c*x c) n-x (l i))=x (l i) by omega]at this
end
def zak{p:Int}{n m:Nat}{A B:Nat->Nat->Int}{l:gj}(O:2<=p)(F:lS p n m A l)(H:lS p n D B Rj)(h:∀x,xm p n D B x->xm p n m A x)(hi:i<m):∃k,k<D/\Rj k=l i:=by
 by_cases I:∃k,k<D/\Rj k=l i
 .exact I
 .have E:∀k,k<D->Rj k≠l i:=fun k J e=>I ⟨k,J,e⟩
  have z:=zfP F hi (h _ (xn H (F.ln i hi) E)) (fun c z _=>by rw[zbI H E z];exact⟨0,Rx⟩);rw[k_ E,ar rfl]at z;have:=Int.le_of_dvd Ry z;omega
def BZ{p:Int}{n m:Nat}{A B:Nat->Nat->Int}{l:gj}(E:lS p n m A l)(F:lS p n D B Rj)(I:∀i,i<m->∃k,k<D/\Rj k=l i)(J:∀i,i<D->∃k,k<m/\l k=Rj i):∀i,i<m->i<D/\Rj i=l i:=by
 intro i;induction i using Nat.strongRecOn with
 |ind i ih=>
  intro hi;obtain⟨k,R,Z⟩:=I i hi;have O:i<=k:=by
   rcases pj k i with h|h
   .have:=(ih k h Ry).2;have:=E.inc k i h hi;omega
   .exact h
  have z:i<D:=Ry;have T:Rj i<=l i:=by
   rcases yV O with h|h
   .have:=F.inc i k h R;omega
   .subst h;omega
  obtain⟨q,H,eq⟩:=J i z;have Q:i<=q:=by
   rcases pj q i with h|h
   .have:=(ih q h H).2;have:=F.inc q i h z;omega
   .exact h
  have U:l i<=Rj i:=by
   rcases yV Q with h|h
   .have:=E.inc i q h H;omega
   .subst h;omega
  exact⟨z,Ry⟩
def zbJ{p:Int}{n m:Nat}{A B:Nat->Nat->Int}{l:gj}(T:2<=p)(z:lS p n m A l)(E:lS p n D B Rj)(h:∀x,xm p n m A x↔xm p n D B x):m=D/\∀i,i<m->∀c,c<n->A i c=B i c:=by
 have ad:=fun i (hi:i<m)=>zak T z E (fun x=>(h x).2) hi
 have am:=fun i (hi:i<D)=>zak T E z (fun x=>(h x).1) hi
 have J:=BZ z E ad am;have ao:=BZ E z am ad;have ac:m=D:=by
  rcases sZ m D with F|F|F
  .have:=(ao m F).1;omega
  .exact F
  .have:=(J D F).1;omega
 refine⟨ac,fun i hi c H=>?_⟩;subst ac;have Q:lS p n m B l:=⟨E.bd,z.ln,z.inc,fun i hi=>by rw[<-(J i hi).2];exact E.one i hi,fun i c hi H=>E.low i c hi (by rw[(J i hi).2];exact H),fun i j hi ab ap=>by rw[<-(J j ab).2];exact E.col i j hi ab ap⟩;by_cases F:∃k,k<m/\l k=c
 .obtain⟨k,I,rfl⟩:=F;by_cases R:i=k
  .subst R;rw[z.one i hi,Q.one i hi]
  .rw[z.col i k hi I R,Q.col i k hi I R]
 .have Z:∀k,k<m->l k≠c:=fun k I e=>F ⟨k,I,e⟩
  have U:=(h _).1 (xn z H Z) i hi;rw[zaj z Q hi H Z]at U;have a0:=z.bd i c hi H;have a1:=E.bd i c hi H;obtain⟨k,I⟩:=U;have:k=0:=by
   rcases Int.lt_trichotomy k 0 with O|O|O
   .have:=DH (Ry:k<=-1) (Ry:0<=p);omega
   .exact O
   .have:=DH (Ry:1<=k) (Ry:0<=p);omega
  subst this;omega
def xu(f:Nat->Nat->Int)(m:Nat):∀(n:Nat),cm (fun a=>cm (fun b=>f a b) m) n=cm (fun b=>cm (fun a=>f a b) n) m
 |0=>by rw[cm];exact(lY fun _ _=>rfl).symm
 |n+1=>by rw[cm,xu f m n,<-lF];exact cG fun c _=>rfl
def od(a:Int)(f:Nat->Int)(n:Nat):cm (fun c=>f c*a) n=cm f n*a:=by rw[iI,<-mM];exact cG fun c _=>iI _ _
def iN{p a b:Int}(h:p∣a-b)(z:p∣b):p∣a:=by have:=qJ h z;rwa[show a-b+b=a by omega]at this
def lj{p a b c:Int}(h:p∣a-b):p∣a*c-b*c:=by rw[<-tl];exact jt h ⟨c,rfl⟩
section
open Classical
variable{p:Int}{n m:Nat}{A:Nat->Nat->Int}{l:gj}
def lG(l:gj)(m j:Nat):Prop:=∀i,i<m->l i≠j
def zd9(B:lS p n m A l){x:Nat->Int}(R:xm p n m A x)(J:c<n):p∣x c-cm (fun j=>if lG l m j then x j*lh A l m j c else 0) n:=by
 by_cases z:lG l m c
 .rw[jV J (fun j _ F=>by
   split
   .rw[k_ z,ak (fX F),o0]
   .rfl),ar z,k_ z,ar rfl]
  exact⟨0,Ry⟩
 .obtain⟨i,hi,rfl⟩:∃i,i<m/\l i=c:=qL fun h=>z fun i hi e=>h ⟨i,hi,e⟩
  have H:cm (fun j=>if lG l m j then x j*lh A l m j (l i) else 0) n=- cm (fun j=>if lG l m j then A i j*x j else 0) n:=by
   rw[show - cm (fun j=>if lG l m j then A i j*x j else 0) n=-1*cm (fun j=>if lG l m j then A i j*x j else 0) n by omega,<-mM];refine cG fun j U=>?_
   split
   .rename_i O;rw[qh B hi (O i hi),Int.mul_neg,iI];omega
   .rfl
  have I:cm (fun c=>A i c*x c) n=x (l i)+cm (fun j=>if lG l m j then A i j*x j else 0) n:=by
   rw[show x (l i)=cm (fun c=>if c=l i then x (l i) else 0) n by rw[jV (B.ln i hi) (fun c _ F=>ak F),ar rfl],<-lF];refine cG fun c T=>?_
   by_cases D:c=l i
   .subst D;rw[B.one i hi,ar rfl,ak z];omega
   .rw[ak D];by_cases E:lG l m c
    .rw[ar E];omega
    .rw[ak E];obtain⟨k,Q,rfl⟩:∃i,i<m/\l i=c:=qL fun h=>E fun i hi e=>h ⟨i,hi,e⟩
     rw[B.col i k hi Q (fun e=>D Rz)];simp
  have:=R i hi;rw[I]at this;rw[H];rwa[Int.sub_neg]
def zd_(D:lS p n m A l)(y:Nat->Int):(∀j,j<n->lG l m j->p∣cm (fun c=>lh A l m j c*y c) n)↔(∀x,xm p n m A x->p∣cm (fun c=>x c*y c) n):=by
 constructor
 .intro h x H;have E:p∣cm (fun c=>x c*y c) n-cm (fun c=>cm (fun j=>if lG l m j then x j*lh A l m j c else 0) n*y c) n:=
   fN fun c F=>lj (zd9 D H F)
  refine iN E ?_;rw[show cm (fun c=>cm (fun j=>if lG l m j then x j*lh A l m j c else 0) n*y c) n=cm (fun j=>cm (fun c=>(if lG l m j then x j*lh A l m j c else 0)*y c) n) n from by rw[<-xu];exact cG fun c _=>(od _ _ _).symm]
  refine Am fun j B=>?_
  by_cases z:lG l m j
  .rw[show cm (fun c=>(if lG l m j then x j*lh A l m j c else 0)*y c) n=x j*cm (fun c=>lh A l m j c*y c) n from by rw[<-mM];exact cG fun c _=>by rw[ar z,nk]]
   exact jt (h j B z) ⟨x j,iI _ _⟩
  .rw[lY fun c _=>by rw[ak z,lP]];exact⟨0,Rx⟩
 .intro h j B z;exact h _ (xn D B z)
end
def zar{p:Int}{n M:Nat}{E own z:Nat->Nat->Int}{l:gj}(a0:r<=M)(D:lS p n r own l)(R:∀i,r<=i->i<M->∀c,c<n->own i c=0)(Q:∀i,i<M->∀c,c<n->p∣own i c-cm (fun k=>z i k*E k c) M)(ab:∀x:Nat->Int,∃y:Nat->Int,∀k,k<M->p∣x k-cm (fun i=>y i*z i k) M)(I:Nat->Int):(∀i,r<=i->i<M->p∣cm (fun k=>z i k*I k) M)↔(∀x:Nat->Int,(∀c,c<n->p∣cm (fun k=>x k*E k c) M)->p∣cm (fun k=>x k*I k) M):=by
 constructor
 .intro h x am;obtain⟨y,ao⟩:=ab x;have J:∀w:Nat->Int,p∣cm (fun k=>x k*w k) M-cm (fun i=>y i*cm (fun k=>z i k*w k) M) M:=fun w=>by
   have B:p∣cm (fun k=>x k*w k) M-cm (fun k=>cm (fun i=>y i*z i k) M*w k) M:=fN fun k ac=>lj (ao k ac)
   rwa[show cm (fun k=>cm (fun i=>y i*z i k) M*w k) M=cm (fun i=>y i*cm (fun k=>z i k*w k) M) M from by
    rw[show cm (fun i=>y i*cm (fun k=>z i k*w k) M) M=cm (fun i=>cm (fun k=>y i*z i k*w k) M) M from
     cG fun i _=>by rw[<-mM];exact cG fun k _=>(nk _ _ _).symm,<-xu]
    exact cG fun k _=>(od _ _ _).symm]at B
  have ap:∀i,i<r->p∣y i:=fun i hi=>by
   have B:=J (fun k=>E k (l i));have F:=am (l i) (D.ln i hi);have T:p∣cm (fun j=>y j*cm (fun k=>z j k*E k (l i)) M) M:=by have:=nn F B;exact Xz
   have U:p∣cm (fun j=>y j*own j (l i)) M-cm (fun j=>y j*cm (fun k=>z j k*E k (l i)) M) M:=fN fun j H=>by rw[<-Int.mul_sub];exact jt (Q j H (l i) (D.ln i hi)) ⟨y j,iI _ _⟩
   have Z:=iN U T;rwa[jV (Ry:i<M) (fun j H ad=>by
    rcases pj j r with h|h
    .rw[D.col j i h hi ad,o0]
    .rw[R j h H (l i) (D.ln i hi),o0]),D.one i hi,oZ]at Z
  refine iN (J I) (Am fun i hi=>?_);rcases pj i r with B|B
  .exact jt (ap i B) ⟨_,rfl⟩
  .exact jt (h i B hi) ⟨y i,iI _ _⟩
 .intro h i B F;refine h (fun k=>z i k) fun c O=>?_
  have:=Q i F c O;rw[R i B F c O]at this;have:=nn (Int.dvd_zero p) this;rwa[show ∀a:Int,0-(0-a)=a from fun a=>Ry]at this
structure Bn(p:Int)(n N:Nat)(M:Nat->Nat->Int)(r c:Nat)(l:gj):Prop where
 bd:∀i d,i<N->d<n->0<=M i d/\M i d<p
 rN:r<=N
 cn:c<=n
 lt:∀i,i<r->l i<c
 inc:∀i j,i<j->j<r->l i<l j
 one:∀i,i<r->M i (l i)=1
 low:∀i d,i<r->d<l i->M i d=0
 col:∀i j,i<r->j<N->j≠i->M j (l i)=0
 z:∀j d,r<=j->j<N->d<c->M j d=0
def k7(r k i:Nat):Nat:=if i=r then k else if i=k then r else i
def C6(r k i:Nat):k7 r k (k7 r k i)=i:=by unfold k7;split<;>split<;>(try split)<;>omega
def Al(B:r<N)(z:k<N)(hi:i<N):k7 r k i<N:=VN
def lE(r k:Nat):k7 r k r=k:=by simp[k7]
def C7(z:r<=k)(hi:i<r):k7 r k i=i:=by unfold k7;rw[ak Ry,ak Ry]
def zfL(z:r<=k)(hi:r<=i):r<=k7 r k i:=VN
def iO(p:Int)(r k c:Nat)(iv:Int)(M X:Nat->Nat->Int)(i d:Nat):Int:=
 if i=r then X k d*iv%p else(X (k7 r k i) d-M (k7 r k i) c*(X k d*iv%p))%p
def zd1{M:Nat->Nat->Int}{l:gj}(h:Bn p n N M r c l)(E:c<n)(D:∀j,r<=j->j<N->M j c=0):Bn p n N M r (c+1) l:=
 ⟨h.bd,h.rN,Ry,fun i hi=>by have:=h.lt i hi;omega,h.inc,h.one,h.low,h.col,fun j d z B F=>by
  by_cases e:d=c
  .subst e;exact D j z B
  .exact h.z j d z B Ry⟩
def zd2{M:Nat->Nat->Int}{l:gj}(ap:2<=p)(h:Bn p n N M r c l)(a0:c<n)(E:r<=k)(H:k<N)(O:M k c*iv%p=1):Bn p n N (iO p r k c iv M M) (r+1) (c+1) (fun i=>if i=r then c else l i):=by
 have R:r<N:=Ry;have ab:p≠0:=Ry;have I:∀d,d<c->M k d*iv%p=0:=fun d B=>by rw[h.z k d E H B];simp
 have Q:∀i,i<r->M k (l i)*iv%p=0:=fun i hi=>I (l i) (h.lt i hi)
 have oD:∀i d,i≠r->M k d*iv%p=0->i<N->d<n->iO p r k c iv M M i d=M (k7 r k i) d:=fun i d hi ad am B=>by have T:=h.bd (k7 r k i) d (Al R H am) B;unfold iO;rw[ak hi,ad,o0,Int.sub_zero,lO T.1 T.2]
 have J:∀d,iO p r k c iv M M r d=M k d*iv%p:=fun d=>by unfold iO;rw[ar rfl]
 refine⟨fun i d hi B=>?_,Ry,Ry,fun i hi=>?_,fun i j ao F=>?_,fun i hi=>?_,fun i d hi B=>?_,fun i j hi F Z=>?_,fun j d F U B=>?_⟩
 .unfold iO;split
  .exact⟨gI _ ab,gJ _ Ry⟩
  .exact⟨gI _ ab,gJ _ Ry⟩
 .try dsimp only
  split
  .omega
  .have:=h.lt i Ry;omega
 .try dsimp only
  rw[ak Ry];split
  .exact h.lt i Ry
  .exact h.inc i j ao Ry
 .try dsimp only
  by_cases e:i=r
  .subst e;rw[ar rfl,J];exact O
  .have z:i<r:=Ry;have:=h.lt i z;rw[ak e,oD i (l i) e (Q i z) Ry Ry,C7 E z];exact h.one i z
 .by_cases e:i=r
  .subst e;try dsimp only at B
   rw[ar rfl]at B;rw[J];exact I d B
  .have z:i<r:=Ry;try dsimp only at B
   rw[ak e]at B;have:=h.lt i z;rw[oD i d e (I d Ry) Ry Ry,C7 E z];exact h.low i d z B
 .try dsimp only
  by_cases e:i=r
  .subst e;rw[ar rfl];unfold iO;rw[ak Z,O,oZ,Int.sub_self];rfl
  .have z:i<r:=Ry;have a1:=h.lt i z;rw[ak e];by_cases D:j=r
   .subst D;rw[J];exact Q i z
   .rw[oD j (l i) D (Q i z) F Ry];refine h.col i _ z (Al R H F) (fun ac=>Z ?_);rw[<-C6 r k j,ac,C7 E z]
 .have D:j≠r:=Ry;by_cases e:d=c
  .subst e;unfold iO;rw[ak D,O,oZ,Int.sub_self];rfl
  .rw[oD j d D (I d Ry) U Ry];exact h.z _ d (zfL E Ry) (Al R H U) Ry
def zbH{M:Nat->Nat->Int}(z:∀i d,i<N->d<n->0<=M i d/\M i d<p):Bn p n N M 0 0 (fun _=>0):=⟨z,aT _,aT _,fun i hi=>Ry,fun i j _ D=>Ry,fun i hi=>Ry,fun i d hi=>Ry,fun i j hi=>Ry,fun j d _ _ B=>Ry⟩
def zfM{M:Nat->Nat->Int}{l:gj}(h:Bn p n N M r c l):lS p n r M l:=⟨fun i d hi z=>h.bd i d (by have:=h.rN;omega) z,fun i hi=>by have:=h.lt i hi;have:=h.cn;omega,h.inc,h.one,h.low,fun i j hi B D=>h.col j i B (by have:=h.rN;omega) D⟩
def zd3{M:Nat->Nat->Int}{l:gj}(h:Bn p n N M r c l)(D:c=n∨r=N):∀i,r<=i->i<N->∀d,d<n->M i d=0:=fun i z B d E=>by
 rcases D with e|e
 .exact h.z i d z B Ry
 .omega
structure mL(p:Int)(r k:Nat)(iv:Int)(g:Nat->Int)(f f':Nat->Int):Prop where
 top:p∣f' r-f k*iv
 oth:∀i,i≠r->p∣f' i-(f (k7 r k i)-g (k7 r k i)*f' r)
def mL.all{g f:Nat->Int}(h:mL p r k iv g f Rn)(E:r<N)(B:k<N)(z:∀i,i<N->p∣f i):∀i,i<N->p∣Rn i:=by
 have D:p∣Rn r:=iN h.top (jt (z k B) ⟨iv,rfl⟩);intro i hi;by_cases e:i=r
 .subst e;exact D
 .exact iN (h.oth i e) (nn (z _ (Al E B hi)) (jt D ⟨_,iI _ _⟩))
def mL.back{b:Int}{g f:Nat->Int}(h:mL p r k iv g f Rn)(E:r<N)(J:k<N)(I:p∣b*iv-1)(D:∀i,i<N->p∣Rn i):∀i,i<N->p∣f i:=by
 have O:p∣f k:=by
  have z:p∣f k*iv:=by have:=nn (D r E) h.top;rwa[show Rn r-(Rn r-f k*iv)=f k*iv by omega]at this
  have B:p∣f k*iv*b:=jt z ⟨b,rfl⟩;have H:p∣f k*(b*iv-1):=jt I ⟨f k,iI _ _⟩;have:=nn B H;rwa[show f k*iv*b-f k*(b*iv-1)=f k by rw[Int.mul_sub,oZ,nk,iI iv b];omega]at this
 intro i hi;by_cases e:i=k
 .subst e;exact O
 .have Q:k7 r k i≠r:=fun F=>e (by rw[<-C6 r k i,F,lE])
  have z:=h.oth (k7 r k i) Q;rw[C6]at z;have B:=nn (D _ (Al E J hi)) z;rw[show Rn (k7 r k i)-(Rn (k7 r k i)-(f i-g i*Rn r))=f i-g i*Rn r by omega]at B;exact iN B (jt (D r E) ⟨_,iI _ _⟩)
structure cZ where
 k:Int
 a:Int
 b:Int
 c:Int
 row:List Int
structure Sy where
 v:Int
 h:Int
 rows:List (List Int)
variable{s:Sy}
def cq(p:Int)(s:Sy)(x:cZ):Sy:=⟨s.v,dK x.k s.h,bH p s.v s.rows x.k x.a x.b x.c x.row (s.v+s.h).toNat⟩
def eZ(p:Int)(s:Sy)(x:cZ):Bool:=jO p s.v s.h s.rows x.k x.a x.b x.c x.row
def Sy.Ok(p:Int)(s:Sy):Prop:=Sys p s.v s.h s.rows
def jz{x:cZ}(h:s.Ok p)(z:eZ p s x=true):(cq p s x).Ok p:=by unfold eZ at z;rw[pt h,bn,bn]at z;exact il.1 z.2.2
def dn(p:Int):Sy->List cZ->Nat->Sy
 |s,[],_=>s
 |s,_::_,0=>s
 |s,x::xs,n+1=>dn p (cq p s x) xs n
def bB(p:Int):Sy->List cZ->Nat
 |_,[]=>0
 |s,x::xs=>if eZ p s x=true then bB p (cq p s x) xs+1 else 0
def ij(p:Int)(s:Sy)(xs:List cZ):dn p s xs 0=s:=by cases xs<;>rfl
def je{p:Int}{x:cZ}:∀{xs:List cZ} {s:Sy} {i:Nat},xs[i]?=some x->dn p s xs (i+1)=cq p (dn p s xs i) x
 |[],_,_,h=>RR
 |y::ys,s,0,h=>by simp at h;subst h;simp[dn,ij]
 |y::ys,s,i+1,h=>by simp only[cT]at h;exact je (xs:=ys) (s:=cq p s y) (i:=i) h
def iz(p:Int):∀(xs:List cZ) (s:Sy),bB p s xs<=xs.length
 |[],_=>ah _
 |x::xs,s=>by
  have:=iz p xs (cq p s x);unfold bB;split
  .simp;omega
  .omega
def wV{p:Int}{x:cZ}:∀{xs:List cZ} {s:Sy} {i:Nat},i<bB p s xs->xs[i]?=some x->eZ p (dn p s xs i) x=true
 |[],_,_,_,h=>RR
 |y::ys,s,i,hi,h=>by
  unfold bB at hi;split at hi
  .rename_i z;cases i with
   |zero=>simp at h;subst h;rw[ij];exact z
   |succ i=>
    simp only[cT]at h;exact wV (xs:=ys) (s:=cq p s y) (i:=i) Ry h
  .omega
def zct{p:Int}{x:cZ}:∀{xs:List cZ} {s:Sy} {i:Nat},i=bB p s xs->xs[i]?=some x->eZ p (dn p s xs i) x=false
 |[],_,_,_,h=>RR
 |y::ys,s,i,hi,h=>by
  unfold bB at hi;split at hi
  .cases i with
   |zero=>omega
   |succ i=>
    simp only[cT]at h;exact zct (xs:=ys) (s:=cq p s y) (i:=i) Ry h
  .rename_i z;subst hi;simp at h;subst h;rw[ij];simpa using z
def zn{xs:List cZ}{x:cZ}(hi:i<=bB p s xs)(h:xs[i]?=some x)(B:eZ p (dn p s xs i) x=true):i+1<=bB p s xs:=by
 rcases yV hi with z|z
 .exact z
 .rw[zct z h]at B;cases B
def zo{xs:List cZ}{x:cZ}(hi:i<=bB p s xs)(h:xs[i]?=some x)(B:eZ p (dn p s xs i) x=false):bB p s xs=i:=by
 rcases yV hi with z|z
 .rw[wV z h]at B;cases B
 .exact z.symm
def jP{p:Int}{s:Sy}{xs:List cZ}(h:s.Ok p):∀{i:Nat},i<=bB p s xs->(dn p s xs i).Ok p
 |0,_=>by rw[ij];exact h
 |i+1,hi=>by have B:=iz p xs s;have z:xs[i]?=some xs[i]:=dq Ry;rw[je z];exact jz (jP h Ry) (wV Ry z)
structure Small(s:Sy):Prop where
 n:s.rows.length<=160
 len:∀r∈s.rows,r.length<=1000
def uX{J:Type}(B)(z:Sy)(D E F)(H:List J)(I):M (#[.int .i64 B,.int .i64 z.v,.int .i64 z.h,.slice D z.rows E,.slice F H I]:Array Value):=⟨⟩
def yC(B)(z:Sy)(D E):M (#[.int .i64 B,.int .i64 z.v,.int .i64 z.h,.slice D z.rows E,.slice none 0 0]:Array Value):=⟨⟩
def Sy.Ok.small(h:s.Ok p):Small s:=⟨Sys.n h,fun r z=>by have:=Sys.len h r z;have:=Sys.v24 h;have:=Sys.h100 h;omega⟩
structure Ed where
 k:Int
 v:Int
 i:List Nat
 o:List Nat
structure Gr where
 w:Nat
 es:List Ed
 i:List Nat
 o:List Nat
variable{g:Gr}
def Ed.map(f:gj)(e:Ed):Ed:=⟨e.k,e.v,e.i.map f,e.o.map f⟩
def Gr.map(g:Gr)(w:Nat)(f:gj):Gr:=⟨w,g.es.map (Ed.map f),g.i.map f,g.o.map f⟩
def Gr.On(g:Gr)(x:Nat):Prop:=x∈g.i∨x∈g.o∨∃e∈g.es,x∈e.i∨x∈e.o
def Gr.In(g:Gr):Prop:=∀x,g.On x->x<g.w
def zhK(p k v:Int)(a b:aH):Prop:=
 if k=3 then p∣b.getD 0 0-a.getD 0 0/\p∣b.getD 1 0-a.getD 0 0
 else if k=5 then p∣b.getD 0 0-(a.getD 0 0+a.getD 1 0)
 else if k=6 then p∣b.getD 0 0
 else if k=7 then p∣b.getD 0 0-v*a.getD 0 0
 else True
def Ed.Ok(p:Int)(e:Ed)(f:Nat->Int):Prop:=if 9<=e.k then zhK p (e.k-6) e.v (e.o.map f) (e.i.map f) else zhK p e.k e.v (e.i.map f) (e.o.map f)
def zcU(p:Int)(l:bW)(f z:Nat->Int):Prop:=∀(j:Nat) (x:Nat),l[j]?=some x->p∣z j-f x
def zcU.map{f:Nat->Int}{h:gj}:zcU p (l.map h) f Rn↔zcU p l (fun x=>f (h x)) Rn:=by
 unfold zcU;constructor
 .intro B j x z;exact B j (h x) (by rw[bR,z];rfl)
 .intro B j x z;rw[bR]at z;obtain⟨y,D,rfl⟩:=o_.1 z;exact B j y D
def yc(c:bW)(x y:Nat):List Nat:=c.map fun q=>if q=max (c.getD x 0) (c.getD y 0) then min (c.getD x 0) (c.getD y 0) else q
def ji(n:Nat)(ps:qX):List Nat:=ps.foldl (fun c q=>yc c q.1 q.2) (List.range n)
structure oL(n:Nat)(c:bW):Prop where
 len:c.length=n
 le:∀x,x<n->c.getD x 0<=x
 rep:∀x,x<n->c.getD (c.getD x 0) 0=c.getD x 0
def bF(z:Gr)(B D E F H I):M (#[.int .i64 (z.w:Nat),.slice B z.es D,.slice E z.i F,.slice H z.o I]:Array Value):=⟨⟩
def C8(z:Ed)(B D E F):M (#[.int .i64 z.k,.int .i64 z.v,.slice B z.i D,.slice E z.o F]:Array Value):=⟨⟩
def yH{c:bW}(h:x<c.length):c[x]?=some (c.getD x 0):=by rw[bg,dq h];rfl
def sG{y:Nat}{c:bW}(h:oL n c)(z:D<n):(yc c x y).getD D 0=if c.getD D 0=max (c.getD x 0) (c.getD y 0) then min (c.getD x 0) (c.getD y 0) else c.getD D 0:=by unfold yc;rw[bg,bR,yH (by rw[h.len];exact z)];rfl
def zfQ{y:Nat}{c:bW}(h:oL n c)(E:x<n)(F:y<n):oL n (yc c x y):=by
 have R:=h.le x E;have T:=h.le y F;have J:=h.rep x E;have O:=h.rep y F;refine⟨by unfold yc;rw[bl];exact h.len,fun B z=>?_,fun B z=>?_⟩
 .have H:=h.le B z;rw[sG h z];split
  .omega
  .exact H
 .have H:=h.le B z;have Q:=h.rep B z;rw[sG h z];by_cases e:c.getD B 0=max (c.getD x 0) (c.getD y 0)
  .rw[ar e,sG h Ry];have I:c.getD (min (c.getD x 0) (c.getD y 0)) 0=min (c.getD x 0) (c.getD y 0):=by
    rcases Nat.le_total (c.getD x 0) (c.getD y 0)with D|D
    .rw[iV D];exact J
    .rw[yX D];exact O
   rw[I];split <;>rfl
  .rw[ak e,sG h Ry,Q,ak e]
def An(n:Nat):oL n (List.range n):=by
 have B:∀x,x<n->(List.range n).getD x 0=x:=fun x z=>by rw[bg,kx z];rfl
 exact⟨hJ,fun x z=>by rw[B x z];exact ah _,fun x z=>by rw[B x z,B x z]⟩
def C9{n:Nat}:∀(ps:qX) (c:bW),oL n c->(∀q∈ps,q.1<n/\q.2<n)->oL n (ps.foldl (fun c q=>yc c q.1 q.2) c)
 |[],c,h,_=>h
 |q::ps,c,h,z=>C9 ps _ (zfQ h (z q (nw ..)).1 (z q (nw ..)).2) fun r B=>z r (nv _ B)
def Gr.onB(g:Gr)(x:Nat):Bool:=g.i.contains x||(g.o.contains x||g.es.any fun e=>e.i.contains x||e.o.contains x)
def Gr.j9:g.onB x=true↔g.On x:=by unfold Gr.onB Gr.On;simp
def lT(g:Gr)(c:bW):List Nat:=(List.range g.w).filter fun r=>decide (c.getD r 0=r)&&(List.range g.w).any fun x=>g.onB x&&decide (c.getD x 0=r)
def iB(g:Gr)(ps:qX):Gr:=g.map (lT g (ji g.w ps)) fun x=>(lT g (ji g.w ps)).idxOf ((ji g.w ps).getD x 0)
def zam{c:bW}(h:oL g.w c)(D:g.In)(B:g.On x):c.getD x 0∈lT g c:=by have z:=D x B;have:=h.le x z;unfold lT;rw[s9,dQ,bn,cw,mn];exact⟨Ry,h.rep x z,x,dQ.2 z,by rw[Gr.j9.2 B];simp⟩
def jj(a b:Gr):List Ed:=a.es++b.es.map (Ed.map (· +a.w))
def Bo(a b:Gr):Gr:=iB ⟨a.w+b.w,jj a b,a.i,b.o.map (· +a.w)⟩ (a.o.zip (b.i.map (· +a.w)))
def pH(a b:Gr):Gr:=⟨a.w+b.w,jj a b,a.i++b.i.map (· +a.w),a.o++b.o.map (· +a.w)⟩
def sH{a b:Gr}{i o:bW}(J:a.In)(F:b.In)(hi:∀x∈i,x<a.w+b.w)(O:∀x∈o,x<a.w+b.w):Gr.In ⟨a.w+b.w,jj a b,i,o⟩:=by
 intro x z;rcases z with h|h|⟨e,H,z⟩
 .exact hi x h
 .exact O x h
 .dsimp only;unfold jj at H;rcases eO.1 H with B|B
  .have:=J x (aB (aB ⟨e,B,z⟩));omega
  .obtain⟨E,I,rfl⟩:=cd.1 B;unfold Ed.map at z;rcases z with h|h
   .obtain⟨y,D,rfl⟩:=cd.1 h;have:=F y (aB (aB ⟨E,I,aG D⟩));omega
   .obtain⟨y,D,rfl⟩:=cd.1 h;have:=F y (aB (aB ⟨E,I,aB D⟩));omega
structure Nd where
 k:Int
 v:Int
 e:Bool
inductive Tm
 |lf (n:Nd)
 |op (k:Int) (a b:Tm)
variable{Rp S:List Tm}
def Tm.flat:Tm->List Nd
 |.lf n=>[n]
 |.op k a b=>a.flat++b.flat++[⟨k,0,true⟩]
def dV(n:Nd):Bool:=
 n.e&&(if n.k=1 then decide (0<=n.v)&&decide (n.v<=12) else if n.k=7∨n.k=13 then decide (0<=n.v)&&decide (n.v<=96) else decide (2<=n.k)&&(decide (n.k<=14)&&decide (n.v=0)))
def qe(n:Nd):Nat:=if n.k=1 then n.v.toNat else if n.k=2 then 2 else if n.k=5∨n.k=9 then 2 else if n.k=6∨n.k=10 then 0 else 1
def tK(n:Nd):Nat:=if n.k=1 then n.v.toNat else if n.k=2 then 2 else if n.k=3∨n.k=11 then 2 else if n.k=4∨n.k=12 then 0 else 1
def jw(k:Int)(a b:gY):Option (Nat×Nat):=
 if k=15 then(if a.2=b.1 then some (a.1,b.2) else none)
 else if k=16 then(if a.1+b.1<=12/\a.2+b.2<=12 then some (a.1+b.1,a.2+b.2) else none)
 else none
def Tm.ty:Tm->Option (Nat×Nat)
 |.lf n=>if dV n=true then some (qe n,tK n) else none
 |.op k a b=>match a.ty,b.ty with
  |some x,some y=>jw k x y
  |_,_=>none
def vq{n:Nd}(h:dV n=true):qe n<=12/\tK n<=12:=by
 unfold dV at h;unfold qe tK;rw[bn]at h;obtain⟨_,h⟩:=h;by_cases z:n.k=1
 .rw[ar z]at h;simp only[bn,cw]at h;rw[ar z,ar z];omega
 .rw[ak z,ak z];refine⟨?_,?_⟩ <;> (repeat' split) <;>omega
def zfE{k:Int}{a b c:gY}(B:a.1<=12/\a.2<=12)(D:b.1<=12/\b.2<=12)(h:jw k a b=some c):c.1<=12/\c.2<=12:=by
 unfold jw at h;split at h
 .split at h
  .simp only[dt]at h;subst h;exact⟨B.1,D.2⟩
  .cases h
 .split at h
  .split at h
   .rename_i z;simp only[dt]at h;subst h;exact z
   .cases h
  .cases h
def Tm.zcS:∀{t:Tm} {c:gY},t.ty=some c->c.1<=12/\c.2<=12
 |.lf n,c,h=>by
  unfold Tm.ty at h;split at h
  .rename_i D;simp only[dt]at h;subst h;exact vq D
  .cases h
 |.op k a b,c,h=>by
  unfold Tm.ty at h;cases z:a.ty with
  |none=>rw[z]at h;cases h
  |some x=>
   cases B:b.ty with
   |none=>rw[z,B]at h;cases h
   |some y=>
    rw[z,B]at h;exact zfE (Tm.zcS z) (Tm.zcS B) h
def qf{k:Int}{a b c:gY}(h:jw k a b=some c):k=15∨k=16:=by
 unfold jw at h;split at h
 .left;assumption
 .split at h
  .right;assumption
  .cases h
def Tm.BW{k:Int}{a b:Tm}{c:gY}(h:(Tm.op k a b).ty=some c):∃x y,a.ty=some x/\b.ty=some y/\jw k x y=some c:=by
 unfold Tm.ty at h;cases z:a.ty with
 |none=>rw[z]at h;cases h
 |some x=>
  cases B:b.ty with
  |none=>rw[z,B]at h;cases h
  |some y=>rw[z,B]at h;exact⟨x,y,rfl,rfl,h⟩
def opB(n:Nd):Bool:=decide (n.k=15)||decide (n.k=16)
def stepT(S:List Tm)(n:Nd):Option (List Tm):=
 if opB n=true then
  (if n.v=0/\n.e=true then
   match S with
   |b::a::z=>if((Tm.op n.k a b).ty).isSome=true then some (Tm.op n.k a b::z) else none
   |_=>none
  else none)
 else if dV n=true then some (Tm.lf n::S) else none
def jc:List Nd->List Tm->Option (List Tm)
 |[],S=>some S
 |n::L,S=>match stepT S n with
  |some z=>jc L z
  |none=>none
def tM:List Tm->List Nd
 |[]=>[]
 |t::S=>tM S++t.flat
def zbF{n:Nd}(h:stepT S n=some Rp):tM Rp=tM S++[n]:=by
 unfold stepT at h;split at h
 .split at h
  .rename_i z;split at h
   .rename_i b a B;split at h
    .simp only[dt]at h;subst h;obtain⟨k,v,e⟩:=n;simp only at z;obtain⟨rfl,rfl⟩:=z;simp[tM,Tm.flat]
    .cases h
   .cases h
  .cases h
 .split at h
  .simp only[dt]at h;subst h;rfl
  .cases h
def uh:∀{L:List Nd} {S z:List Tm},jc L S=some z->tM z=tM S++L
 |[],S,z,h=>by unfold jc at h;simp only[dt]at h;subst h;simp
 |n::L,S,z,h=>by
  unfold jc at h;cases B:stepT S n with
  |none=>rw[B]at h;cases h
  |some D=>
   rw[B]at h;rw[uh h,zbF B];simp
def qg(n:Nd)(L:List Nd)(S:List Tm):jc (n::L) S=match stepT S n with|some z=>jc L z|none=>none:=rfl
def sE:∀(L z:List Nd) (S:List Tm),jc (L++z) S=match jc L S with|some B=>jc z B|none=>none
 |[],z,S=>rfl
 |n::L,z,S=>by
  rw[y_,qg,qg];cases stepT S n with
  |none=>rfl
  |some D=>exact sE L z D
def pG:∀{t:Tm} {c:gY} (S:List Tm),t.ty=some c->jc t.flat S=some (t::S)
 |.lf n,c,S,h=>by
  unfold Tm.ty at h;split at h
  .rename_i z;have B:opB n=false:=by
    unfold dV at z;unfold opB;rw[bn]at z;obtain⟨_,z⟩:=z;simp only[DC,DD];by_cases D:n.k=1
    .omega
    .rw[ak D]at z;by_cases E:n.k=7∨n.k=13
     .omega
     .rw[ak E]at z;simp only[bn,cw]at z;omega
   show jc [n] S=_
   unfold jc stepT;rw[B,ak RC,ar z];rfl
  .cases h
 |.op k a b,c,S,h=>by
  obtain⟨x,y,F,H,I⟩:=Tm.BW h;have J:=qf I;unfold Tm.flat;rw[sE,sE,pG S F];dsimp only;rw[pG (a::S) H];dsimp only;have B:opB ⟨k,0,true⟩=true:=by unfold opB;rcases J with rfl|rfl <;>rfl
  unfold jc stepT;rw[ar B,ar ⟨rfl,rfl⟩];dsimp only;rw[h];rfl
def zcT:∀{L:List Nd} {S D:List Tm},(∀t∈S,∃c,t.ty=some c)->jc L S=some D->∀t∈D,∃c,t.ty=some c
 |[],S,D,E,h=>by unfold jc at h;simp only[dt]at h;subst h;exact E
 |n::L,S,D,E,h=>by
  unfold jc at h;cases z:stepT S n with
  |none=>rw[z]at h;cases h
  |some I=>
   rw[z]at h;refine zcT (fun t B=>?_) h;unfold stepT at z;split at z
   .split at z
    .split at z
     .rename_i b a H;split at z
      .rename_i F;simp only[dt]at z;subst z;rcases jq.1 B with rfl|B
       .exact Option.isSome_iff_exists.1 F
       .exact E t (nv _ (nv _ B))
      .cases z
     .cases z
    .cases z
   .split at z
    .rename_i F;simp only[dt]at z;subst z;rcases jq.1 B with rfl|B
     .exact⟨_,by unfold Tm.ty;rw[ar F]⟩
     .exact E t B
    .cases z
def zie(L:List Nd)(t:Tm):Prop:=L=t.flat/\∃c,t.ty=some c
def rC{L:List Nd}{t:Tm}:zie L t↔jc L []=some [t]:=by
 constructor
 .rintro⟨rfl,c,h⟩;exact pG [] h
 .intro h;have:=uh h;refine⟨by simpa[tM]using this.symm,zcT (fun t z=>by cases z) h t (gy.2 rfl)⟩
def gF(n:Nd):Gr:=
 if n.k=1 then⟨n.v.toNat,[],List.range n.v.toNat,List.range n.v.toNat⟩
 else if n.k=2 then⟨2,[],[0,1],[1,0]⟩
 else⟨qe n+tK n,[⟨n.k,n.v,List.range (qe n),(List.range (tK n)).map (· +qe n)⟩],List.range (qe n),(List.range (tK n)).map (· +qe n)⟩
def Tm.gr:Tm->Gr
 |.lf n=>gF n
 |.op k a b=>if k=15 then Bo a.gr b.gr else pH a.gr b.gr
def Ed.mT(e:Ed):Bool:=dV ⟨e.k,e.v,true⟩&&(decide (3<=e.k)&&(decide (e.i.length=qe ⟨e.k,e.v,true⟩)&&decide (e.o.length=tK ⟨e.k,e.v,true⟩)))
def Gr.okB(g:Gr):Bool:=
 decide (g.w<=100)&&(decide (g.es.length<=60)&&(decide (g.i.length<=12)&&(decide (g.o.length<=12)&&(g.es.all Ed.mT&&(decide (∀x,x<g.w->g.onB x=true)&&(g.i.all (fun x=>decide (x<g.w))&&(g.o.all (fun x=>decide (x<g.w))&&g.es.all fun e=>e.i.all (fun x=>decide (x<g.w))&&e.o.all (fun x=>decide (x<g.w)))))))))
def Gr.lX(h:g.okB=true):g.In:=by
 unfold Gr.okB at h;simp only[bn,eD,cw]at h;obtain⟨_,_,_,_,_,_,E,F,B⟩:=h;rintro x (z|z|⟨e,D,z|z⟩)
 .exact E x z
 .exact F x z
 .exact(B e D).1 x z
 .exact(B e D).2 x z
def Tm.xh:Tm->Bool
 |.lf n=>(gF n).okB
 |.op k a b=>a.xh&&(b.xh&&((Tm.op k a b).gr).okB)
def zdk{n:Int}(h:1<n):∃r:Nat,(x:Int)%n=r/\(r:Int)<n/\r<=x:=by obtain⟨k,rfl⟩:∃k:Nat,n=k:=⟨n.toNat,Ry⟩;have z:=Nat.mod_lt x (Ry:0<k);exact⟨x%k,by push_cast;rfl,Ry,Nat.mod_le _ _⟩
def zjN(n:Int)(_:aa)(v:av):Prop:=∃r:Nat,v=.int .i64 r/\((r:Int)<n∨r=0)/\r<65536
def cY(C:Code)(b m:Nat)(w:aa)(n:Int)(Q:cy C b m w)(a3:m<=549755813888):ax 88 (lM (aX b) n) w (kQ C b (m+2) (zjN n) w):=by
 obtain⟨I,E⟩:=bL (fun V k (h:cy C b k V) (ao:k<=1099511627776)=>zf2 C b k V h ao) Q;clear Q;by_cases ac:n<=1
 .go_enter func88,ntmps88
  go_wp2;go_ret
  exact⟨_,rfl,⟨0,rfl,aB rfl,RC⟩,E.o.mono Ry,vB _ _⟩
 have O:1<n:=Ry;clear ac;by_cases ad:n<=200
 .go_enter func88,ntmps88
  go_wp2_with (go_at_call 118;(with_reducible refine(I.o _ _ E.o Ry).mono ?_);rintro e a1 ⟨v,rfl,⟨x,rfl,a0⟩,z,B⟩;have F:=zH z;have H:=zH B;clear z B)
  go_ret
  obtain⟨r,D,J,am⟩:=zdk (x:=x) O;exact⟨_,rfl,⟨r,by rw[<-D];rfl,aG J,Ry⟩,F.mono Ry,H.o⟩
 .have a2:200<n:=Ry;clear ad;go_enter func88,ntmps88
  go_upto_region 4 with(go_at_call 118;(with_reducible refine(I.o _ _ E.o Ry).mono ?_);rintro e a1 ⟨v,rfl,⟨x,rfl,a0⟩,z,B⟩;have F:=zH z;have H:=zH B;clear z B)
  have a4:IntKind.i64.wrap ((x:Int)*256)=(x:Int)*256:=Sq;have ap:∀y:Nat,y<256->IntKind.i64.wrap ((x:Int)*256+(y:Int))=(x:Int)*256+(y:Int):=fun y U=>Sq
  go_wp2_with (go_at_call 118;(with_reducible refine(I.o _ _ F.o Ry).mono ?_);rintro e a6 ⟨v,rfl,⟨y,rfl,U⟩,R,T⟩;have Z:=zH R;have ab:=zH T;have a5:=ap y U;clear R T)
  go_ret
  obtain⟨r,D,J,am⟩:=zdk (x:=x*256+y) O;have D:((x:Int)*256+(y:Int))%n=r:=by rw[<-D];push_cast;rfl
  exact⟨_,rfl,⟨r,by rw[<-D];rfl,aG J,Ry⟩,Z.mono Ry,H.o.trans ab⟩
def gH(C:Code)(b m:Nat)(w:aa)(n:Int)(z:cy C b m w)(I:m<=549755813888):ax 46 (lM (aX b) n) w (kQ C b (m+2) (fun _ v=>∃y:Bool,v=.bool y) w):=by
 have H:=zH (cY C b m w n z I);clear z;go_enter func46,ntmps46
 go_wp2_with (go_at_call 88;(with_reducible refine H.o.mono ?_);rintro e J ⟨v,rfl,⟨r,rfl,-,-⟩,B,D⟩;have E:=zH B;have F:=zH D;clear B D)
 go_ret
 exact⟨_,rfl,⟨_,rfl⟩,E.o,F⟩
def zeO(C:Code)(b m:Nat)(w:aa)(xs:aH)(A:aq)(cap:Nat)(F:cy C b m w)(U:m<=549755813888)(D:aU w A xs)(T:0<xs.length)(ao:xs.length<=65536)(E:∀a,A=some a->b<a.block):ax 85 #[.pointer (aX b),.slice A xs cap] w (kQ C b (m+2) (fun _ v=>∃x∈xs,v=.int .i64 x) w):=by
 have Q:=zH (cY C b m w xs F U);obtain⟨a,o,rfl,I⟩:=D.here T;have ad:b<a:=E _ rfl;clear F D E;go_enter func85,ntmps85
 go_upto_region 1 with(fail)
 go_wp2_with (go_at_call 88;(with_reducible refine Q.o.mono ?_);rintro e ac ⟨v,rfl,⟨r,rfl,Z,-⟩,H,B⟩;have ab:r<xs.length:=Ry;obtain⟨x,z⟩:=aw ab;have am:af ac a (o+r) (zI x):=gX (B.block a (iK _ _ (I r x z)) (fun e=>TN)) (I r x z);have R:=zH z;have J:=zH H;have O:=zH B;clear H B z Z)
 go_ret
 exact⟨_,rfl,⟨x,aR R.o,rfl⟩,J.o,O⟩
end Go.Proofs.YtdpgblncijojiaaGreatDoor
