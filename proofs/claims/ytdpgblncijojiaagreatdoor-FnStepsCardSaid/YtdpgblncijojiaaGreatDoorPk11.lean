/- Parts of the walks. Conditions: as stated with each. -/
import Derived.Test.YtdpgblncijojiaaGreatDoorPk10
import Derived.Test.YtdpgblncijojiaaGreatDoorPk9
namespace Go.Proofs.YtdpgblncijojiaaGreatDoor
open Go.RowKit Tryz
set_option linter.all false
variable{N N' c d i j k n n2 r:Nat}{RI:Nat->Int}{Rw Y:aE}{f p:Int}{xs:aG}
section
variable{M:aE}
def eM(M:aE)(i d:Nat):Int:=(M.getD i []).getD d 0
def iO(p:Int)(N n:Nat)(M:aE):Prop:=M.length=N/\(∀i,i<N->(M.getD i []).length=n)/\∀i d,i<N->d<n->0<=eM M i d/\eM M i d<p
def BC{a:Nat}{r:aG}(z:a<M.length):(M.set a r).getD i []=if i=a then r else M.getD i []:=by
 rw[bu,x_];by_cases h:a=i
 .subst h;rw[ay rfl,ay z,ay rfl];rfl
 .rw[al h,al (gJ h),bu]
def zj{a:Nat}{r:aG}(z:a<M.length):eM (M.set a r) i d=if i=a then r.getD d 0 else eM M i d:=by unfold eM;rw[BC z];split <;>rfl
def tp(z:d<xs.length):(gz p f xs).getD d 0=xs.getD d 0*f%p:=by unfold gz;obtain⟨x,D⟩:=aB z;rw[bu,cp,bu,D];rfl
def iO.set{a:Nat}{r:aG}(h:iO p N n M)(E:a<N)(H:r.length=n)(F:∀d,d<n->0<=r.getD d 0/\r.getD d 0<p):iO p N n (M.set a r):=by
 have z:a<M.length:=by rw[h.1];exact E
 refine⟨by rw[fP];exact h.1,fun i hi=>?_,fun i d hi D=>?_⟩
 .rw[BC z];split
  .exact H
  .exact h.2.1 i hi
 .rw[zj z];split
  .exact F d D
  .exact h.2.2 i d hi D
def zP(M:aE)(a b:Nat):List (List Int):=(M.set a (M.getD b [])).set b (M.getD a [])
def scL(p f:Int)(M:aE)(r:Nat):List (List Int):=M.set r (gz p f (M.getD r []))
def kr(p:Int)(r c:Nat):Nat->List (List Int)×List (List Int)->List (List Int)×List (List Int)
 |0,q=>q
 |i+1,q=>if i≠r/\eM (kr p r c i q).1 i c≠0 then
   ((kr p r c i q).1.set i (dw p (-(eM (kr p r c i q).1 i c)) ((kr p r c i q).1.getD i []) ((kr p r c i q).1.getD r [])),
    (kr p r c i q).2.set i (dw p (-(eM (kr p r c i q).1 i c)) ((kr p r c i q).2.getD i []) ((kr p r c i q).2.getD r [])))
  else kr p r c i q
def Av(p:Int)(r k c:Nat)(q:List (List Int)×List (List Int)):List (List Int)×List (List Int):=
 kr p r c q.1 (scL p (fD p (eM (zP q.1 r k) r c)) (zP q.1 r k) r,scL p (fD p (eM (zP q.1 r k) r c)) (zP q.2 r k) r)
def xB(h:iO p N n M)(E:r<N)(D:k<N):iO p N n (zP M r k):=(h.set E (h.2.1 k D) (fun d z=>h.2.2 k d D z)).set D (h.2.1 r E) (fun d z=>h.2.2 r d E z)
def sV(h:iO p N n M)(F:r<N)(E:k<N):eM (zP M r k) i d=eM M (kL r k i) d:=by
 unfold zP;rw[zj (by rw[fP,h.1];exact E),zj (by rw[h.1];exact F)];unfold kL;by_cases D:i=k
 .subst D;rw[ay rfl];by_cases z:i=r
  .subst z;rw[ay rfl];rfl
  .rw[al z,ay rfl];rfl
 .rw[al D];by_cases z:i=r
  .rw[ay z,ay z];rfl
  .rw[al z,al z,al D]
def xC(E:2<=p)(h:iO p N n M)(z:r<N):iO p N n (scL p f M r):=by refine h.set z (by rw[gz,bt];exact h.2.1 r z) (fun d D=>?_);rw[tp (by rw[h.2.1 r z];exact D)];exact W_
def BD(h:iO p N n M)(z:r<N)(D:d<n):eM (scL p f M r) i d=if i=r then eM M r d*f%p else eM M i d:=by
 unfold scL;rw[zj (by rw[h.1];exact z)];split
 .rw[tp (by rw[h.2.1 r z];exact D)];rfl
 .rfl
structure zjk(p:Int)(N n n2 r c:Nat)(q z:List (List Int)×List (List Int))(i:Nat):Prop where
 s1:iO p N n z.1
 s2:iO p N n2 z.2
 e1:∀j d,j<N->d<n->eM z.1 j d=if j<i/\j≠r then(eM q.1 j d-eM q.1 j c*eM q.1 r d)%p else eM q.1 j d
 e2:∀j d,j<N->d<n2->eM z.2 j d=if j<i/\j≠r then(eM q.2 j d-eM q.1 j c*eM q.2 r d)%p else eM q.2 j d
def xD(H:2<=p)(h:iO p N n M)(hi:i<N)(E:r<N):iO p N n (M.set i (dw p f (M.getD i []) (M.getD r [])))/\∀j d,d<n->eM (M.set i (dw p f (M.getD i []) (M.getD r []))) j d=if j=i then(eM M i d+f*eM M r d)%p else eM M j d:=by
 have F:(M.getD i []).length=(M.getD r []):=by rw[h.2.1 i hi,h.2.1 r E]
 have D:∀d,d<n->(dw p f (M.getD i []) (M.getD r [])).getD d 0=(eM M i d+f*eM M r d)%p:=fun d z=>td F (by rw[h.2.1 i hi];exact z)
 refine⟨h.set hi (by rw[yt,h.2.1 i hi,h.2.1 r E];omega) (fun d z=>?_),fun j d z=>?_⟩
 .rw[D d z];exact W_
 .rw[zj (by rw[h.1];exact hi)];split
  .exact D d z
  .rfl
def Ei{p:Int}{N n n2 r c:Nat}{q:List (List Int)×List (List Int)}(I:2<=p)(O:iO p N n q.1)(Q:iO p N n2 q.2)(E:r<N)(R:c<n):∀i,i<=N->zjk p N n n2 r c q (kr p r c i q) i
 |0,_=>⟨O,Q,fun j d _ _=>by rw[al RU];rfl,fun j d _ _=>by rw[al RU];rfl⟩
 |i+1,hi=>by
  have ih:=Ei I O Q E R i RU;obtain⟨F,am⟩:=aO (kr p r c i q);unfold kr;rw[<-am]at ih ⊢;have J:eM F.1 i c=eM q.1 i c:=by rw[ih.e1 i c RU R,al RU]
  have ac:∀d,d<n->eM F.1 r d=eM q.1 r d:=fun d z=>by rw[ih.e1 r d E z,al RU]
  have ad:∀d,d<n2->eM F.2 r d=eM q.2 r d:=fun d z=>by rw[ih.e2 r d E z,al RU]
  split
  .rename_i H;obtain⟨U,Y⟩:=xD (f:=-(eM F.1 i c)) I ih.s1 (RU:i<N) E;obtain⟨Z,ab⟩:=xD (f:=-(eM F.1 i c)) I ih.s2 (RU:i<N) E;refine⟨U,Z,fun j d D z=>?_,fun j d D z=>?_⟩
   .rw[Y j d z];by_cases e:j=i
    .subst e;rw[ay rfl,ay ⟨RU,H.1⟩,ih.e1 j d D z,al RU,ac d z,J,vw,<-Int.sub_eq_add_neg]
    .rw[al e,ih.e1 j d D z];exact X9
   .rw[ab j d z];by_cases e:j=i
    .subst e;rw[ay rfl,ay ⟨RU,H.1⟩,ih.e2 j d D z,al RU,ad d z,J,vw,<-Int.sub_eq_add_neg]
    .rw[al e,ih.e2 j d D z];exact X9
  .rename_i H;have h0:i≠r->eM q.1 i c=0:=fun ED=>by rw[<-J];exact CT fun h=>H ⟨ED,h⟩
   refine⟨ih.s1,ih.s2,fun j d D z=>?_,fun j d D z=>?_⟩
   .rw[ih.e1 j d D z];by_cases e:j=i
    .subst e;rw[al RU];by_cases ED:j=r
     .rw[al RU]
     .have:=O.2.2 j d D z;exact XE
    .exact X9
   .rw[ih.e2 j d D z];by_cases e:j=i
    .subst e;rw[al RU];by_cases ED:j=r
     .rw[al RU]
     .have:=Q.2.2 j d D z;exact XE
    .exact X9
def zia{q:List (List Int)×List (List Int)}(O:2<=p)(E:iO p N n q.1)(I:iO p N n2 q.2)(z:r<N)(D:k<N)(Q:c<n):iO p N n (Av p r k c q).1/\iO p N n2 (Av p r k c q).2/\(∀i d,i<N->d<n->eM (Av p r k c q).1 i d=iQ p r k c (fD p (eM q.1 k c)) (eM q.1) (eM q.1) i d)/\(∀i d,i<N->d<n2->eM (Av p r k c q).2 i d=iQ p r k c (fD p (eM q.1 k c)) (eM q.1) (eM q.2) i d):=by
 have U:eM (zP q.1 r k) r c=eM q.1 k c:=by rw[sV E z D,mo]
 have H:=xB E z D;have R:=xB I z D;have J:=Ei (r:=r) (c:=c) (q:=(scL p (fD p (eM q.1 k c)) (zP q.1 r k) r,scL p (fD p (eM q.1 k c)) (zP q.2 r k) r)) O (xC O H z) (xC O R z) z Q N (ag _);unfold Av;rw[U,E.1];refine⟨J.s1,J.s2,fun i d hi F=>?_,fun i d hi F=>?_⟩
 .rw[J.e1 i d hi F];dsimp only;rw[BD H z F,BD H z Q,BD H z F];unfold iQ;by_cases e:i=r
  .subst e;rw[al RU,ay rfl,ay rfl,sV E z D,mo]
  .rw[ay ⟨hi,e⟩,al e,al e,al e,ay rfl,sV E z D,sV E z D,sV E z D,mo]
 .rw[J.e2 i d hi F];dsimp only;rw[BD R z F,BD H z Q,BD R z F];unfold iQ;by_cases e:i=r
  .subst e;rw[al RU,ay rfl,ay rfl,sV I z D,mo]
  .rw[ay ⟨hi,e⟩,al e,al e,al e,ay rfl,sV E z D,sV I z D,sV I z D,mo]
end
def rk(a p:Int):p∣a%p-a:=⟨-(a / p),by rw[Int.mul_neg];have:=Int.emod_add_mul_ediv a p;omega⟩
section
variable{p:Int}{r k c:Nat}{iv:Int}{M X:Nat->Nat->Int}
def wC(d:Nat):mq p r k iv (fun i=>M i c) (fun i=>X i d) (fun i=>iQ p r k c iv M X i d):=by
 have z:iQ p r k c iv M X r d=X k d*iv%p:=by unfold iQ;rw[ay rfl]
 refine⟨?_,fun i hi=>?_⟩
 .try dsimp only
  rw[z];exact rk _ _
 .try dsimp only
  rw[z];unfold iQ;rw[al hi];exact rk _ _
def mq.add{g f h h':Nat->Int}(a:mq p r k iv g f RI)(b:mq p r k iv g h h'):mq p r k iv g (fun i=>f i+h i) (fun i=>RI i+h' i):=by
 refine⟨?_,fun i hi=>?_⟩
 .have:=qh a.top b.top;try dsimp only
  rwa[show RI r-f k*iv+(h' r-h k*iv)=RI r+h' r-(f k+h k)*iv by rw[Int.add_mul];omega]at this
 .have:=qh (a.oth i hi) (b.oth i hi);try dsimp only
  rwa[show RI i-(f (kL r k i)-g (kL r k i)*RI r)+(h' i-(h (kL r k i)-g (kL r k i)*h' r))=RI i+h' i-(f (kL r k i)+h (kL r k i)-g (kL r k i)*(RI r+h' r)) by rw[Int.mul_add];omega]at this
def mq.mul{g f:Nat->Int}(a:mq p r k iv g f RI)(x:Int):mq p r k iv g (fun i=>f i*x) (fun i=>RI i*x):=by
 refine⟨?_,fun i hi=>?_⟩
 .have:=jE a.top (⟨x,rfl⟩:RI r-f k*iv∣(RI r-f k*iv)*x);try dsimp only
  rwa[sv,Int.mul_right_comm]at this
 .have:=jE (a.oth i hi) (⟨x,rfl⟩:RI i-(f (kL r k i)-g (kL r k i)*RI r)∣(RI i-(f (kL r k i)-g (kL r k i)*RI r))*x);try dsimp only
  rwa[sv,sv,oB (g (kL r k i))]at this
def mq.zero(g:Nat->Int):mq p r k iv g (fun _=>0) (fun _=>0):=⟨⟨0,RS⟩,fun i _=>⟨0,RS⟩⟩
def rL(x:Nat->Int):∀(n:Nat),mq p r k iv (fun i=>M i c) (fun i=>cN (fun d=>X i d*x d) n) (fun i=>cN (fun d=>iQ p r k c iv M X i d*x d) n)
 |0=>mq.zero _
 |n+1=>(rL x n).add ((wC n).mul (x n))
def zfY(D:r<N)(z:k<N)(E:p∣M k c*iv-1)(x:Nat->Int):(∀i,i<N->p∣cN (fun d=>X i d*x d) n)↔(∀i,i<N->p∣cN (fun d=>iQ p r k c iv M X i d*x d) n):=⟨fun h=>(rL x n).all D z h,fun h=>(rL x n).back D z E h⟩
def zfZ{G:Nat->Nat->Int}(E:r<N)(D:k<N)(h:∀i,i<N->∀d,d<n->p∣M i d-cN (fun j=>X i j*G j d) n2):∀i,i<N->∀d,d<n->p∣iQ p r k c iv M M i d-cN (fun j=>iQ p r k c iv M X i j*G j d) n2:=by
 intro i hi d z;have L:=(wC (p:=p) (r:=r) (k:=k) (c:=c) (iv:=iv) (M:=M) (X:=M) d).add ((rL (p:=p) (r:=r) (k:=k) (c:=c) (iv:=iv) (M:=M) (X:=X) (fun j=>G j d) n2).mul (-1));have:=L.all E D (fun i hi=>by
  have:=h i hi d z;try dsimp only
  rwa[show M i d+cN (fun j=>X i j*G j d) n2 * -1=M i d-cN (fun j=>X i j*G j d) n2 by omega]) i hi
 try dsimp only at this
 rwa[show iQ p r k c iv M M i d+cN (fun j=>iQ p r k c iv M X i j*G j d) n2 * -1=iQ p r k c iv M M i d-cN (fun j=>iQ p r k c iv M X i j*G j d) n2 by omega]at this
end
def rm(a:Nat->Int){k:Nat}(z:k<n):cN (fun i=>if i=k then a i else 0) n=a k:=by rw[lg z (fun c _ D=>al D),ay rfl]
def zf0(f:Nat->Int){r k:Nat}(F:r<N)(E:k<N):cN (fun i=>f (kL r k i)) N=cN f N:=by
 by_cases h:r=k
 .subst h;exact dn fun c _=>by unfold kL;split <;> (try split) <;>simp_all
 .have e:∀i,i<N->f (kL r k i)=f i+((if i=r then f k-f r else 0)+(if i=k then f r-f k else 0)):=fun i _=>by
   unfold kL;by_cases z:i=r
   .subst z;rw[ay rfl,ay rfl,al h];omega
   .by_cases D:i=k
    .subst D;rw[al z,ay rfl,al z,ay rfl];omega
    .rw[al z,al D,al z,al D];omega
  rw[dn e,mr,mr,rm (fun _=>f k-f r) F,rm (fun _=>f r-f k) E];omega
def zf1{p:Int}{r k c:Nat}{iv:Int}{M X:Nat->Nat->Int}(H:r<N)(Y:k<N)(R:p∣M k c*iv-1)(h:∀x:Nat->Int,∃y:Nat->Int,∀j,j<n2->p∣x j-cN (fun i=>y i*X i j) N):∀x:Nat->Int,∃y:Nat->Int,∀j,j<n2->p∣x j-cN (fun i=>y i*iQ p r k c iv M X i j) N:=by
 intro x;obtain⟨y,Z⟩:=h x;obtain⟨S,Q⟩:=aO (cN (fun i=>if i=r then 0 else y (kL r k i)*M (kL r k i) c) N);refine⟨fun i=>if i=r then M k c*y k+S else y (kL r k i),fun j U=>?_⟩;have L:=wC (p:=p) (r:=r) (k:=k) (c:=c) (iv:=iv) (M:=M) (X:=X) j;obtain⟨z,F⟩:∃z:Nat->Int,z=fun i=>iQ p r k c iv M X i j:=⟨_,rfl⟩
 have E:mq p r k iv (fun i=>M i c) (fun i=>X i j) z:=by rw[F];exact L
 have O:∀i,iQ p r k c iv M X i j=z i:=fun i=>by rw[F]
 -- the new combination, term by term
 have t1:∀i,i<N->p∣(if i=r then M k c*y k+S else y (kL r k i))*z i-(y (kL r k i)*X (kL r k i) j+((if i=r then S*z r else 0) + -1*((if i=r then 0 else y (kL r k i)*M (kL r k i) c)*z r))):=by
  intro i hi;by_cases e:i=r
  .subst e;rw[ay rfl,ay rfl,ay rfl,mo];have D:=jE E.top (⟨M k c*y k,rfl⟩:z i-X k j*iv∣(z i-X k j*iv)*(M k c*y k));have I:=jE R (⟨X k j*y k,rfl⟩:M k c*iv-1∣(M k c*iv-1)*(X k j*y k));have J:=qh D I;rwa[show(z i-X k j*iv)*(M k c*y k)+(M k c*iv-1)*(X k j*y k)=(M k c*y k+S)*z i-(y k*X k j+(S*z i + -1*(0*z i))) from by grind]at J
  .rw[al e,al e,al e];have D:=jE (E.oth i e) (⟨y (kL r k i),rfl⟩:z i-(X (kL r k i) j-M (kL r k i) c*z r)∣(z i-(X (kL r k i) j-M (kL r k i) c*z r))*y (kL r k i));rwa[show(z i-(X (kL r k i) j-M (kL r k i) c*z r))*y (kL r k i)=y (kL r k i)*z i-(y (kL r k i)*X (kL r k i) j+(0 + -1*(y (kL r k i)*M (kL r k i) c*z r))) from by grind]at D
 have t2:=iJ t1;rw[mr,mr,rm (fun _=>S*z r) H,o5,qP,<-Q,zf0 (fun i=>y i*X i j) H Y]at t2;have t3:=oI (Z j U) t2;rw[show cN (fun i=>(if i=r then M k c*y k+S else y (kL r k i))*iQ p r k c iv M X i j) N=cN (fun i=>(if i=r then M k c*y k+S else y (kL r k i))*z i) N from dn fun i _=>by rw[O]];rwa[show ∀a b d e:Int,a-b-(d-(b+(e + -1*e)))=a-d from fun a b d e=>RU]at t3
section
variable{M:aE}
def uu(M:aE)(c r:Nat):Nat:=dU ⟨0,0,M⟩ c r
def Bt(M:aE)(c r:Nat)(z:r<=M.length):r<=uu M c r/\uu M c r<=M.length/\(∀j,r<=j->j<uu M c r->eM M j c=0)/\(uu M c r<M.length->eM M (uu M c r) c≠0):=gy ⟨0,0,M⟩ c r z
def sU(p:Int):Nat->Nat->Nat×(List (List Int)×List (List Int))->Nat×(List (List Int)×List (List Int))
 |0,_,z=>z
 |m+1,c,z=>if z.1<z.2.1.length then sU p m (c+1) (if uu z.2.1 c z.1=z.2.1.length then z else(z.1+1,Av p z.1 (uu z.2.1 c z.1) c z.2)) else z
def zbk{A B:Nat->Nat->Int}{l:gF}(h:Ah p n N A r c l)(e:∀i d,i<N->d<n->B i d=A i d):Ah p n N B r c l:=
 ⟨fun i d hi z=>by rw[e i d hi z];exact h.bd i d hi z,h.rN,h.cn,h.lt,h.inc,
  fun i hi=>by have:=h.lt i hi;have:=h.cn;have:=h.rN;rw[e i _ RU RU];exact h.one i hi,
  fun i d hi z=>by have:=h.lt i hi;have:=h.cn;have:=h.rN;rw[e i d RU RU];exact h.low i d hi z,
  fun i j hi D F=>by have:=h.lt i hi;have:=h.cn;rw[e j _ D RU];exact h.col i j hi D F,
  fun j d D E z=>by have:=h.cn;rw[e j d E RU];exact h.z j d D E z⟩
structure wk(p:Int)(N n n2:Nat)(M0 X0:aE)(c:Nat)(z:Nat×(List (List Int)×List (List Int))):Prop where
 s1:iO p N n z.2.1
 s2:iO p N n2 z.2.2
 inv:∃l,Ah p n N (eM z.2.1) z.1 c l
 ann:∀x:Nat->Int,(∀i,i<N->p∣cN (fun d=>eM M0 i d*x d) n)↔(∀i,i<N->p∣cN (fun d=>eM z.2.1 i d*x d) n)
 mul:∀G:Nat->Nat->Int,(∀i,i<N->∀d,d<n->p∣eM M0 i d-cN (fun j=>eM X0 i j*G j d) n2)->∀i,i<N->∀d,d<n->p∣eM z.2.1 i d-cN (fun j=>eM z.2.2 i j*G j d) n2
 all:(∀x:Nat->Int,∃y:Nat->Int,∀j,j<n2->p∣x j-cN (fun i=>y i*eM X0 i j) N)->∀x:Nat->Int,∃y:Nat->Int,∀j,j<n2->p∣x j-cN (fun i=>y i*eM z.2.2 i j) N
def zbl{X:aE}(z:iO p N n M)(D:iO p N n2 X):wk p N n n2 M X 0 (0,(M,X)):=⟨z,D,⟨_,zbb z.2.2⟩,fun _=>Iff.rfl,fun _ h=>h,fun h=>h⟩
def zdA{z:Nat×(List (List Int)×List (List Int))}(am:dr p=true)(Q:2<=p)(h:wk p N n n2 Y Rw c z)(F:c<n):wk p N n n2 Y Rw (c+1) (if uu z.2.1 c z.1=z.2.1.length then z else(z.1+1,Av p z.1 (uu z.2.1 c z.1) c z.2)):=by
 obtain⟨l,hi⟩:=h.inv;have ap:=h.s1.1;obtain⟨f1,f2,f3,f4⟩:=Bt z.2.1 c z.1 (by rw[ap];exact hi.rN);obtain⟨k,ao⟩:=aO (uu z.2.1 c z.1);rw[<-ao]at f1 f2 f3 f4 ⊢;split
 .rename_i e;exact⟨h.s1,h.s2,⟨l,zdq hi F (fun j Z a1=>f3 j Z RU)⟩,h.ann,h.mul,h.all⟩
 .rename_i e;have E:k<N:=RU;have I:z.1<N:=RU;have ad:=h.s1.2.2 k c E F;have a2:=f4 RU;obtain⟨U,_,_⟩:=mf am (RU:1<=eM z.2.1 k c) ad.2;have R:p∣eM z.2.1 k c*fD p (eM z.2.1 k c)-1:=by have:=rk (eM z.2.1 k c*fD p (eM z.2.1 k c)) p;rw[U]at this;have:=Int.dvd_neg.2 this;rwa[show -(1-eM z.2.1 k c*fD p (eM z.2.1 k c))=eM z.2.1 k c*fD p (eM z.2.1 k c)-1 by omega]at this
  obtain⟨c1,c2,c3,O⟩:=zia (r:=z.1) (k:=k) (c:=c) Q h.s1 h.s2 I E F;refine⟨c1,c2,⟨_,zbk (zdr Q hi F f1 E U) c3⟩,fun x=>?_,fun G ac=>?_,fun ab=>?_⟩
  .refine(h.ann x).trans ((zfY I E R x).trans ⟨fun J i hi'=>?_,fun J i hi'=>?_⟩)
   .have:=J i hi';rwa[dn (fun d D=>by rw[<-c3 i d hi' D])]at this
   .have:=J i hi';dsimp only at this;rwa[dn (fun d D=>by rw[c3 i d hi' D])]at this
  .intro i hi' d D;have:=zfZ (c:=c) (iv:=fD p (eM z.2.1 k c)) I E (h.mul G ac) i hi' d D;dsimp only;rw[c3 i d hi' D,dn (fun j H=>by rw[O i j hi' H])];exact this
  .intro x;obtain⟨y,a0⟩:=zf1 (c:=c) (iv:=fD p (eM z.2.1 k c)) I E R (h.all ab) x;refine⟨y,fun j H=>?_⟩;have:=a0 j H;dsimp only;rw[dn (fun i hi'=>by rw[O i j hi' H])];exact this
def D6{p:Int}{N n n2:Nat}{D E:aE}(I:dr p=true)(H:2<=p):∀(m c:Nat) (z:Nat×(List (List Int)×List (List Int))),wk p N n n2 D E c z->c+m=n->∃F,wk p N n n2 D E F (sU p m c z)/\(F=n∨(sU p m c z).1=N)
 |0,c,z,h,J=>⟨c,h,aF J⟩
 |m+1,c,z,h,J=>by
  unfold sU;split
  .exact D6 I H m (c+1) _ (zdA I H h RU) RU
  .rename_i O;obtain⟨l,hi⟩:=h.inv;have:=hi.rN;have:=h.s1.1;exact⟨c,h,aA RU⟩
def iB(p:Int)(n:Nat)(M X:aE):Nat×(List (List Int)×List (List Int)):=sU p n 0 (0,(M,X))
def pD{X:aE}(F:dr p=true)(D:2<=p)(H:iO p N n M)(I:iO p N n2 X):∃c l,wk p N n n2 M X c (iB p n M X)/\(iB p n M X).1<=N/\oP p n (iB p n M X).1 (eM (iB p n M X).2.1) l/\∀i,(iB p n M X).1<=i->i<N->∀d,d<n->eM (iB p n M X).2.1 i d=0:=by obtain⟨c,z,E⟩:=D6 F D n 0 (0,(M,X)) (zbl H I) RU;obtain⟨l,hi⟩:=z.inv;exact⟨c,l,z,hi.rN,zfj hi,zds hi E⟩
end
section
variable{M:aE}
def Cg(p:Int)(N:Nat):iO p N 0 (List.replicate N []):=⟨kj,fun i hi=>by rw[bu,ie,ay hi];rfl,fun i d _ z=>RU⟩
def zb9(hi:i<r):eM (M.take r) i d=eM M i d:=by unfold eM;rw[bu (l:=M.take r),fY,ay hi,bu (l:=M)]
def iO.take(h:iO p N n M)(D:r<=N):iO p r n (M.take r):=by
 refine⟨by rw[dH,h.1];omega,fun i hi=>?_,fun i d hi z=>?_⟩
 .rw[bu,fY,ay hi,<-bu];exact h.2.1 i RU
 .rw[zb9 hi];exact h.2.2 i d RU z
def zgC{A B:aE}(z:iO p r n A)(D:iO p r n B)(h:∀i,i<r->∀d,d<n->eM A i d=eM B i d):A=B:=by
 apply fu;intro i;by_cases hi:i<r
 .obtain⟨a,E⟩:=aB (by rw[z.1];exact hi:i<A.length);obtain⟨b,F⟩:=aB (by rw[D.1];exact hi:i<B.length);have H:=z.2.1 i hi;have I:=D.2.1 i hi;rw[bu,E]at H;rw[bu,F]at I;rw[E,F];have:a=b:=by
   apply fu;intro d;by_cases Q:d<n
   .have e:=h i hi d Q;unfold eM at e;rw[bu (l:=A),E,bu (l:=B),F]at e;obtain⟨x,J⟩:=aB (show d<a.length by simpa using(by have:a.length=n:=H;omega:d<a.length));obtain⟨y,O⟩:=aB (show d<b.length by simpa using(by have:b.length=n:=I;omega:d<b.length));simp only[xP,bu,J,O]at e;rw[J,O,e]
   .rw[fQ (by have:a.length=n:=H;omega),fQ (by have:b.length=n:=I;omega)]
  rw[this]
 .rw[fQ (by rw[z.1];omega),fQ (by rw[D.1];omega)]
def qy(p:Int)(n:Nat)(M:aE):List (List Int):=(iB p n M (List.replicate M [])).2.1.take (iB p n M (List.replicate M [])).1
def rD(U:dr p=true)(R:2<=p)(s:iO p N n M):∃r l,r<=N/\iO p r n (qy p n M)/\oP p n r (eM (qy p n M)) l/\∀x:Nat->Int,(∀i,i<N->p∣cN (fun d=>eM M i d*x d) n)↔Cq p n r (eM (qy p n M)) x:=by
 obtain⟨c,l,e,H,z,I⟩:=pD (n2:=0) U R s (by have:=Cg p N;rwa[<-s.1]at this ⊢);unfold qy;rw[<-s.1]at H I ⊢;obtain⟨E,ab⟩:=aO (iB p n M (List.replicate M []));rw[<-ab]at e H z I ⊢;have D:∀i d,i<E.1->eM (E.2.1.take E.1) i d=eM E.2.1 i d:=fun i d hi=>zb9 hi
 have Q:=e.s1;rw[<-s.1]at Q;refine⟨E.1,l,H,Q.take H,⟨fun i d hi F=>by rw[D i d hi];exact z.bd i d hi F,z.ln,z.inc,fun i hi=>by rw[D i _ hi];exact z.one i hi,fun i d hi F=>by rw[D i d hi];exact z.low i d hi F,fun i j hi Y Z=>by rw[D i _ hi];exact z.col i j hi Y Z⟩,fun x=>?_⟩;have J:=e.ann x;rw[<-s.1]at J;refine J.trans ⟨fun h i hi=>?_,fun h i hi=>?_⟩
 .rw[dn (fun d _=>by rw[D i d hi])];exact h i RU
 .by_cases O:i<E.1
  .have:=h i O;rwa[dn (fun d _=>by rw[D i d O])]at this
  .rw[np fun d F=>by rw[I i RU hi d F,lS]];exact⟨0,RS⟩
def zgD(D:dr p=true)(z:2<=p)(s:iO p N n M)(U:iO p N' n Y)(h:∀x:Nat->Int,(∀i,i<N->p∣cN (fun d=>eM M i d*x d) n)↔(∀i,i<N'->p∣cN (fun d=>eM Y i d*x d) n)):qy p n M=qy p n Y:=by obtain⟨r,l,_,E,F,H⟩:=rD D z s;obtain⟨r',Z,_,I,J,O⟩:=rD D z U;obtain⟨Q,R⟩:=zbd z F J (fun x=>(H x).symm.trans ((h x).trans (O x)));subst Q;exact zgC E I R
end
section
variable{M:aE}
def Bo(M:aE)(n:Nat):List (List Int):=(List.range n).map fun j=>M.map fun r=>r.getD j 0
def zhl(z:j<n):eM (Bo M n) j i=eM M i j:=by unfold eM Bo;rw[bu (l:=List.map _ _),cp,lu z];simp only[sd,xP,bu,cp];cases M[i]? <;>simp
def Cu(h:iO p N n M):iO p n N (Bo M n):=by
 refine⟨by simp[Bo],fun i hi=>?_,fun i d hi z=>?_⟩
 .unfold Bo;rw[bu,cp,lu hi];simp[h.1]
 .rw[zhl hi];exact h.2.2 d i z hi
def DV(hi:i<n)(z:j<n):eM (xh n) i j=if j=i then 1 else 0:=by
 unfold eM;rw[bu (l:=xh n),Ce hi]
 show(wN n i).getD j 0=_
 unfold wN;rw[bu,x_];by_cases h:i=j
 .subst h;rw[ay rfl,ay (by simpa using hi),ay rfl];rfl
 .rw[al h,al (gJ h),ie,ay z];rfl
def Cv(D:2<=p):iO p n n (xh n):=by
 refine⟨Cd n,fun i hi=>?_,fun i d hi z=>?_⟩
 .rw[bu,Ce hi];exact AT n i
 .rw[DV hi z];split <;>omega
def Cw(M:aE)(r i d:Nat):eM (M.drop r) i d=eM M (r+i) d:=by unfold eM;rw[bu (l:=M.drop r),fL,<-bu]
def iO.drop(h:iO p N n M)(D:r<=N):iO p (N-r) n (M.drop r):=by
 refine⟨by rw[lR,h.1],fun i hi=>?_,fun i d hi z=>?_⟩
 .rw[bu,fL,<-bu];exact h.2.1 (r+i) RU
 .rw[Cw];exact h.2.2 (r+i) d RU z
def zdv(p:Int)(n:Nat)(M:aE):List (List Int):=(iB p n M (xh M)).2.2.drop (iB p n M (xh M)).1
def zbf(p:Int)(n:Nat)(M:aE):List (List Int):=qy p M (zdv p n M)
def zdw(Q:dr p=true)(H:2<=p)(s:iO p N n M):∃N',N'<=N/\iO p N' N (zdv p n M)/\∀y:Nat->Int,(∀i,i<N'->p∣cN (fun d=>eM (zdv p n M) i d*y d) N)↔(∀x:Nat->Int,(∀c,c<n->p∣cN (fun k=>x k*eM M k c) N)->p∣cN (fun k=>x k*y k) N):=by
 have hid:=Cv (n:=N) H;obtain⟨c,l,e,F,I,J⟩:=pD (n2:=N) Q H s hid;unfold zdv;rw[s.1];obtain⟨D,U⟩:=aO (iB p n M (xh N));rw[<-U]at e F I J ⊢;have R:=e.mul (eM M) (fun i hi d ac=>by rw[lg hi (fun j z E=>by rw[DV hi z,al E,lS]),DV hi hi,ay rfl];exact⟨0,RU⟩)
 have O:=e.all (fun x=>⟨x,fun j z=>by rw[lg z (fun i hi E=>by rw[DV hi z,al (gJ E),pQ]),DV z z,ay rfl];exact⟨0,RU⟩⟩)
 refine⟨N-D.1,RU,e.s2.drop F,fun y=>?_⟩;have Y:=DZ F I J R O y;refine Iff.trans ⟨fun h i Z ab=>?_,fun h i hi=>?_⟩ Y
 .have:=h (i-D.1) RU;rwa[dn (fun d _=>by rw[Cw,show D.1+(i-D.1)=i by omega])]at this
 .rw[dn (fun d _=>by rw[Cw])];exact h (D.1+i) RU RU
def zgP(p:Int)(N n:Nat)(M:aE)(y:Nat->Int):Prop:=∀x:Nat->Int,(∀i,i<N->p∣cN (fun d=>eM M i d*x d) n)->p∣cN (fun d=>x d*y d) n
def DW(p:Int)(M:aE)(n:Nat):List (List Int):=zdv p M (Bo M n)
def n_(p:Int)(M:aE)(n:Nat):List (List Int):=zbf p M (Bo M n)
def zdx(s:iO p N n M):n_ p M n=qy p n (DW p M n):=by unfold n_ zbf DW;rw[(Cu s).1]
def zbg(H:dr p=true)(D:2<=p)(s:iO p N n M):∃N',N'<=n/\iO p N' n (DW p M n)/\∀y:Nat->Int,(∀i,i<N'->p∣cN (fun d=>eM (DW p M n) i d*y d) n)↔zgP p N n M y:=by
 obtain⟨N',z,E,F⟩:=zdw H D (Cu s);unfold DW;rw[s.1];refine⟨N',z,E,fun y=>(F y).trans ?_⟩;unfold zgP;refine sf fun x=>imp_congr_left (sf fun i=>sf fun _=>?_)
 rw[dn (fun k I=>by rw[zhl I,kh])]
def y_(D:dr p=true)(z:2<=p)(s:iO p N n M):∃r l,r<=n/\iO p r n (n_ p M n)/\oP p n r (eM (n_ p M n)) l/\∀y:Nat->Int,Cq p n r (eM (n_ p M n)) y↔zgP p N n M y:=by obtain⟨N',Q,I,J⟩:=zbg D z s;obtain⟨r,l,O,E,F,H⟩:=rD D z I;rw[zdx s];exact⟨r,l,RU,E,F,fun y=>(H y).symm.trans (J y)⟩
end
end Go.Proofs.YtdpgblncijojiaaGreatDoor
