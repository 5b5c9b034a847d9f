/- Parts of the walks. Conditions: as stated with each. -/
import Derived.Test.YtpieilkmmiopfaaGreatDoorPk8
import Derived.Test.YtpieilkmmiopfaaGreatDoorPk9
namespace Go.Proofs.YtpieilkmmiopfaaGreatDoor
open Go.RowKit Tryz
set_option linter.all false
set_option maxHeartbeats 2000000
variable{A:ax}{B J N c d i j k n n2 r:Nat}{M M' rows:aP}{S S':List Tm}{f:Nat->Int}{l:bP}{p:Int}{us:cL}{v:aG}{w:aa}{xs:aL}
def lI(a p:Int):p∣a%p-a:=⟨-(a / p),by rw[AL];have:=Int.emod_add_mul_ediv a p;omega⟩
section
variable{p:Int}{r k c:Nat}{iv:Int}{M X:Nat->Nat->Int}
def BI d:pg p r k iv (fun i=>M i c) (fun i=>X i d) (fun i=>jZ p r k c iv M X i d):=by
 have h:jZ p r k c iv M X r d=X k d*iv%p:=by unfold jZ;rw[ak rfl]
 refine⟨?_,fun i hi=>?_⟩
 .try dsimp only
  rw[h];exact lI _ _
 .try dsimp only
  rw[h];unfold jZ;rw[aj hi];exact lI _ _
def pg.add{g h F D}(a:pg p r k iv g f h)(b:pg p r k iv g F D):pg p r k iv g (fun i=>f i+F i) (fun i=>h i+D i):=by
 refine⟨?_,fun i hi=>?_⟩
 .have:=ir a.Ë b.Ë;try dsimp only
  rwa[show h r-f k*iv+(D r-F k*iv)=h r+D r-(f k+F k)*iv by rw[Int.add_mul];omega]at this
 .have:=ir (a.oth i hi) (b.oth i hi);try dsimp only
  rwa[show h i-(f (mF r k i)-g (mF r k i)*h r)+(D i-(F (mF r k i)-g (mF r k i)*D r))=h i+D i-(f (mF r k i)+F (mF r k i)-g (mF r k i)*(h r+D r)) by rw[Aq];omega]at this
def pg.mul{g h}(a:pg p r k iv g f h)x:pg p r k iv g (fun i=>f i*x) (fun i=>h i*x):=by
 refine⟨?_,fun i hi=>?_⟩
 .have:=kH a.Ë (⟨x,rfl⟩:h r-f k*iv∣(h r-f k*iv)*x);try dsimp only
  rwa[mz,Int.mul_right_comm]at this
 .have:=kH (a.oth i hi) (⟨x,rfl⟩:h i-(f (mF r k i)-g (mF r k i)*h r)∣(h i-(f (mF r k i)-g (mF r k i)*h r))*x);try dsimp only
  rwa[mz,mz,rW (g (mF r k i))]at this
def pg.zero g:pg p r k iv g (fun _=>0) (fun _=>0):=⟨⟨0,Qt⟩,fun i _=>⟨0,Qt⟩⟩
def wQ(x:Nat->Int):∀(n:Nat),pg p r k iv (fun i=>M i c) (fun i=>bW (fun d=>X i d*x d) n) (fun i=>bW (fun d=>jZ p r k c iv M X i d*x d) n)
 |0=>pg.zero _
 |n+1=>(wQ x n).add ((BI n).mul (x n))
def zjL(F:r<N)(D:k<N)(G:p∣M k c*iv-1)(x:Nat->Int):(∀i,i<N->p∣bW (fun d=>X i d*x d) n)↔(∀i,i<N->p∣bW (fun d=>jZ p r k c iv M X i d*x d) n):=⟨fun h=>(wQ x n).all F D h,fun h=>(wQ x n).back F D G h⟩
def zjM{h:Nat->Nat->Int}(H:r<N)(G:k<N)(D:∀i,i<N->∀d,d<n->p∣M i d-bW (fun j=>X i j*h j d) n2):∀i,i<N->∀d,d<n->p∣jZ p r k c iv M M i d-bW (fun j=>jZ p r k c iv M X i j*h j d) n2:=by
 intro i hi d F;have L:=(BI (p:=p) (r:=r) (k:=k) (c:=c) (iv:=iv) (M:=M) (X:=M) d).add ((wQ (p:=p) (r:=r) (k:=k) (c:=c) (iv:=iv) (M:=M) (X:=X) (fun j=>h j d) n2).mul (-1));have:=L.all H G (fun i hi=>by
  have:=D i hi d F;try dsimp only
  rwa[show M i d+bW (fun j=>X i j*h j d) n2 * -1=M i d-bW (fun j=>X i j*h j d) n2 by omega]) i hi
 try dsimp only at this
 rwa[show jZ p r k c iv M M i d+bW (fun j=>jZ p r k c iv M X i j*h j d) n2 * -1=jZ p r k c iv M M i d-bW (fun j=>jZ p r k c iv M X i j*h j d) n2 by omega]at this
end
def rq(a:Nat->Int){k}(h:k<n):bW (fun i=>if i=k then a i else 0) n=a k:=by rw[iC h (fun c _ D=>aj D),ak rfl]
def zjN f{r k}(H:r<N)(G:k<N):bW (fun i=>f (mF r k i)) N=bW f N:=by
 by_cases F:r=k
 .subst F;exact bF fun c _=>by unfold mF;split<;>(try split)<;>simp_all
 .have e:∀i,i<N->f (mF r k i)=f i+((if i=r then f k-f r else 0)+(if i=k then f r-f k else 0)):=fun i _=>by
   unfold mF;by_cases h:i=r
   .subst h;rw[ak rfl,ak rfl,aj F];omega
   .by_cases D:i=k
    .subst D;rw[aj h,ak rfl,aj h,ak rfl];omega
    .rw[aj h,aj D,aj h,aj D];omega
  rw[bF e,kI,kI,rq (fun _=>f k-f r) H,rq (fun _=>f r-f k) G];omega
def zjO{p}{r k c}{iv}{M X}(H:r<N)(ab:k<N)(Y:p∣M k c*iv-1)(I:∀x:Nat->Int,∃y:Nat->Int,∀j,j<n2->p∣x j-bW (fun i=>y i*X i j) N):∀x:Nat->Int,∃y:Nat->Int,∀j,j<n2->p∣x j-bW (fun i=>y i*jZ p r k c iv M X i j) N:=by
 intro x;obtain⟨y,ac⟩:=I x;have⟨S,U⟩:=aR (bW (fun i=>if i=r then 0 else y (mF r k i)*M (mF r k i) c) N);refine⟨fun i=>if i=r then M k c*y k+S else y (mF r k i),fun j Z=>?_⟩;have L:=BI (p:=p) (r:=r) (k:=k) (c:=c) (iv:=iv) (M:=M) (X:=X) j;obtain⟨h,G⟩:∃h:Nat->Int,h=fun i=>jZ p r k c iv M X i j:=⟨_,rfl⟩
 have F:pg p r k iv (fun i=>M i c) (fun i=>X i j) h:=by rw[G];exact L
 have T:∀i,jZ p r k c iv M X i j=h i:=fun i=>by rw[G]
 -- the Î combination, term by term
 have t1:∀i,i<N->p∣(if i=r then M k c*y k+S else y (mF r k i))*h i-(y (mF r k i)*X (mF r k i) j+((if i=r then S*h r else 0) + -1*((if i=r then 0 else y (mF r k i)*M (mF r k i) c)*h r))):=by
  intro i hi;by_cases e:i=r
  .subst e;rw[ak rfl,ak rfl,ak rfl,m8];have D:=kH F.Ë (⟨M k c*y k,rfl⟩:h i-X k j*iv∣(h i-X k j*iv)*(M k c*y k));have J:=kH Y (⟨X k j*y k,rfl⟩:M k c*iv-1∣(M k c*iv-1)*(X k j*y k));have O:=ir D J;rwa[show(h i-X k j*iv)*(M k c*y k)+(M k c*iv-1)*(X k j*y k)=(M k c*y k+S)*h i-(y k*X k j+(S*h i + -1*(0*h i))) from by grind]at O
  .rw[aj e,aj e,aj e];have D:=kH (F.oth i e) (⟨y (mF r k i),rfl⟩:h i-(X (mF r k i) j-M (mF r k i) c*h r)∣(h i-(X (mF r k i) j-M (mF r k i) c*h r))*y (mF r k i));rwa[show(h i-(X (mF r k i) j-M (mF r k i) c*h r))*y (mF r k i)=y (mF r k i)*h i-(y (mF r k i)*X (mF r k i) j+(0 + -1*(y (mF r k i)*M (mF r k i) c*h r))) from by grind]at D
 have t2:=eN t1;rw[kI,kI,rq (fun _=>S*h r) H,lH,mX,<-U,zjN (fun i=>y i*X i j) H ab]at t2;have t3:=eY (ac j Z) t2;rw[show bW (fun i=>(if i=r then M k c*y k+S else y (mF r k i))*jZ p r k c iv M X i j) N=bW (fun i=>(if i=r then M k c*y k+S else y (mF r k i))*h i) N from bF fun i _=>by rw[T]];rwa[show ∀a b d e:Int,a-b-(d-(b+(e + -1*e)))=a-d from fun a b d e=>Qu]at t3
def py(M:aP)(c r:Nat):Nat:=yq ⟨0,0,M⟩ c r
def Bk M c r(h:r<=M.length):r<=py M c r/\py M c r<=M.length/\(∀j,r<=j->j<py M c r->eM M j c=0)/\(py M c r<M.length->eM M (py M c r) c≠0):=zdB ⟨0,0,M⟩ c r h
def pc(p:Int):Nat->Nat->Nat×(List (List Int)×List (List Int))->Nat×(List (List Int)×List (List Int))
 |0,_,z=>z
 |m+1,c,z=>if z.1<z.2.1.length then pc p m (c+1) (if py z.2.1 c z.1=z.2.1.length then z else(z.1+1,sx p z.1 (py z.2.1 c z.1) c z.2)) else z
def ze2{A B}{l}(h:FG p n N A r c l)(e:∀i d,i<N->d<n->B i d=A i d):FG p n N B r c l:=
 ⟨fun i d hi D=>by rw[e i d hi D];exact h.bd i d hi D,h.rN,h.cn,h.lt,h.Ν,
  fun i hi=>by have:=h.lt i hi;have:=h.cn;have:=h.rN;rw[e i _ Qu Qu];exact h.ψ i hi,
  fun i d hi D=>by have:=h.lt i hi;have:=h.cn;have:=h.rN;rw[e i d Qu Qu];exact h.À i d hi D,
  fun i j hi F H=>by have:=h.lt i hi;have:=h.cn;rw[e j _ F Qu];exact h.Å i j hi F H,
  fun j d F G D=>by have:=h.cn;rw[e j d G Qu];exact h.z j d F G D⟩
structure Bl(p:Int)(N n n2:Nat)(M0 X0:aP)(c:Nat)(z:Nat×(List (List Int)×List (List Int))):Prop where
 s1:eV p N n z.2.1
 s2:eV p N n2 z.2.2
 inv:∃l,FG p n N (eM z.2.1) z.1 c l
 ann:∀x:Nat->Int,(∀i,i<N->p∣bW (fun d=>eM M0 i d*x d) n)↔(∀i,i<N->p∣bW (fun d=>eM z.2.1 i d*x d) n)
 mul:∀G:Nat->Nat->Int,(∀i,i<N->∀d,d<n->p∣eM M0 i d-bW (fun j=>eM X0 i j*G j d) n2)->∀i,i<N->∀d,d<n->p∣eM z.2.1 i d-bW (fun j=>eM z.2.2 i j*G j d) n2
 all:(∀x:Nat->Int,∃y:Nat->Int,∀j,j<n2->p∣x j-bW (fun i=>y i*eM X0 i j) N)->∀x:Nat->Int,∃y:Nat->Int,∀j,j<n2->p∣x j-bW (fun i=>y i*eM z.2.2 i j) N
def ze3{X}(D:eV p N n M)(F:eV p N n2 X):Bl p N n n2 M X 0 (0,(M,X)):=⟨D,F,⟨_,zfh D.2.2⟩,fun _=>Iff.rfl,fun _ h=>h,fun h=>h⟩
def zhn{T U}{z}(ap:bV p=true)(Z:2<=p)(h:Bl p N n n2 T U c z)(H:c<n):Bl p N n n2 T U (c+1) (if py z.2.1 c z.1=z.2.1.length then z else(z.1+1,sx p z.1 (py z.2.1 c z.1) c z.2)):=by
 obtain⟨l,hi⟩:=h.inv;have a0:=h.s1.1;have⟨f1,f2,f3,f4⟩:=Bk z.2.1 c z.1 (by rw[a0];exact hi.rN);have⟨k,av⟩:=aR (py z.2.1 c z.1);rw[<-av]at f1 f2 f3 f4 ⊢;split
 .rename_i e;exact⟨h.s1,h.s2,⟨l,zhL hi H (fun j ah a2=>f3 j ah Qu)⟩,h.ann,h.mul,h.all⟩
 .rename_i e;have F:k<N:=Qu;have J:z.1<N:=Qu;have ao:=h.s1.2.2 k c F H;have a3:=f4 Qu;have⟨ac,_,_⟩:=Ez ap (Qu:1<=eM z.2.1 k c) ao.2;have ab:p∣eM z.2.1 k c*lu p (eM z.2.1 k c)-1:=by have:=lI (eM z.2.1 k c*lu p (eM z.2.1 k c)) p;rw[ac]at this;have:=xl.2 this;rwa[show -(1-eM z.2.1 k c*lu p (eM z.2.1 k c))=eM z.2.1 k c*lu p (eM z.2.1 k c)-1 by omega]at this
  have⟨c1,c2,G,Y⟩:=zlG (r:=z.1) (k:=k) (c:=c) Z h.s1 h.s2 J F H;refine⟨c1,c2,⟨_,ze2 (zhM Z hi H f1 F ac) G⟩,fun x=>?_,fun ad an=>?_,fun am=>?_⟩
  .refine(h.ann x).t ((zjL J F ab x).t ⟨fun O i hi'=>?_,fun O i hi'=>?_⟩)
   .have:=O i hi';rwa[bF (fun d D=>by rw[<-G i d hi' D])]at this
   .have:=O i hi';dsimp only at this;rwa[bF (fun d D=>by rw[G i d hi' D])]at this
  .intro i hi' d D;have:=zjM (c:=c) (iv:=lu p (eM z.2.1 k c)) J F (h.mul ad an) i hi' d D;dsimp only;rw[G i d hi' D,bF (fun j I=>by rw[Y i j hi' I])];exact this
  .intro x;have⟨y,a1⟩:=zjO (c:=c) (iv:=lu p (eM z.2.1 k c)) J F ab (h.all am) x;refine⟨y,fun j I=>?_⟩;have:=a1 j I;dsimp only;rw[bF (fun i hi'=>by rw[Y i j hi' I])];exact this
def zdn{p}{N n n2}{D F}(I:bV p=true)(H:2<=p):∀(m c:Nat) (z:Nat×(List (List Int)×List (List Int))),Bl p N n n2 D F c z->c+m=n->∃G,Bl p N n n2 D F G (pc p m c z)/\(G=n∨(pc p m c z).1=N)
 |0,c,z,h,J=>⟨c,h,ay J⟩
 |m+1,c,z,h,J=>by
  unfold pc;split
  .exact zdn I H m (c+1) _ (zhn I H h Qu) Qu
  .rename_i O;obtain⟨l,hi⟩:=h.inv;have:=hi.rN;have:=h.s1.1;exact⟨c,h,au Qu⟩
def gY(p:Int)(n:Nat)(M X:aP):Nat×(List (List Int)×List (List Int)):=pc p n 0 (0,(M,X))
def nN{X}(G:bV p=true)(D:2<=p)(H:eV p N n M)(I:eV p N n2 X):∃c l,Bl p N n n2 M X c (gY p n M X)/\(gY p n M X).1<=N/\mi p n (gY p n M X).1 (eM (gY p n M X).2.1) l/\∀i,(gY p n M X).1<=i->i<N->∀d,d<n->eM (gY p n M X).2.1 i d=0:=by have⟨c,h,F⟩:=zdn G D n 0 (0,(M,X)) (ze3 H I) Qu;obtain⟨l,hi⟩:=h.inv;exact⟨c,l,h,hi.rN,zjy hi,zhN hi F⟩
def yH p N:eV p N 0 (List.replicate N []):=⟨fA,fun i hi=>by rw[bf,fI,ak hi];rfl,fun i d _ h=>Qu⟩
def zbj(hi:i<r):eM (M.take r) i d=eM M i d:=by unfold eM;rw[bf (l:=M.take r),iM,ak hi,bf (l:=M)]
def eV.take(h:eV p N n M)(F:r<=N):eV p r n (M.take r):=by
 refine⟨by rw[cQ,h.1];omega,fun i hi=>?_,fun i d hi D=>?_⟩
 .rw[bf,iM,ak hi,<-bf];exact h.2.1 i Qu
 .rw[zbj hi];exact h.2.2 i d Qu D
def zkd{A B}(h:eV p r n A)(D:eV p r n B)(J:∀i,i<r->∀d,d<n->eM A i d=eM B i d):A=B:=by
 apply gk;intro i;by_cases hi:i<r
 .have⟨a,F⟩:=aq (by rw[h.1];exact hi:i<A.length);have⟨b,G⟩:=aq (by rw[D.1];exact hi:i<B.length);have la:=h.2.1 i hi;have lb:=D.2.1 i hi;rw[bf,F]at la;rw[bf,G]at lb;rw[F,G];have:a=b:=by
   apply gk;intro d;by_cases O:d<n
   .have e:=J i hi d O;unfold eM at e;rw[bf (l:=A),F,bf (l:=B),G]at e;have⟨x,H⟩:=aq (show d<a.length by simpa using(by have:a.length=n:=la;omega:d<a.length));have⟨y,I⟩:=aq (show d<b.length by simpa using(by have:b.length=n:=lb;omega:d<b.length));simp only[xd,bf,H,I]at e;rw[H,I,e]
   .rw[eP (by have:a.length=n:=la;omega),eP (by have:b.length=n:=lb;omega)]
  rw[this]
 .rw[eP (by rw[h.1];omega),eP (by rw[D.1];omega)]
def j5(p:Int)(n:Nat)(M:aP):List (List Int):=(gY p n M (List.replicate M [])).2.1.take (gY p n M (List.replicate M [])).1
def kM(Y:bV p=true)(U:2<=p)(s:eV p N n M):∃r l,r<=N/\eV p r n (j5 p n M)/\mi p n r (eM (j5 p n M)) l/\∀x:Nat->Int,(∀i,i<N->p∣bW (fun d=>eM M i d*x d) n)↔Cz p n r (eM (j5 p n M)) x:=by
 obtain⟨c,l,e,G,h,I⟩:=nN (n2:=0) Y U s (by have:=yH p N;rwa[<-s.1]at this ⊢);unfold j5;rw[<-s.1]at G I ⊢;have⟨z,ac⟩:=aR (gY p n M (List.replicate M []));rw[<-ac]at e G h I ⊢;have D:∀i d,i<z.1->eM (z.2.1.take z.1) i d=eM z.2.1 i d:=fun i d hi=>zbj hi
 have T:=e.s1;rw[<-s.1]at T;refine⟨z.1,l,G,T.take G,⟨fun i d hi F=>by rw[D i d hi];exact h.bd i d hi F,h.ln,h.Ν,fun i hi=>by rw[D i _ hi];exact h.ψ i hi,fun i d hi F=>by rw[D i d hi];exact h.À i d hi F,fun i j hi Z ab=>by rw[D i _ hi];exact h.Å i j hi Z ab⟩,fun x=>?_⟩;have J:=e.ann x;rw[<-s.1]at J;refine J.t ⟨fun H i hi=>?_,fun H i hi=>?_⟩
 .rw[bF (fun d _=>by rw[D i d hi])];exact H i Qu
 .by_cases O:i<z.1
  .have:=H i O;rwa[bF (fun d _=>by rw[D i d O])]at this
  .rw[gQ fun d F=>by rw[I i Qu hi d F,np]];exact⟨0,Qt⟩
def Λ(M:aP)(n:Nat):List (List Int):=(List.range n).map fun j=>M.map fun r=>r.getD j 0
def zkY(h:j<n):eM (Λ M n) j i=eM M i j:=by unfold eM Λ;rw[bf (l:=List.map _ _),bI,iy h];simp only[ox,xd,bf,bI];cases M[i]?<;>simp
def zbf(h:eV p N n M):eV p n N (Λ M n):=by
 refine⟨by simp[Λ],fun i hi=>?_,fun i d hi D=>?_⟩
 .unfold Λ;rw[bf,bI,iy hi];simp[h.1]
 .rw[zkY hi];exact h.2.2 d i D hi
def yF(hi:i<n)(D:j<n):eM (zK n) i j=if j=i then 1 else 0:=by
 unfold eM;rw[bf (l:=zK n),CQ hi]
 show(kg n i).getD j 0=_
 unfold kg;rw[bf,pV];by_cases h:i=j
 .subst h;rw[ak rfl,ak (by simpa using hi),ak rfl];rfl
 .rw[aj h,aj (k_ h),fI,ak D];rfl
def yG(D:2<=p):eV p n n (zK n):=by
 refine⟨zbK n,fun i hi=>?_,fun i d hi h=>?_⟩
 .rw[bf,CQ hi];exact kh n i
 .rw[yF hi h];split<;>omega
def zbg M r i d:eM (M.drop r) i d=eM M (r+i) d:=by unfold eM;rw[bf (l:=M.drop r),fQ,<-bf]
def eV.drop(h:eV p N n M)(F:r<=N):eV p (N-r) n (M.drop r):=by
 refine⟨by rw[fS,h.1],fun i hi=>?_,fun i d hi D=>?_⟩
 .rw[bf,fQ,<-bf];exact h.2.1 (r+i) Qu
 .rw[zbg];exact h.2.2 (r+i) d Qu D
def zbh(p:Int)(n:Nat)(M:aP):List (List Int):=(gY p n M (zK M)).2.2.drop (gY p n M (zK M)).1
def qN(p:Int)(n:Nat)(M:aP):List (List Int):=j5 p M (zbh p n M)
def vX(U:bV p=true)(I:2<=p)(s:eV p N n M):∃D,D<=N/\eV p D N (zbh p n M)/\∀y:Nat->Int,(∀i,i<D->p∣bW (fun d=>eM (zbh p n M) i d*y d) N)↔(∀x:Nat->Int,(∀c,c<n->p∣bW (fun k=>x k*eM M k c) N)->p∣bW (fun k=>x k*y k) N):=by
 have hid:=yG (n:=N) I;have⟨c,l,e,H,J,O⟩:=nN (n2:=N) U I s hid;unfold zbh;rw[s.1];have⟨z,Z⟩:=aR (gY p n M (zK N));rw[<-Z]at e H J O ⊢;have Y:=e.mul (eM M) (fun i hi d ah=>by rw[iC hi (fun j h G=>by rw[yF hi h,aj G,np]),yF hi hi,ak rfl];exact⟨0,Qu⟩)
 have T:=e.all (fun x=>⟨x,fun j h=>by rw[iC h (fun i hi G=>by rw[yF hi h,aj (k_ G),jh]),yF h h,ak rfl];exact⟨0,Qu⟩⟩)
 refine⟨N-z.1,Qu,e.s2.drop H,fun y=>?_⟩;have ab:=zdt H J O Y T y;refine Iff.t ⟨fun F i ac ad=>?_,fun F i hi=>?_⟩ ab
 .have:=F (i-z.1) Qu;rwa[bF (fun d _=>by rw[zbg,show z.1+(i-z.1)=i by omega])]at this
 .rw[bF (fun d _=>by rw[zbg])];exact F (z.1+i) Qu Qu
def Fi(p:Int)(N n:Nat)(M:aP)(y:Nat->Int):Prop:=∀x:Nat->Int,(∀i,i<N->p∣bW (fun d=>eM M i d*x d) n)->p∣bW (fun d=>x d*y d) n
def zcu(p:Int)(M:aP)(n:Nat):List (List Int):=zbh p M (Λ M n)
def ql(p:Int)(M:aP)(n:Nat):List (List Int):=qN p M (Λ M n)
def zgC(s:eV p N n M):ql p M n=j5 p n (zcu p M n):=by unfold ql qN zcu;rw[(zbf s).1]
def zek(I:bV p=true)(F:2<=p)(s:eV p N n M):∃h,h<=n/\eV p h n (zcu p M n)/\∀y:Nat->Int,(∀i,i<h->p∣bW (fun d=>eM (zcu p M n) i d*y d) n)↔Fi p N n M y:=by
 have⟨h,D,G,H⟩:=vX I F (zbf s);unfold zcu;rw[s.1];refine⟨h,D,G,fun y=>(H y).t ?_⟩;unfold Fi;refine lg fun x=>imp_congr_left (lg fun i=>lg fun _=>?_)
 rw[bF (fun k J=>by rw[zkY J,gU])]
def xV(D:bV p=true)(h:2<=p)(s:eV p N n M):∃r l,r<=n/\eV p r n (ql p M n)/\mi p n r (eM (ql p M n)) l/\∀y:Nat->Int,Cz p n r (eM (ql p M n)) y↔Fi p N n M y:=by have⟨O,U,I,J⟩:=zek D h s;have⟨r,l,T,F,G,H⟩:=kM D h I;rw[zgC s];exact⟨r,l,Qu,F,G,fun y=>(H y).q.t (J y)⟩
def zhA(H:k<xs.length)(G:∀c,c<k->xs.getD c 0=0)(D:xs.getD k 0≠0):ew xs=k:=by
 rcases An (ew xs) k with h|h|h
 .have⟨x,F⟩:=aq (Qu:ew xs<xs.length);have:=G _ h;rw[bf,F]at this;exact absurd this (wM F)
 .exact h
 .have:=rn h;rw[bf,this]at D;exact absurd rfl D
def nw(R:aP)(i:Nat):Nat:=ew (R.getD i [])
def CM{R}{l}(s:eV p r n R)(h:mi p n r (eM R) l):mi p n r (eM R) (nw R):=by
 have e:∀i,i<r->nw R i=l i:=fun i hi=>zhA (by rw[s.2.1 i hi];exact h.ln i hi) (fun c F=>h.À i c hi F) (by have:=h.ψ i hi;unfold eM at this;omega)
 exact⟨h.bd,fun i hi=>by rw[e i hi];exact h.ln i hi,fun i j G D=>by rw[e i Qu,e j D];exact h.Ν i j G D,fun i hi=>by rw[e i hi];exact h.ψ i hi,fun i c hi F=>h.À i c hi (by rw[<-e i hi];exact F),fun i j hi D H=>by rw[e j D];exact h.Å i j hi D H⟩
def j7(p:Int)(n:Nat)(R:aP)(j:Nat):List Int:=(List.range n).map fun c=>mo (eM R) (nw R) R j c%p
def xM(n:Nat)(R:aP):List Nat:=(List.range n).filter fun j=>(List.range R).all fun i=>decide (nw R i≠j)
def qB(p:Int)(n:Nat)(R:aP):List (List Int):=(xM n R).map (j7 p n R)
def zaR{R}:j∈xM n R↔j<n/\mK (nw R) R j:=by unfold xM mK;simp[xj,eD]
def zbB{R}(F:(xM n R)[i]?=some j)(D:d<n):eM (qB p n R) i d=mo (eM R) (nw R) R j d%p:=by
 show((qB p n R).getD i []).getD d 0=_
 have h:(qB p n R).getD i []=j7 p n R j:=by unfold qB;rw[bf,bI,F];rfl
 rw[h];unfold j7;rw[bf,bI,iy D];rfl
def wE{R}(F:2<=p):eV p (xM n R) n (qB p n R):=by
 refine⟨by simp[qB],fun i hi=>?_,fun i d hi D=>?_⟩
 .have⟨j,h⟩:=aq hi;unfold qB j7;rw[bf,bI,h];simp
 .have⟨j,h⟩:=aq hi;rw[zbB h D];exact Wj
def zdx(p:Int)(n:Nat)(M:aP):List (List Int):=qB p n (j5 p n M)
def xN(p:Int)(n:Nat)(M:aP):List (List Int):=j5 p n (zdx p n M)
def zfc(ac:bV p=true)(U:2<=p)(s:eV p N n M):∃G,G<=n/\eV p G n (zdx p n M)/\∀y:Nat->Int,(∀i,i<G->p∣bW (fun d=>eM (zdx p n M) i d*y d) n)↔Fi p N n M y:=by
 have⟨r,l,_,H,O,T⟩:=kM ac U s;unfold zdx;have⟨R,ab⟩:=aR (j5 p n M);rw[<-ab]at H O T ⊢;have F:R.length=r:=H.1;have an:=CM H O;refine⟨(xM n R),aZ (C4 _ _) Qt,wE U,fun y=>?_⟩;have am:=zhy an y;have ah:(∀x,Cz p n r (eM R) x->p∣bW (fun c=>x c*y c) n)↔Fi p N n M y:=lg fun x=>imp_congr_left (T x).q
 refine Iff.t ⟨fun I j D h=>?_,fun I i hi=>?_⟩ (am.t ah)
 .obtain⟨i,hi⟩:=eH.1 (zaR.2 ⟨D,by rw[F];exact h⟩);have Y:=I i (bG.1 hi).1;have Z:p∣bW (fun d=>eM (qB p n R) i d*y d) n-bW (fun c=>mo (eM R) (nw R) r j c*y c) n:=eN fun d J=>by rw[zbB hi J,F];exact mJ (lI _ _)
  have:=eY Y Z;exact Xe
 .have⟨j,D⟩:=aq hi;obtain⟨ad,h⟩:=zaR.1 (aU D);rw[F]at h;refine jv (b:=bW (fun c=>mo (eM R) (nw R) r j c*y c) n) (eN fun d J=>?_) (I j ad h);rw[zbB D J,F];exact mJ (lI _ _)
def Ex(D:bV p=true)(h:2<=p)(s:eV p N n M):∃r l,r<=n/\eV p r n (xN p n M)/\mi p n r (eM (xN p n M)) l/\∀y:Nat->Int,Cz p n r (eM (xN p n M)) y↔Fi p N n M y:=by have⟨O,U,I,J⟩:=zfc D h s;have⟨r,l,T,F,G,H⟩:=kM D h I;exact⟨r,l,Qu,F,G,fun y=>(H y).q.t (J y)⟩
def eV.row(h:eV p N n M):∀r∈M,r.length=n:=fun r D=>by obtain⟨i,hi⟩:=eH.1 D;have hl:=(bG.1 hi).1;have:=h.2.1 i SC;rwa[bf,hi]at this
def ij(p:Int)(N n:Nat)(M:aP)(y:Nat->Int):Prop:=∃k:Nat->Int,∀d,d<n->p∣y d-bW (fun i=>k i*eM M i d) N
def DK(p:Int)(N n:Nat)(M:aP)(x:Nat->Int):Prop:=∀i,i<N->p∣bW (fun d=>eM M i d*x d) n
def yR{x y}(G:DK p N n M x)(H:ij p N n M y):p∣bW (fun d=>x d*y d) n:=by
 obtain⟨k,F⟩:=H;have h:p∣bW (fun d=>x d*y d) n-bW (fun d=>x d*bW (fun i=>k i*eM M i d) N) n:=eN fun d D=>by have:=F d D;rw[gU (x d),gU (x d)];exact mJ this
 refine jv h ?_;have e:bW (fun d=>x d*bW (fun i=>k i*eM M i d) N) n=bW (fun i=>k i*bW (fun d=>eM M i d*x d) n) N:=by
  rw[bF (f:=fun d=>x d*bW (fun i=>k i*eM M i d) N) (g:=fun d=>bW (fun i=>k i*(eM M i d*x d)) N) (fun d _=>by rw[<-lH];exact bF fun i _=>by rw[<-rW,gU (x d),rW,gU (x d)])]
  rw[sW (fun d i=>k i*(eM M i d*x d)) N n];exact bF fun i _=>by rw[lH]
 rw[e];exact vN fun i hi=>qd (G i hi)
def wj{y}(D:ij p N n M y):Fi p N n M y:=fun _ h=>yR h D
def yS(hi:i<N):ij p N n M (fun d=>eM M i d):=by
 refine⟨fun j=>if j=i then 1 else 0,fun d _=>?_⟩;rw[bF (g:=fun j=>if j=i then eM M i d else 0) (fun j _=>by
  dsimp only;by_cases e:j=i
  .rw[ak e,ak e,e,Int.one_mul]
  .rw[aj e,aj e,np]),rq (fun _=>eM M i d) hi]
 exact⟨0,by show eM M i d-eM M i d=p*0;omega⟩
def zeA{y z}(D:∀d,d<n->p∣y d-z d)(G:ij p N n M z):ij p N n M y:=by obtain⟨k,F⟩:=G;exact⟨k,fun d h=>by have:=ir (D d h) (F d h);rwa[show y d-z d+(z d-bW (fun i=>k i*eM M i d) N)=y d-bW (fun i=>k i*eM M i d) N by omega]at this⟩
def ziQ{y z}(G:ij p N n M y)(H:ij p N n M z):ij p N n M (fun d=>y d+z d):=by obtain⟨k,D⟩:=G;obtain⟨l,F⟩:=H;refine⟨fun i=>k i+l i,fun d h=>?_⟩;have:=ir (D d h) (F d h);rw[bF (f:=fun i=>(k i+l i)*eM M i d) (g:=fun i=>k i*eM M i d+l i*eM M i d) (fun i _=>by rw[Int.add_mul]),kI];rwa[show y d-bW (fun i=>k i*eM M i d) N+(z d-bW (fun i=>l i*eM M i d) N)=y d+z d-(bW (fun i=>k i*eM M i d) N+bW (fun i=>l i*eM M i d) N) by omega]at this
def zgZ{y}a(F:ij p N n M y):ij p N n M (fun d=>a*y d):=by obtain⟨k,D⟩:=F;refine⟨fun i=>a*k i,fun d h=>?_⟩;have:=qd (b:=a) (D d h);rw[oE]at this;rw[bF (f:=fun i=>a*k i*eM M i d) (g:=fun i=>a*(k i*eM M i d)) (fun i _=>by rw[rW]),lH];exact this
def zg0:ij p N n M (fun _=>0):=⟨fun _=>0,fun d _=>by rw[gQ (fun i _=>by rw[np])];exact⟨0,Qt⟩⟩
def zcV{p}{N n}{M}{f:Nat->Nat->Int}:∀{m:Nat},(∀j,j<m->ij p N n M (f j))->ij p N n M (fun d=>bW (fun j=>f j d) m)
 |0,_=>zg0
 |m+1,h=>by
  have D:=zcV (f:=f) (m:=m) fun j F=>h j Qu
  exact ziQ D (h m Qu)
def zeB{y}(h:∀i,i<N->ij p J n M' (fun d=>eM M i d))(F:ij p N n M y):ij p J n M' y:=by obtain⟨k,D⟩:=F;exact zeA D (zcV (f:=fun i d=>k i*eM M i d) fun i hi=>zgZ (k i) (h i hi))
def zcW{R}{l}(D:mi p n r (eM R) l){y}(ac:Fi p r n R y):ij p r n R y:=by
 refine⟨fun i=>y (l i),fun d H=>?_⟩
 -- the rest vanishes at the leads, and is annihilated by all that annihilates R
 obtain⟨z,G⟩:∃z:Nat->Int,z=fun d=>y d-bW (fun i=>y (l i)*eM R i d) r:=⟨_,rfl⟩
 have T:∀i,i<r->z (l i)=0:=fun i hi=>by rw[G];dsimp only;rw[iC hi (fun j ab F=>by rw[D.Å j i ab hi F,jh]),D.ψ i hi,r_];omega
 have ad:Fi p r n R z:=fun x h=>by have Y:=ac x h;have Z:p∣bW (fun d=>x d*bW (fun i=>y (l i)*eM R i d) r) n:=yR h ⟨fun i=>y (l i),fun d _=>⟨0,Qt⟩⟩;have:=eY Y Z;rw[G];rw[bF (f:=fun d=>x d*(y d-bW (fun i=>y (l i)*eM R i d) r)) (g:=fun d=>x d*y d+(-1)*(x d*bW (fun i=>y (l i)*eM R i d) r)) (fun d _=>by rw[oE];omega),kI,lH];rwa[show ∀a b:Int,a + -1*b=a-b from fun a b=>Qu]
 have U:p∣z d:=by
  by_cases J:∃i,i<r/\l i=d
  .obtain⟨i,hi,rfl⟩:=J;rw[T i hi];exact⟨0,Qt⟩
  .have I:mK l r d:=fun i hi e=>J ⟨i,hi,e⟩
   have h:=ad (mo (eM R) l r d) (wP D H I);rwa[iC H (fun c ah F=>?_),kt I,ak rfl,Int.one_mul]at h;by_cases O:∃i,i<r/\l i=c
   .obtain⟨i,hi,rfl⟩:=O;rw[T i hi,jh]
   .rw[kt (fun i hi e=>O ⟨i,hi,e⟩),aj F,np]
 rw[G]at U;exact U
def Bb{p}:∀(m c r:Nat) (M X h:aP),(pc p m c (r,(M,X))).1=(pc p m c (r,(M,h))).1/\(pc p m c (r,(M,X))).2.1=(pc p m c (r,(M,h))).2.1
 |0,c,r,M,X,h=>⟨rfl,rfl⟩
 |m+1,c,r,M,X,h=>by
  have clr:∀(r c i:Nat) (M X h:aP),(iu p r c i (M,X)).1=(iu p r c i (M,h)).1:=by
   intro r c i;induction i with
   |zero=>intro M X h;rfl
   |succ i ih=>
    intro M X h;unfold iu;rw[ih M X h];split
    .rfl
    .exact ih M X h
  unfold pc;dsimp only;by_cases F:r<M.length
  .rw[ak F,ak F];by_cases D:py M c r=M.length
   .rw[ak D,ak D];exact Bb m (c+1) r M X h
   .rw[aj D,aj D];have e:(sx p r (py M c r) c (M,X)).1=(sx p r (py M c r) c (M,h)).1:=by unfold sx;dsimp only;exact clr _ _ _ _ _ _
    have H:=Bb (p:=p) m (c+1) (r+1) (sx p r (py M c r) c (M,X)).1 (sx p r (py M c r) c (M,X)).2 (sx p r (py M c r) c (M,h)).2;have G:sx p r (py M c r) c (M,h)=((sx p r (py M c r) c (M,X)).1,(sx p r (py M c r) c (M,h)).2):=Qv;rw[G];exact H
  .rw[aj F,aj F];exact⟨rfl,rfl⟩
def Bc(D:bV p=true)(s:eV p N n M)y:ij p (j5 p n M) n (j5 p n M) y↔ij p N n M y:=by
 have h:=(cv D).1;have⟨r,l,ao,F,J,O⟩:=kM D h s;rw[F.1];constructor
 ·-- ν reduced row is a combination
  refine zeB fun i hi=>?_
  have⟨c,av,e,ap,_,_⟩:=nN (n2:=N) D h s (yG h);have ab:=e.mul (eM M) (fun i hi d I=>by rw[iC hi (fun j Z ac=>by rw[yF hi Z,aj ac,np]),yF hi hi,ak rfl];exact⟨0,Qu⟩)
  refine⟨fun j=>eM (gY p n M (zK N)).2.2 i j,fun d I=>?_⟩;have:=ab i Qu d I;have T:eM (j5 p n M) i d=eM (gY p n M (zK N)).2.1 i d:=by
   have U:=Bb (p:=p) n 0 0 M (List.replicate M []) (zK N);have Y:(gY p n M (List.replicate M [])).1=r:=by have H:=F.1;have⟨an,a0,G,ad,_,_⟩:=nN (n2:=0) D h s (yH p N);rw[<-s.1]at G ad;unfold j5 at H;rw[cQ,G.s1.1]at H;have:=s.1;omega
   unfold j5;rw[zbj (by rw[Y];exact hi)];unfold gY;rw[U.2]
  show p∣eM (j5 p n M) i d-_
  rw[T];exact this
 .intro am;exact zcW J fun x ah=>wj am x ((O x).2 ah)
def od(h:bV p=true)(s:eV p N n M)y:ij p N n M y↔Fi p N n M y:=by refine⟨wj,fun I=>?_⟩;have⟨r,l,J,D,F,G⟩:=kM h (cv h).1 s;refine(Bc h s y).1 ?_;rw[D.1];exact zcW F fun x H=>I x ((G x).2 H)
def zcX(h:∀y,ij p N n M y->ij p J n M' y){x}(D:DK p J n M' x):DK p N n M x:=fun i hi=>by have:=yR D (h _ (yS hi));rwa[bF (fun d _=>by rw[gU])]at this
def DL(hf:bV p=true)(s:eV p N n M)y:ij p (ql p M n) n (ql p M n) y↔DK p N n M y:=by have⟨r,l,_,a1,D,a3⟩:=xV hf (cv hf).1 s;exact Y0
def zeC(hf:bV p=true)(s:eV p N n M)y:ij p (xN p n M) n (xN p n M) y↔DK p N n M y:=by have⟨r,l,_,a1,D,a3⟩:=Ex hf (cv hf).1 s;exact Y0
def zg1(h:bV p=true)(s:eV p N n M)y:ij p (qN p n M) N (qN p n M) y↔∀d,d<n->p∣bW (fun i=>y i*eM M i d) N:=by
 have J:=(cv h).1;have⟨T,U,G,H⟩:=vX h J s;have e:qN p n M=j5 p N (zbh p n M):=by unfold qN;rw[s.1]
 rw[e,Bc h G,od h G];constructor
 .intro D d O;have I:=D (fun i=>eM M i d) ((H _).2 fun x F=>by have:=F d O;exact this)
  rwa[bF (fun i _=>by rw[gU])]at I
 .intro D x F;have:=(H x).1 F y D;rwa[bF (fun i _=>by rw[gU])]at this
structure vg where
 f:List Nat
 i:List Nat
 o:List Nat
def vg.add(s:vg)(a b c:Nat):vg:=⟨s.f++[a],s.i++[b],s.o++[c]⟩
def mj(s:vg)(n:Nd):Option vg:=
 if dI n=true then some (s.add s.f (pC n) (sC n))
 else if FC n=true/\n.v=0/\n.e=true/\2<=s.f.length/\1<=s.f.getD (s.f.length-1) 0 then
  match gP n.k (s.i.getD (s.f.getD (s.f.length-1) 0-1) 0,s.o.getD (s.f.getD (s.f.length-1) 0-1) 0) (s.i.getD (s.f.length-1) 0,s.o.getD (s.f.length-1) 0)with
  |some c=>some (s.add (s.f.getD (s.f.getD (s.f.length-1) 0-1) 0) c.1 c.2)
  |none=>none
 else none
def mV:List Nd->vg->Option vg
 |[],s=>some s
 |n::L,s=>match mj s n with
  |some h=>mV L h
  |none=>none
def vx(s:vg):Nat->List Tm->Prop
 |k,[]=>k=0
 |k,t::S=>∃c,t.ty=some c/\1<=k/\k<=s.f.length/\s.f.getD (k-1) 0+t.d.length=k/\s.i.getD (k-1) 0=c.1/\s.o.getD (k-1) 0=c.2/\vx s (s.f.getD (k-1) 0) S
structure yY(s:vg)(S:List Tm):Prop where
 li:s.i.length=s.f
 lo:s.o.length=s.f
 ch:vx s s.f.length S
def yZ{a}(h:k<l.length):(l++[a]).getD k 0=l.getD k 0:=by rw[bf,dU h,bf]
def DV{a}:(l++[a]).getD l 0=a:=by rw[bf,fi (ae _),pR];rfl
def Tm.sQ(t:Tm):1<=t.d.length:=by
 cases t with
 |lf n=>simp[Tm.d]
 |op k a b=>simp[Tm.d];omega
def vx.add{s}{a b c}(Y:s.i.length=s.f)(lo:s.o.length=s.f):∀{S:List Tm} {k:Nat},k<=s.f.length->vx s k S->vx (s.add a b c) k S
 |[],k,_,G=>G
 |t::S,k,ab,⟨d,H,I,Z,J,O,T,U⟩=>by have h:(s.add a b c).f.getD (k-1) 0=s.f.getD (k-1) 0:=yZ Qu;have D:(s.add a b c).i.getD (k-1) 0=s.i.getD (k-1) 0:=yZ Qu;have F:(s.add a b c).o.getD (k-1) 0=s.o.getD (k-1) 0:=yZ Qu;refine⟨d,H,I,by show k<=(s.f++[a]).length;rw[bm];omega,by rw[h];exact J,by rw[D];exact O,by rw[F];exact T,?_⟩;rw[h];exact vx.add Y lo Qu U
def ziZ{s}{t:Tm}{c}{a}(h:yY s S)(I:t.ty=some c)(H:a+t.d.length=s.f+1)(G:vx s a S'):yY (s.add a c.1 c.2) (t::S'):=by
 have J:=t.sQ;have F:(s.add a c.1 c.2).f.length=s.f+1:=by show(s.f++[a]).length=_;simp
 have D:(s.add a c.1 c.2).f.getD s.f 0=a:=DV;refine⟨by show(s.i++[c.1]).length=(s.f++[a]);simp[h.li],by show(s.o++[c.2]).length=(s.f++[a]);simp[h.lo],?_⟩;rw[F];refine⟨c,I,Qu,by rw[F];exact ae _,?_,?_,?_,?_⟩<;>rw[Nat.add_sub_cancel]
 .rw[D];exact H
 .show(s.i++[c.1]).getD s.f 0=c.1
  rw[<-h.li];exact DV
 .show(s.o++[c.2]).getD s.f 0=c.2
  rw[<-h.lo];exact DV
 .rw[D];exact vx.add h.li h.lo Qu G
def zbr{n}(D:FC n=true):dI n=false:=by
 unfold FC at D;simp only[jS,cf]at D;cases h:dI n with
 |false=>rfl
 |true=>
  exfalso;unfold dI at h;rw[bN]at h;have h:=h.2;rw[aj Qu,aj Qu]at h;simp only[bN,cf]at h;omega
def DW{s}n(H:yY s S):(∃Z S',mj s n=some Z/\ρ S n=some S'/\yY Z S')∨(mj s n=none/\ρ S n=none):=by
 by_cases F:FC n=true
 .have h:=zbr F;unfold mj ρ;rw[h,aj Qw,ak F];by_cases G:n.v=0/\n.e=true
  .rw[ak G];have I:=H.ch
   match S,I with
   |[],I=>
    right;have:s.f.length=0:=I;exact⟨aj (fun D=>Qu),rfl⟩
   |[t],⟨d,O,an,ao,ap,T,U,av⟩=>
    right;have:s.f.getD (s.f.length-1) 0=0:=av;exact⟨aj (fun D=>Qu),rfl⟩
   |b::a::a6,⟨d,O,an,ao,ap,T,U,J,ab,ac,a7,a8,ad,ah,am⟩=>
    have a9:=b.sQ;rw[ak ⟨F,G.1,G.2,Qu,ac⟩,T,U,ad,ah];dsimp only;have Y:(Tm.op n.k a b).ty=gP n.k J d:=by unfold Tm.ty;rw[ab,O]
    rw[Y];obtain⟨a2,a3⟩:=d;obtain⟨a4,a5⟩:=J;cases a1:gP n.k (a4,a5) (a2,a3)with
    |none=>right;exact⟨rfl,rfl⟩
    |some c=>
     left;refine⟨_,_,rfl,rfl,?_⟩;refine ziZ H (Y.t a1) ?_ am;have a0:(Tm.op n.k a b).d=a.d++b.d++[⟨n.k,0,true⟩]:=rfl;rw[a0,bm,bm,Dd];omega
  .rw[aj G,aj (fun D=>G ⟨D.2.1,D.2.2.1⟩)];right;exact⟨rfl,rfl⟩
 .unfold mj ρ;rw[aj F];by_cases h:dI n=true
  .rw[ak h,ak h];left;exact⟨_,_,rfl,rfl,ziZ (c:=(pC n,sC n)) H (by unfold Tm.ty;rw[ak h]) (by simp[Tm.d]) H.ch⟩
  .rw[aj h,aj h,aj (fun D=>F D.1)];right;exact⟨rfl,rfl⟩
def DX:∀(L:List Nd) {s:vg} {S:List Tm},yY s S->(∃G S',mV L s=some G/\fp L S=some S'/\yY G S')∨(mV L s=none/\fp L S=none)
 |[],s,S,F=>ay ⟨s,S,rfl,rfl,F⟩
 |n::L,s,S,F=>by
  unfold mV fp;rcases DW n F with⟨G,S',h,D,H⟩|⟨h,D⟩
  .rw[h,D];exact DX L H
  .rw[h,D];exact au ⟨rfl,rfl⟩
def zha{L}(ao:L≠[]):(∃s,mV L ⟨[],[],[]⟩=some s/\s.f.getD (L.length-1) 0=0)↔∃t,zlQ L t:=by
 have an:yY ⟨[],[],[]⟩ []:=⟨rfl,rfl,rfl⟩;rcases DX L an with⟨s,S,H,h,I⟩|⟨H,h⟩
 .have ah:=tM h;simp only[vJ,rP]at ah;have ap:∀{S:List Tm} {k:Nat},vx s k S->(vJ S).length=k:=by
   intro S;induction S with
   |nil=>intro k G;have:k=0:=G;rw[this];rfl
   |cons t S ih=>
    rintro k ⟨d,T,U,Y,Z,ab,ac,F⟩;unfold vJ;rw[bm,ih F];omega
  have G:=ap I.ch;rw[ah]at G;constructor
  .rintro⟨a3,D,ad⟩;rw[H]at D;simp only[dW]at D;subst D;have J:=I.ch
   match S,J with
   |[],J=>
    have:s.f.length=0:=J;exact absurd (Ao.1 (G.t this)) ao
   |t::am,⟨d,T,U,Y,Z,ab,ac,F⟩=>
    rw[G]at ad;rw[ad]at F
    match am,F with
    |[],_=>exact⟨t,sZ.2 h⟩
    |a4::av,⟨a0,a1,a2,_⟩=>omega
  .rintro⟨t,O⟩;have:=(sZ.1 O).q.t h;simp only[dW]at this;subst this;obtain⟨d,T,U,Y,Z,ab,ac,F⟩:=I.ch;have:s.f.getD (s.f.length-1) 0=0:=F;exact⟨s,H,by rw[G];exact this⟩
 .constructor
  .rintro⟨s,D,_⟩;rw[H]at D;cases D
  .rintro⟨t,O⟩;rw[sZ.1 O]at h;cases h
def bL.at{ε}{r}(D:bL w B (.slice A n ε) rows us)(G:rows[k]?=some r):∃g h c,A=some ⟨g,0,none⟩/\us[k]?=some (.slice h r c)/\af w g k (.slice h r c)/\w.frozen? ⟨g,k,none⟩=false/\B<=g/\g < (w:Nat)/\aE w B (.slice h r c) r:=by have T:=(bG.1 G).1;obtain⟨g,O,e,I,J⟩:=D.form Qu;simp only[ep]at e;obtain⟨rfl,rfl,rfl⟩:=e;obtain⟨u,H,F⟩:=D.F G;obtain⟨h,c,rfl,_⟩:=F.p;exact⟨g,h,c,rfl,H,by rw[D.η.C _ Qu,H],D.η.g k,I,J,F⟩
def bL.vY{r}{x}(G:bL w B v rows us)(Y:rows[k]?=some r)(O:r[j]?=some x):∃h c,us[k]?=some (.slice (bH h) r c)/\af w h j (zI x)/\w.frozen? ⟨h,j,none⟩=false/\B<=h/\h < (w:Nat)/\v.ownBlock≠some h/\∀y:Int,bL (w.setCell ⟨h,j,none⟩ (zI y)) B v (rows.set k (r.set j y)) us/\w.grownBy (w.setCell ⟨h,j,none⟩ (zI y)) (some h):=by
 have Z:=(bG.1 O).1;obtain⟨u,J,I⟩:=G.F Y;obtain⟨h,c,rfl,T,U⟩:=pW I Qu;have D:=I;unfold aE at D;refine⟨h,c,J,by rw[D.C _ Qu,bI,O];rfl,D.g j,T,U,?_,fun y=>?_⟩
 .rcases gF G.η I with H|H
  .rw[H];simp
  .exact H
 .have F:=D.j j (zI y);rw[<-eW]at F;exact⟨G.K J F.2 (by unfold aE;rw[iW];exact F.1),F.2⟩
def CE M n:(Λ M n).length=n:=by simp[Λ]
def zkc(h:j<n):(Λ M n)[j]?=some (jL M j):=by simp[Λ,h,jL]
def vZ M c:(jL M c).length=M:=by simp[jL]
def zgE{r}{x}(h:M[k]?=some r)(D:r[c]?=some x):(jL M c)[k]?=some x:=by simp[jL,h,D]
def Dr rows A ε n w(a1:bt w A rows)(cI:rows.length<=1048576)(cR:n<=1048576)(a8:∀r∈rows,n<=r.length):az 216 #[.slice A rows ε,n] w fun e w'=>∃u,e=.returned u/\aY w' w u (Λ rows n)/\ag w w':=by
 have⟨b8,hi,b6,b7,FU⟩:=dp kX;have⟨an,bh⟩:=bJ a1 a8;clear a1 a8;go_enter func216,ntmps216
 go_wp2_with ((at_make;refine jg _ rfl _ _ 55 rfl w.heap.size 26 b8 (.slice none 0 0) 1 iA hi b6 b7 .i64 .i64 n n n rfl rfl rfl rfl RF SL (ae _) ?_;intro c6 D a6))
 have⟨ad,am⟩:=bJ (cy a6) (bL.made D);clear D a6;go_loopw [13] (fun i wr=>∃k:Nat,k<=n/\i=.int .i64 k/\(∃us,bL wr w (.slice (bH w) n n) (eF (Λ rows n) [] k) us)/\ag w wr)
  (fun i _=>n-(intOf i).toNat)
 case atStart=>exact⟨0,aW _,rfl,⟨_,by rw[iP,CE];exact am⟩,ad⟩
 case round=>
  obtain⟨k,cB,rfl,⟨us,D⟩,U⟩:=hrel;have ao:=zH D;clear D am ad;by_cases Y:k<n
  .have b5:=U.size;have ah:=zH (by simp[eF,CE];omega:n=(eF (Λ rows n) [] k).length);go_wp2_with ((go_at_call 98;refine(kO rows _ Qu).x ?_;rintro e w' ⟨u2,rfl,J,a2⟩;obtain⟨ch,c2,rfl,_⟩:=J.p;rw[fA]at J ⊢;have⟨bd,be,⟨v0,ca⟩,cb⟩:=bL.set ah ao a2 J b5 Y;have ap:=zH bd;have av:=zH be;clear bd be J))
   go_loopw [24] (fun i W=>∃m:Nat,m<=rows.length/\i=.int .i64 m/\(∃us,bL W w (.slice (bH w) n n) ((eF (Λ rows n) [] k).set k (eF (jL rows k) 0 m)) us)/\ag w W)
    (fun i _=>rows.length-(intOf i).toNat)
   case atStart=>exact⟨0,aW _,rfl,⟨_,by rw[iP,vZ];exact ap⟩,U.t av⟩
   case round=>
    obtain⟨m,cK,rfl,⟨c5,h⟩,H⟩:=hrel;clear ca cb ap av a2;by_cases I:m<rows.length
    .have⟨r,F⟩:=aq I;obtain⟨co,o,rfl,a3⟩:=(an.ext H).θ I;obtain⟨ce,cp,b0,a7⟩:=a3 m r F;have c0:=bh r (aU F);have⟨x,O⟩:=aq (Qu:k<r.length);obtain⟨T,b9,rfl,a4⟩:=a7.θ (Qu:k<r.length);have cu:=a4 _ _ O;have cr:T < (w:Nat):=by
      obtain⟨ck,c3,bp,bu⟩:=an.θ I;obtain⟨ci,cq,b1,b4⟩:=bu m r F;cases bp
      have:=(ar H b1).q.t b0;simp only[dW,ep]at this;obtain⟨rfl,_,_⟩:=this;obtain⟨cn,c4,bq,bv⟩:=b4.θ (Qu:k<r.length);cases bq
      exact jB w _ (bv _ _ O)
     have Z:((eF (Λ rows n) [] k).set k (eF (jL rows k) 0 m))[k]?=some (eF (jL rows k) 0 m):=gl (by rw[<-ah.o];exact Y);have a5:(eF (jL rows k) (0:Int) m)[m]?=some 0:=lD _ _ _ (by rw[vZ];exact I);obtain⟨g,cj,bo,br,bc,bz,_⟩:=h.at Z;cases br
     obtain⟨G,c,ab,ct,cz,b2,cA,b3,bb⟩:=h.vY Z a5;rw[bc]at ab;simp only[dW,ep]at ab;obtain⟨rfl,_,rfl⟩:=ab;obtain⟨ac,cc⟩:=bb x;rw[List.set_set,jq _ _ _ _ (zgE F O)]at ac;have⟨bi,bn⟩:=bJ ac (H.setCell (p:=⟨G,m,none⟩) b2 (zI x));have cV:w.heap.size≠G:=fun e=>b3 (by rw[<-e];rfl)
     have cW:T≠G:=Qu;have cF:k<r.length:=Qu;have ba:(eF (jL rows k) (0:Int) m).length=rows:=by simp[eF,vZ];omega
     rw[ba]at bz;clear F a3 a7 O a4 Z a5 bc bb ac cc h ba;go_wp2_with fail
     go_region_held3 (fun w'=>af w' w k (.slice (bH G) rows bo)/\af w' T (b9+k) (zI x))
      (first|(simp[*];done)|(refine⟨?_,?_⟩<;>(first|(refine(fu Rs).t ?_;assumption)|(refine(lQ Rs).t ?_;assumption)))) (fail)
     go_wp2;go_roundw
     case rel=>exact⟨m+1,Qu,Qx,⟨_,bi.ext (al _ _).drew⟩,bn.drew⟩
     case measure=>simp[intOf];omega
    .have cO:m=rows.length:=Qu;have a9:(eF (Λ rows n) [] k).set k (eF (jL rows k) 0 m)=eF (Λ rows n) [] (k+1):=by rw[jo (jL rows k) (0:Int) m (by rw[vZ];omega)];exact jq _ _ _ _ (zkc Y)
     rw[a9]at h;have bg:=zH h;clear a9 h;go_wp2;go_roundw
     case rel=>exact⟨k+1,Qu,Qx,⟨_,bg⟩,H⟩
     case measure=>simp[intOf];omega
  .go_wp2;go_ret
   have a0:=ao.o;rw[jo _ _ _ (by rw[CE];omega)]at a0;exact⟨_,rfl,⟨_,a0⟩,U⟩
end Go.Proofs.YtpieilkmmiopfaaGreatDoor
