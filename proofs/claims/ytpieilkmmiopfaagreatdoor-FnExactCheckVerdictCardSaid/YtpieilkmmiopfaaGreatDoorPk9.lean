/- Parts of the walks. Conditions: as stated with each. -/
import Derived.Test.YtpieilkmmiopfaaGreatDoorPk6
import Derived.Test.YtpieilkmmiopfaaGreatDoorPk7
namespace Go.Proofs.YtpieilkmmiopfaaGreatDoor
open Go.RowKit Tryz
set_option linter.all false
variable{M:aP}{N b c d i k n n2 r:Nat}{p:Int}{xs ys:aL}
def zbC:((List.range 98).all fun p=>(!bV (p:Nat))||(List.range p).all fun a=>decide (a=0)||(decide (((a:Int)*lu (p:Nat) (a:Nat))%(p:Nat)=1)&&(decide (1<=lu (p:Nat) (a:Nat))&&decide (lu (p:Nat) (a:Nat) < (p:Nat)))))=true:=Rq
def Ez{a}(F:bV p=true)(G:1<=a)(H:a<p):(a*lu p a)%p=1/\1<=lu p a/\lu p a<p:=by
 have I:=cv F;obtain⟨P,rfl⟩:=iz (Qu:0<=p);obtain⟨A,rfl⟩:=iz (Qu:0<=a);have D:=eD.1 zbC P (fj.2 Qu);rw[F]at D;simp only[Bool.not_true,Bool.false_or]at D;have h:=eD.1 D A (fj.2 Qu);simp only[jS,bN,cf]at h;rcases h with h|h
 .omega
 .exact h
def getD_some{h:Type}{l:List h}{x d}(D:l[i]?=some x):l.getD i d=x:=by rw[bf,D];rfl
def vY(s:Sy)(i c:Nat):Int:=(s.rows.getD i []).getD c 0
def yq(s:Sy)(c r:Nat):Nat:=r+((s.rows.drop r).takeWhile fun q=>q.getD c 0==0).length
def zf_{H:Type}f:∀(l:List H),(l.takeWhile f).length<=l/\(∀j x,j < (l.takeWhile f).length->l[j]?=some x->f x=true)/\(∀x,l[(l.takeWhile f).length]?=some x->f x=false)
 |[]=>⟨Qt,fun j x h=>QO,fun x h=>QO⟩
 |a::l=>by
  have⟨h1,I,J⟩:=zf_ f l;by_cases F:f a=true
  .rw[List.takeWhile_cons_of_pos F];refine⟨Rp,fun j x G D=>?_,fun x D=>?_⟩
   .cases j with
    |zero=>simp at D;rw[<-D];exact F
    |succ j=>exact I j x (by simpa using G) (by simpa using D)
   .exact J x (by simpa using D)
  .rw[List.takeWhile_cons_of_neg F];refine⟨Qt,fun j x G=>by simp at G,fun x D=>?_⟩;simp at D;rw[<-D];simpa using F
def zdB s c r(O:r<=s.rows.length):r<=yq s c r/\yq s c r<=s.rows.length/\(∀j,r<=j->j<yq s c r->vY s j c=0)/\(yq s c r<s.rows.length->vY s (yq s c r) c≠0):=by
 have⟨D,F,G⟩:=zf_ (fun q:List Int=>q.getD c 0==0) (s.rows.drop r);unfold yq;generalize ((s.rows.drop r).takeWhile fun q=>q.getD c 0==0).length=m at D F G;rw[fS]at D;refine⟨Qu,Qu,fun j I J=>?_,fun H=>?_⟩
 .have⟨q,h⟩:=aq (Qu:j<s.rows.length);have:=F (j-r) q Qu (by rw[fQ,show r+(j-r)=j by omega];exact h);unfold vY;rw[getD_some h];simpa using this
 .have⟨q,h⟩:=aq H;have:=G q (by rw[fQ];exact h);unfold vY;rw[getD_some h];simpa using this
def push(p:Int)(q:Sy×List j8)(x:j8):Sy×List j8:=(iQ p q.1 x,q.2++[x])
def zm5(p:Int)(a c:Nat)(iv:Int)(s:Sy)(i:Nat):j8:=⟨3,a,i,(-(vY s i c*iv))%p,[]⟩
def clr(p:Int)(a c:Nat)(iv:Int):Nat->Sy×List j8->Sy×List j8
 |0,q=>q
 |i+1,q=>if i≠a/\vY (clr p a c iv i q).1 i c≠0 then push p (clr p a c iv i q) (zm5 p a c iv (clr p a c iv i q).1 i) else clr p a c iv i q
def tI{f}(G:xs.length=ys)(h:d<xs.length):(dw p f xs ys).getD d 0=(xs.getD d 0+f*ys.getD d 0)%p:=by unfold dw;have⟨x,D⟩:=aq h;have⟨y,F⟩:=aq (Qu:d<ys.length);rw[bf,zcg,bf,bf,D,F];rfl
def ok1{s}{a}(h:a<s.rows.length)(D:b<s.rows.length)(F:a≠b):vO p s ⟨1,a,b,0,[]⟩=true:=by simp[vO,nR,pB,dx];omega
def eM(M:aP)(i d:Nat):Int:=(M.getD i []).getD d 0
def eV(p:Int)(N n:Nat)(M:aP):Prop:=M.length=N/\(∀i,i<N->(M.getD i []).length=n)/\∀i d,i<N->d<n->0<=eM M i d/\eM M i d<p
def zaL{a}{r}(D:a<M.length):(M.set a r).getD i []=if i=a then r else M.getD i []:=by
 rw[bf,pV];by_cases h:a=i
 .subst h;rw[ak rfl,ak D,ak rfl];rfl
 .rw[aj h,aj (k_ h),bf]
def Em{a}{r}(h:a<M.length):eM (M.set a r) i d=if i=a then r.getD d 0 else eM M i d:=by unfold eM;rw[zaL h];split<;>rfl
def En{f}(h:d<xs.length):(kq p f xs).getD d 0=xs.getD d 0*f%p:=by unfold kq;have⟨x,D⟩:=aq h;rw[bf,bI,bf,D];rfl
def eV.set{a}{r}(h:eV p N n M)(G:a<N)(I:r.length=n)(H:∀d,d<n->0<=r.getD d 0/\r.getD d 0<p):eV p N n (M.set a r):=by
 have D:a<M.length:=by rw[h.1];exact G
 refine⟨by rw[iW];exact h.1,fun i hi=>?_,fun i d hi F=>?_⟩
 .rw[zaL D];split
  .exact I
  .exact h.2.1 i hi
 .rw[Em D];split
  .exact H d F
  .exact h.2.2 i d hi F
def Bm(M:aP)(a b:Nat):List (List Int):=(M.set a (M.getD b [])).set b (M.getD a [])
def Μ(p f:Int)(M:aP)(r:Nat):List (List Int):=M.set r (kq p f (M.getD r []))
def iu(p:Int)(r c:Nat):Nat->List (List Int)×List (List Int)->List (List Int)×List (List Int)
 |0,q=>q
 |i+1,q=>if i≠r/\eM (iu p r c i q).1 i c≠0 then
   ((iu p r c i q).1.set i (dw p (-(eM (iu p r c i q).1 i c)) ((iu p r c i q).1.getD i []) ((iu p r c i q).1.getD r [])),
    (iu p r c i q).2.set i (dw p (-(eM (iu p r c i q).1 i c)) ((iu p r c i q).2.getD i []) ((iu p r c i q).2.getD r [])))
  else iu p r c i q
def sx(p:Int)(r k c:Nat)(q:List (List Int)×List (List Int)):List (List Int)×List (List Int):=
 iu p r c q.1 (Μ p (lu p (eM (Bm q.1 r k) r c)) (Bm q.1 r k) r,Μ p (lu p (eM (Bm q.1 r k) r c)) (Bm q.2 r k) r)
def wu(h:eV p N n M)(G:r<N)(F:k<N):eV p N n (Bm M r k):=(h.set G (h.2.1 k F) (fun d D=>h.2.2 k d F D)).set F (h.2.1 r G) (fun d D=>h.2.2 r d G D)
def vD(F:eV p N n M)(H:r<N)(G:k<N):eM (Bm M r k) i d=eM M (mF r k i) d:=by
 unfold Bm;rw[Em (by rw[iW,F.1];exact G),Em (by rw[F.1];exact H)];unfold mF;by_cases D:i=k
 .subst D;rw[ak rfl];by_cases h:i=r
  .subst h;rw[ak rfl];rfl
  .rw[aj h,ak rfl];rfl
 .rw[aj D];by_cases h:i=r
  .rw[ak h,ak h];rfl
  .rw[aj h,aj h,aj D]
def wv{f}(G:2<=p)(h:eV p N n M)(D:r<N):eV p N n (Μ p f M r):=by refine h.set D (by rw[kq,bs];exact h.2.1 r D) (fun d F=>?_);rw[En (by rw[h.2.1 r D];exact F)];exact Wj
def zaN{f}(h:eV p N n M)(D:r<N)(F:d<n):eM (Μ p f M r) i d=if i=r then eM M r d*f%p else eM M i d:=by
 unfold Μ;rw[Em (by rw[h.1];exact D)];split
 .rw[En (by rw[h.2.1 r D];exact F)];rfl
 .rfl
structure zm0(p:Int)(N n n2 r c:Nat)(q z:List (List Int)×List (List Int))(i:Nat):Prop where
 s1:eV p N n z.1
 s2:eV p N n2 z.2
 e1:∀j d,j<N->d<n->eM z.1 j d=if j<i/\j≠r then(eM q.1 j d-eM q.1 j c*eM q.1 r d)%p else eM q.1 j d
 e2:∀j d,j<N->d<n2->eM z.2 j d=if j<i/\j≠r then(eM q.2 j d-eM q.1 j c*eM q.2 r d)%p else eM q.2 j d
def CJ{f}(I:2<=p)(h:eV p N n M)(hi:i<N)(G:r<N):eV p N n (M.set i (dw p f (M.getD i []) (M.getD r [])))/\∀j d,d<n->eM (M.set i (dw p f (M.getD i []) (M.getD r []))) j d=if j=i then(eM M i d+f*eM M r d)%p else eM M j d:=by
 have H:(M.getD i []).length=(M.getD r []):=by rw[h.2.1 i hi,h.2.1 r G]
 have F:∀d,d<n->(dw p f (M.getD i []) (M.getD r [])).getD d 0=(eM M i d+f*eM M r d)%p:=fun d D=>tI H (by rw[h.2.1 i hi];exact D)
 refine⟨h.set hi (by rw[mD,h.2.1 i hi,h.2.1 r G];omega) (fun d D=>?_),fun j d D=>?_⟩
 .rw[F d D];exact Wj
 .rw[Em (by rw[h.1];exact hi)];split
  .exact F d D
  .rfl
def Eo{p}{N n n2 r c}{q}(H:2<=p)(J:eV p N n q.1)(O:eV p N n2 q.2)(F:r<N)(T:c<n):∀i,i<=N->zm0 p N n n2 r c q (iu p r c i q) i
 |0,_=>⟨J,O,fun j d _ _=>by rw[aj Qu];rfl,fun j d _ _=>by rw[aj Qu];rfl⟩
 |i+1,hi=>by
  have ih:=Eo H J O F T i Qu;have⟨z,am⟩:=aR (iu p r c i q);unfold iu;rw[<-am]at ih ⊢;have I:eM z.1 i c=eM q.1 i c:=by rw[ih.e1 i c Qu T,aj Qu]
  have ad:∀d,d<n->eM z.1 r d=eM q.1 r d:=fun d h=>by rw[ih.e1 r d F h,aj Qu]
  have ah:∀d,d<n2->eM z.2 r d=eM q.2 r d:=fun d h=>by rw[ih.e2 r d F h,aj Qu]
  split
  .rename_i G;have⟨U,Y⟩:=CJ (f:=-(eM z.1 i c)) H ih.s1 (Qu:i<N) F;have⟨Z,ab⟩:=CJ (f:=-(eM z.1 i c)) H ih.s2 (Qu:i<N) F;refine⟨U,Z,fun j d D h=>?_,fun j d D h=>?_⟩
   .rw[Y j d h];by_cases e:j=i
    .subst e;rw[ak rfl,ak ⟨Qu,G.1⟩,ih.e1 j d D h,aj Qu,ad d h,I,Int.neg_mul,<-Int.sub_eq_add_neg]
    .rw[aj e,ih.e1 j d D h];exact XH
   .rw[ab j d h];by_cases e:j=i
    .subst e;rw[ak rfl,ak ⟨Qu,G.1⟩,ih.e2 j d D h,aj Qu,ah d h,I,Int.neg_mul,<-Int.sub_eq_add_neg]
    .rw[aj e,ih.e2 j d D h];exact XH
  .rename_i G;have h0:i≠r->eM q.1 i c=0:=fun F0=>by rw[<-I];exact AD fun ac=>G ⟨F0,ac⟩
   refine⟨ih.s1,ih.s2,fun j d D h=>?_,fun j d D h=>?_⟩
   .rw[ih.e1 j d D h];by_cases e:j=i
    .subst e;rw[aj Qu];by_cases F0:j=r
     .rw[aj Qu]
     .have:=J.2.2 j d D h;exact WC
    .exact XH
   .rw[ih.e2 j d D h];by_cases e:j=i
    .subst e;rw[aj Qu];by_cases F0:j=r
     .rw[aj Qu]
     .have:=O.2.2 j d D h;exact WC
    .exact XH
def zlG{q}(J:2<=p)(F:eV p N n q.1)(I:eV p N n2 q.2)(h:r<N)(D:k<N)(O:c<n):eV p N n (sx p r k c q).1/\eV p N n2 (sx p r k c q).2/\(∀i d,i<N->d<n->eM (sx p r k c q).1 i d=jZ p r k c (lu p (eM q.1 k c)) (eM q.1) (eM q.1) i d)/\(∀i d,i<N->d<n2->eM (sx p r k c q).2 i d=jZ p r k c (lu p (eM q.1 k c)) (eM q.1) (eM q.2) i d):=by
 have U:eM (Bm q.1 r k) r c=eM q.1 k c:=by rw[vD F h D,m8]
 have H:=wu F h D;have T:=wu I h D;have z:=Eo (r:=r) (c:=c) (q:=(Μ p (lu p (eM q.1 k c)) (Bm q.1 r k) r,Μ p (lu p (eM q.1 k c)) (Bm q.2 r k) r)) J (wv J H h) (wv J T h) h O N (ae _);unfold sx;rw[U,F.1];refine⟨z.s1,z.s2,fun i d hi G=>?_,fun i d hi G=>?_⟩
 .rw[z.e1 i d hi G];dsimp only;rw[zaN H h G,zaN H h O,zaN H h G];unfold jZ;by_cases e:i=r
  .subst e;rw[aj Qu,ak rfl,ak rfl,vD F h D,m8]
  .rw[ak ⟨hi,e⟩,aj e,aj e,aj e,ak rfl,vD F h D,vD F h D,vD F h D,m8]
 .rw[z.e2 i d hi G];dsimp only;rw[zaN T h G,zaN H h O,zaN T h G];unfold jZ;by_cases e:i=r
  .subst e;rw[aj Qu,ak rfl,ak rfl,vD I h D,m8]
  .rw[ak ⟨hi,e⟩,aj e,aj e,aj e,ak rfl,vD F h D,vD I h D,vD I h D,m8]
end Go.Proofs.YtpieilkmmiopfaaGreatDoor
