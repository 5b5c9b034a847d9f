/- Parts of the walks and laws (El1, El2, RedP). Conditions: as stated with each. -/
import Derived.Test.YtpieilkmmiopfaaGreatDoorPk3
import Derived.Test.YtpieilkmmiopfaaGreatDoorPk6
import Derived.Test.YtpieilkmmiopfaaGreatDoorPk7
namespace Go.Proofs.YtpieilkmmiopfaaGreatDoor
open Go.RowKit Tryz
set_option linter.all false
set_option maxHeartbeats 1000000
variable{A:aq}{B H b c d i j k n n2 r:Nat}{M QI Rd:aN}{QS xs:aH}{p:Int}{us:bU}{v:ax}{w:aa}
theorem zg5(n:Nat)(w:aa)(R:n<=1048576)(J:0<n):aw 98 (bs n) w fun e w'=>∃g c,e=.returned (.slice (some ⟨g,0,none⟩) n c)/\w'.ownsRow w.heap.size 3 1 (.slice (some ⟨g,0,none⟩) n c) n ((List.replicate n (0:Int)).map (Value.int .i64))/\ag w w':=by
 refine(kx n w Rr).mono fun e w' H=>?_
 obtain⟨u,D,F,G⟩:=H;have h:=F;unfold aD at h;rw[iF]at h;rcases h.2 with⟨rfl,N⟩|⟨g,c,I,rfl,O⟩
 .omega
 .exact⟨g,c,D,h,G⟩
def ji(n k:Nat):List Int:=(List.replicate n 0).set k 1
theorem jq(n k:Nat):(ji n k).length=n:=by simp[ji]
theorem zO(n k:Nat)(w:aa)(I:n<=1048576)(H:k<n):aw 125 (bf n k) w fun e w'=>∃u,e=.returned u/\aD w' w.heap.size u (ji n k)/\ag w w':=by
 go_enter func125,ntmps125
 go_wp2_with (go_at_call 98;refine(zg5 n _ I Rr).mono ?_;rintro e J ⟨g,c,rfl,h,D⟩;have N:ae J g k (.int .i64 0):=(by rw[h.cellAt k Rr,cC,fH,ay H];rfl);have O:=h.frozenAt k;have G:=zH (h.stored k (.int .i64 1)).1;have F:=zH (D.setCell (p:=⟨g,k,none⟩) ((bL h g rfl).1) (.int .i64 1));clear h D)
 go_ret
 refine⟨_,rfl,?_,F.o⟩;have:=G.o;rw[<-fh]at this;unfold aD;rw[jq];exact this
def iota(n:Nat):List Int:=(List.range n).map fun i:Nat=>(i:Int)
theorem ee(n:Nat):(iota n).length=n:=by simp[iota]
theorem rn(h:k<n):(iota n)[k]?=some (k:Int):=by simp[iota,h]
theorem pr(n:Nat)(w:aa)(O:n<=1048576):aw 62 (bs n) w fun e w'=>∃u,e=.returned u/\aD w' w.heap.size u (iota n)/\ag w w':=by
 go_enter func62,ntmps62
 go_wp2_with (go_at_call 98;refine(kx n _ Rr).mono ?_;rintro e R ⟨u,rfl,h,G⟩;obtain⟨A,c,rfl,_⟩:=h.view;rw[iF]at h ⊢;have F:=zH h;have HB:=zH G;clear h G)
 have h1:=F.o;unfold aD at h1;rw[iF,<-ee n,<-iW (iota n) (0:Int),ee]at h1;have D:=zH h1;clear h1 F;go_loopw [4,9] (fun _ i wr=>∃k:Nat,k<=n/\i=.int .i64 k/\wr.ownsRow w.heap.size 3 1 (.slice A n c) n ((fS (iota n) 0 k).map (Value.int .i64))/\ag w wr)
  (fun _ i _=>n-(intOf i).toNat)
 case atStart=>exact⟨0,aX _,rfl,D.o,HB.o⟩
 case round=>
  obtain⟨k,N,rfl,EF,H⟩:=hrel;clear D HB;by_cases EH:k<n
  .obtain⟨g,rfl⟩:∃g,A=some ⟨g,0,none⟩:=Xu;have I:ae wr g k (.int .i64 0):=Xk;have J:=EF.frozenAt k;have Fg:=(EF.stored k (.int .i64 k)).1;rw[<-fh,jK _ _ _ _ (rn EH)]at Fg;obtain⟨HS,HB⟩:=bD Fg (H.setCell (p:=⟨g,k,none⟩) ((bL EF g rfl).1) (.int .i64 k));exact Yu
  .go_wp2;go_ret
   rw[jJ _ _ _ (by rw[ee];omega)]at EF;exact⟨_,rfl,by unfold aD;rw[ee];exact EF,H⟩
def og(v h:aH):List Int:=h.map fun i=>v.getD i.toNat 0
theorem zP{v:aH}{i x:Int}(hi:QS[k]?=some i)(h:v[i.toNat]?=some x):(og v QS).take (k+1)=(og v QS).take k++[x]:=by rw[dH];simp[og,hi,h]
theorem Cf(v h:aH)(k:Nat)(D:k<=h.length):((og v h).take k).length=k:=by simp[og];omega
theorem zbs(v:aH)(A:aq)(cap:Nat)(Jo:aH)(F:aq)(R:Nat)(w:aa)(J:aJ w A v)(I:aJ w F Jo)(Z:v.length<=1048576)(Y:Jo.length<=1048576)(O:∀i∈Jo,0<=i/\i<v.length):aw 206 (lH A v cap F Jo R) w fun e w'=>∃u,e=.returned u/\aD w' w.heap.size u (og v Jo)/\ag w w':=by
 obtain⟨V,hi,T,U,EK⟩:=de fT;obtain⟨HV,HA,HL⟩:=dO J I O;clear J I O;go_enter func206,ntmps206
 go_wp2_with ((at_make;refine wpList_make_own _ rfl _ _ 26 rfl w.heap.size 3 V (.int .i64 0) 1 dY hi T U .i64 .i64 _ Jo.length rfl rfl rfl SA TD (af _) ?_;intro w1 D N))
 obtain⟨H,G⟩:=bD (show aD w1 w.heap.size (.slice (some ⟨w.heap.size,0,none⟩) 0 Jo.length) [] from D) (cD N);clear D N;go_loopw [5,7,13] (fun u _ i wr=>∃k:Nat,k<=Jo.length/\i=.int .i64 k/\aD wr w.heap.size u ((og v Jo).take k)/\ag w wr)
  (fun _ _ i _=>Jo.length-(intOf i).toNat)
 case atStart=>exact⟨0,aX _,rfl,by simpa using H.o,G.o⟩
 case round=>
  obtain⟨k,hk,rfl,D,EL⟩:=hrel;have F9:=zH D;clear D H G;exact ZU
def yg(n:Nat):List (List Int):=(List.range n).map (ji n)
theorem Dv(n:Nat):(yg n).length=n:=by simp[yg]
theorem yT(h:k<n):(yg n)[k]?=some (ji n k):=by simp[yg,h]
theorem xF(n:Nat)(w:aa)(R:n<=1048576):aw 212 (bs n) w fun e w'=>∃u,e=.returned u/\aU w' w.heap.size u (yg n)/\ag w w':=by
 go_enter func212,ntmps212
 go_wp2;obtain⟨D,h⟩:=bD (show aU (w.alloc (.cells #[] 26)) w.heap.size (.slice (some ⟨w.heap.size,0,none⟩) 0 0) [] from aU.empty (wF w #[] 0 (af _) Rs rfl)) ((aj w.heap.size w).alloc (af _) (.cells #[] 26));go_loopw [3,4,7] (fun u _ i wr=>∃k:Nat,k<=n/\i=.int .i64 k/\aU wr w.heap.size u ((yg n).take k)/\ag w wr)
  (fun _ _ i _=>n-(intOf i).toNat)
 case atStart=>exact⟨0,aX _,rfl,D.o,h.o⟩
 case round=>
  obtain⟨k,V,rfl,I,EL⟩:=hrel;have F:=zH I;clear I D h;by_cases H:k<n
  .have HT:=zH (by rw[dH,yT H];rfl:(yg n).take (k+1)=(yg n).take k++[ji n k]);have T:=EL.size;have N:=zH (by simp[yg];omega:((yg n).take k).length+1<=1073741824);go_wp2_with (first|(go_at_call 125;refine(zO n k _ R H).mono ?_;rintro e w' ⟨u2,rfl,J,O⟩;obtain⟨U,c2,rfl,_⟩:=J.view)|(at_builtin;refine vz rfl _ _ rfl w.heap.size wr _ _ _ _ _ F.o O J N.o T rfl rfl ?_;intro Y Z F_ F6))
   exact YD
  .go_wp2;go_ret
   have G:=F.o;rw[cY (by rw[Dv];omega)]at G;exact⟨_,rfl,G,EL⟩
def pc:List Int->Nat
 |[]=>0
 |x::xs=>if x=0 then pc xs+1 else 0
theorem yh:∀{xs:aH} {k:Nat},k<pc xs->xs[k]?=some 0
 |[],k,h=>by simp[pc]at h
 |x::xs,k,h=>by
  unfold pc at h;split at h
  .rename_i D;cases k with
   |zero=>simp[D]
   |succ k=>simpa using yh (xs:=xs) (k:=k) Rr
  .omega
theorem CL:∀{xs:aH} {x:Int},xs[pc xs]?=some x->x≠0
 |[],x,h=>RM
 |y::ys,x,h=>by
  unfold pc at h;split at h
  .exact CL (xs:=ys) R9
  .simp at h;subst h;assumption
theorem Dm:((List.range 98).all fun p=>(!cN (p:Nat))||(List.range p).all fun a=>decide (a=0)||(decide (((a:Int)*mG (p:Nat) (a:Nat))%(p:Nat)=1)&&(decide (1<=mG (p:Nat) (a:Nat))&&decide (mG (p:Nat) (a:Nat) < (p:Nat)))))=true:=Sn
theorem zaF{a:Int}(F:cN p=true)(G:1<=a)(H:a<p):(a*mG p a)%p=1/\1<=mG p a/\mG p a<p:=by
 have I:=di F;obtain⟨P,rfl⟩:=fY (Rr:0<=p);obtain⟨A,rfl⟩:=fY (Rr:0<=a);have D:=fZ.1 Dm P (fi.2 Rr);rw[F]at D;simp only[Bool.not_true,Bool.false_or]at D;have h:=fZ.1 D A (fi.2 Rr);simp only[iG,bE,bX]at h;rcases h with h|h
 .omega
 .exact h
theorem getD_some{h:Type}{l:List h}{x d:h}(D:l[i]?=some x):l.getD i d=x:=by rw[bP,D];rfl
def zr(s:Sy)(i c:Nat):Int:=(s.rows.getD i []).getD c 0
def tT(s:Sy)(c r:Nat):Nat:=r+((s.rows.drop r).takeWhile fun q=>q.getD c 0==0).length
theorem zcA{H:Type}(f:H->Bool):∀(l:List H),(l.takeWhile f).length<=l.length/\(∀j x,j < (l.takeWhile f).length->l[j]?=some x->f x=true)/\(∀x,l[(l.takeWhile f).length]?=some x->f x=false)
 |[]=>⟨Rq,fun j x h=>RM,fun x h=>RM⟩
 |a::l=>by
  obtain⟨h1,I,J⟩:=zcA f l;by_cases F:f a=true
  .rw[List.takeWhile_cons_of_pos F];refine⟨Sl,fun j x G D=>?_,fun x D=>?_⟩
   .cases j with
    |zero=>simp at D;rw[<-D];exact F
    |succ j=>exact I j x (by simpa using G) (by simpa using D)
   .exact J x (by simpa using D)
  .rw[List.takeWhile_cons_of_neg F];refine⟨Rq,fun j x G=>by simp at G,fun x D=>?_⟩;simp at D;rw[<-D];simpa using F
theorem zaG(s:Sy)(c r:Nat)(N:r<=s.rows.length):r<=tT s c r/\tT s c r<=s.rows.length/\(∀j,r<=j->j<tT s c r->zr s j c=0)/\(tT s c r<s.rows.length->zr s (tT s c r) c≠0):=by
 obtain⟨D,F,G⟩:=zcA (fun q:List Int=>q.getD c 0==0) (s.rows.drop r);unfold tT;generalize ((s.rows.drop r).takeWhile fun q=>q.getD c 0==0).length=m at D F G;rw[gp]at D;refine⟨Rr,Rr,fun j I J=>?_,fun H=>?_⟩
 .obtain⟨q,h⟩:=aB (Rr:j<s.rows.length);have:=F (j-r) q Rr (by rw[eX,show r+(j-r)=j by omega];exact h);unfold zr;rw[getD_some h];simpa using this
 .obtain⟨q,h⟩:=aB H;have:=G q (by rw[eX];exact h);unfold zr;rw[getD_some h];simpa using this
def push(p:Int)(q:Sy×List ft)(x:ft):Sy×List ft:=(gy p q.1 x,q.2++[x])
theorem tU{f:Int}{ys:aH}(G:xs.length=ys.length)(h:d<xs.length):(dD p f xs ys).getD d 0=(xs.getD d 0+f*ys.getD d 0)%p:=by unfold dD;obtain⟨x,D⟩:=aB h;obtain⟨y,F⟩:=aB (Rr:d<ys.length);rw[bP,D0,bP,bP,D,F];rfl
theorem ok1{s:Sy}{a:Nat}(h:a<s.rows.length)(D:b<s.rows.length)(F:a≠b):rS p s ⟨1,a,b,0,[]⟩=true:=by simp[rS,lC,mu,cX];omega
def eM(M:aN)(i d:Nat):Int:=(M.getD i []).getD d 0
def fI(p:Int)(h n:Nat)(M:aN):Prop:=M.length=h/\(∀i,i<h->(M.getD i []).length=n)/\∀i d,i<h->d<n->0<=eM M i d/\eM M i d<p
theorem Cu{a:Nat}{r:aH}(D:a<M.length):(M.set a r).getD i []=if i=a then r else M.getD i []:=by
 rw[bP,vY];by_cases h:a=i
 .subst h;rw[ay rfl,ay D,ay rfl];rfl
 .rw[av h,av (lK h),bP]
theorem Ah{a:Nat}{r:aH}(h:a<M.length):eM (M.set a r) i d=if i=a then r.getD d 0 else eM M i d:=by unfold eM;rw[Cu h];split <;>rfl
theorem Ai{f:Int}(h:d<xs.length):(iZ p f xs).getD d 0=xs.getD d 0*f%p:=by unfold iZ;obtain⟨x,D⟩:=aB h;rw[bP,cC,bP,D];rfl
theorem fI.set{a:Nat}{r:aH}(h:fI p H n M)(G:a<H)(J:r.length=n)(I:∀d,d<n->0<=r.getD d 0/\r.getD d 0<p):fI p H n (M.set a r):=by
 have D:a<M.length:=by rw[h.1];exact G
 refine⟨by rw[iE];exact h.1,fun i hi=>?_,fun i d hi F=>?_⟩
 .rw[Cu D];split
  .exact J
  .exact h.2.1 i hi
 .rw[Ah D];split
  .exact I d F
  .exact h.2.2 i d hi F
def Bh(M:aN)(a b:Nat):List (List Int):=(M.set a (M.getD b [])).set b (M.getD a [])
def scL(p f:Int)(M:aN)(r:Nat):List (List Int):=M.set r (iZ p f (M.getD r []))
def jZ(p:Int)(r c:Nat):Nat->List (List Int)×List (List Int)->List (List Int)×List (List Int)
 |0,q=>q
 |i+1,q=>if i≠r/\eM (jZ p r c i q).1 i c≠0 then
   ((jZ p r c i q).1.set i (dD p (-(eM (jZ p r c i q).1 i c)) ((jZ p r c i q).1.getD i []) ((jZ p r c i q).1.getD r [])),
    (jZ p r c i q).2.set i (dD p (-(eM (jZ p r c i q).1 i c)) ((jZ p r c i q).2.getD i []) ((jZ p r c i q).2.getD r [])))
  else jZ p r c i q
def BB(p:Int)(r k c:Nat)(q:List (List Int)×List (List Int)):List (List Int)×List (List Int):=
 jZ p r c q.1.length (scL p (mG p (eM (Bh q.1 r k) r c)) (Bh q.1 r k) r,scL p (mG p (eM (Bh q.1 r k) r c)) (Bh q.2 r k) r)
theorem yO(h:fI p H n M)(G:r<H)(F:k<H):fI p H n (Bh M r k):=(h.set G (h.2.1 k F) (fun d D=>h.2.2 k d F D)).set F (h.2.1 r G) (fun d D=>h.2.2 r d G D)
theorem s_(F:fI p H n M)(I:r<H)(G:k<H):eM (Bh M r k) i d=eM M (swN r k i) d:=by
 unfold Bh;rw[Ah (by rw[iE,F.1];exact G),Ah (by rw[F.1];exact I)];unfold swN;by_cases D:i=k
 .subst D;rw[ay rfl];by_cases h:i=r
  .subst h;rw[ay rfl];rfl
  .rw[av h,ay rfl];rfl
 .rw[av D];by_cases h:i=r
  .rw[ay h,ay h];rfl
  .rw[av h,av h,av D]
theorem yP{f:Int}(G:2<=p)(h:fI p H n M)(D:r<H):fI p H n (scL p f M r):=by refine h.set D (by rw[iZ,bh];exact h.2.1 r D) (fun d F=>?_);rw[Ai (by rw[h.2.1 r D];exact F)];exact Ws
theorem Cv{f:Int}(h:fI p H n M)(D:r<H)(F:d<n):eM (scL p f M r) i d=if i=r then eM M r d*f%p else eM M i d:=by
 unfold scL;rw[Ah (by rw[h.1];exact D)];split
 .rw[Ai (by rw[h.2.1 r D];exact F)];rfl
 .rfl
structure zir(p:Int)(N n n2 r c:Nat)(q z:List (List Int)×List (List Int))(i:Nat):Prop where
 s1:fI p N n z.1
 s2:fI p N n2 z.2
 e1:∀j d,j<N->d<n->eM z.1 j d=if j<i/\j≠r then(eM q.1 j d-eM q.1 j c*eM q.1 r d)%p else eM q.1 j d
 e2:∀j d,j<N->d<n2->eM z.2 j d=if j<i/\j≠r then(eM q.2 j d-eM q.1 j c*eM q.2 r d)%p else eM q.2 j d
theorem yQ{f:Int}(J:2<=p)(h:fI p H n M)(hi:i<H)(G:r<H):fI p H n (M.set i (dD p f (M.getD i []) (M.getD r [])))/\∀j d,d<n->eM (M.set i (dD p f (M.getD i []) (M.getD r []))) j d=if j=i then(eM M i d+f*eM M r d)%p else eM M j d:=by
 have I:(M.getD i []).length=(M.getD r []).length:=by rw[h.2.1 i hi,h.2.1 r G]
 have F:∀d,d<n->(dD p f (M.getD i []) (M.getD r [])).getD d 0=(eM M i d+f*eM M r d)%p:=fun d D=>tU I (by rw[h.2.1 i hi];exact D)
 refine⟨h.set hi (by rw[nL,h.2.1 i hi,h.2.1 r G];omega) (fun d D=>?_),fun j d D=>?_⟩
 .rw[F d D];exact Ws
 .rw[Ah (by rw[h.1];exact hi)];split
  .exact F d D
  .rfl
theorem zaw{p:Int}{F n n2 r c:Nat}{q:List (List Int)×List (List Int)}(I:2<=p)(N:fI p F n q.1)(O:fI p F n2 q.2)(G:r<F)(R:c<n):∀i,i<=F->zir p F n n2 r c q (jZ p r c i q) i
 |0,_=>⟨N,O,fun j d _ _=>by rw[av Rr];rfl,fun j d _ _=>by rw[av Rr];rfl⟩
 |i+1,hi=>by
  have ih:=zaw I N O G R i Rr;obtain⟨z,ad⟩:=aM (jZ p r c i q);unfold jZ;rw[<-ad]at ih ⊢;have J:eM z.1 i c=eM q.1 i c:=by rw[ih.e1 i c Rr R,av Rr]
  have ab:∀d,d<n->eM z.1 r d=eM q.1 r d:=fun d h=>by rw[ih.e1 r d G h,av Rr]
  have ac:∀d,d<n2->eM z.2 r d=eM q.2 r d:=fun d h=>by rw[ih.e2 r d G h,av Rr]
  split
  .rename_i H;obtain⟨T,U⟩:=yQ (f:=-(eM z.1 i c)) I ih.s1 (Rr:i<F) G;obtain⟨V,Y⟩:=yQ (f:=-(eM z.1 i c)) I ih.s2 (Rr:i<F) G;refine⟨T,V,fun j d D h=>?_,fun j d D h=>?_⟩
   .rw[U j d h];by_cases e:j=i
    .subst e;rw[ay rfl,ay ⟨Rr,H.1⟩,ih.e1 j d D h,av Rr,ab d h,J,Int.neg_mul,<-Int.sub_eq_add_neg]
    .rw[av e,ih.e1 j d D h];exact XJ
   .rw[Y j d h];by_cases e:j=i
    .subst e;rw[ay rfl,ay ⟨Rr,H.1⟩,ih.e2 j d D h,av Rr,ac d h,J,Int.neg_mul,<-Int.sub_eq_add_neg]
    .rw[av e,ih.e2 j d D h];exact XJ
  .rename_i H;have h0:i≠r->eM q.1 i c=0:=fun Fq=>by rw[<-J];exact Classical.byContradiction fun Z=>H ⟨Fq,Z⟩
   refine⟨ih.s1,ih.s2,fun j d D h=>?_,fun j d D h=>?_⟩
   .rw[ih.e1 j d D h];by_cases e:j=i
    .subst e;rw[av Rr];by_cases Fq:j=r
     .rw[av Rr]
     .have:=N.2.2 j d D h;exact Xq
    .exact XJ
   .rw[ih.e2 j d D h];by_cases e:j=i
    .subst e;rw[av Rr];by_cases Fq:j=r
     .rw[av Rr]
     .have:=O.2.2 j d D h;exact Xq
    .exact XJ
theorem zhj{q:List (List Int)×List (List Int)}(N:2<=p)(F:fI p H n q.1)(J:fI p H n2 q.2)(h:r<H)(D:k<H)(O:c<n):fI p H n (BB p r k c q).1/\fI p H n2 (BB p r k c q).2/\(∀i d,i<H->d<n->eM (BB p r k c q).1 i d=qK p r k c (mG p (eM q.1 k c)) (eM q.1) (eM q.1) i d)/\(∀i d,i<H->d<n2->eM (BB p r k c q).2 i d=qK p r k c (mG p (eM q.1 k c)) (eM q.1) (eM q.2) i d):=by
 have T:eM (Bh q.1 r k) r c=eM q.1 k c:=by rw[s_ F h D,pz]
 have I:=yO F h D;have R:=yO J h D;have z:=zaw (r:=r) (c:=c) (q:=(scL p (mG p (eM q.1 k c)) (Bh q.1 r k) r,scL p (mG p (eM q.1 k c)) (Bh q.2 r k) r)) N (yP N I h) (yP N R h) h O H (af _);unfold BB;rw[T,F.1];refine⟨z.s1,z.s2,fun i d hi G=>?_,fun i d hi G=>?_⟩
 .rw[z.e1 i d hi G];dsimp only;rw[Cv I h G,Cv I h O,Cv I h G];unfold qK;by_cases e:i=r
  .subst e;rw[av Rr,ay rfl,ay rfl,s_ F h D,pz]
  .rw[ay ⟨hi,e⟩,av e,av e,av e,ay rfl,s_ F h D,s_ F h D,s_ F h D,pz]
 .rw[z.e2 i d hi G];dsimp only;rw[Cv R h G,Cv I h O,Cv R h G];unfold qK;by_cases e:i=r
  .subst e;rw[av Rr,ay rfl,ay rfl,s_ J h D,pz]
  .rw[ay ⟨hi,e⟩,av e,av e,av e,ay rfl,s_ F h D,s_ J h D,s_ J h D,pz]
theorem zfA(a p:Int):p∣a%p-a:=⟨-(a / p),by rw[Int.mul_neg];have:=Int.emod_add_mul_ediv a p;omega⟩
section
variable{p:Int}{r k c:Nat}{iv:Int}{M X:Nat->Nat->Int}
end
def uT(M:aN)(c r:Nat):Nat:=tT ⟨0,0,M⟩ c r
theorem Ct(M:aN)(c r:Nat)(h:r<=M.length):r<=uT M c r/\uT M c r<=M.length/\(∀j,r<=j->j<uT M c r->eM M j c=0)/\(uT M c r<M.length->eM M (uT M c r) c≠0):=zaG ⟨0,0,M⟩ c r h
def sX(p:Int):Nat->Nat->Nat×(List (List Int)×List (List Int))->Nat×(List (List Int)×List (List Int))
 |0,_,z=>z
 |m+1,c,z=>if z.1<z.2.1.length then sX p m (c+1) (if uT z.2.1 c z.1=z.2.1.length then z else(z.1+1,BB p z.1 (uT z.2.1 c z.1) c z.2)) else z
theorem zbO{A B:Nat->Nat->Int}{l:ir}(h:BH p n H A r c l)(e:∀i d,i<H->d<n->B i d=A i d):BH p n H B r c l:=
 ⟨fun i d hi D=>by rw[e i d hi D];exact h.bd i d hi D,h.rN,h.cn,h.lt,h.inc,
  fun i hi=>by have:=h.lt i hi;have:=h.cn;have:=h.rN;rw[e i _ Rr Rr];exact h.one i hi,
  fun i d hi D=>by have:=h.lt i hi;have:=h.cn;have:=h.rN;rw[e i d Rr Rr];exact h.low i d hi D,
  fun i j hi F I=>by have:=h.lt i hi;have:=h.cn;rw[e j _ F Rr];exact h.col i j hi F I,
  fun j d F G D=>by have:=h.cn;rw[e j d G Rr];exact h.z j d F G D⟩
structure xj(p:Int)(N n n2:Nat)(M0 X0:aN)(c:Nat)(z:Nat×(List (List Int)×List (List Int))):Prop where
 s1:fI p N n z.2.1
 s2:fI p N n2 z.2.2
 inv:∃l,BH p n N (eM z.2.1) z.1 c l
theorem zbP{X:aN}(h:fI p H n M)(D:fI p H n2 X):xj p H n n2 M X 0 (0,(M,X)):=⟨h,D,⟨_,zb0 h.2.2⟩⟩
theorem zdw{z:Nat×(List (List Int)×List (List Int))}(O:cN p=true)(G:2<=p)(h:xj p H n n2 Rd QI c z)(D:c<n):xj p H n n2 Rd QI (c+1) (if uT z.2.1 c z.1=z.2.1.length then z else(z.1+1,BB p z.1 (uT z.2.1 c z.1) c z.2)):=by
 obtain⟨l,hi⟩:=h.inv;have T:=h.s1.1;obtain⟨f1,f2,f3,f4⟩:=Ct z.2.1 c z.1 (by rw[T];exact hi.rN);obtain⟨k,R⟩:=aM (uT z.2.1 c z.1);rw[<-R]at f1 f2 f3 f4 ⊢;split
 .rename_i e;exact⟨h.s1,h.s2,⟨l,zdW hi D (fun j J Z=>f3 j J Rr)⟩⟩
 .rename_i e;have F:k<H:=Rr;have U:z.1<H:=Rr;have N:=h.s1.2.2 k c F D;have ab:=f4 Rr;obtain⟨V,_,_⟩:=zaF O (Rr:1<=eM z.2.1 k c) N.2;obtain⟨c1,c2,I,Y⟩:=zhj (r:=z.1) (k:=k) (c:=c) G h.s1 h.s2 U F D;exact⟨c1,c2,⟨_,zbO (zdX G hi D f1 F V) I⟩⟩
theorem zau{p:Int}{D n n2:Nat}{F G:aN}(J:cN p=true)(I:2<=p):∀(m c:Nat) (z:Nat×(List (List Int)×List (List Int))),xj p D n n2 F G c z->c+m=n->∃H,xj p D n n2 F G H (sX p m c z)/\(H=n∨(sX p m c z).1=D)
 |0,c,z,h,N=>⟨c,h,au N⟩
 |m+1,c,z,h,N=>by
  unfold sX;split
  .exact zau J I m (c+1) _ (zdw J I h Rr) Rr
  .rename_i O;obtain⟨l,hi⟩:=h.inv;have:=hi.rN;have:=h.s1.1;exact⟨c,h,an Rr⟩
def iq(p:Int)(n:Nat)(M X:aN):Nat×(List (List Int)×List (List Int)):=sX p n 0 (0,(M,X))
theorem pP{X:aN}(G:cN p=true)(D:2<=p)(I:fI p H n M)(J:fI p H n2 X):∃c l,xj p H n n2 M X c (iq p n M X)/\(iq p n M X).1<=H/\zaV p n (iq p n M X).1 (eM (iq p n M X).2.1) l/\∀i,(iq p n M X).1<=i->i<H->∀d,d<n->eM (iq p n M X).2.1 i d=0:=by obtain⟨c,h,F⟩:=zau G D n 0 (0,(M,X)) (zbP I J) Rr;obtain⟨l,hi⟩:=h.inv;exact⟨c,l,h,hi.rN,zfm hi,zdY hi F⟩
theorem CZ(p:Int)(h:Nat):fI p h 0 (List.replicate h []):=⟨iF,fun i hi=>by rw[bP,fH,ay hi];rfl,fun i d _ D=>Rr⟩
theorem zcj(hi:i<r):eM (M.take r) i d=eM M i d:=by unfold eM;rw[bP (l:=M.take r),gm,ay hi,bP (l:=M)]
theorem fI.take(h:fI p H n M)(F:r<=H):fI p r n (M.take r):=by
 refine⟨by rw[cG,h.1];omega,fun i hi=>?_,fun i d hi D=>?_⟩
 .rw[bP,gm,ay hi,<-bP];exact h.2.1 i Rr
 .rw[zcj hi];exact h.2.2 i d Rr D
def sI(p:Int)(n:Nat)(M:aN):List (List Int):=(iq p n M (List.replicate M.length [])).2.1.take (iq p n M (List.replicate M.length [])).1
theorem se(O:cN p=true)(N:2<=p)(s:fI p H n M):∃r l,r<=H/\fI p r n (sI p n M)/\zaV p n r (eM (sI p n M)) l/\True:=by
 obtain⟨c,l,e,F,h,J⟩:=pP (n2:=0) O N s (by have:=CZ p H;rwa[<-s.1]at this ⊢);unfold sI;rw[<-s.1]at F J ⊢;obtain⟨z,U⟩:=aM (iq p n M (List.replicate M.length []));rw[<-U]at e F h J ⊢;have D:∀i d,i<z.1->eM (z.2.1.take z.1) i d=eM z.2.1 i d:=fun i d hi=>zcj hi
 have I:=e.s1;rw[<-s.1]at I;exact⟨z.1,l,F,I.take F,⟨fun i d hi G=>by rw[D i d hi];exact h.bd i d hi G,h.ln,h.inc,fun i hi=>by rw[D i _ hi];exact h.one i hi,fun i d hi G=>by rw[D i d hi];exact h.low i d hi G,fun i j hi R T=>by rw[D i _ hi];exact h.col i j hi R T⟩,trivial⟩
theorem zet(hi:i<n)(D:j<n):eM (yg n) i j=if j=i then 1 else 0:=by
 unfold eM;rw[bP (l:=yg n),yT hi]
 show(ji n i).getD j 0=_
 unfold ji;rw[bP,vY];by_cases h:i=j
 .subst h;rw[ay rfl,ay (by simpa using hi),ay rfl];rfl
 .rw[av h,av (lK h),fH,ay D];rfl
theorem yH(D:2<=p):fI p n n (yg n):=by
 refine⟨Dv n,fun i hi=>?_,fun i d hi h=>?_⟩
 .rw[bP,yT hi];exact jq n i
 .rw[zet hi h];split <;>omega
theorem zfP(M:aN)(r i d:Nat):eM (M.drop r) i d=eM M (r+i) d:=by unfold eM;rw[bP (l:=M.drop r),eX,<-bP]
theorem fI.drop(h:fI p H n M)(F:r<=H):fI p (H-r) n (M.drop r):=by
 refine⟨by rw[gp,h.1],fun i hi=>?_,fun i d hi D=>?_⟩
 .rw[bP,eX,<-bP];exact h.2.1 (r+i) Rr
 .rw[zfP];exact h.2.2 (r+i) d Rr D
def zcZ(p:Int)(n:Nat)(M:aN):List (List Int):=(iq p n M (yg M.length)).2.2.drop (iq p n M (yg M.length)).1
def uo(p:Int)(n:Nat)(M:aN):List (List Int):=sI p M.length (zcZ p n M)
theorem BX(G:cN p=true)(D:2<=p)(s:fI p H n M):∃h,h<=H/\fI p h H (zcZ p n M)/\True:=by have hid:=yH (n:=H) D;obtain⟨c,l,e,F,I,J⟩:=pP (n2:=H) G D s hid;unfold zcZ;rw[s.1];obtain⟨z,N⟩:=aM (iq p n M (yg H));rw[<-N]at e F I J ⊢;exact⟨H-z.1,Rr,e.s2.drop F,trivial⟩
theorem zdI(H:k<xs.length)(G:∀c,c<k->xs.getD c 0=0)(D:xs.getD k 0≠0):pc xs=k:=by
 rcases Nat.lt_trichotomy (pc xs) k with h|h|h
 .obtain⟨x,F⟩:=aB (Rr:pc xs<xs.length);have:=G _ h;rw[bP,F]at this;exact absurd this (CL F)
 .exact h
 .have:=yh h;rw[bP,this]at D;exact absurd rfl D
def ldF(h:aN)(i:Nat):Nat:=pc (h.getD i [])
theorem zcx{l:ir}(s:fI p r n Rd)(h:zaV p n r (eM Rd) l):zaV p n r (eM Rd) (ldF Rd):=by
 have e:∀i,i<r->ldF Rd i=l i:=fun i hi=>zdI (by rw[s.2.1 i hi];exact h.ln i hi) (fun c F=>h.low i c hi F) (by have:=h.one i hi;unfold eM at this;omega)
 exact⟨h.bd,fun i hi=>by rw[e i hi];exact h.ln i hi,fun i j G D=>by rw[e i Rr,e j D];exact h.inc i j G D,fun i hi=>by rw[e i hi];exact h.one i hi,fun i c hi F=>h.low i c hi (by rw[<-e i hi];exact F),fun i j hi D H=>by rw[e j D];exact h.col i j hi D H⟩
theorem fI.row(h:fI p H n M):∀r∈M,r.length=n:=fun r D=>by obtain⟨i,hi⟩:=fk.1 D;have hl:=(bG.1 hi).1;have:=h.2.1 i Tw;rwa[bP,hi]at this
theorem bC.at{cap:Nat}{rows:aN}{r:aH}(D:bC w B (.slice A n cap) rows us)(G:rows[k]?=some r):∃g h c,A=some ⟨g,0,none⟩/\us[k]?=some (.slice h r.length c)/\ae w g k (.slice h r.length c)/\w.frozen? ⟨g,k,none⟩=false/\B<=g/\g<w.heap.size/\aD w B (.slice h r.length c) r:=by have O:=(bG.1 G).1;obtain⟨g,N,e,I,J⟩:=D.form Rr;simp only[dW]at e;obtain⟨rfl,rfl,rfl⟩:=e;obtain⟨u,H,F⟩:=D.get G;obtain⟨h,c,rfl,_⟩:=F.view;exact⟨g,h,c,rfl,H,by rw[D.outer.cellAt _ Rr,H],D.outer.frozenAt k,I,J,F⟩
theorem bC.zr{rows:aN}{r:aH}{x:Int}(G:bC w B v rows us)(T:rows[k]?=some r)(N:r[j]?=some x):∃h c,us[k]?=some (.slice (some ⟨h,0,none⟩) r.length c)/\ae w h j (.int .i64 x)/\w.frozen? ⟨h,j,none⟩=false/\B<=h/\h<w.heap.size/\v.ownBlock≠some h/\∀y:Int,bC (w.setCell ⟨h,j,none⟩ (.int .i64 y)) B v (rows.set k (r.set j y)) us/\w.grownBy (w.setCell ⟨h,j,none⟩ (.int .i64 y)) (some h):=by
 have U:=(bG.1 N).1;obtain⟨u,J,I⟩:=G.get T;obtain⟨h,c,rfl,O,R⟩:=kn I Rr;have D:=I;unfold aD at D;refine⟨h,c,J,by rw[D.cellAt _ Rr,cC,N];rfl,D.frozenAt j,O,R,?_,fun y=>?_⟩
 .rcases fv G.outer I with H|H
  .rw[H];simp
  .exact H
 .have F:=D.stored j (.int .i64 y);rw[<-fh]at F;exact⟨G.inner J F.2 (by unfold aD;rw[iE];exact F.1),F.2⟩
end Go.Proofs.YtpieilkmmiopfaaGreatDoor
