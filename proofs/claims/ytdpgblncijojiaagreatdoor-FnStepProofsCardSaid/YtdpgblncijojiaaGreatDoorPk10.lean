/- Parts of the walks. Conditions: as stated with each. -/
import Derived.Test.YtdpgblncijojiaaGreatDoorPk7
import Derived.Test.YtdpgblncijojiaaGreatDoorPk8
namespace Go.Proofs.YtdpgblncijojiaaGreatDoor
open Go.RowKit Tryz
set_option linter.all false
variable{N b c d i j k n n2 r:Nat}{Ra U:aC}{Rn:Nat->Int}{f iv p:Int}{q:Sy×List cZ}{s:Sy}{xs:aH}
def CD:((List.range 98).all fun p=>(!cP (p:Nat))||(List.range p).all fun a=>decide (a=0)||(decide (((a:Int)*ec (p:Nat) (a:Nat))%(p:Nat)=1)&&(decide (1<=ec (p:Nat) (a:Nat))&&decide (ec (p:Nat) (a:Nat) < (p:Nat)))))=true:=Su
def iW{a:Int}(h:cP p=true)(D:1<=a)(E:a<p):(a*ec p a)%p=1/\1<=ec p a/\ec p a<p:=by
 have F:=et h;obtain⟨P,rfl⟩:=fW (Ry:0<=p);obtain⟨A,rfl⟩:=fW (Ry:0<=a);have B:=eD.1 CD P (dQ.2 Ry);rw[h]at B;simp only[Bool.not_true,Bool.false_or]at B;have z:=eD.1 B A (dQ.2 Ry);simp only[mg,bn,cw]at z;rcases z with z|z
 .omega
 .exact z
def getD_some{z:Type}{l:List z}{x d:z}(h:l[i]?=some x):l.getD i d=x:=by rw[bg,h];rfl
def fB(s:Sy)(i c:Nat):Int:=(s.rows.getD i []).getD c 0
def CE{r:aH}{x:Int}(h:s.rows[i]?=some r)(z:r[c]?=some x):fB s i c=x:=by unfold fB;rw[getD_some h,getD_some z]
def lr{t:Sy}(h:s.rows[i]?=t.rows[j]?):fB s i c=fB t j c:=by unfold fB;rw[bg (l:=s.rows),h,<-bg]
def nR(h:s.Ok p)(hi:i<s.rows.length)(D:(c:Int)<s.v+s.h):0<=fB s i c/\fB s i c<p:=by have B:=gT hi;have E:=Sys.len h _ B;have z:c < (s.rows.getD i []).length:=Ry;refine Sys.el h _ B _ ?_;unfold fB;generalize s.rows.getD i []=r at z ⊢;rw[bg,dq z];exact oX z
def cN(s:Sy)(c r:Nat):Nat:=r+((s.rows.drop r).takeWhile fun q=>q.getD c 0==0).length
def zcu{D:Type}(f:D->Bool):∀(l:List D),(l.takeWhile f).length<=l/\(∀j x,j < (l.takeWhile f).length->l[j]?=some x->f x=true)/\(∀x,l[(l.takeWhile f).length]?=some x->f x=false)
 |[]=>⟨Rx,fun j x h=>RR,fun x h=>RR⟩
 |a::l=>by
  obtain⟨h1,E,F⟩:=zcu f l;by_cases z:f a=true
  .rw[List.takeWhile_cons_of_pos z];refine⟨St,fun j x B hx=>?_,fun x hx=>?_⟩
   .cases j with
    |zero=>simp at hx;rw[<-hx];exact z
    |succ j=>exact E j x (by simpa using B) Ss
   .exact F x Ss
  .rw[List.takeWhile_cons_of_neg z];refine⟨Rx,fun j x B=>by simp at B,fun x hx=>?_⟩;simp at hx;rw[<-hx];simpa using z
def dF(s:Sy)(c r:Nat)(J:r<=s.rows.length):r<=cN s c r/\cN s c r<=s.rows.length/\(∀j,r<=j->j<cN s c r->fB s j c=0)/\(cN s c r<s.rows.length->fB s (cN s c r) c≠0):=by
 obtain⟨B,D,E⟩:=zcu (fun q:List Int=>q.getD c 0==0) (s.rows.drop r);unfold cN;generalize ((s.rows.drop r).takeWhile fun q=>q.getD c 0==0).length=m at B D E;rw[mh]at B;refine⟨Ry,Ry,fun j H I=>?_,fun F=>?_⟩
 .obtain⟨q,z⟩:=aw (Ry:j<s.rows.length);have:=D (j-r) q Ry (by rw[fI,show r+(j-r)=j by omega];exact z);unfold fB;rw[getD_some z];simpa using this
 .obtain⟨q,z⟩:=aw F;have:=E q (by rw[fI];exact z);unfold fB;rw[getD_some z];simpa using this
def se(hi:r<=i)(D:i<=s.rows.length)(z:∀j,r<=j->j<i->fB s j c=0)(B:i<s.rows.length->fB s i c≠0):cN s c r=i:=by
 obtain⟨a,b,d,e⟩:=dF s c r Ry;rcases sZ (cN s c r) i with h|h|h
 .exact absurd (z _ a h) (e Ry)
 .exact h
 .exact absurd (d i hi h) (B Ry)
def push(p:Int)(q:Sy×List cZ)(x:cZ):Sy×List cZ:=(cq p q.1 x,q.2++[x])
def DK(p:Int)(a c:Nat)(iv:Int)(s:Sy)(i:Nat):cZ:=⟨3,a,i,(-(fB s i c*iv))%p,[]⟩
def mW(p:Int)(a c:Nat)(iv:Int):Nat->Sy×List cZ->Sy×List cZ
 |0,q=>q
 |i+1,q=>if i≠a/\fB (mW p a c iv i q).1 i c≠0 then push p (mW p a c iv i q) (DK p a c iv (mW p a c iv i q).1 i) else mW p a c iv i q
def DL(p:Int)(s:Sy)(a i:Nat)(f:Int):cq p s ⟨3,a,i,f,[]⟩=⟨s.v,s.h,s.rows.set i (cV p f (s.rows.getD i []) (s.rows.getD a []))⟩:=SQ
def ok3{a:Nat}(D:a<s.rows.length)(hi:i<s.rows.length)(E:i≠a)(z:0<=f)(B:f<p):eZ p s ⟨3,a,i,f,[]⟩=true:=WD
structure Clr(p:Int)(a c:Nat)(s t:Sy)(i:Nat):Prop where
 ok:t.Ok p
 v:t.v=s.v
 h:t.h=s.h
 n:t.rows.length=s.rows
 row:t.rows[a]?=s.rows[a]?
 zero:∀j,j<i->j≠a->fB t j c=0
 rest:∀j,i<=j->t.rows[j]?=s.rows[j]?
 oD:∀d:Nat,(d:Int)<s.v+s.h->fB s a d=0->∀j,fB t j d=fB s j d
def tY{ys:aH}(h:xs.length=ys)(z:d<xs.length):(cV p f xs ys).getD d 0=(xs.getD d 0+f*ys.getD d 0)%p:=by unfold cV;obtain⟨x,B⟩:=aw z;obtain⟨y,D⟩:=aw (Ry:d<ys.length);rw[bg,wC,bg,bg,B,D];rfl
def uY{a:Nat}(a7:2<=p)(ac:a<s.rows.length)(ad:(c:Int)<s.v+s.h)(ap:(fB s a c*iv)%p=1){t:Sy}(h:Clr p a c s t i)(hi:i<s.rows.length):(i≠a/\fB t i c≠0->eZ p t (DK p a c iv t i)=true/\Clr p a c s (cq p t (DK p a c iv t i)) (i+1))/\(¬(i≠a/\fB t i c≠0)->Clr p a c s t (i+1)):=by
 have I:i<t.rows.length:=by rw[h.n];exact hi
 have U:a<t.rows.length:=by rw[h.n];exact ac
 refine⟨fun⟨R,a4⟩=>?_,fun a0=>⟨h.ok,h.v,h.h,h.n,h.row,fun j E J=>?_,fun j E=>h.rest j Ry,h.oD⟩⟩
 .have am:=gI (-(fB t i c*iv)) (Ry:p≠0);have ao:=gJ (-(fB t i c*iv)) (Ry:0<p);have ab:eZ p t (DK p a c iv t i)=true:=ok3 U I R am ao;refine⟨ab,?_⟩;have a2:=DL p t a i ((-(fB t i c*iv))%p);have a5:=Sys.len h.ok _ (gT I);have a6:=Sys.len h.ok _ (gT U);obtain⟨H,T⟩:=aK ((-(fB t i c*iv))%p);obtain⟨u,Q⟩:=aK (cq p t (DK p a c iv t i));have F:u=⟨t.v,t.h,t.rows.set i (cV p H (t.rows.getD i []) (t.rows.getD a []))⟩:=by rw[Q,T];exact a2
  have O:∀j,j≠i->u.rows[j]?=t.rows[j]?:=fun j E=>by rw[F];exact df (fX E)
  have a3:u.rows[i]?=some (cV p H (t.rows.getD i []) (t.rows.getD a [])):=by rw[F];exact dJ I
  have Z:∀d:Nat,(d:Int)<t.v+t.h->fB u i d=(fB t i d+H*fB t a d)%p:=fun d D=>by unfold fB;rw[show u.rows.getD i []=cV p H (t.rows.getD i []) (t.rows.getD a []) by rw[bg,a3];rfl];exact tY Ry Ry
  rw[<-Q];refine⟨by rw[Q];exact jz h.ok ab,by rw[F];exact h.v,by rw[F];exact h.h,by rw[F];simpa using h.n,(O a (fX R)).trans h.row,fun j E J=>?_,fun j E=>(O j Ry).trans (h.rest j Ry),fun d D B j=>?_⟩
  .by_cases z:j=i
   .subst z;rw[Z c (by rw[h.v,h.h];exact ad),T];have a1:fB t a c=fB s a c:=lr h.row;rw[a1];have e:(fB t j c + -(fB t j c*iv)%p*fB s a c)%p=(fB t j c + -(fB t j c*iv)*fB s a c)%p:=by rw[oY,mi,qx _ (qy p),<-mi,<-oY]
    rw[e,show fB t j c + -(fB t j c*iv)*fB s a c=fB t j c + -(fB t j c)*(fB s a c*iv) by rw[lN,lN,nk,iI iv]];rw[oY,mi,ap,oZ,qx _ (qy p),<-oY,Int.add_right_neg,Int.zero_emod]
   .rw[lr (O j z)];exact h.zero j Ry J
  .by_cases z:j=i
   .subst z;rw[Z d (by rw[h.v,h.h];exact D),show fB t a d=0 by rw[lr h.row];exact B,o0,qz];have:=nR h.ok I (by rw[h.v,h.h];exact D:(d:Int)<t.v+t.h);rw[lO this.1 this.2];exact h.oD d D B j
   .rw[lr (O j z)];exact h.oD d D B j
 .by_cases z:j=i
  .subst z;by_cases B:fB t j c=0
   .exact B
   .exact absurd ⟨J,B⟩ a0
  .exact h.zero j Ry J
def zdp{a:Nat}(h:s.Ok p):Clr p a c s s 0:=⟨h,rfl,rfl,rfl,rfl,fun j z=>Ry,fun _ _=>rfl,fun _ _ _ _=>rfl⟩
def sf{p:Int}{a c:Nat}{iv:Int}{s:Sy}{X:List cZ}(h:s.Ok p)(B:a<s.rows.length)(D:(c:Int)<s.v+s.h)(E:(fB s a c*iv)%p=1):∀i,i<=s.rows.length->Clr p a c s (mW p a c iv i (s,X)).1 i
 |0,_=>zdp h
 |i+1,hi=>by
  have ih:=sf (X:=X) h B D E i Ry;obtain⟨F,H⟩:=uY (Sys.p2 h) B D E ih Ry;unfold mW;split
  .rename_i z;exact(F z).2
  .rename_i z;exact H z
def iL(p:Int):Nat->Sy×List cZ->Sy×List cZ
 |0,q=>q
 |b+1,q=>iL p b (if cN q.1 (q.1.v+b).toNat 0=q.1.rows.length then push p q ⟨8,0,b,0,[]⟩
   else push p (mW p (cN q.1 (q.1.v+b).toNat 0) (q.1.v+b).toNat (ec p (fB q.1 (cN q.1 (q.1.v+b).toNat 0) (q.1.v+b).toNat)) q.1.rows q) ⟨6,cN q.1 (q.1.v+b).toNat 0,b,0,[]⟩)
def zcv{x:Int}(h:(fD s.rows c)[j]?=some x):fB s j c=x:=by obtain⟨r,z,rfl⟩:=oH.1 h;unfold fB;rw[getD_some z]
def ok8(F:(b:Int)+1=s.h)(E:∀j,j<s.rows.length->fB s j (s.v+b).toNat=0):eZ p s ⟨8,0,b,0,[]⟩=true:=by
 have h1:(fD s.rows (s.v+(b:Int)).toNat).all (fun x=>eW x 0 0)=true:=by rw[eD];intro x D;obtain⟨j,z⟩:=eN.1 D;have B:=(bs.1 z).1;have:=zcv z;rw[E j (by simpa[fD]using B)]at this;rw[bh];omega
 exact Zs
def ok6{a:Nat}(O:(b:Int)+1=s.h)(J:a<s.rows.length)(I:∀j,j<s.rows.length->j≠a->fB s j (s.v+b).toNat=0)(F:fB s a (s.v+b).toNat≠0):eZ p s ⟨6,a,b,0,[]⟩=true:=by
 have h1:oc (fD s.rows (s.v+(b:Int)).toNat) a=true:=by
  rw[si];intro k x D;have E:=(bs.1 D).1;have B:=zcv D;constructor
  .intro z;have:k=a:=Ry;subst this;rw[<-B];exact F
  .intro H;by_cases z:k=a
   .rw[z]
   .exact absurd (B.symm.trans (I k (by simpa[fD]using E) z)) H
 exact Zt
def f_(p:Int)(c r:Nat)(q:Sy×List cZ):Sy×List cZ:=if cN q.1 c r≠r then push p q ⟨1,r,cN q.1 c r,0,[]⟩ else q
def ik(p:Int)(c r:Nat)(q:Sy×List cZ):Sy×List cZ:=if fB q.1 r c≠1 then push p q ⟨2,r,0,ec p (fB q.1 r c),[]⟩ else q
def iA(p:Int)(c r:Nat)(q:Sy×List cZ):Sy×List cZ:=mW p r c (ec p (fB q.1 r c)) q.1.rows q
def iX(p:Int):Nat->Nat->Nat×(Sy×List cZ)->Nat×(Sy×List cZ)
 |0,_,z=>z
 |m+1,c,z=>iX p m (c+1) (if cN z.2.1 c z.1=z.2.1.rows.length then z else(z.1+1,iA p c z.1 (ik p c z.1 (f_ p c z.1 z.2))))
def nS(p:Int)(r:Nat):Nat->Sy×List cZ->Sy×List cZ
 |0,q=>q
 |i+1,q=>if r<=i then nS p r i (push p q ⟨4,i,0,0,[]⟩) else q
def fT(p:Int)(s:Sy):Sy×List cZ:=
 nS p (iX p s.v.toNat 0 (0,iL p s.h.toNat (s,[]))).1 (iX p s.v.toNat 0 (0,iL p s.h.toNat (s,[]))).2.1.rows (iX p s.v.toNat 0 (0,iL p s.h.toNat (s,[]))).2
structure Inv2(p:Int)(v:Int)(c r:Nat)(s:Sy):Prop where
 ok:s.Ok p
 hh:s.h=0
 hv:s.v=v
 hr:r<=s.rows.length
 z:∀d,d<c->∀j,r<=j->j<s.rows.length->fB s j d=0
def ok1{a:Nat}(z:a<s.rows.length)(B:b<s.rows.length)(D:a≠b):eZ p s ⟨1,a,b,0,[]⟩=true:=WD
def ok2{a:Nat}(D:a<s.rows.length)(z:1<=f)(B:f<p):eZ p s ⟨2,a,0,f,[]⟩=true:=WD
def DM(p:Int)(s:Sy)(a b:Nat):cq p s ⟨1,a,b,0,[]⟩=⟨s.v,s.h,(s.rows.set a (s.rows.getD b [])).set b (s.rows.getD a [])⟩:=SQ
def DN(p:Int)(s:Sy)(a:Nat)(f:Int):cq p s ⟨2,a,0,f,[]⟩=⟨s.v,s.h,s.rows.set a (fU p f (s.rows.getD a []))⟩:=SQ
def nC{v:Int}(h:Inv2 p v c r q.1)(a2:(c:Int)<v)(z:cN q.1 c r<q.1.rows.length):(cN q.1 c r≠r->eZ p q.1 ⟨1,r,cN q.1 c r,0,[]⟩=true)/\Inv2 p v c r (f_ p c r q).1/\r < (f_ p c r q).1.rows.length/\fB (f_ p c r q).1 r c≠0:=by
 obtain⟨f1,f2,f3,f4⟩:=dF q.1 c r h.hr;have F:cN q.1 c r≠r->eZ p q.1 ⟨1,r,cN q.1 c r,0,[]⟩=true:=fun EH=>ok1 Ry z (fX EH)
 refine⟨F,?_⟩;unfold f_;by_cases EH:cN q.1 c r≠r
 .rw[ar EH];obtain⟨a,ac⟩:=aK (cN q.1 c r);rw[<-ac]at EH z f1 f2 f3 f4 F ⊢;unfold push;dsimp only;obtain⟨x,U⟩:=aw (Ry:r<q.1.rows.length);obtain⟨y,hy⟩:=aw z;have ad:q.1.rows.getD r []=x:=by rw[bg,U];rfl
  have am:q.1.rows.getD a []=y:=SH;have hs:=DM p q.1 r a;rw[ad,am]at hs;obtain⟨u,R⟩:=aK (cq p q.1 ⟨1,r,a,0,[]⟩);rw[<-R]at hs ⊢;have Q:u.rows.length=q.1.rows:=by rw[hs];simp
  have H:∀k,u.rows[k]?=if k=a then some x else if k=r then some y else q.1.rows[k]?:=fun k=>by
   rw[hs];dsimp only;by_cases D:k=a
   .subst D;rw[ar rfl,dJ (by simpa using z)]
   .rw[ak D,df (fX D)];by_cases E:k=r
    .subst E;rw[ar rfl,dJ Ry]
    .rw[ak E,df (fX E)]
  have T:u.rows[r]?=q.1.rows[a]?:=by rw[H r,ak (fX EH),ar rfl,hy]
  have a0:u.rows[a]?=q.1.rows[r]?:=by rw[H a,ar rfl,U]
  have a1:∀k,k≠a->k≠r->u.rows[k]?=q.1.rows[k]?:=fun k Z ab=>by rw[H k,ak Z,ak ab]
  refine⟨⟨by rw[R];exact jz h.ok (F EH),Ta,by rw[hs];exact h.hv,by rw[Q];exact h.hr,fun d B j ap J=>?_⟩,Ry,?_⟩
  .rw[Q]at J;by_cases I:j=a
   .subst I;rw[lr a0];exact h.z d B r (ah _) Ry
   .by_cases O:j=r
    .subst O;rw[lr T];exact h.z d B a f1 z
    .rw[lr (a1 j I O)];exact h.z d B j ap J
  .rw[lr T];exact f4 z
 .have ao:cN q.1 c r=r:=SC;rw[ak EH];exact⟨h,Ry,by have:=f4 z;rwa[ao]at this⟩
def nD{v:Int}(h:Inv2 p v c r q.1)(ap:(c:Int)<v)(B:r<q.1.rows.length)(a1:fB q.1 r c≠0):(fB q.1 r c≠1->eZ p q.1 ⟨2,r,0,ec p (fB q.1 r c),[]⟩=true)/\Inv2 p v c r (ik p c r q).1/\r < (ik p c r q).1.rows.length/\fB (ik p c r q).1 r c=1:=by
 have H:(c:Int)<q.1.v+q.1.h:=TU;have ab:=nR h.ok B H;obtain⟨R,T,U⟩:=iW (Sys.f h.ok) (Ry:1<=fB q.1 r c) ab.2;have F:fB q.1 r c≠1->eZ p q.1 ⟨2,r,0,ec p (fB q.1 r c),[]⟩=true:=fun _=>ok2 B T U
 refine⟨F,?_⟩;unfold ik;by_cases hx:fB q.1 r c≠1
 .rw[ar hx];unfold push;dsimp only;obtain⟨z,Z⟩:=aK (ec p (fB q.1 r c));rw[<-Z]at R T U F ⊢;have hs:=DN p q.1 r z;obtain⟨u,Q⟩:=aK (cq p q.1 ⟨2,r,0,z,[]⟩);rw[<-Q]at hs ⊢;have O:u.rows.length=q.1.rows:=by rw[hs];simp
  have am:∀k,k≠r->u.rows[k]?=q.1.rows[k]?:=fun k ad=>by rw[hs];exact df (fX ad)
  have ao:u.rows[r]?=some (fU p z (q.1.rows.getD r [])):=by rw[hs];exact dJ B
  have a0:=Sys.len h.ok _ (gT B);have I:∀d:Nat,(d:Int)<q.1.v+q.1.h->fB u r d=(fB q.1 r d*z)%p:=fun d D=>by unfold fB;rw[show u.rows.getD r []=fU p z (q.1.rows.getD r []) by rw[bg,ao];rfl];unfold fU;obtain⟨x,hx⟩:=aw (Ry:d < (q.1.rows.getD r []).length);rw[bg,bR,hx,bg (l:=q.1.rows.getD r []),hx];rfl
  refine⟨⟨by rw[Q];exact jz h.ok (F hx),Ta,by rw[hs];exact h.hv,by rw[O];exact h.hr,fun d D j ac E=>?_⟩,Ry,?_⟩
  .rw[O]at E;by_cases J:j=r
   .subst J;rw[I d TU,h.z d D j (ah _) E,lP,Int.zero_emod]
   .rw[lr (am j J)];exact h.z d D j ac E
  .rw[I c H];exact R
 .rw[ak hx];exact⟨h,B,Ss⟩
def px{v:Int}(h:Inv2 p v c r q.1)(H:(c:Int)<v)(B:r<q.1.rows.length)(J:fB q.1 r c=1):Inv2 p v (c+1) (r+1) (iA p c r q).1:=by
 have D:(c:Int)<q.1.v+q.1.h:=TU;have Q:=Sys.p2 h.ok;obtain⟨F,R,T⟩:=iW (Sys.f h.ok) (Ry:1<=fB q.1 r c) (Ry:fB q.1 r c<p);have k:=sf (X:=q.2) h.ok B D F q.1.rows (ah _);unfold iA;refine⟨k.ok,k.h.trans h.hh,k.v.trans h.hv,by rw[k.n];omega,fun d I j O z=>?_⟩;rw[k.n]at z;by_cases E:d=c
 .subst E;exact k.zero j z Ry
 .rw[k.oD d TU (h.z d Ry r (ah _) B) j];exact h.z d Ry j Ry z
def DP(p:Int)(s:Sy)(i:Nat):cq p s ⟨4,i,0,0,[]⟩=⟨s.v,s.h,s.rows.eraseIdx i⟩:=SQ
def ok4(h:s.Ok p)(hi:i<s.rows.length)(H:∀d:Nat,(d:Int)<s.v+s.h->fB s i d=0):eZ p s ⟨4,i,0,0,[]⟩=true:=by
 have B:(s.rows.getD i []).all (fun x=>eW x 0 0)=true:=by rw[eD];intro x F;obtain⟨d,z⟩:=eN.1 F;have J:=Sys.len h _ (gT hi);have I:=(bs.1 z).1;have:=H d Ry;unfold fB at this;rw[bg (l:=s.rows.getD i []),z]at this;have this:x=0:=this;rw[bh];omega
 have D:eW (i:Int) 0 ((s.rows:Int)-1)=true:=Sr;have E:((i:Int)).toNat=i:=Ry;unfold eZ jO;simp only[show((4:Int)=1)=False by decide,show((4:Int)=2)=False by decide,show((4:Int)=3)=False by decide,ku,jo,D,E,B];simp[jb]
structure DQ(p:Int)(r:Nat)(s:Sy):Prop where
 ok:s.Ok p
 hh:s.h=0
 hr:r<=s.rows.length
 z:∀d:Nat,(d:Int)<s.v->∀j,r<=j->j<s.rows.length->fB s j d=0
def wW(h:DQ p r s)(O:s.rows.length=i+1)(H:r<=i):eZ p s ⟨4,i,0,0,[]⟩=true/\DQ p r (cq p s ⟨4,i,0,0,[]⟩)/\(cq p s ⟨4,i,0,0,[]⟩).rows.length=i:=by
 have B:eZ p s ⟨4,i,0,0,[]⟩=true:=ok4 h.ok Ry (fun d z=>h.z d (by rw[h.hh]at z;omega) i H Ry);have hs:=DP p s i;obtain⟨u,D⟩:=aK (cq p s ⟨4,i,0,0,[]⟩);rw[<-D]at hs ⊢;have F:u.rows.length=i:=by rw[hs];dsimp only;rw[mj Ry];omega
 refine⟨B,⟨by rw[D];exact jz h.ok B,Ta,Ry,fun d z j E J=>?_⟩,F⟩;have I:u.v=s.v:=by rw[hs]
 have:u.rows[j]?=s.rows[j]?:=by rw[hs];dsimp only;rw[List.getElem?_eraseIdx_of_lt Ry]
 rw[lr this];exact h.z d (by rw[<-I];exact z) j E Ry
section
variable{M:aC}
def eM(M:aC)(i d:Nat):Int:=(M.getD i []).getD d 0
def gZ(p:Int)(N n:Nat)(M:aC):Prop:=M.length=N/\(∀i,i<N->(M.getD i []).length=n)/\∀i d,i<N->d<n->0<=eM M i d/\eM M i d<p
def Ch{a:Nat}{r:aH}(z:a<M.length):(M.set a r).getD i []=if i=a then r else M.getD i []:=by
 rw[bg,ph];by_cases h:a=i
 .subst h;rw[ar rfl,ar z,ar rfl];rfl
 .rw[ak h,ak (fX h),bg]
def AB{a:Nat}{r:aH}(z:a<M.length):eM (M.set a r) i d=if i=a then r.getD d 0 else eM M i d:=by unfold eM;rw[Ch z];split <;>rfl
def uD(z:d<xs.length):(fU p f xs).getD d 0=xs.getD d 0*f%p:=by unfold fU;obtain⟨x,B⟩:=aw z;rw[bg,bR,bg,B];rfl
def gZ.set{a:Nat}{r:aH}(h:gZ p N n M)(D:a<N)(F:r.length=n)(E:∀d,d<n->0<=r.getD d 0/\r.getD d 0<p):gZ p N n (M.set a r):=by
 have z:a<M.length:=by rw[h.1];exact D
 refine⟨by rw[fx];exact h.1,fun i hi=>?_,fun i d hi B=>?_⟩
 .rw[Ch z];split
  .exact F
  .exact h.2.1 i hi
 .rw[AB z];split
  .exact E d B
  .exact h.2.2 i d hi B
def tq(M:aC)(a b:Nat):List (List Int):=(M.set a (M.getD b [])).set b (M.getD a [])
def yM(p f:Int)(M:aC)(r:Nat):List (List Int):=M.set r (fU p f (M.getD r []))
def fV(p:Int)(r c:Nat):Nat->List (List Int)×List (List Int)->List (List Int)×List (List Int)
 |0,q=>q
 |i+1,q=>if i≠r/\eM (fV p r c i q).1 i c≠0 then
   ((fV p r c i q).1.set i (cV p (-(eM (fV p r c i q).1 i c)) ((fV p r c i q).1.getD i []) ((fV p r c i q).1.getD r [])),
    (fV p r c i q).2.set i (cV p (-(eM (fV p r c i q).1 i c)) ((fV p r c i q).2.getD i []) ((fV p r c i q).2.getD r [])))
  else fV p r c i q
def ts(p:Int)(r k c:Nat)(q:List (List Int)×List (List Int)):List (List Int)×List (List Int):=
 fV p r c q.1 (yM p (ec p (eM (tq q.1 r k) r c)) (tq q.1 r k) r,yM p (ec p (eM (tq q.1 r k) r c)) (tq q.2 r k) r)
def sI(h:gZ p N n M)(D:r<N)(B:k<N):gZ p N n (tq M r k):=(h.set D (h.2.1 k B) (fun d z=>h.2.2 k d B z)).set B (h.2.1 r D) (fun d z=>h.2.2 r d D z)
def rM(h:gZ p N n M)(E:r<N)(D:k<N):eM (tq M r k) i d=eM M (k7 r k i) d:=by
 unfold tq;rw[AB (by rw[fx,h.1];exact D),AB (by rw[h.1];exact E)];unfold k7;by_cases B:i=k
 .subst B;rw[ar rfl];by_cases z:i=r
  .subst z;rw[ar rfl];rfl
  .rw[ak z,ar rfl];rfl
 .rw[ak B];by_cases z:i=r
  .rw[ar z,ar z];rfl
  .rw[ak z,ak z,ak B]
def sJ(D:2<=p)(h:gZ p N n M)(z:r<N):gZ p N n (yM p f M r):=by refine h.set z (by rw[fU,bl];exact h.2.1 r z) (fun d B=>?_);rw[uD (by rw[h.2.1 r z];exact B)];exact WN
def Ci(h:gZ p N n M)(z:r<N)(B:d<n):eM (yM p f M r) i d=if i=r then eM M r d*f%p else eM M i d:=by
 unfold yM;rw[AB (by rw[h.1];exact z)];split
 .rw[uD (by rw[h.2.1 r z];exact B)];rfl
 .rfl
structure zjJ(p:Int)(N n n2 r c:Nat)(q z:List (List Int)×List (List Int))(i:Nat):Prop where
 s1:gZ p N n z.1
 s2:gZ p N n2 z.2
 e1:∀j d,j<N->d<n->eM z.1 j d=if j<i/\j≠r then(eM q.1 j d-eM q.1 j c*eM q.1 r d)%p else eM q.1 j d
 e2:∀j d,j<N->d<n2->eM z.2 j d=if j<i/\j≠r then(eM q.2 j d-eM q.1 j c*eM q.2 r d)%p else eM q.2 j d
def yN(F:2<=p)(h:gZ p N n M)(hi:i<N)(D:r<N):gZ p N n (M.set i (cV p f (M.getD i []) (M.getD r [])))/\∀j d,d<n->eM (M.set i (cV p f (M.getD i []) (M.getD r []))) j d=if j=i then(eM M i d+f*eM M r d)%p else eM M j d:=by
 have E:(M.getD i []).length=(M.getD r []):=by rw[h.2.1 i hi,h.2.1 r D]
 have B:∀d,d<n->(cV p f (M.getD i []) (M.getD r [])).getD d 0=(eM M i d+f*eM M r d)%p:=fun d z=>tY E (by rw[h.2.1 i hi];exact z)
 refine⟨h.set hi (by rw[zF,h.2.1 i hi,h.2.1 r D];omega) (fun d z=>?_),fun j d z=>?_⟩
 .rw[B d z];exact WN
 .rw[AB (by rw[h.1];exact hi)];split
  .exact B d z
  .rfl
def AD{p:Int}{N n n2 r c:Nat}{q:List (List Int)×List (List Int)}(H:2<=p)(J:gZ p N n q.1)(O:gZ p N n2 q.2)(D:r<N)(Q:c<n):∀i,i<=N->zjJ p N n n2 r c q (fV p r c i q) i
 |0,_=>⟨J,O,fun j d _ _=>by rw[ak Ry];rfl,fun j d _ _=>by rw[ak Ry];rfl⟩
 |i+1,hi=>by
  have ih:=AD H J O D Q i Ry;obtain⟨E,ad⟩:=aK (fV p r c i q);unfold fV;rw[<-ad]at ih ⊢;have I:eM E.1 i c=eM q.1 i c:=by rw[ih.e1 i c Ry Q,ak Ry]
  have ab:∀d,d<n->eM E.1 r d=eM q.1 r d:=fun d z=>by rw[ih.e1 r d D z,ak Ry]
  have ac:∀d,d<n2->eM E.2 r d=eM q.2 r d:=fun d z=>by rw[ih.e2 r d D z,ak Ry]
  split
  .rename_i F;obtain⟨R,T⟩:=yN (f:=-(eM E.1 i c)) H ih.s1 (Ry:i<N) D;obtain⟨U,Z⟩:=yN (f:=-(eM E.1 i c)) H ih.s2 (Ry:i<N) D;refine⟨R,U,fun j d B z=>?_,fun j d B z=>?_⟩
   .rw[T j d z];by_cases e:j=i
    .subst e;rw[ar rfl,ar ⟨Ry,F.1⟩,ih.e1 j d B z,ak Ry,ab d z,I,lN,<-Int.sub_eq_add_neg]
    .rw[ak e,ih.e1 j d B z];exact XR
   .rw[Z j d z];by_cases e:j=i
    .subst e;rw[ar rfl,ar ⟨Ry,F.1⟩,ih.e2 j d B z,ak Ry,ac d z,I,lN,<-Int.sub_eq_add_neg]
    .rw[ak e,ih.e2 j d B z];exact XR
  .rename_i F;have h0:i≠r->eM q.1 i c=0:=fun EH=>by rw[<-I];exact qL fun h=>F ⟨EH,h⟩
   refine⟨ih.s1,ih.s2,fun j d B z=>?_,fun j d B z=>?_⟩
   .rw[ih.e1 j d B z];by_cases e:j=i
    .subst e;rw[ak Ry];by_cases EH:j=r
     .rw[ak Ry]
     .have:=J.2.2 j d B z;exact Xo
    .exact XR
   .rw[ih.e2 j d B z];by_cases e:j=i
    .subst e;rw[ak Ry];by_cases EH:j=r
     .rw[ak Ry]
     .have:=O.2.2 j d B z;exact Xo
    .exact XR
def ziu{q:List (List Int)×List (List Int)}(J:2<=p)(D:gZ p N n q.1)(H:gZ p N n2 q.2)(z:r<N)(B:k<N)(O:c<n):gZ p N n (ts p r k c q).1/\gZ p N n2 (ts p r k c q).2/\(∀i d,i<N->d<n->eM (ts p r k c q).1 i d=iO p r k c (ec p (eM q.1 k c)) (eM q.1) (eM q.1) i d)/\(∀i d,i<N->d<n2->eM (ts p r k c q).2 i d=iO p r k c (ec p (eM q.1 k c)) (eM q.1) (eM q.2) i d):=by
 have R:eM (tq q.1 r k) r c=eM q.1 k c:=by rw[rM D z B,lE]
 have F:=sI D z B;have Q:=sI H z B;have I:=AD (r:=r) (c:=c) (q:=(yM p (ec p (eM q.1 k c)) (tq q.1 r k) r,yM p (ec p (eM q.1 k c)) (tq q.2 r k) r)) J (sJ J F z) (sJ J Q z) z O N (ah _);unfold ts;rw[R,D.1];refine⟨I.s1,I.s2,fun i d hi E=>?_,fun i d hi E=>?_⟩
 .rw[I.e1 i d hi E];dsimp only;rw[Ci F z E,Ci F z O,Ci F z E];unfold iO;by_cases e:i=r
  .subst e;rw[ak Ry,ar rfl,ar rfl,rM D z B,lE]
  .rw[ar ⟨hi,e⟩,ak e,ak e,ak e,ar rfl,rM D z B,rM D z B,rM D z B,lE]
 .rw[I.e2 i d hi E];dsimp only;rw[Ci Q z E,Ci F z O,Ci Q z E];unfold iO;by_cases e:i=r
  .subst e;rw[ak Ry,ar rfl,ar rfl,rM H z B,lE]
  .rw[ar ⟨hi,e⟩,ak e,ak e,ak e,ar rfl,rM D z B,rM H z B,rM H z B,lE]
end
def ot(a p:Int):p∣a%p-a:=⟨-(a / p),by rw[Int.mul_neg];have:=Int.emod_add_mul_ediv a p;omega⟩
section
variable{p:Int}{r k c:Nat}{iv:Int}{M X:Nat->Nat->Int}
def xJ(d:Nat):mL p r k iv (fun i=>M i c) (fun i=>X i d) (fun i=>iO p r k c iv M X i d):=by
 have z:iO p r k c iv M X r d=X k d*iv%p:=by unfold iO;rw[ar rfl]
 refine⟨?_,fun i hi=>?_⟩
 .try dsimp only
  rw[z];exact ot _ _
 .try dsimp only
  rw[z];unfold iO;rw[ak hi];exact ot _ _
def mL.add{g f h h':Nat->Int}(a:mL p r k iv g f Rn)(b:mL p r k iv g h h'):mL p r k iv g (fun i=>f i+h i) (fun i=>Rn i+h' i):=by
 refine⟨?_,fun i hi=>?_⟩
 .have:=qJ a.top b.top;try dsimp only
  rwa[show Rn r-f k*iv+(h' r-h k*iv)=Rn r+h' r-(f k+h k)*iv by rw[Int.add_mul];omega]at this
 .have:=qJ (a.oth i hi) (b.oth i hi);try dsimp only
  rwa[show Rn i-(f (k7 r k i)-g (k7 r k i)*Rn r)+(h' i-(h (k7 r k i)-g (k7 r k i)*h' r))=Rn i+h' i-(f (k7 r k i)+h (k7 r k i)-g (k7 r k i)*(Rn r+h' r)) by rw[Int.mul_add];omega]at this
def mL.mul{g f:Nat->Int}(a:mL p r k iv g f Rn)(x:Int):mL p r k iv g (fun i=>f i*x) (fun i=>Rn i*x):=by
 refine⟨?_,fun i hi=>?_⟩
 .have:=jt a.top (⟨x,rfl⟩:Rn r-f k*iv∣(Rn r-f k*iv)*x);try dsimp only
  rwa[tl,Int.mul_right_comm]at this
 .have:=jt (a.oth i hi) (⟨x,rfl⟩:Rn i-(f (k7 r k i)-g (k7 r k i)*Rn r)∣(Rn i-(f (k7 r k i)-g (k7 r k i)*Rn r))*x);try dsimp only
  rwa[tl,tl,nk (g (k7 r k i))]at this
def mL.zero(g:Nat->Int):mL p r k iv g (fun _=>0) (fun _=>0):=⟨⟨0,Rx⟩,fun i _=>⟨0,Rx⟩⟩
def sL(x:Nat->Int):∀(n:Nat),mL p r k iv (fun i=>M i c) (fun i=>cm (fun d=>X i d*x d) n) (fun i=>cm (fun d=>iO p r k c iv M X i d*x d) n)
 |0=>mL.zero _
 |n+1=>(sL x n).add ((xJ n).mul (x n))
def zgv(B:r<N)(z:k<N)(D:p∣M k c*iv-1)(x:Nat->Int):(∀i,i<N->p∣cm (fun d=>X i d*x d) n)↔(∀i,i<N->p∣cm (fun d=>iO p r k c iv M X i d*x d) n):=⟨fun h=>(sL x n).all B z h,fun h=>(sL x n).back B z D h⟩
def zgw{G:Nat->Nat->Int}(D:r<N)(B:k<N)(h:∀i,i<N->∀d,d<n->p∣M i d-cm (fun j=>X i j*G j d) n2):∀i,i<N->∀d,d<n->p∣iO p r k c iv M M i d-cm (fun j=>iO p r k c iv M X i j*G j d) n2:=by
 intro i hi d z;have L:=(xJ (p:=p) (r:=r) (k:=k) (c:=c) (iv:=iv) (M:=M) (X:=M) d).add ((sL (p:=p) (r:=r) (k:=k) (c:=c) (iv:=iv) (M:=M) (X:=X) (fun j=>G j d) n2).mul (-1));have:=L.all D B (fun i hi=>by
  have:=h i hi d z;try dsimp only
  rwa[show M i d+cm (fun j=>X i j*G j d) n2 * -1=M i d-cm (fun j=>X i j*G j d) n2 by omega]) i hi
 try dsimp only at this
 rwa[show iO p r k c iv M M i d+cm (fun j=>iO p r k c iv M X i j*G j d) n2 * -1=iO p r k c iv M M i d-cm (fun j=>iO p r k c iv M X i j*G j d) n2 by omega]at this
end
def rX(a:Nat->Int){k:Nat}(z:k<n):cm (fun i=>if i=k then a i else 0) n=a k:=by rw[jV z (fun c _ B=>ak B),ar rfl]
def zgx(f:Nat->Int){r k:Nat}(E:r<N)(D:k<N):cm (fun i=>f (k7 r k i)) N=cm f N:=by
 by_cases h:r=k
 .subst h;exact cG fun c _=>by unfold k7;split <;> (try split) <;>simp_all
 .have e:∀i,i<N->f (k7 r k i)=f i+((if i=r then f k-f r else 0)+(if i=k then f r-f k else 0)):=fun i _=>by
   unfold k7;by_cases z:i=r
   .subst z;rw[ar rfl,ar rfl,ak h];omega
   .by_cases B:i=k
    .subst B;rw[ak z,ar rfl,ak z,ar rfl];omega
    .rw[ak z,ak B,ak z,ak B];omega
  rw[cG e,lF,lF,rX (fun _=>f k-f r) E,rX (fun _=>f r-f k) D];omega
def zgy{p:Int}{r k c:Nat}{iv:Int}{M X:Nat->Nat->Int}(F:r<N)(T:k<N)(Q:p∣M k c*iv-1)(h:∀x:Nat->Int,∃y:Nat->Int,∀j,j<n2->p∣x j-cm (fun i=>y i*X i j) N):∀x:Nat->Int,∃y:Nat->Int,∀j,j<n2->p∣x j-cm (fun i=>y i*iO p r k c iv M X i j) N:=by
 intro x;obtain⟨y,U⟩:=h x;obtain⟨S,O⟩:=aK (cm (fun i=>if i=r then 0 else y (k7 r k i)*M (k7 r k i) c) N);refine⟨fun i=>if i=r then M k c*y k+S else y (k7 r k i),fun j R=>?_⟩;have L:=xJ (p:=p) (r:=r) (k:=k) (c:=c) (iv:=iv) (M:=M) (X:=X) j;obtain⟨z,E⟩:∃z:Nat->Int,z=fun i=>iO p r k c iv M X i j:=⟨_,rfl⟩
 have D:mL p r k iv (fun i=>M i c) (fun i=>X i j) z:=by rw[E];exact L
 have J:∀i,iO p r k c iv M X i j=z i:=fun i=>by rw[E]
 -- the new combination, term by term
 have t1:∀i,i<N->p∣(if i=r then M k c*y k+S else y (k7 r k i))*z i-(y (k7 r k i)*X (k7 r k i) j+((if i=r then S*z r else 0) + -1*((if i=r then 0 else y (k7 r k i)*M (k7 r k i) c)*z r))):=by
  intro i hi;by_cases e:i=r
  .subst e;rw[ar rfl,ar rfl,ar rfl,lE];have B:=jt D.top (⟨M k c*y k,rfl⟩:z i-X k j*iv∣(z i-X k j*iv)*(M k c*y k));have H:=jt Q (⟨X k j*y k,rfl⟩:M k c*iv-1∣(M k c*iv-1)*(X k j*y k));have I:=qJ B H;rwa[show(z i-X k j*iv)*(M k c*y k)+(M k c*iv-1)*(X k j*y k)=(M k c*y k+S)*z i-(y k*X k j+(S*z i + -1*(0*z i))) from by grind]at I
  .rw[ak e,ak e,ak e];have B:=jt (D.oth i e) (⟨y (k7 r k i),rfl⟩:z i-(X (k7 r k i) j-M (k7 r k i) c*z r)∣(z i-(X (k7 r k i) j-M (k7 r k i) c*z r))*y (k7 r k i));rwa[show(z i-(X (k7 r k i) j-M (k7 r k i) c*z r))*y (k7 r k i)=y (k7 r k i)*z i-(y (k7 r k i)*X (k7 r k i) j+(0 + -1*(y (k7 r k i)*M (k7 r k i) c*z r))) from by grind]at B
 have t2:=fN t1;rw[lF,lF,rX (fun _=>S*z r) F,mM,od,<-O,zgx (fun i=>y i*X i j) F T]at t2;have t3:=nn (U j R) t2;rw[show cm (fun i=>(if i=r then M k c*y k+S else y (k7 r k i))*iO p r k c iv M X i j) N=cm (fun i=>(if i=r then M k c*y k+S else y (k7 r k i))*z i) N from cG fun i _=>by rw[J]];rwa[show ∀a b d e:Int,a-b-(d-(b+(e + -1*e)))=a-d from fun a b d e=>Ry]at t3
section
variable{M:aC}
def qj(M:aC)(c r:Nat):Nat:=cN ⟨0,0,M⟩ c r
def xv(M:aC)(c r:Nat)(z:r<=M.length):r<=qj M c r/\qj M c r<=M.length/\(∀j,r<=j->j<qj M c r->eM M j c=0)/\(qj M c r<M.length->eM M (qj M c r) c≠0):=dF ⟨0,0,M⟩ c r z
def jW(p:Int):Nat->Nat->Nat×(List (List Int)×List (List Int))->Nat×(List (List Int)×List (List Int))
 |0,_,z=>z
 |m+1,c,z=>if z.1<z.2.1.length then jW p m (c+1) (if qj z.2.1 c z.1=z.2.1.length then z else(z.1+1,ts p z.1 (qj z.2.1 c z.1) c z.2)) else z
def zbP{A D:Nat->Nat->Int}{l:gj}(h:Bn p n N A r c l)(e:∀i d,i<N->d<n->D i d=A i d):Bn p n N D r c l:=
 ⟨fun i d hi z=>by rw[e i d hi z];exact h.bd i d hi z,h.rN,h.cn,h.lt,h.inc,
  fun i hi=>by have:=h.lt i hi;have:=h.cn;have:=h.rN;rw[e i _ Ry Ry];exact h.one i hi,
  fun i d hi z=>by have:=h.lt i hi;have:=h.cn;have:=h.rN;rw[e i d Ry Ry];exact h.low i d hi z,
  fun i j hi B F=>by have:=h.lt i hi;have:=h.cn;rw[e j _ B Ry];exact h.col i j hi B F,
  fun j d B E z=>by have:=h.cn;rw[e j d E Ry];exact h.z j d B E z⟩
structure xw(p:Int)(N n n2:Nat)(M0 X0:aC)(c:Nat)(z:Nat×(List (List Int)×List (List Int))):Prop where
 s1:gZ p N n z.2.1
 s2:gZ p N n2 z.2.2
 inv:∃l,Bn p n N (eM z.2.1) z.1 c l
 ann:∀x:Nat->Int,(∀i,i<N->p∣cm (fun d=>eM M0 i d*x d) n)↔(∀i,i<N->p∣cm (fun d=>eM z.2.1 i d*x d) n)
 mul:∀G:Nat->Nat->Int,(∀i,i<N->∀d,d<n->p∣eM M0 i d-cm (fun j=>eM X0 i j*G j d) n2)->∀i,i<N->∀d,d<n->p∣eM z.2.1 i d-cm (fun j=>eM z.2.2 i j*G j d) n2
 all:(∀x:Nat->Int,∃y:Nat->Int,∀j,j<n2->p∣x j-cm (fun i=>y i*eM X0 i j) N)->∀x:Nat->Int,∃y:Nat->Int,∀j,j<n2->p∣x j-cm (fun i=>y i*eM z.2.2 i j) N
def zbQ{X:aC}(z:gZ p N n M)(B:gZ p N n2 X):xw p N n n2 M X 0 (0,(M,X)):=⟨z,B,⟨_,zbH z.2.2⟩,fun _=>Iff.rfl,fun _ h=>h,fun h=>h⟩
def zec{z:Nat×(List (List Int)×List (List Int))}(ad:cP p=true)(O:2<=p)(h:xw p N n n2 U Ra c z)(E:c<n):xw p N n n2 U Ra (c+1) (if qj z.2.1 c z.1=z.2.1.length then z else(z.1+1,ts p z.1 (qj z.2.1 c z.1) c z.2)):=by
 obtain⟨l,hi⟩:=h.inv;have ao:=h.s1.1;obtain⟨f1,f2,f3,f4⟩:=xv z.2.1 c z.1 (by rw[ao];exact hi.rN);obtain⟨k,am⟩:=aK (qj z.2.1 c z.1);rw[<-am]at f1 f2 f3 f4 ⊢;split
 .rename_i e;exact⟨h.s1,h.s2,⟨l,zd1 hi E (fun j T a0=>f3 j T Ry)⟩,h.ann,h.mul,h.all⟩
 .rename_i e;have D:k<N:=Ry;have H:z.1<N:=Ry;have ac:=h.s1.2.2 k c D E;have a1:=f4 Ry;obtain⟨R,_,_⟩:=iW ad (Ry:1<=eM z.2.1 k c) ac.2;have Q:p∣eM z.2.1 k c*ec p (eM z.2.1 k c)-1:=by have:=ot (eM z.2.1 k c*ec p (eM z.2.1 k c)) p;rw[R]at this;have:=Int.dvd_neg.2 this;rwa[show -(1-eM z.2.1 k c*ec p (eM z.2.1 k c))=eM z.2.1 k c*ec p (eM z.2.1 k c)-1 by omega]at this
  obtain⟨c1,c2,c3,J⟩:=ziu (r:=z.1) (k:=k) (c:=c) O h.s1 h.s2 H D E;refine⟨c1,c2,⟨_,zbP (zd2 O hi E f1 D R) c3⟩,fun x=>?_,fun G ab=>?_,fun Z=>?_⟩
  .refine(h.ann x).trans ((zgv H D Q x).trans ⟨fun I i hi'=>?_,fun I i hi'=>?_⟩)
   .have:=I i hi';rwa[cG (fun d B=>by rw[<-c3 i d hi' B])]at this
   .have:=I i hi';dsimp only at this;rwa[cG (fun d B=>by rw[c3 i d hi' B])]at this
  .intro i hi' d B;have:=zgw (c:=c) (iv:=ec p (eM z.2.1 k c)) H D (h.mul G ab) i hi' d B;dsimp only;rw[c3 i d hi' B,cG (fun j F=>by rw[J i j hi' F])];exact this
  .intro x;obtain⟨y,ap⟩:=zgy (c:=c) (iv:=ec p (eM z.2.1 k c)) H D Q (h.all Z) x;refine⟨y,fun j F=>?_⟩;have:=ap j F;dsimp only;rw[cG (fun i hi'=>by rw[J i j hi' F])];exact this
def zau{p:Int}{N n n2:Nat}{B D:aC}(H:cP p=true)(F:2<=p):∀(m c:Nat) (z:Nat×(List (List Int)×List (List Int))),xw p N n n2 B D c z->c+m=n->∃E,xw p N n n2 B D E (jW p m c z)/\(E=n∨(jW p m c z).1=N)
 |0,c,z,h,I=>⟨c,h,aG I⟩
 |m+1,c,z,h,I=>by
  unfold jW;split
  .exact zau H F m (c+1) _ (zec H F h Ry) Ry
  .rename_i J;obtain⟨l,hi⟩:=h.inv;have:=hi.rN;have:=h.s1.1;exact⟨c,h,aB Ry⟩
def gp(p:Int)(n:Nat)(M X:aC):Nat×(List (List Int)×List (List Int)):=jW p n 0 (0,(M,X))
def qk{X:aC}(E:cP p=true)(B:2<=p)(F:gZ p N n M)(H:gZ p N n2 X):∃c l,xw p N n n2 M X c (gp p n M X)/\(gp p n M X).1<=N/\lS p n (gp p n M X).1 (eM (gp p n M X).2.1) l/\∀i,(gp p n M X).1<=i->i<N->∀d,d<n->eM (gp p n M X).2.1 i d=0:=by obtain⟨c,z,D⟩:=zau E B n 0 (0,(M,X)) (zbQ F H) Ry;obtain⟨l,hi⟩:=z.inv;exact⟨c,l,z,hi.rN,zfM hi,zd3 hi D⟩
end
end Go.Proofs.YtdpgblncijojiaaGreatDoor
