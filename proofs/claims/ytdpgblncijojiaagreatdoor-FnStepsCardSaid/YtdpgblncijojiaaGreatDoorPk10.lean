/- Parts of the walks. Conditions: as stated with each. -/
import Derived.Test.YtdpgblncijojiaaGreatDoorPk6
import Derived.Test.YtdpgblncijojiaaGreatDoorPk7
namespace Go.Proofs.YtdpgblncijojiaaGreatDoor
open Go.RowKit Tryz
set_option linter.all false
variable{b c d i j r:Nat}{f iv p:Int}{q:Sy×List cS}{s:Sy}{xs:aG}
def B4:((List.range 98).all fun p=>(!dr (p:Nat))||(List.range p).all fun a=>decide (a=0)||(decide (((a:Int)*fD (p:Nat) (a:Nat))%(p:Nat)=1)&&(decide (1<=fD (p:Nat) (a:Nat))&&decide (fD (p:Nat) (a:Nat) < (p:Nat)))))=true:=SP
def mf{a:Int}(h:dr p=true)(E:1<=a)(F:a<p):(a*fD p a)%p=1/\1<=fD p a/\fD p a<p:=by
 have H:=eY h;obtain⟨P,rfl⟩:=fX (RU:0<=p);obtain⟨A,rfl⟩:=fX (RU:0<=a);have D:=fp.1 B4 P (et.2 RU);rw[h]at D;simp only[Bool.not_true,Bool.false_or]at D;have z:=fp.1 D A (et.2 RU);simp only[lQ,bC,cK]at z;rcases z with z|z
 .omega
 .exact z
def getD_some{z:Type}{l:List z}{x d:z}(h:l[i]?=some x):l.getD i d=x:=by rw[bu,h];rfl
def gS(s:Sy)(i c:Nat):Int:=(s.rows.getD i []).getD c 0
def zbP{r:aG}{x:Int}(h:s.rows[i]?=some r)(z:r[c]?=some x):gS s i c=x:=by unfold gS;rw[getD_some h,getD_some z]
def kW{t:Sy}(h:s.rows[i]?=t.rows[j]?):gS s i c=gS t j c:=by unfold gS;rw[bu (l:=s.rows),h,<-bu]
def tb(h:s.Ok p)(hi:i<s.rows.length)(E:(c:Int)<s.v+s.h):0<=gS s i c/\gS s i c<p:=by have D:=gT hi;have F:=Sys.len h _ D;have z:c < (s.rows.getD i []).length:=RU;refine Sys.el h _ D _ ?_;unfold gS;generalize s.rows.getD i []=r at z ⊢;rw[bu,dA z];exact oz z
def dU(s:Sy)(c r:Nat):Nat:=r+((s.rows.drop r).takeWhile fun q=>q.getD c 0==0).length
def zbQ{E:Type}(f:E->Bool):∀(l:List E),(l.takeWhile f).length<=l/\(∀j x,j < (l.takeWhile f).length->l[j]?=some x->f x=true)/\(∀x,l[(l.takeWhile f).length]?=some x->f x=false)
 |[]=>⟨RS,fun j x h=>Sf,fun x h=>Sf⟩
 |a::l=>by
  obtain⟨h1,F,H⟩:=zbQ f l;by_cases z:f a=true
  .rw[List.takeWhile_cons_of_pos z];refine⟨SN,fun j x D hx=>?_,fun x hx=>?_⟩
   .cases j with
    |zero=>simp at hx;rw[<-hx];exact z
    |succ j=>exact F j x (by simpa using D) SM
   .exact H x SM
  .rw[List.takeWhile_cons_of_neg z];refine⟨RS,fun j x D=>by simp at D,fun x hx=>?_⟩;simp at hx;rw[<-hx];simpa using z
def gy(s:Sy)(c r:Nat)(O:r<=s.rows.length):r<=dU s c r/\dU s c r<=s.rows.length/\(∀j,r<=j->j<dU s c r->gS s j c=0)/\(dU s c r<s.rows.length->gS s (dU s c r) c≠0):=by
 obtain⟨D,E,F⟩:=zbQ (fun q:List Int=>q.getD c 0==0) (s.rows.drop r);unfold dU;generalize ((s.rows.drop r).takeWhile fun q=>q.getD c 0==0).length=m at D E F;rw[lR]at D;refine⟨RU,RU,fun j I J=>?_,fun H=>?_⟩
 .obtain⟨q,z⟩:=aB (RU:j<s.rows.length);have:=E (j-r) q RU (by rw[fL,show r+(j-r)=j by omega];exact z);unfold gS;rw[getD_some z];simpa using this
 .obtain⟨q,z⟩:=aB H;have:=F q (by rw[fL];exact z);unfold gS;rw[getD_some z];simpa using this
def AE(hi:r<=i)(E:i<=s.rows.length)(z:∀j,r<=j->j<i->gS s j c=0)(D:i<s.rows.length->gS s i c≠0):dU s c r=i:=by
 obtain⟨a,b,d,e⟩:=gy s c r RU;rcases vt (dU s c r) i with h|h|h
 .exact absurd (z _ a h) (e RU)
 .exact h
 .exact absurd (d i hi h) (D RU)
def push(p:Int)(q:Sy×List cS)(x:cS):Sy×List cS:=(cE p q.1 x,q.2++[x])
def zcN(p:Int)(a c:Nat)(iv:Int)(s:Sy)(i:Nat):cS:=⟨3,a,i,(-(gS s i c*iv))%p,[]⟩
def tc(p:Int)(a c:Nat)(iv:Int):Nat->Sy×List cS->Sy×List cS
 |0,q=>q
 |i+1,q=>if i≠a/\gS (tc p a c iv i q).1 i c≠0 then push p (tc p a c iv i q) (zcN p a c iv (tc p a c iv i q).1 i) else tc p a c iv i q
def zbR(p:Int)(s:Sy)(a i:Nat)(f:Int):cE p s ⟨3,a,i,f,[]⟩=⟨s.v,s.h,s.rows.set i (dw p f (s.rows.getD i []) (s.rows.getD a []))⟩:=Th
def ok3{a:Nat}(E:a<s.rows.length)(hi:i<s.rows.length)(F:i≠a)(z:0<=f)(D:f<p):eI p s ⟨3,a,i,f,[]⟩=true:=WX
structure Clr(p:Int)(a c:Nat)(s t:Sy)(i:Nat):Prop where
 ok:t.Ok p
 v:t.v=s.v
 h:t.h=s.h
 n:t.rows.length=s.rows
 row:t.rows[a]?=s.rows[a]?
 zero:∀j,j<i->j≠a->gS t j c=0
 rest:∀j,i<=j->t.rows[j]?=s.rows[j]?
 nR:∀d:Nat,(d:Int)<s.v+s.h->gS s a d=0->∀j,gS t j d=gS s j d
def td{ys:aG}(h:xs.length=ys)(z:d<xs.length):(dw p f xs ys).getD d 0=(xs.getD d 0+f*ys.getD d 0)%p:=by unfold dw;obtain⟨x,D⟩:=aB z;obtain⟨y,E⟩:=aB (RU:d<ys.length);rw[bu,vu,bu,bu,D,E];rfl
def CX{a:Nat}(a8:2<=p)(ad:a<s.rows.length)(am:(c:Int)<s.v+s.h)(a0:(gS s a c*iv)%p=1){t:Sy}(h:Clr p a c s t i)(hi:i<s.rows.length):(i≠a/\gS t i c≠0->eI p t (zcN p a c iv t i)=true/\Clr p a c s (cE p t (zcN p a c iv t i)) (i+1))/\(¬(i≠a/\gS t i c≠0)->Clr p a c s t (i+1)):=by
 have J:i<t.rows.length:=by rw[h.n];exact hi
 have Z:a<t.rows.length:=by rw[h.n];exact ad
 refine⟨fun⟨U,a5⟩=>?_,fun a1=>⟨h.ok,h.v,h.h,h.n,h.row,fun j F O=>?_,fun j F=>h.rest j RU,h.nR⟩⟩
 .have ao:=ir (-(gS t i c*iv)) (RU:p≠0);have ap:=iu (-(gS t i c*iv)) (RU:0<p);have ac:eI p t (zcN p a c iv t i)=true:=ok3 Z J U ao ap;refine⟨ac,?_⟩;have a3:=zbR p t a i ((-(gS t i c*iv))%p);have a6:=Sys.len h.ok _ (gT J);have a7:=Sys.len h.ok _ (gT Z);obtain⟨I,Y⟩:=aO ((-(gS t i c*iv))%p);obtain⟨u,R⟩:=aO (cE p t (zcN p a c iv t i));have H:u=⟨t.v,t.h,t.rows.set i (dw p I (t.rows.getD i []) (t.rows.getD a []))⟩:=by rw[R,Y];exact a3
  have Q:∀j,j≠i->u.rows[j]?=t.rows[j]?:=fun j F=>by rw[H];exact dz (gJ F)
  have a4:u.rows[i]?=some (dw p I (t.rows.getD i []) (t.rows.getD a [])):=by rw[H];exact eu J
  have ab:∀d:Nat,(d:Int)<t.v+t.h->gS u i d=(gS t i d+I*gS t a d)%p:=fun d E=>by unfold gS;rw[show u.rows.getD i []=dw p I (t.rows.getD i []) (t.rows.getD a []) by rw[bu,a4];rfl];exact td RU RU
  rw[<-R];refine⟨by rw[R];exact gG h.ok ac,by rw[H];exact h.v,by rw[H];exact h.h,by rw[H];simpa using h.n,(Q a (gJ U)).trans h.row,fun j F O=>?_,fun j F=>(Q j RU).trans (h.rest j RU),fun d E D j=>?_⟩
  .by_cases z:j=i
   .subst z;rw[ab c (by rw[h.v,h.h];exact am),Y];have a2:gS t a c=gS s a c:=kW h.row;rw[a2];have e:(gS t j c + -(gS t j c*iv)%p*gS s a c)%p=(gS t j c + -(gS t j c*iv)*gS s a c)%p:=by rw[rW,oA,rX _ (rY p),<-oA,<-rW]
    rw[e,show gS t j c + -(gS t j c*iv)*gS s a c=gS t j c + -(gS t j c)*(gS s a c*iv) by rw[vw,vw,oB,kh iv]];rw[rW,oA,a0,rZ,rX _ (rY p),<-rW,Int.add_right_neg,Int.zero_emod]
   .rw[kW (Q j z)];exact h.zero j RU O
  .by_cases z:j=i
   .subst z;rw[ab d (by rw[h.v,h.h];exact E),show gS t a d=0 by rw[kW h.row];exact D,pQ,pR];have:=tb h.ok J (by rw[h.v,h.h];exact E:(d:Int)<t.v+t.h);rw[oC this.1 this.2];exact h.nR d E D j
   .rw[kW (Q j z)];exact h.nR d E D j
 .by_cases z:j=i
  .subst z;by_cases D:gS t j c=0
   .exact D
   .exact absurd ⟨O,D⟩ a1
  .exact h.zero j RU O
def zcO{a:Nat}(h:s.Ok p):Clr p a c s s 0:=⟨h,rfl,rfl,rfl,rfl,fun j z=>RU,fun _ _=>rfl,fun _ _ _ _=>rfl⟩
def xp{p:Int}{a c:Nat}{iv:Int}{s:Sy}{X:List cS}(h:s.Ok p)(D:a<s.rows.length)(E:(c:Int)<s.v+s.h)(F:(gS s a c*iv)%p=1):∀i,i<=s.rows.length->Clr p a c s (tc p a c iv i (s,X)).1 i
 |0,_=>zcO h
 |i+1,hi=>by
  have ih:=xp (X:=X) h D E F i RU;obtain⟨H,I⟩:=CX (Sys.p2 h) D E F ih RU;unfold tc;split
  .rename_i z;exact(H z).2
  .rename_i z;exact I z
def kX(p:Int):Nat->Sy×List cS->Sy×List cS
 |0,q=>q
 |b+1,q=>kX p b (if dU q.1 (q.1.v+b).toNat 0=q.1.rows.length then push p q ⟨8,0,b,0,[]⟩
   else push p (tc p (dU q.1 (q.1.v+b).toNat 0) (q.1.v+b).toNat (fD p (gS q.1 (dU q.1 (q.1.v+b).toNat 0) (q.1.v+b).toNat)) q.1.rows q) ⟨6,dU q.1 (q.1.v+b).toNat 0,b,0,[]⟩)
def zbS{x:Int}(h:(fF s.rows c)[j]?=some x):gS s j c=x:=by obtain⟨r,z,rfl⟩:=nW.1 h;unfold gS;rw[getD_some z]
def ok8(H:(b:Int)+1=s.h)(F:∀j,j<s.rows.length->gS s j (s.v+b).toNat=0):eI p s ⟨8,0,b,0,[]⟩=true:=by
 have h1:(fF s.rows (s.v+(b:Int)).toNat).all (fun x=>eX x 0 0)=true:=by rw[fp];intro x E;obtain⟨j,z⟩:=e_.1 E;have D:=(bA.1 z).1;have:=zbS z;rw[F j (by simpa[fF]using D)]at this;rw[bk];omega
 exact Zw
def ok6{a:Nat}(Q:(b:Int)+1=s.h)(O:a<s.rows.length)(J:∀j,j<s.rows.length->j≠a->gS s j (s.v+b).toNat=0)(H:gS s a (s.v+b).toNat≠0):eI p s ⟨6,a,b,0,[]⟩=true:=by
 have h1:nB (fF s.rows (s.v+(b:Int)).toNat) a=true:=by
  rw[rB];intro k x E;have F:=(bA.1 E).1;have D:=zbS E;constructor
  .intro z;have:k=a:=RU;subst this;rw[<-D];exact H
  .intro I;by_cases z:k=a
   .rw[z]
   .exact absurd (D.symm.trans (J k (by simpa[fF]using F) z)) I
 exact Zx
def kt(p:Int)(c r:Nat)(q:Sy×List cS):Sy×List cS:=if dU q.1 c r≠r then push p q ⟨1,r,dU q.1 c r,0,[]⟩ else q
def mg(p:Int)(c r:Nat)(q:Sy×List cS):Sy×List cS:=if gS q.1 r c≠1 then push p q ⟨2,r,0,fD p (gS q.1 r c),[]⟩ else q
def mG(p:Int)(c r:Nat)(q:Sy×List cS):Sy×List cS:=tc p r c (fD p (gS q.1 r c)) q.1.rows q
def lB(p:Int):Nat->Nat->Nat×(Sy×List cS)->Nat×(Sy×List cS)
 |0,_,z=>z
 |m+1,c,z=>lB p m (c+1) (if dU z.2.1 c z.1=z.2.1.rows.length then z else(z.1+1,mG p c z.1 (mg p c z.1 (kt p c z.1 z.2))))
def tP(p:Int)(r:Nat):Nat->Sy×List cS->Sy×List cS
 |0,q=>q
 |i+1,q=>if r<=i then tP p r i (push p q ⟨4,i,0,0,[]⟩) else q
def CY(p:Int)(s:Sy):Sy×List cS:=
 tP p (lB p s.v.toNat 0 (0,kX p s.h.toNat (s,[]))).1 (lB p s.v.toNat 0 (0,kX p s.h.toNat (s,[]))).2.1.rows (lB p s.v.toNat 0 (0,kX p s.h.toNat (s,[]))).2
structure Inv2(p:Int)(v:Int)(c r:Nat)(s:Sy):Prop where
 ok:s.Ok p
 hh:s.h=0
 hv:s.v=v
 hr:r<=s.rows.length
 z:∀d,d<c->∀j,r<=j->j<s.rows.length->gS s j d=0
def ok1{a:Nat}(z:a<s.rows.length)(D:b<s.rows.length)(E:a≠b):eI p s ⟨1,a,b,0,[]⟩=true:=WX
def ok2{a:Nat}(E:a<s.rows.length)(z:1<=f)(D:f<p):eI p s ⟨2,a,0,f,[]⟩=true:=WX
def zbT(p:Int)(s:Sy)(a b:Nat):cE p s ⟨1,a,b,0,[]⟩=⟨s.v,s.h,(s.rows.set a (s.rows.getD b [])).set b (s.rows.getD a [])⟩:=Th
def zbU(p:Int)(s:Sy)(a:Nat)(f:Int):cE p s ⟨2,a,0,f,[]⟩=⟨s.v,s.h,s.rows.set a (gz p f (s.rows.getD a []))⟩:=Th
def AF{v:Int}(h:Inv2 p v c r q.1)(a3:(c:Int)<v)(z:dU q.1 c r<q.1.rows.length):(dU q.1 c r≠r->eI p q.1 ⟨1,r,dU q.1 c r,0,[]⟩=true)/\Inv2 p v c r (kt p c r q).1/\r < (kt p c r q).1.rows.length/\gS (kt p c r q).1 r c≠0:=by
 obtain⟨f1,f2,f3,f4⟩:=gy q.1 c r h.hr;have H:dU q.1 c r≠r->eI p q.1 ⟨1,r,dU q.1 c r,0,[]⟩=true:=fun ED=>ok1 RU z (gJ ED)
 refine⟨H,?_⟩;unfold kt;by_cases ED:dU q.1 c r≠r
 .rw[ay ED];obtain⟨a,ad⟩:=aO (dU q.1 c r);rw[<-ad]at ED z f1 f2 f3 f4 H ⊢;unfold push;dsimp only;obtain⟨x,Z⟩:=aB (RU:r<q.1.rows.length);obtain⟨y,hy⟩:=aB z;have am:q.1.rows.getD r []=x:=by rw[bu,Z];rfl
  have ao:q.1.rows.getD a []=y:=S8;have hs:=zbT p q.1 r a;rw[am,ao]at hs;obtain⟨u,U⟩:=aO (cE p q.1 ⟨1,r,a,0,[]⟩);rw[<-U]at hs ⊢;have R:u.rows.length=q.1.rows:=by rw[hs];simp
  have I:∀k,u.rows[k]?=if k=a then some x else if k=r then some y else q.1.rows[k]?:=fun k=>by
   rw[hs];dsimp only;by_cases E:k=a
   .subst E;rw[ay rfl,eu (by simpa using z)]
   .rw[al E,dz (gJ E)];by_cases F:k=r
    .subst F;rw[ay rfl,eu RU]
    .rw[al F,dz (gJ F)]
  have Y:u.rows[r]?=q.1.rows[a]?:=by rw[I r,al (gJ ED),ay rfl,hy]
  have a1:u.rows[a]?=q.1.rows[r]?:=by rw[I a,ay rfl,Z]
  have a2:∀k,k≠a->k≠r->u.rows[k]?=q.1.rows[k]?:=fun k ab ac=>by rw[I k,al ab,al ac]
  refine⟨⟨by rw[U];exact gG h.ok (H ED),Tu,by rw[hs];exact h.hv,by rw[R];exact h.hr,fun d D j a0 O=>?_⟩,RU,?_⟩
  .rw[R]at O;by_cases J:j=a
   .subst J;rw[kW a1];exact h.z d D r (ag _) RU
   .by_cases Q:j=r
    .subst Q;rw[kW Y];exact h.z d D a f1 z
    .rw[kW (a2 j J Q)];exact h.z d D j a0 O
  .rw[kW Y];exact f4 z
 .have ap:dU q.1 c r=r:=SX;rw[al ED];exact⟨h,RU,by have:=f4 z;rwa[ap]at this⟩
def AG{v:Int}(h:Inv2 p v c r q.1)(a0:(c:Int)<v)(D:r<q.1.rows.length)(a2:gS q.1 r c≠0):(gS q.1 r c≠1->eI p q.1 ⟨2,r,0,fD p (gS q.1 r c),[]⟩=true)/\Inv2 p v c r (mg p c r q).1/\r < (mg p c r q).1.rows.length/\gS (mg p c r q).1 r c=1:=by
 have I:(c:Int)<q.1.v+q.1.h:=Ua;have ac:=tb h.ok D I;obtain⟨U,Y,Z⟩:=mf (Sys.f h.ok) (RU:1<=gS q.1 r c) ac.2;have H:gS q.1 r c≠1->eI p q.1 ⟨2,r,0,fD p (gS q.1 r c),[]⟩=true:=fun _=>ok2 D Y Z
 refine⟨H,?_⟩;unfold mg;by_cases hx:gS q.1 r c≠1
 .rw[ay hx];unfold push;dsimp only;obtain⟨z,ab⟩:=aO (fD p (gS q.1 r c));rw[<-ab]at U Y Z H ⊢;have hs:=zbU p q.1 r z;obtain⟨u,R⟩:=aO (cE p q.1 ⟨2,r,0,z,[]⟩);rw[<-R]at hs ⊢;have Q:u.rows.length=q.1.rows:=by rw[hs];simp
  have ao:∀k,k≠r->u.rows[k]?=q.1.rows[k]?:=fun k am=>by rw[hs];exact dz (gJ am)
  have ap:u.rows[r]?=some (gz p z (q.1.rows.getD r [])):=by rw[hs];exact eu D
  have a1:=Sys.len h.ok _ (gT D);have J:∀d:Nat,(d:Int)<q.1.v+q.1.h->gS u r d=(gS q.1 r d*z)%p:=fun d E=>by unfold gS;rw[show u.rows.getD r []=gz p z (q.1.rows.getD r []) by rw[bu,ap];rfl];unfold gz;obtain⟨x,hx⟩:=aB (RU:d < (q.1.rows.getD r []).length);rw[bu,cp,hx,bu (l:=q.1.rows.getD r []),hx];rfl
  refine⟨⟨by rw[R];exact gG h.ok (H hx),Tu,by rw[hs];exact h.hv,by rw[Q];exact h.hr,fun d E j ad F=>?_⟩,RU,?_⟩
  .rw[Q]at F;by_cases O:j=r
   .subst O;rw[J d Ua,h.z d E j (ag _) F,lS,Int.zero_emod]
   .rw[kW (ao j O)];exact h.z d E j ad F
  .rw[J c I];exact U
 .rw[al hx];exact⟨h,D,SM⟩
def AH{v:Int}(h:Inv2 p v c r q.1)(I:(c:Int)<v)(D:r<q.1.rows.length)(O:gS q.1 r c=1):Inv2 p v (c+1) (r+1) (mG p c r q).1:=by
 have E:(c:Int)<q.1.v+q.1.h:=Ua;have R:=Sys.p2 h.ok;obtain⟨H,U,Y⟩:=mf (Sys.f h.ok) (RU:1<=gS q.1 r c) (RU:gS q.1 r c<p);have k:=xp (X:=q.2) h.ok D E H q.1.rows (ag _);unfold mG;refine⟨k.ok,k.h.trans h.hh,k.v.trans h.hv,by rw[k.n];omega,fun d J j Q z=>?_⟩;rw[k.n]at z;by_cases F:d=c
 .subst F;exact k.zero j z RU
 .rw[k.nR d Ua (h.z d RU r (ag _) D) j];exact h.z d RU j RU z
def zbV(p:Int)(s:Sy)(i:Nat):cE p s ⟨4,i,0,0,[]⟩=⟨s.v,s.h,s.rows.eraseIdx i⟩:=Th
def ok4(h:s.Ok p)(hi:i<s.rows.length)(I:∀d:Nat,(d:Int)<s.v+s.h->gS s i d=0):eI p s ⟨4,i,0,0,[]⟩=true:=by
 have D:(s.rows.getD i []).all (fun x=>eX x 0 0)=true:=by rw[fp];intro x H;obtain⟨d,z⟩:=e_.1 H;have O:=Sys.len h _ (gT hi);have J:=(bA.1 z).1;have:=I d RU;unfold gS at this;rw[bu (l:=s.rows.getD i []),z]at this;have this:x=0:=this;rw[bk];omega
 have E:eX (i:Int) 0 ((s.rows:Int)-1)=true:=SL;have F:((i:Int)).toNat=i:=RU;unfold eI ja;simp only[show((4:Int)=1)=False by decide,show((4:Int)=2)=False by decide,show((4:Int)=3)=False by decide,ki,jf,E,F,D];simp[iY]
structure zgi(p:Int)(r:Nat)(s:Sy):Prop where
 ok:s.Ok p
 hh:s.h=0
 hr:r<=s.rows.length
 z:∀d:Nat,(d:Int)<s.v->∀j,r<=j->j<s.rows.length->gS s j d=0
def zcP(h:zgi p r s)(Q:s.rows.length=i+1)(I:r<=i):eI p s ⟨4,i,0,0,[]⟩=true/\zgi p r (cE p s ⟨4,i,0,0,[]⟩)/\(cE p s ⟨4,i,0,0,[]⟩).rows.length=i:=by
 have D:eI p s ⟨4,i,0,0,[]⟩=true:=ok4 h.ok RU (fun d z=>h.z d (by rw[h.hh]at z;omega) i I RU);have hs:=zbV p s i;obtain⟨u,E⟩:=aO (cE p s ⟨4,i,0,0,[]⟩);rw[<-E]at hs ⊢;have H:u.rows.length=i:=by rw[hs];dsimp only;rw[mW RU];omega
 refine⟨D,⟨by rw[E];exact gG h.ok D,Tu,RU,fun d z j F O=>?_⟩,H⟩;have J:u.v=s.v:=by rw[hs]
 have:u.rows[j]?=s.rows[j]?:=by rw[hs];dsimp only;rw[List.getElem?_eraseIdx_of_lt RU]
 rw[kW this];exact h.z d (by rw[<-J];exact z) j F RU
end Go.Proofs.YtdpgblncijojiaaGreatDoor
