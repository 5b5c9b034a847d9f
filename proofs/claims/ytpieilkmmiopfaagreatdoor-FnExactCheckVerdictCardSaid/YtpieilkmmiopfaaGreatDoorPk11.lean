/- Parts of the walks. Conditions: as stated with each. -/
import Derived.Test.YtpieilkmmiopfaaGreatDoorPk10
namespace Go.Proofs.YtpieilkmmiopfaaGreatDoor
open Go.RowKit Tryz
set_option linter.all false
set_option maxHeartbeats 1000000
variable{A:ax}{J N b d i j k m n q r:Nat}{M M' rws:aP}{e:Ed}{f:Nat->Int}{g:Gr}{l:bP}{p:Int}{ps:ng}{w w':aa}{xs:aL}
def zc1(w:aa)(b o:Nat)(x:j8)(h:ax)(ε:Nat):Prop:=
 af w b o (zI x.k)/\af w b (o+1) (zI x.a)/\af w b (o+2) (zI x.b)/\af w b (o+3) (zI x.c)/\af w b (o+4) (.slice h x.row ε)
def iS(w:aa)(A:ax)(xs:List j8):Prop:=
 xs=[]∨∃b o,A=some ⟨b,o,none⟩/\∀(k:Nat) (x:j8),xs[k]?=some x->∃h ε,zc1 w b (o+k*5) x h ε/\aO w h x.row
def zc1.ext{o}{x}{F}{ε}(h:zc1 w b o x F ε)(D:ag w w'):zc1 w' b o x F ε:=⟨ar D h.1,ar D h.2.1,ar D h.2.2.1,ar D h.2.2.2.1,ar D h.2.2.2.2⟩
def iS.ext{xs}(h:iS w A xs)(D:ag w w'):iS w' A xs:=by
 rcases h with h|⟨b,o,I,J⟩
 .exact ay h
 .refine au ⟨b,o,I,fun k x O=>?_⟩;obtain⟨F,ε,G,H⟩:=J k x O;exact⟨F,ε,G.ext D,H.ext D⟩
def iS.θ{xs}(h:iS w A xs)(F:k<xs.length):∃b o,A=some ⟨b,o,none⟩/\∀(k:Nat) (x:j8),xs[k]?=some x->∃D ε,zc1 w b (o+k*5) x D ε/\aO w D x.row:=by
 rcases h with h|h
 .simp[h]at F
 .exact h
def wh(left r:Int)(xs:List j8):Prop:=r<0∨(0<=r/\r<=left/\(xs:Int)<=left/\∀x∈xs,(x.row.length:Int)<=left)
def zc2 A ε xs(left:Int)w(I:iS w A xs)(an:xs.length<=maxLen)(Y:∀r∈xs,r.row.length<=maxLen)(a9:0<=left)(ba:left<=1048576):az 22 #[.slice A xs ε,left] w fun e w'=>∃r,e=.returned (zI r)/\wh left r xs/\ag w w':=by
 unfold maxLen at an;by_cases a4:left-xs.length<0
 .go_enter func22,ntmps22
  exact Wu
 .go_enter func22,ntmps22
  go_wp2;go_loopw [1,5] (fun l i wr=>∃(k:Nat) (q:Int),k<=xs.length/\i=.int .i64 k/\l=.int .i64 q/\0<=q/\q<=left/\(∀x∈xs.take k,(x.row.length:Int)<=left)/\ag w wr) (fun _ i _=>xs.length-(intOf i).toNat)
  case atStart=>exact⟨0,_,aW _,rfl,rfl,Qu,Qu,fun x h=>by simp at h,al _ _⟩
  case round=>
   obtain⟨k,q,a8,rfl,rfl,Z,ao,J,D⟩:=hrel;have G:=zH J;clear J;by_cases U:k<xs.length
   .have⟨r,F⟩:=aq U;obtain⟨b,o,rfl,T⟩:=(I.ext D).θ U;obtain⟨av,a3,⟨a0,c1,c2,a1,a2⟩,a7⟩:=T k r F;have⟨ad,ah,ac⟩:=er (Y r (aU F)) F D;clear F T Y I D;go_wp2_with ((go_at_call 48;refine(zfy _ _ _ _ _ _ _ _ _ ad Z Qu).x ?_;rintro e w' ⟨ap,rfl,ab,O⟩;have am:=zH ab;have FV:=zH (aJ ac O);clear ab O))
    .exact Wm
    .go_roundw
     case rel=>
      rcases am.o with H|⟨H,a5,a6⟩
      .omega
      .exact⟨k+1,ap,Qu,Qx,rfl,H,Qu,fun x h=>by
        rw[du,ah.o]at h;rcases dP.1 h with h|h
        .exact G x h
        .simp at h;subst h;omega,FV⟩
     case measure=>simp[intOf];omega
   .go_wp2;go_ret
    refine⟨_,rfl,au ⟨Z,ao,Qu,fun x h=>G x ?_⟩,D⟩;rwa[cZ Qu]
structure Rl where
 l:Nat
 r:Nat
 b:List (List Int)
variable{R:Rl}
def Rl.eV(p:Int)(R:Rl):Prop:=Go.Proofs.YtpieilkmmiopfaaGreatDoor.eV p R.b (R.l+R.r) R.b
def Rl.Sp(p:Int)(R:Rl)(z:Nat->Int):Prop:=ij p R.b (R.l+R.r) R.b z
def vc(p:Int)(l r:Nat)(rws:aP):Rl:=⟨l,r,j5 p (l+r) rws⟩
def sI(h:Go.Proofs.YtpieilkmmiopfaaGreatDoor.eV p N n M):Go.Proofs.YtpieilkmmiopfaaGreatDoor.eV p M n M:=by rw[h.1];exact h
def Rl.Red(p:Int)(R:Rl):Prop:=mi p (R.l+R.r) R.b (eM R.b) (nw R.b)
structure Rl.Ok(p:Int)(R:Rl):Prop where
 Η:R.eV p
 red:R.Red p
def ziL{l}(D:bV p=true)(s:Go.Proofs.YtpieilkmmiopfaaGreatDoor.eV p N (l+r) rws):(vc p l r rws).Red p:=by have⟨k,lf,_,h,F,_⟩:=kM D (cv D).1 s;unfold Rl.Red vc;dsimp only;rw[h.1];exact CM h F
def wg{l}(h:bV p=true)(s:Go.Proofs.YtpieilkmmiopfaaGreatDoor.eV p N (l+r) rws):(vc p l r rws).Ok p/\∀z,(vc p l r rws).Sp p z↔ij p N (l+r) rws z:=by have⟨k,_,_,D,_,_⟩:=kM h (cv h).1 s;exact⟨⟨sI D,ziL h s⟩,fun z=>Bc h s z⟩
def qs{g}(h:g []=[])i d:eM (M.map g) i d=(g (M.getD i [])).getD d 0:=by
 unfold eM;rw[bf (l:=List.map g M),bI,bf (l:=M)];cases M[i]? with
 |none=>simp[h]
 |some r=>rfl
def kf{a b:aL}:(a++b).getD d 0=if d<a.length then a.getD d 0 else b.getD (d-a.length) 0:=by rw[bf,C9];split<;>rw[bf]
def nG(a:aL)q d:(a.drop q).getD d 0=a.getD (q+d) 0:=by rw[bf,fQ,bf]
def nH{a:aL}(h:d<q):(a.take q).getD d 0=a.getD d 0:=by rw[bf,iM,ak h,bf]
def zew{A B}:eM (A++B) i d=if i<A.length then eM A i d else eM B (i-A.length) d:=by
 unfold eM;rw[bf (l:=A++B),C9];split
 .rw[bf (l:=A)]
 .rw[bf (l:=B)]
def eV.X{A B}(h:eV p N n A)(D:eV p J n B):eV p (N+J) n (A++B):=by
 refine⟨by rw[bm,h.1,D.1],fun i hi=>?_,fun i d hi F=>?_⟩
 .rw[bf,C9];split
  .rename_i hl;rw[<-bf];exact h.2.1 i SC
  .rename_i hl;rw[<-bf];have:=h.1;exact D.2.1 _ Qu
 .rw[zew];have:=h.1;split
  .exact h.2.2 i d Qu F
  .exact D.2.2 _ d Qu F
def eV.yP{g}(F:eV p N n M)(G:∀r∈M,(g r).length=m/\∀d,d<m->0<=(g r).getD d 0/\(g r).getD d 0<p):eV p N m (M.map g):=by
 have h:∀i,i<N->(M.map g).getD i []=g (M.getD i [])/\M.getD i []∈M:=fun i hi=>by
  have D:i<M.length:=by rw[F.1];exact hi
  refine⟨?_,mZ D⟩;rw[bf,bI,di D,bf,di D];rfl
 refine⟨by rw[bs,F.1],fun i hi=>?_,fun i d hi H=>?_⟩
 .rw[(h i hi).1];exact(G _ (h i hi).2).1
 .unfold eM;rw[(h i hi).1];exact(G _ (h i hi).2).2 d H
def eV.vY(h:eV p N n M){r}(F:r∈M)(D:d<n):0<=r.getD d 0/\r.getD d 0<p:=by obtain⟨i,hi⟩:=eH.1 F;have hl:=(bG.1 hi).1;have:=h.2.2 i d SC D;unfold eM at this;rwa[getD_some hi]at this
def x_ f a:∀(b:Nat),bW f (a+b)=bW f a+bW (fun i=>f (a+i)) b
 |0=>by simp[bW]
 |b+1=>by rw[<-ow,bW,x_ f a b,bW];omega
def eu(c:Nat->Int)(M:aP)(N d:Nat):Int:=bW (fun i=>c i*eM M i d) N
def zcN{c}{A B}(h:A.length=N):eu c (A++B) (N+J) d=eu c A N d+eu (fun i=>c (N+i)) B J d:=by
 unfold eu;rw[x_];congr 1
 .exact bF fun i hi=>by rw[zew,ak Qu]
 .exact bF fun i _=>by rw[zew,aj Qu,h,iY]
def yQ{k:Nat->Int}{C:Nat->Nat->Int}:eu (fun i=>bW (fun j=>k j*C j i) m) M N d=bW (fun j=>k j*eu (C j) M N d) m:=by
 unfold eu;rw[bF (g:=fun i=>bW (fun j=>k j*(C j i*eM M i d)) m) (fun i _=>by dsimp only;rw[<-mX];exact bF fun j _=>by rw[rW]),sW (fun i j=>k j*(C j i*eM M i d)) m N]
 exact bF fun j _=>by rw[lH]
def zaq{c h}(D:∀i,i<N->p∣c i-h i):p∣eu c M N d-eu h M N d:=by unfold eu;exact eN fun i hi=>mJ (D i hi)
def fY(p:Int)(c:aL)(M:aP)(n:Nat):Nat->List Int
 |0=>List.replicate n 0
 |i+1=>dw p (c.getD i 0) (fY p c M n i) (M.getD i [])
def kN{p}{c}{M}{N n}(h:∀i,i<N->(M.getD i []).length=n):∀i,i<=N->(fY p c M n i).length=n
 |0,_=>by simp[fY]
 |i+1,hi=>by unfold fY;rw[mD,kN h i Qu,h i Qu,rX]
def qU{p}{c}{M}{N n d}(H:2<=p)(h:∀i,i<N->(M.getD i []).length=n)(D:d<n):∀i,i<=N->p∣(fY p c M n i).getD d 0-eu (fun j=>c.getD j 0) M i d/\0<=(fY p c M n i).getD d 0/\(fY p c M n i).getD d 0<p
 |0,_=>by
  have:(fY p c M n 0).getD d 0=0:=by unfold fY;rw[bf,fI,ak D];rfl
  rw[this];exact⟨⟨0,by simp[eu,bW]⟩,Qu,Qu⟩
 |i+1,hi=>by
  have⟨J,_,_⟩:=qU (c:=c) H h D i Qu;have F:=kN (p:=p) (c:=c) h i Qu;have I:(fY p c M n (i+1)).getD d 0=((fY p c M n i).getD d 0+c.getD i 0*(M.getD i []).getD d 0)%p:=by
   conv=>lhs;unfold fY
   exact tI (by rw[F,h i Qu]) (by rw[F];exact D)
  rw[I];refine⟨?_,gV _ Qu,gW _ Qu⟩;have G:=lI ((fY p c M n i).getD d 0+c.getD i 0*(M.getD i []).getD d 0) p;have e:eu (fun j=>c.getD j 0) M (i+1) d=eu (fun j=>c.getD j 0) M i d+c.getD i 0*(M.getD i []).getD d 0:=by unfold eu;rw[bW];rfl
  rw[e];have:=ir G J;rwa[show ∀a b c e:Int,a-(b+e)+(b-c)=a-(c+e) from fun a b c e=>Qu]at this
def qO(p:Int)(y:aL):List Int:=dw p (-1) (List.replicate y 0) y
def zcO p y:(qO p y).length=y:=by unfold qO;rw[mD];simp
def ziM{y}(F:2<=p)(h:d<y.length):p∣(qO p y).getD d 0+y.getD d 0/\0<=(qO p y).getD d 0/\(qO p y).getD d 0<p:=by
 have D:(qO p y).getD d 0=(0 + -1*y.getD d 0)%p:=by
  unfold qO;rw[tI Qt (by simpa using h)];congr 2
  rw[bf,fI,ak h];rfl
 rw[D];refine⟨?_,gV _ Qu,gW _ Qu⟩;have:=lI (0 + -1*y.getD d 0) p;rwa[show ∀a b:Int,a-(0 + -1*b)=a+b from fun a b=>Qu]at this
def kS(R:Rl):List (List Int):=R.b.map fun r=>r.take R.l
def mA(R:Rl):List (List Int):=R.b.map fun r=>r.drop R.l
def AZ(h:R.eV p):eV p R.b R.l (kS R)/\∀i d,d<R.l->eM (kS R) i d=eM R.b i d:=by
 refine⟨eV.yP h fun r F=>?_,fun i d D=>?_⟩
 .have hl:=h.row r F;exact⟨Sd,fun d D=>by rw[nH D];exact h.vY F Qu⟩
 .unfold kS;rw[qs Qt,nH D];rfl
def A_(h:R.eV p):eV p R.b R.r (mA R)/\∀i d,eM (mA R) i d=eM R.b i (R.l+d):=by
 refine⟨eV.yP h fun r D=>?_,fun i d=>?_⟩
 .have hl:=h.row r D;exact⟨Sc,fun d F=>by rw[nG];exact h.vY D Qu⟩
 .unfold mA;rw[qs Qt,nG];rfl
def ft(p:Int)(A B:Rl):List (List Int):=mA A++(kS B).map (qO p)
def iO(p:Int)(A B:Rl)(c:aL):List Int:=fY p (c.take A.b) (kS A) A.l A.b++fY p (c.drop A.b) (mA B) B.r B.b
def jm(p:Int)(A B:Rl):List (List Int):=(qN p A.r (ft p A B)).map (iO p A B)
def DF(p:Int)(A B:Rl):Rl:=vc p A.l B.r (jm p A B)
def DG{A B}(G:2<=p)(T:A.eV p)(U:B.eV p)(I:A.r=B.l):eV p (A.b.length+B.b) A.r (ft p A B)/\∀c d,d<A.r->p∣eu c (ft p A B) (A.b.length+B.b) d-(eu c (mA A) A.b d-eu (fun i=>c (A.b.length+i)) (kS B) B.b d):=by
 have⟨J,_⟩:=A_ T;have⟨h,_⟩:=AZ U;have O:eV p B.b B.l ((kS B).map (qO p)):=eV.yP h fun r F=>by have H:=h.row r F;exact⟨by rw[zcO,H],fun d D=>(ziM G (by rw[H];exact D)).2⟩
 rw[<-I]at O;refine⟨J.X O,fun c d D=>?_⟩;unfold ft;rw[zcN J.1];have:p∣eu (fun i=>c (A.b.length+i)) ((kS B).map (qO p)) B.b d+eu (fun i=>c (A.b.length+i)) (kS B) B.b d:=by
  unfold eu;rw[<-kI];refine vN fun i hi=>?_
  rw[<-Aq];refine qd ?_;rw[qs (by simp[qO,dw])];have F:=mZ (rows:=kS B) (k:=i) (by rw[h.1];exact hi);exact(ziM G (by rw[h.row _ F,<-I];exact D)).1
 rwa[show ∀a b c:Int,a+b-(a-c)=b+c from fun a b c=>Qu]
def lC{A B}{c}(D:2<=p)(J:A.eV p)(O:B.eV p):(iO p A B c).length=A.l+B.r/\(∀d,d<A.l+B.r->0<=(iO p A B c).getD d 0/\(iO p A B c).getD d 0<p)/\(∀d,d<A.l->p∣(iO p A B c).getD d 0-eu (fun i=>c.getD i 0) (kS A) A.b d)/\(∀d,d<B.r->p∣(iO p A B c).getD (A.l+d) 0-eu (fun i=>c.getD (A.b.length+i) 0) (mA B) B.b d):=by
 have⟨G,_⟩:=AZ J;have⟨H,_⟩:=A_ O;have F:(fY p (c.take A.b) (kS A) A.l A.b).length=A.l:=kN G.2.1 _ (ae _);have T:(fY p (c.drop A.b) (mA B) B.r B.b).length=B.r:=kN H.2.1 _ (ae _);unfold iO;refine⟨by rw[bm,F,T],fun d h=>?_,fun d h=>?_,fun d h=>?_⟩
 .rw[kf,F];split
  .rename_i I;exact(qU D G.2.1 I _ (ae _)).2
  .exact(qU D H.2.1 Qu _ (ae _)).2
 .rw[kf,F,ak h];have:=(qU (c:=c.take A.b) D G.2.1 h _ (ae _)).1;have e:eu (fun j=>(c.take A.b).getD j 0) (kS A) A.b d=eu (fun i=>c.getD i 0) (kS A) A.b d:=by unfold eu;exact bF fun i hi=>by dsimp only;rw[nH hi]
  rwa[e]at this
 .rw[kf,F,aj Qu,iY];have:=(qU (c:=c.drop A.b) D H.2.1 h _ (ae _)).1;have e:eu (fun j=>(c.drop A.b).getD j 0) (mA B) B.b d=eu (fun i=>c.getD (A.b.length+i) 0) (mA B) B.b d:=by unfold eu;exact bF fun i hi=>by dsimp only;rw[nG]
  rwa[e]at this
def zex{A B}(U:bV p=true)(H:A.eV p)(I:B.eV p)(a3:A.r=B.l):(DF p A B).Ok p/\∀z,(DF p A B).Sp p z↔∃y:Nat->Int,A.Sp p (fun j=>if j<A.l then z j else y (j-A.l))/\B.Sp p (fun j=>if j<B.l then y j else z (A.l+(j-B.l))):=by
 have G:=(cv U).1;have⟨ad,an⟩:=DG G H I a3;have ac:=zg1 U ad;have ao:eV p (qN p A.r (ft p A B)) (A.b.length+B.b) (qN p A.r (ft p A B)):=by
  have⟨a9,_,ap,_⟩:=vX U G ad;have⟨r,_,_,av,_,_⟩:=kM U G ap;have e:qN p A.r (ft p A B)=j5 p (A.b.length+B.b) (zbh p A.r (ft p A B)):=by unfold qN;rw[ad.1]
  rw[e];exact sI av
 have⟨K,hK⟩:=aR (qN p A.r (ft p A B));rw[<-hK]at ac ao;have a8:eV p K (A.l+B.r) (jm p A B):=by unfold jm;rw[<-hK];exact eV.yP ao fun c _=>⟨(lC G H I).1,(lC G H I).2.1⟩
 have Z:∀j d,j<K.length->eM (jm p A B) j d=(iO p A B (K.getD j [])).getD d 0:=fun j d F=>by unfold eM jm;rw[<-hK,bf (l:=List.map _ _),bI,di F,bf (l:=K),di F];rfl
 have⟨a6,a7⟩:=wg U a8;refine⟨a6,fun z=>(a7 z).t ?_⟩;have⟨_,f1⟩:=AZ H;have⟨_,f2⟩:=A_ H;have⟨_,f3⟩:=AZ I;have⟨_,f4⟩:=A_ I;constructor
 .rintro⟨k,Y⟩;obtain⟨c,J⟩:∃c:Nat->Int,c=fun i=>bW (fun j=>k j*eM K j i) K:=⟨_,rfl⟩
  have a2:ij p K (A.b.length+B.b) K c:=⟨k,fun d _=>by rw[J];exact⟨0,Qt⟩⟩;have ab:=(ac c).1 a2;have a4:∀d,d<A.l->p∣z d-eu c (kS A) A.b d:=fun d h=>by
   have h1:=Y d Qu;have h3:p∣bW (fun j=>k j*eM (jm p A B) j d) K-eu c (kS A) A.b d:=by
    rw[J,yQ];refine eN fun j F=>?_
    rw[Z j d F,<-oE];exact qd ((lC G H I).2.2.1 d h)
   exact XZ
  have a5:∀d,d<B.r->p∣z (A.l+d)-eu (fun i=>c (A.b.length+i)) (mA B) B.b d:=fun d h=>by
   have h1:=Y (A.l+d) Qu;have h3:p∣bW (fun j=>k j*eM (jm p A B) j (A.l+d)) K-eu (fun i=>c (A.b.length+i)) (mA B) B.b d:=by
    rw[J,yQ (C:=fun j i=>eM K j (A.b.length+i))];refine eN fun j F=>?_
    rw[Z j _ F,<-oE];exact qd ((lC G H I).2.2.2 d h)
   exact XZ
  refine⟨fun d=>eu c (mA A) A.b d,⟨c,fun d h=>?_⟩,⟨fun i=>c (A.b.length+i),fun d h=>?_⟩⟩
  .dsimp only;by_cases D:d<A.l
   .rw[ak D];have:=a4 d D;unfold eu at this;rwa[bF (fun i _=>by rw[f1 i d D])]at this
   .rw[aj D];unfold eu;rw[bF (fun i _=>by rw[f2 i,show A.l+(d-A.l)=d by omega])];exact⟨0,Qt⟩
  .dsimp only;by_cases D:d<B.l
   .rw[ak D];have h1:=an c d Qu;have h3:=ab d Qu;have h4:=eY h3 h1;have e:bW (fun i=>c i*eM (ft p A B) i d) (A.b.length+B.b)=eu c (ft p A B) (A.b.length+B.b) d:=rfl;rw[e,show ∀a b:Int,a-(a-b)=b from fun a b=>Qu]at h4;unfold eu at h4 ⊢;rwa[bF (f:=fun i=>c (A.b.length+i)*eM (kS B) i d) (g:=fun i=>c (A.b.length+i)*eM B.b i d) (fun i _=>by rw[f3 i d D])]at h4
   .rw[aj D];have:=a5 (d-B.l) Qu;unfold eu at this;rwa[bF (fun i _=>by rw[f4 i,show B.l+(d-B.l)=d by omega])]at this
 .rintro⟨y,⟨O,ah⟩,⟨T,am⟩⟩;obtain⟨c,J⟩:∃c:Nat->Int,c=fun i=>if i<A.b.length then O i else T (i-A.b.length):=⟨_,rfl⟩
  have c1:∀(M:aP) (d:Nat),eu c M A.b d=eu O M A.b d:=fun M d=>by unfold eu;exact bF fun i hi=>by rw[J];dsimp only;rw[ak hi]
  have c2:∀(M:aP) (N d:Nat),eu (fun i=>c (A.b.length+i)) M N d=eu T M N d:=fun M N d=>by unfold eu;exact bF fun i hi=>by rw[J];dsimp only;rw[aj Qu,iY]
  have a0:∀d,d<A.r->p∣y d-eu O (mA A) A.b d:=fun d h=>by have:=ah (A.l+d) Qu;dsimp only at this;rw[aj Qu,iY]at this;unfold eu;rwa[bF (fun i _=>by rw[f2 i])]
  have a1:∀d,d<B.l->p∣y d-eu T (kS B) B.b d:=fun d h=>by have:=am d Qu;dsimp only at this;rw[ak h]at this;unfold eu;rwa[bF (fun i _=>by rw[f3 i d h])]
  have ab:=(ac c).2 fun d h=>by have h1:=an c d h;rw[c1,c2]at h1;have h3:=eY (a1 d Qu) (a0 d h);have e:bW (fun i=>c i*eM (ft p A B) i d) (A.b.length+B.b)=eu c (ft p A B) (A.b.length+B.b) d:=rfl;rw[e];refine jv h1 ?_;rwa[show ∀y a b:Int,y-b-(y-a)=a-b from fun y a b=>Qu]at h3
  obtain⟨k,Y⟩:=ab;refine⟨k,fun d h=>?_⟩;by_cases D:d<A.l
  .have h1:=ah d Qu;dsimp only at h1;rw[ak D]at h1;have h3:p∣eu O (kS A) A.b d-eu (fun i=>bW (fun j=>k j*eM K j i) K) (kS A) A.b d:=by rw[<-c1];exact zaq fun i hi=>Y i Qu
   have h4:p∣bW (fun j=>k j*eM (jm p A B) j d) K-eu (fun i=>bW (fun j=>k j*eM K j i) K) (kS A) A.b d:=by
    rw[yQ];refine eN fun j F=>?_
    rw[Z j d F,<-oE];exact qd ((lC G H I).2.2.1 d D)
   have e:bW (fun i=>O i*eM A.b i d) A.b=eu O (kS A) A.b d:=by unfold eu;exact bF fun i _=>by rw[f1 i d D]
   exact YB
  .obtain⟨t,rfl⟩:∃t,d=A.l+t:=⟨d-A.l,Qu⟩;have h1:=am (B.l+t) Qu;dsimp only at h1;rw[aj Qu,iY]at h1;have h3:p∣eu T (mA B) B.b t-eu (fun i=>bW (fun j=>k j*eM K j (A.b.length+i)) K) (mA B) B.b t:=by rw[<-c2];exact zaq fun i hi=>Y (A.b.length+i) Qu
   have h4:p∣bW (fun j=>k j*eM (jm p A B) j (A.l+t)) K-eu (fun i=>bW (fun j=>k j*eM K j (A.b.length+i)) K) (mA B) B.b t:=by
    rw[yQ (C:=fun j i=>eM K j (A.b.length+i))];refine eN fun j F=>?_
    rw[Z j _ F,<-oE];exact qd ((lC G H I).2.2.2 t Qu)
   have e:bW (fun i=>T i*eM B.b i (B.l+t)) B.b=eu T (mA B) B.b t:=by unfold eu;exact bF fun i _=>by rw[f4 i]
   exact YB
def zhT{n'}{σ τ:gN}(H:∀i d,i<N->d<n'->eM M' i d=eM M i (σ d))(I:∀d,d<n'->σ d<n/\τ (σ d)=d)(J:∀d,d<n->τ d<n'/\σ (τ d)=d)z:ij p N n' M' z↔ij p N n M (fun d=>z (τ d)):=by
 constructor
 .rintro⟨k,G⟩;refine⟨k,fun d D=>?_⟩;obtain⟨h,F⟩:=J d D;have:=G (τ d) h;rwa[bF (fun i hi=>by rw[H i _ hi h,F])]at this
 .rintro⟨k,G⟩;refine⟨k,fun d D=>?_⟩;obtain⟨h,F⟩:=I d D;have:=G (σ d) h;dsimp only at this;rw[F]at this;rwa[bF (fun i hi=>by rw[H i d hi D])]
def za5(p:Int)(R:Rl):Rl:=vc p R.r R.l (R.b.map fun row=>row.drop R.l++row.take R.l)
def zfq(I:bV p=true)(F:R.eV p):(za5 p R).Ok p/\∀z,(za5 p R).Sp p z↔R.Sp p (fun j=>if j<R.l then z (R.r+j) else z (j-R.l)):=by
 have G:∀r∈R.b,∀d,d<R.r+R.l->(r.drop R.l++r.take R.l).getD d 0=r.getD (if d<R.r then R.l+d else d-R.r) 0:=fun r D d h=>by
  have hl:=F.row r D;have H:(r.drop R.l).length=R.r:=Sc;rw[kf,H];split
  .rw[nG]
  .rw[nH Qu]
 have s:eV p R.b (R.r+R.l) (R.b.map fun row=>row.drop R.l++row.take R.l):=eV.yP F fun r D=>by have hl:=F.row r D;refine⟨by rw[bm,fS,cQ,hl];omega,fun d h=>?_⟩;rw[G r D d h];exact F.vY D (by split<;>omega)
 have⟨J,O⟩:=wg I s;refine⟨J,fun z=>(O z).t ?_⟩;unfold Rl.Sp;have:=zhT (p:=p) (N:=R.b.length) (n:=R.l+R.r) (n':=R.r+R.l) (M:=R.b) (M':=R.b.map fun row=>row.drop R.l++row.take R.l) (σ:=fun d=>if d<R.r then R.l+d else d-R.r) (τ:=fun j=>if j<R.l then R.r+j else j-R.l)
  (fun i d hi h=>by rw[qs Qt];exact G _ (mZ hi) d h)
  (fun d h=>UT) (fun d h=>UT) z
 refine this.t ?_;have e:(fun d=>z (if d<R.l then R.r+d else d-R.l))=fun j=>if j<R.l then z (R.r+j) else z (j-R.l):=funext fun d=>by split<;>rfl
 rw[e]
def jG(n:Nat):List Int:=List.replicate n 0
def zbU n d:(jG n).getD d 0=0:=by unfold jG;rw[bf,fI];split<;>rfl
def nU(A B:Rl)(row:aL):List Int:=row.take A.l++(jG B.l++(row.drop A.l++jG B.r))
def nV(A B:Rl)(row:aL):List Int:=jG A.l++(row.take B.l++(jG A.r++row.drop B.l))
def EW(p:Int)(A B:Rl):Rl:=vc p (A.l+B.l) (A.r+B.r) (A.b.map (nU A B)++B.b.map (nV A B))
def zfr{A B}{row}(hl:row.length=A.l+A.r)d:(nU A B row).getD d 0=if d<A.l then row.getD d 0 else if d<A.l+B.l then 0 else if d<A.l+B.l+A.r then row.getD (A.l+(d-(A.l+B.l))) 0 else 0:=by
 have D:(row.take A.l).length=A.l:=Sd;have F:(row.drop A.l).length=A.r:=Sc;have G:(jG B.l).length=B.l:=QN;unfold nU;rw[kf,D];by_cases c1:d<A.l
 .rw[ak c1,ak c1,nH c1]
 rw[aj c1,aj c1,kf,G];by_cases c2:d<A.l+B.l
 .rw[ak Qu,ak c2,zbU]
 rw[aj Qu,aj c2,kf,F];by_cases h:d<A.l+B.l+A.r
 .rw[ak Qu,ak h,nG];congr 1
  omega
 .rw[aj Qu,aj h,zbU]
def zfs{A B}{row}(hl:row.length=B.l+B.r)d:(nV A B row).getD d 0=if d<A.l then 0 else if d<A.l+B.l then row.getD (d-A.l) 0 else if d<A.l+B.l+A.r then 0 else row.getD (B.l+(d-(A.l+B.l+A.r))) 0:=by
 have D:(row.take B.l).length=B.l:=Sd;have F:(jG A.l).length=A.l:=QN;have G:(jG A.r).length=A.r:=QN;unfold nV;rw[kf,F];by_cases c1:d<A.l
 .rw[ak c1,ak c1,zbU]
 rw[aj c1,aj c1,kf,D];by_cases c2:d<A.l+B.l
 .rw[ak Qu,ak c2,nH Qu]
 rw[aj Qu,aj c2,kf,G];by_cases h:d<A.l+B.l+A.r
 .rw[ak Qu,ak h,zbU]
 .rw[aj Qu,aj h,nG];congr 1
  omega
def zft{A B}(I:bV p=true)(hA:A.eV p)(hB:B.eV p):(EW p A B).Ok p/\∀z,(EW p A B).Sp p z↔A.Sp p (fun j=>if j<A.l then z j else z (A.l+B.l+(j-A.l)))/\B.Sp p (fun j=>if j<B.l then z (A.l+j) else z (A.l+B.l+A.r+(j-B.l))):=by
 have U:=(cv I).1;refine ML fun sA sB=>?_
 have h:∀i d,i<A.b.length->eM (A.b.map (nU A B)) i d=if d<A.l then eM A.b i d else if d<A.l+B.l then 0 else if d<A.l+B.l+A.r then eM A.b i (A.l+(d-(A.l+B.l))) else 0:=fun i d hi=>by have hl:=hA.row _ (mZ hi);have:=zfr (B:=B) hl d;unfold eM;rw[bf (l:=List.map _ _),bI,di hi];rw[bf (l:=A.b),di hi]at this ⊢;exact this
 have D:∀i d,i<B.b.length->eM (B.b.map (nV A B)) i d=if d<A.l then 0 else if d<A.l+B.l then eM B.b i (d-A.l) else if d<A.l+B.l+A.r then 0 else eM B.b i (B.l+(d-(A.l+B.l+A.r))):=fun i d hi=>by have hl:=hB.row _ (mZ hi);have:=zfs (A:=A) hl d;unfold eM;rw[bf (l:=List.map _ _),bI,di hi];rw[bf (l:=B.b),di hi]at this ⊢;exact this
 have⟨O,T⟩:=wg (l:=A.l+B.l) (r:=A.r+B.r) I (sA.X sB);refine⟨O,fun z=>(T z).t ?_⟩;unfold Rl.Sp;have split:∀(k:Nat->Int) (d:Nat),bW (fun i=>k i*eM (A.b.map (nU A B)++B.b.map (nV A B)) i d) (A.b.length+B.b)=bW (fun i=>k i*eM (A.b.map (nU A B)) i d) A.b+bW (fun i=>k (A.b.length+i)*eM (B.b.map (nV A B)) i d) B.b:=fun k d=>zcN (c:=k) sA.1
 constructor
 .rintro⟨k,G⟩;refine⟨⟨k,fun d hd=>?_⟩,⟨fun i=>k (A.b.length+i),fun d hd=>?_⟩⟩
  .dsimp only;by_cases F:d<A.l
   .rw[ak F];have:=G d Qu;rw[split,bF (f:=fun i=>k i*eM (A.b.map (nU A B)) i d) (g:=fun i=>k i*eM A.b i d) (fun i hi=>by rw[h i d hi,ak F]),gQ (f:=fun i=>k (A.b.length+i)*eM (B.b.map (nV A B)) i d) (fun i hi=>by rw[D i d hi,ak F,jh]),ux]at this;exact this
   .rw[aj F];have:=G (A.l+B.l+(d-A.l)) Qu;rw[split,bF (f:=fun i=>k i*eM (A.b.map (nU A B)) i (A.l+B.l+(d-A.l))) (g:=fun i=>k i*eM A.b i d) (fun i hi=>by rw[h i _ hi,aj Qu,aj Qu,ak Qu,show A.l+(A.l+B.l+(d-A.l)-(A.l+B.l))=d by omega]),gQ (f:=fun i=>k (A.b.length+i)*eM (B.b.map (nV A B)) i (A.l+B.l+(d-A.l))) (fun i hi=>by rw[D i _ hi,aj Qu,aj Qu,ak Qu,jh]),ux]at this;exact this
  .dsimp only;by_cases F:d<B.l
   .rw[ak F];have:=G (A.l+d) Qu;rw[split,gQ (f:=fun i=>k i*eM (A.b.map (nU A B)) i (A.l+d)) (fun i hi=>by rw[h i _ hi,aj Qu,ak Qu,jh]),bF (f:=fun i=>k (A.b.length+i)*eM (B.b.map (nV A B)) i (A.l+d)) (g:=fun i=>k (A.b.length+i)*eM B.b i d) (fun i hi=>by rw[D i _ hi,aj Qu,ak Qu,iY]),uQ]at this;exact this
   .rw[aj F];have:=G (A.l+B.l+A.r+(d-B.l)) Qu;rw[split,gQ (f:=fun i=>k i*eM (A.b.map (nU A B)) i (A.l+B.l+A.r+(d-B.l))) (fun i hi=>by rw[h i _ hi,aj Qu,aj Qu,aj Qu,jh]),bF (f:=fun i=>k (A.b.length+i)*eM (B.b.map (nV A B)) i (A.l+B.l+A.r+(d-B.l))) (g:=fun i=>k (A.b.length+i)*eM B.b i d) (fun i hi=>by rw[D i _ hi,aj Qu,aj Qu,aj Qu,show B.l+(A.l+B.l+A.r+(d-B.l)-(A.l+B.l+A.r))=d by omega]),uQ]at this;exact this
 .rintro⟨⟨k,G⟩,⟨l,hl⟩⟩;have J:∀d,bW (fun i=>(if i<A.b.length then k i else l (i-A.b.length))*eM (A.b.map (nU A B)++B.b.map (nV A B)) i d) (A.b.length+B.b)=bW (fun i=>k i*eM (A.b.map (nU A B)) i d) A.b+bW (fun i=>l i*eM (B.b.map (nV A B)) i d) B.b:=fun d=>by
   rw[split];congr 1
   .exact bF fun i hi=>by rw[ak hi]
   .exact bF fun i _=>by rw[aj Qu,iY]
  refine⟨fun i=>if i<A.b.length then k i else l (i-A.b.length),fun d hd=>?_⟩;dsimp only;rw[J];by_cases c1:d<A.l
  .have:=G d Qu;dsimp only at this;rw[ak c1]at this;rw[bF (f:=fun i=>k i*eM (A.b.map (nU A B)) i d) (g:=fun i=>k i*eM A.b i d) (fun i hi=>by rw[h i d hi,ak c1]),gQ (f:=fun i=>l i*eM (B.b.map (nV A B)) i d) (fun i hi=>by rw[D i d hi,ak c1,jh]),ux];exact this
  by_cases c2:d<A.l+B.l
  .have:=hl (d-A.l) Qu;dsimp only at this;rw[ak Qu,show A.l+(d-A.l)=d by omega]at this;rw[gQ (f:=fun i=>k i*eM (A.b.map (nU A B)) i d) (fun i hi=>by rw[h i _ hi,aj c1,ak c2,jh]),bF (f:=fun i=>l i*eM (B.b.map (nV A B)) i d) (g:=fun i=>l i*eM B.b i (d-A.l)) (fun i hi=>by rw[D i _ hi,aj c1,ak c2]),uQ];exact this
  by_cases H:d<A.l+B.l+A.r
  .have:=G (A.l+(d-(A.l+B.l))) Qu;dsimp only at this;rw[aj Qu,show A.l+B.l+(A.l+(d-(A.l+B.l))-A.l)=d by omega]at this;rw[bF (f:=fun i=>k i*eM (A.b.map (nU A B)) i d) (g:=fun i=>k i*eM A.b i (A.l+(d-(A.l+B.l)))) (fun i hi=>by rw[h i _ hi,aj c1,aj c2,ak H]),gQ (f:=fun i=>l i*eM (B.b.map (nV A B)) i d) (fun i hi=>by rw[D i d hi,aj c1,aj c2,ak H,jh]),ux];exact this
  .have:=hl (B.l+(d-(A.l+B.l+A.r))) Qu;dsimp only at this;rw[aj Qu,show A.l+B.l+A.r+(B.l+(d-(A.l+B.l+A.r))-B.l)=d by omega]at this;rw[gQ (f:=fun i=>k i*eM (A.b.map (nU A B)) i d) (fun i hi=>by rw[h i _ hi,aj c1,aj c2,aj H,jh]),bF (f:=fun i=>l i*eM (B.b.map (nV A B)) i d) (g:=fun i=>l i*eM B.b i (B.l+(d-(A.l+B.l+A.r)))) (fun i hi=>by rw[D i _ hi,aj c1,aj c2,aj H]),uQ];exact this
def zD(h:∀r∈M,r.length=n/\∀x∈r,0<=x/\x<p):eV p M n M:=by
 refine⟨rfl,fun i hi=>(h _ (mZ hi)).1,fun i d hi H=>?_⟩;obtain⟨F,G⟩:=h _ (mZ hi);unfold eM;have D:d < (M.getD i []).length:=by rw[F];exact H
 rw[bf (l:=M.getD i []),di D];exact G _ (xk D)
def d_(k v:Int):List (List Int):=if k=3 then[[1,1,1]] else if k=4 then[[1]] else if k=5 then[[1,0,1],[0,1,1]] else if k=7 then[[1,v]] else[]
def xz(k:Int):Nat:=if k=5 then 2 else if k=6 then 0 else 1
def mf(k:Int):Nat:=if k=3 then 2 else if k=4 then 0 else 1
def zjo(p k v:Int)(z:Nat->Int):Prop:=
 if k=3 then p∣z 1-z 0/\p∣z 2-z 0 else if k=5 then p∣z 2-(z 0+z 1) else if k=6 then p∣z 0 else if k=7 then p∣z 1-v*z 0 else True
def FD(p k v:Int):Prop:=3<=k/\k<=7/\(k=7->0<=v/\v<p)
def FD.cases{k v}(h:FD p k v):k=3∨k=4∨k=5∨k=6∨k=7:=by obtain⟨D,F,_⟩:=h;omega
def Cd{k v}(F:2<=p)(h:FD p k v):eV p (d_ k v) (xz k+mf k) (d_ k v):=by
 refine zD ?_;have D:=h.2.2;rcases h.cases with rfl|rfl|rfl|rfl|rfl
 .intro r hr;simp only[d_,ak,kD]at hr;subst hr;refine⟨rfl,fun x hx=>?_⟩;simp at hx;omega
 .intro r hr;exact Xc
 .intro r hr;simp[d_]at hr;exact XD
 .intro r hr;simp[d_]at hr
 .intro r hr;have D:=D rfl;exact Xc
def zjp{k v}(h:FD p k v)z:ij p (d_ k v) (xz k+mf k) (d_ k v) z↔zjo p k v z:=by
 rcases h.cases with rfl|rfl|rfl|rfl|rfl
 .constructor
  .rintro⟨k,D⟩;have h0:=D 0 Qw;have h1:=D 1 Qw;have F:=D 2 Qw;simp[d_,bW,eM]at h0 h1 F;refine⟨?_,?_⟩
   .exact X4
   .have:=eY F h0;rwa[show ∀a b c:Int,a-c-(b-c)=a-b from fun a b c=>Qu]at this
  .rintro⟨h1,F⟩;refine⟨z,fun d hd=>?_⟩;have hd:d=0∨d=1∨d=2:=TG;rcases hd with rfl|rfl|rfl<;>simp[d_,bW,eM]<;>assumption
 .refine⟨fun _=>by simp[zjo],fun _=>⟨z,fun d hd=>?_⟩⟩;have hd:d=0:=TG;subst hd;simp[d_,bW,eM]
 .constructor
  .rintro⟨k,D⟩;have h0:=D 0 Qw;have h1:=D 1 Qw;have F:=D 2 Qw;simp[d_,bW,eM]at h0 h1 F;have:=eY (eY F h0) h1
   show p∣z 2-(z 0+z 1)
   rwa[show ∀a b c x y:Int,c-(x+y)-(a-x)-(b-y)=c-(a+b) from fun a b c x y=>Qu]at this
  .intro h;have h:p∣z 2-(z 0+z 1):=h;refine⟨z,fun d hd=>?_⟩;have hd:d=0∨d=1∨d=2:=TG;rcases hd with rfl|rfl|rfl<;>simp[d_,bW,eM]
   exact h
 .constructor
  .rintro⟨k,D⟩;have h0:=D 0 Qw;simp[d_,bW]at h0;exact h0
  .intro h;have h:p∣z 0:=h;refine⟨z,fun d hd=>?_⟩;have hd:d=0:=TG;subst hd;simpa[d_,bW]using h
 .constructor
  .rintro⟨k,D⟩;have h0:=D 0 Qw;have h1:=D 1 Qw;simp[d_,bW,eM]at h0 h1
   show p∣z 1-v*z 0
   have:=eY h1 (qd (b:=v) h0);rwa[oE,gU v (k 0),show ∀a b c:Int,a-c-(b-c)=a-b from fun a b c=>Qu]at this
  .intro h;have h:p∣z 1-v*z 0:=h;refine⟨z,fun d hd=>?_⟩;have hd:d=0∨d=1:=TG;rcases hd with rfl|rfl<;>simp[d_,bW,eM]
   rwa[gU]
def mg(n:Nat):List (List Int):=(zK n).map fun r=>r++r
def ED(F:2<=p):eV p n (n+n) (mg n)/\∀i d,i<n->d<n+n->eM (mg n) i d=if d<n then(if d=i then 1 else 0) else if d-n=i then 1 else 0:=by
 have s:=yG (p:=p) (n:=n) F;have H:∀i d,i<n->d<n+n->eM (mg n) i d=if d<n then(if d=i then 1 else 0) else if d-n=i then 1 else 0:=fun i d hi G=>by
  unfold mg;rw[qs Qs,kf,s.2.1 i hi];by_cases h:d<n
  .rw[ak h,ak h];exact yF hi h
  .rw[aj h,aj h];exact yF hi Qu
 refine⟨eV.yP s fun r D=>?_,H⟩;have I:=s.row r D;refine⟨by rw[bm,I],fun d G=>?_⟩;rw[kf];split
 .exact s.vY D Qu
 .exact s.vY D Qu
def idR(n:Nat):Rl:=⟨n,n,mg n⟩
def zkH(h:2<=p)n:(idR n).eV p:=sI (ED h).1
def zkI(F:2<=p)n:(idR n).Red p:=by
 have⟨s,h⟩:=ED (n:=n) F;unfold Rl.Red idR;dsimp only;rw[s.1];refine CM (l:=fun i=>i) s ⟨fun i c hi D=>s.2.2 i c hi D,fun i hi=>Qu,fun i j G _=>G,fun i hi=>?_,fun i c hi D=>?_,fun i j hi H I=>?_⟩
 .rw[h i i hi Qu,ak hi,ak rfl]
 .rw[h i c hi Qu,ak Qu,aj Qu]
 .rw[h i j hi Qu,ak H,aj Qu]
def zjq(O:2<=p)z:(idR n).Sp p z↔∀d,d<n->p∣z (n+d)-z d:=by
 have⟨s,D⟩:=ED (n:=n) O;have F:∀(k:Nat->Int) d,d<n->bW (fun i=>k i*eM (mg n) i d) n=k d/\bW (fun i=>k i*eM (mg n) i (n+d)) n=k d:=fun k d h=>by
  refine⟨?_,?_⟩
  .rw[iC h (fun c G I=>by rw[D c d G Qu,ak h,aj (k_ I),jh]),D d d h Qu,ak h,ak rfl,r_]
  .rw[iC h (fun c G I=>by rw[D c _ G Qu,aj Qu,aj Qu,jh]),D d _ h Qu,aj Qu,ak Qu,r_]
 unfold Rl.Sp idR;dsimp only;rw[s.1];constructor
 .rintro⟨k,H⟩ d h;have h0:=H d Qu;have h1:=H (n+d) Qu;rw[(F k d h).1]at h0;rw[(F k d h).2]at h1;exact X4
 .intro J;refine⟨z,fun d h=>?_⟩;by_cases T:d<n
  .rw[(F z d T).1];exact⟨0,Qu⟩
  .obtain⟨t,rfl⟩:∃t,d=n+t:=⟨d-n,Qu⟩;rw[(F z t Qu).2];exact J t Qu
def swR(p:Int):Rl:=vc p 2 2 [[1,0,0,1],[0,1,1,0]]
def zjr(J:bV p=true):(swR p).Ok p/\∀z,(swR p).Sp p z↔p∣z 2-z 1/\p∣z 3-z 0:=by
 have U:=(cv J).1;have s:eV p 2 (2+2) [[1,0,0,1],[0,1,1,0]]:=zD (M:=[[1,0,0,1],[0,1,1,0]]) fun r hr=>by simp at hr;exact XD
 have⟨O,T⟩:=wg (l:=2) (r:=2) J s;refine⟨O,fun z=>(T z).t ?_⟩;constructor
 .rintro⟨k,F⟩;have G:=F 0 Qw;have h:=F 1 Qw;have D:=F 2 Qw;have H:=F 3 Qw;simp[bW,eM]at G h D H;refine⟨?_,?_⟩
  .have:=eY D h;rwa[show ∀a b c:Int,a-c-(b-c)=a-b from fun a b c=>Qu]at this
  .have:=eY H G;rwa[show ∀a b c:Int,a-c-(b-c)=a-b from fun a b c=>Qu]at this
 .rintro⟨h,D⟩;refine⟨z,fun d I=>?_⟩;have I:d=0∨d=1∨d=2∨d=3:=Qu;rcases I with rfl|rfl|rfl|rfl<;>simp[bW,eM]
  .exact h
  .exact D
def zdH(p k v:Int):Rl:=vc p (xz k) (mf k) (d_ k v)
def rm(p:Int)(n:Nd):Rl:=
 if n.k=1 then idR n.v.toNat else if n.k=2 then swR p else if 9<=n.k then za5 p (zdH p (n.k-6) n.v) else zdH p n.k n.v
def s_(p:Int)(n:Nd):Prop:=dI n=true/\n.k≠8/\n.k≠14/\(n.k=7∨n.k=13->n.v<p)
def s_.gen{n}(F:s_ p n)(G:n.k≠1)(J:n.k≠2):if 9<=n.k then FD p (n.k-6) n.v else FD p n.k n.v:=by
 obtain⟨h,O,I,H⟩:=F;unfold dI at h;rw[bN]at h;have h:=h.2;rw[aj G]at h;by_cases D:n.k=7∨n.k=13
 .rw[ak D]at h;simp only[bN,cf]at h;have:=H D;unfold FD;split<;>omega
 .rw[aj D]at h;simp only[bN,cf]at h;unfold FD;split<;>omega
def EE{a}{k v}z:Gr.M p ⟨a+b,[⟨k,v,List.range a,(List.range b).map (· +a)⟩],List.range a,(List.range b).map (· +a)⟩ z↔Ed.Ok p ⟨k,v,List.range a,(List.range b).map (· +a)⟩ z:=by
 unfold Gr.M Gr.Fh;dsimp only;constructor
 .rintro⟨f,F,G,H⟩;refine(Ed.zfZ fun x hx=>?_).1 (F _ (kD.2 rfl));have J:p∣z x-f x:=by
   rcases hx with hx|hx
   .have:=fj.1 hx;exact G x x (iy this)
   .obtain⟨y,h,rfl⟩:=cH.1 hx;have h:=fj.1 h;have:=H y (y+a) (by rw[bI,iy h];rfl);dsimp only at this;rwa[fK,uI]at this
  have:=xl.2 J;rwa[Int.neg_sub]at this
 .intro D;refine⟨z,fun e I=>by rw[kD.1 I];exact D,fun j x hx=>?_,fun j x hx=>?_⟩
  .exact Wz
  .obtain⟨hj,rfl⟩:=bG.1 hx;rw[List.getElem_map,Dh,fK,uI];exact⟨0,Qt⟩
def zbF{k v}(D:bV p=true)(h:FD p k v):(zdH p k v).Ok p/\∀z,(zdH p k v).Sp p z↔zjo p k v z:=by have⟨F,G⟩:=wg (l:=xz k) (r:=mf k) D (Cd (cv D).1 h);exact⟨F,fun z=>(G z).t (zjp h z)⟩
def CN{n}(H:bV p=true)(Y:s_ p n):(rm p n).l=pC n/\(rm p n).r=sC n/\(rm p n).Ok p/\∀z,(rm p n).Sp p z↔(fv n).M p z:=by
 have Z:=(cv H).1;obtain⟨k,v,e⟩:=n;have h:=Y.gen;unfold rm fv;dsimp only at h ⊢;by_cases D:k=1
 .subst D;rw[ak rfl,ak rfl];refine⟨rfl,rfl,⟨zkH Z _,zkI Z _⟩,fun z=>(zjq Z z).t ?_⟩;unfold Gr.M Gr.Fh;dsimp only;rw[fK];constructor
  .intro Y;refine⟨z,fun e ab=>by simp at ab,fun j x hx=>?_,fun j x hx=>?_⟩
   .exact Wz
   .obtain⟨hj,rfl⟩:=bG.1 hx;rw[fK]at hj;rw[Dh];exact Y j hj
  .rintro⟨f,_,F,G⟩ d ah;have T:=F d d (iy ah);have an:=G d d (iy ah);have:=eY an T;rwa[show ∀a b c:Int,a-c-(b-c)=a-b from fun a b c=>Qu]at this
 by_cases I:k=2
 .subst I;rw[aj D,aj D,ak rfl,ak rfl];refine⟨rfl,rfl,(zjr H).1,fun z=>((zjr H).2 z).t ?_⟩;unfold Gr.M Gr.Fh;dsimp only;constructor
  .rintro⟨F,G⟩;refine⟨z,fun e ab=>by simp at ab,fun j x hx=>?_,fun j x hx=>?_⟩
   .rcases j with _|_|j<;>simp at hx<;>subst hx<;>exact⟨0,Qt⟩
   .rcases j with _|_|j<;>simp at hx<;>subst hx
    .exact F
    .exact G
  .rintro⟨f,_,F,G⟩;have am:=F 0 0 rfl;have T:=F 1 1 rfl;have ac:=G 0 1 rfl;have ad:=G 1 0 rfl;simp at ac ad;refine⟨?_,?_⟩
   .have:=eY ac T;rwa[show ∀a b c:Int,a-c-(b-c)=a-b from fun a b c=>Qu]at this
   .have:=eY ad am;rwa[show ∀a b c:Int,a-c-(b-c)=a-b from fun a b c=>Qu]at this
 have h:=h D I;rw[aj D,aj I,aj D,aj I];by_cases J:9<=k
 .rw[ak J]at h ⊢;have⟨U,O⟩:=zbF H h;have⟨c1,c2⟩:=zfq H U.Η;obtain⟨m,rfl⟩:∃m,k=m+6:=⟨k-6,Qu⟩;rw[show m+6-6=m by omega]at h O c1 c2 ⊢;have hc:=h.cases;refine⟨?_,?_,c1,fun z=>((c2 z).t (O _)).t ?_⟩
  .show mf m=_
   exact Ws
  .show xz m=_
   exact Ws
  .rw[EE];unfold Ed.Ok;rw[ak J];rcases hc with rfl|rfl|rfl|rfl|rfl<;>simp[zi,zjo,pC,sC,zdH,vc,xz,mf,nk]
 .rw[aj J]at h ⊢;have⟨U,O⟩:=zbF H h;have hc:=h.cases;refine⟨?_,?_,U,fun z=>(O z).t ?_⟩
  .show xz k=_
   exact Ws
  .show mf k=_
   exact Ws
  .rw[EE];unfold Ed.Ok;rw[aj J];rcases hc with rfl|rfl|rfl|rfl|rfl<;>simp[zi,zjo,pC,sC,nk]
def Tm.rel(p:Int):Tm->Rl
 |.lf n=>rm p n
 |.op k a b=>if k=15 then DF p (a.rel p) (b.rel p) else EW p (a.rel p) (b.rel p)
def Tm.pf(p:Int):Tm->Prop
 |.lf n=>s_ p n
 |.op _ a b=>a.pf p/\b.pf p
def zgb(O:g.In)(U:∀q∈ps,q.1<g.w/\q.2<g.w):(js g ps).In:=by
 have T:l9 g.w (jF g.w ps):=Ef ps _ (qx g.w) U;intro x F;have G:∀y,g.On y->(lG g (jF g.w ps)).idxOf ((jF g.w ps).getD y 0) < (lG g (jF g.w ps)).length:=fun y h=>List.idxOf_lt_length_of_mem (Eg T O h)
 unfold js Gr.map at F ⊢;dsimp only at F ⊢;rcases F with D|D|⟨e,J,F⟩
 .obtain⟨y,h,rfl⟩:=cH.1 D;exact G y (ay h)
 .obtain⟨y,h,rfl⟩:=cH.1 D;exact G y (au (ay h))
 .obtain⟨H,I,rfl⟩:=cH.1 J;unfold Ed.map at F;rcases F with D|D
  .obtain⟨y,h,rfl⟩:=cH.1 D;exact G y (au (au ⟨H,I,ay h⟩))
  .obtain⟨y,h,rfl⟩:=cH.1 D;exact G y (au (au ⟨H,I,au h⟩))
def zdI n:(fv n).In:=by
 unfold fv;split
 .rintro x (h|h|⟨e,F,_⟩)
  .exact fj.1 h
  .exact fj.1 h
  .simp at F
 split
 .rintro x (h|h|⟨e,F,_⟩)
  .simp at h;dsimp only;omega
  .simp at h;dsimp only;omega
  .simp at F
 .have hi:∀x,x∈List.range (pC n)->x<pC n+sC n:=fun x D=>by have:=fj.1 D;omega
  have G:∀x,x∈(List.range (sC n)).map (· +pC n)->x<pC n+sC n:=fun x D=>by obtain⟨y,H,rfl⟩:=cH.1 D;have:=fj.1 H;omega
  rintro x (h|h|⟨e,F,D⟩)
  .exact hi x h
  .exact G x h
  .rw[kD.1 F]at D;exact D.elim (hi x) (G x)
def zaT n(h:dI n=true):(fv n).i.length=pC n/\(fv n).o.length=sC n:=by
 unfold fv pC sC;split
 .simp
 split
 .simp
 .simp[pC,sC, *]
def Tm.qF:∀{t:Tm} {c:g_},t.ty=some c->t.gr.In/\t.gr.i.length=c.1/\t.gr.o.length=c.2
 |.lf n,c,F=>by
  unfold Tm.ty at F;split at F
  .rename_i O;simp only[dW]at F;subst F;exact⟨zdI n,zaT n O⟩
  .cases F
 |.op k a b,c,F=>by
  have⟨x,y,ah,O,D⟩:=Tm.qE F;have⟨I,T,Z⟩:=Tm.qF ah;have⟨J,ab,U⟩:=Tm.qF O;unfold Tm.gr;unfold gP at D;by_cases e:k=15
  .rw[ak e]at D ⊢;split at D
   .rename_i am;simp only[dW]at D;subst D;refine⟨zgb (sU I J (fun z h=>by have:=I z (ay h);omega) (fun z h=>by
     obtain⟨H,G,rfl⟩:=cH.1 h;have:=J H (au (ay G));omega)) (fun q Y=>by
     have ac:=(pS Y).1;have ad:=(pS Y).2;obtain⟨H,G,e⟩:=cH.1 ad;have:=I _ (au (ay ac));have:=J H (ay G);dsimp only;omega),?_,?_⟩
    .show(List.map _ a.gr.i).length=_
     rw[bs];exact T
    .show(List.map _ (List.map _ b.gr.o)).length=_
     rw[bs,bs];exact U
   .cases D
  .rw[aj e]at D ⊢;split at D
   .split at D
    .simp only[dW]at D;subst D;unfold ls;refine⟨sU I J (fun z h=>?_) (fun z h=>?_),by dsimp only;rw[bm,bs,T,ab],by dsimp only;rw[bm,bs,Z,U]⟩
     .rcases dP.1 h with h|h
      .have:=I z (ay h);omega
      .obtain⟨H,G,rfl⟩:=cH.1 h;have:=J H (ay G);omega
     .rcases dP.1 h with h|h
      .have:=I z (au (ay h));omega
      .obtain⟨H,G,rfl⟩:=cH.1 h;have:=J H (au (ay G));omega
    .cases D
   .cases D
def Tm.tN{p}(F:bV p=true):∀{t:Tm} {c:g_},t.ty=some c->t.pf p->(t.rel p).l=c.1/\(t.rel p).r=c.2/\(t.rel p).Ok p/\∀z,(t.rel p).Sp p z↔t.gr.M p z
 |.lf n,c,D,I=>by
  unfold Tm.ty at D;split at D
  .simp only[dW]at D;subst D;exact CN F I
  .cases D
 |.op k a b,c,D,I=>by
  have⟨x,y,ap,av,h⟩:=Tm.qE D;have⟨G,J,Y,Z⟩:=Tm.tN F ap I.1;have⟨H,ab,ac,ad⟩:=Tm.tN F av I.2;have⟨ah,am,an⟩:=Tm.qF ap;have⟨ao,O,a1⟩:=Tm.qF av;unfold Tm.gr Tm.rel;unfold gP at h;by_cases e:k=15
  .rw[ak e]at h;rw[ak e,ak e];split at h
   .rename_i a0;simp only[dW]at h;subst h;have⟨T,U⟩:=zex F Y.Η ac.Η (by rw[J,H];exact a0);refine⟨G,ab,T,fun z=>(U z).t ?_⟩;rw[zky ah ao (by rw[an,O];exact a0),G,H,am,O];exact exists_congr fun w=>and_congr (Z _) (ad _)
   .cases h
  .rw[aj e]at h;rw[aj e,aj e];split at h
   .split at h
    .simp only[dW]at h;subst h;have⟨T,U⟩:=zft F Y.Η ac.Η;refine⟨by show(a.rel p).l+(b.rel p).l=_;rw[G,H],by show(a.rel p).r+(b.rel p).r=_;rw[J,ab],T,fun z=>(U z).t ?_⟩;rw[zkz ah ao,G,J,H,am,an,O];exact and_congr (Z _) (ad _)
    .cases h
   .cases h
def Ad{B}{l}(F:mi p n r (eM B) l)v:ij p r n B v↔∀d,d<n->p∣v d-bW (fun i=>v (l i)*eM B i d) r:=by
 constructor
 .rintro⟨k,H⟩;have O:∀j,j<r->p∣k j-v (l j):=fun j D=>by have h:=H (l j) (F.ln j D);rw[iC D (fun c G T=>by rw[F.Å c j G D T,jh]),F.ψ j D,r_]at h;have:=xl.2 h;rwa[Int.neg_sub]at this
  intro d J;have h:=H d J;have I:p∣bW (fun i=>k i*eM B i d) r-bW (fun i=>v (l i)*eM B i d) r:=eN fun c G=>by rw[<-mz];exact Dl (O c G)
  have:=ir h I;rwa[show ∀a b c:Int,a-b+(b-c)=a-c from fun a b c=>Qu]at this
 .intro h;exact⟨fun i=>v (l i),h⟩
def xC(p:Int)(B:aP)(v:aL):Nat->List Int
 |0=>v
 |i+1=>dw p (-((xC p B v i).getD (ew (B.getD i [])) 0)) (xC p B v i) (B.getD i [])
def zjX{p}{n r}{B}{v}(O:2<=p)(s:eV p r n B)(h:mi p n r (eM B) (nw B))(J:v.length=n)(H:∀d,d<n->0<=v.getD d 0/\v.getD d 0<p):∀i,i<=r->(xC p B v i).length=n/\∀d,d<n->(0<=(xC p B v i).getD d 0/\(xC p B v i).getD d 0<p)/\p∣(xC p B v i).getD d 0-(v.getD d 0-bW (fun j=>v.getD (nw B j) 0*eM B j d) i)
 |0,_=>⟨J,fun d hd=>⟨H d hd,⟨0,by simp[xC,bW]⟩⟩⟩
 |i+1,hi=>by
  have⟨e1,F⟩:=zjX O s h J H i Qu;have I:(B.getD i []).length=n:=s.2.1 i Qu;have ab:nw B i<n:=h.ln i Qu;have U:p∣(xC p B v i).getD (nw B i) 0-v.getD (nw B i) 0:=by have:=(F _ ab).2;rwa[gQ (fun c ac=>by rw[h.Å c i Qu Qu Qu,jh]),AK]at this
  unfold xC;refine⟨by rw[mD,e1,I,rX],fun d hd=>?_⟩;rw[tI (by rw[e1,I]) RO];refine⟨⟨gV _ Qu,gW _ Qu⟩,?_⟩;have D:=lI ((xC p B v i).getD d 0 + -(xC p B v i).getD (ew (B.getD i [])) 0*(B.getD i []).getD d 0) p;have T:=(F d hd).2;have G:p∣((xC p B v i).getD (nw B i) 0-v.getD (nw B i) 0)*eM B i d:=Dl U;rw[bW];have Z:ew (B.getD i [])=nw B i:=rfl;have Y:(B.getD i []).getD d 0=eM B i d:=rfl;rw[Z,Y]at D ⊢;rw[mz]at G;rw[Int.neg_mul]at D ⊢;have:=eY (ir D T) G;rwa[show ∀m y b v s c:Int,m-(y + -b)+(y-(v-s))-(b-c)=m-(v-(s+c)) from fun m y b v s c=>Qu]at this
def BN(p:Int)(B:aP)(v:aL):Bool:=decide (ew (xC p B v B.length)=v.length)
def zb2(p:Int)(B:aP)(v:aL):Bool:=decide (fY p (B.map fun b=>v.getD (ew b) 0) B v B=v)
def vW:ew xs=xs.length↔∀d,d<xs.length->xs.getD d 0=0:=by
 constructor
 .intro D d H;rw[bf,rn (by rw[D];exact H)];rfl
 .intro D;rcases xp (ew xs) xs with h|h
  .have⟨x,G⟩:=aq h;have F:=D _ h;rw[bf,G]at F;exact absurd F (wM G)
  .exact Nat.le_antisymm (BE xs) h
def Ff{B}{v}(H:2<=p)(s:eV p r n B)(h:mi p n r (eM B) (nw B))(F:v.length=n)(I:∀d,d<n->0<=v.getD d 0/\v.getD d 0<p):BN p B v=true↔ij p r n B (fun d=>v.getD d 0):=by
 unfold BN;have⟨D,G⟩:=zjX H s h F I r (ae _);rw[cf,s.1,show ew (xC p B v r)=v.length↔ew (xC p B v r)=(xC p B v r).length by rw[D,F],vW,D,Ad h];refine lg fun d=>lg fun J=>?_
 obtain⟨b,O⟩:=G d J;rw[<-jW O];constructor
 .intro h;rw[h];exact⟨0,Qt⟩
 .intro h;have:=zcl h;rwa[nq b.1 b.2]at this
def zjY{B}{v}(T:2<=p)(s:eV p r n B)(O:mi p n r (eM B) (nw B))(ac:v.length=n)(Z:∀d,d<n->0<=v.getD d 0/\v.getD d 0<p):zb2 p B v=true↔ij p r n B (fun d=>v.getD d 0):=by
 unfold zb2;rw[cf,Ad O,s.1,ac];have an:(fY p (B.map fun b=>v.getD (ew b) 0) B n r).length=n:=kN s.2.1 _ (ae _);have J:∀d,d<n->p∣(fY p (B.map fun b=>v.getD (ew b) 0) B n r).getD d 0-bW (fun i=>v.getD (nw B i) 0*eM B i d) r/\0<=(fY p (B.map fun b=>v.getD (ew b) 0) B n r).getD d 0/\(fY p (B.map fun b=>v.getD (ew b) 0) B n r).getD d 0<p:=fun d h=>by
  have:=qU (c:=B.map fun b=>v.getD (ew b) 0) T s.2.1 h r (ae _);have e:eu (fun j=>(B.map fun b=>v.getD (ew b) 0).getD j 0) B r d=bW (fun i=>v.getD (nw B i) 0*eM B i d) r:=by
   unfold eu;refine bF fun i hi=>?_
   have hi':i<B.length:=by rw[s.1];exact hi
   unfold nw;dsimp only;rw[bf (l:=List.map _ _),bI,di hi',bf (l:=B),di hi'];rfl
  rwa[e]at this
 constructor
 .intro e d h;have:=(J d h).1;rwa[e]at this
 .intro ab;refine gk fun d=>?_
  by_cases h:d<n
  .have⟨x,H⟩:=aq (Qu:d < (fY p (B.map fun b=>v.getD (ew b) 0) B n r).length);have⟨y,I⟩:=aq (Qu:d<v.length);have D:=J d h;have G:=ab d h;have F:=Z d h;rw[bf (l:=fY _ _ _ _ _),H]at D;rw[bf (l:=v) (i:=d),I]at G F;simp only[xd]at D G F;rw[H,I];have U:p∣y-x:=by
    have:=eY G D.1;have e:∀S:Int,y-S-(x-S)=y-x:=fun S=>Qu
    rwa[e]at this
   obtain⟨q,ao⟩:=U;have:y=x:=by
    have ad:=nq F.1 F.2;have ah:=nq D.2.1 D.2.2;have Y:y=x+p*q:=Qu;have am:y%p=x%p:=by rw[Y,zcb]
    omega
   rw[this]
  .rw[eP Qu,eP Qu]
def vS(p:Int):List (Nat×Int)->List Int->List Int
 |[],r=>r
 |q::L,r=>vS p L (r.set q.1 ((r.getD q.1 0+q.2)%p))
def iD:List (Nat×Int)->Nat->Int
 |[],_=>0
 |q::L,d=>(if q.1=d then q.2 else 0)+iD L d
def qP:List (Nat×Int)->(Nat->Int)->Int
 |[],_=>0
 |q::L,f=>q.2*f q.1+qP L f
def E6 q L d:iD (q::L) d=(if q.1=d then q.2 else 0)+iD L d:=rfl
def zh0 q L f:qP (q::L) f=q.2*f q.1+qP L f:=rfl
def iE(p:Int)(n:Nat)(L:iH):List Int:=vS p L (List.replicate n 0)
def Ch{r:aL}{a}{x}(ha:a<r.length):(r.set a x).getD d 0=if a=d then x else r.getD d 0:=XR
def zd3{p}{n}(U:2<=p):∀(L:iH) (r:aL),r.length=n->(∀d,d<n->0<=r.getD d 0/\r.getD d 0<p)->(∀q∈L,q.1<n)->(vS p L r).length=n/\∀d,d<n->(vS p L r).getD d 0=(r.getD d 0+iD L d)%p
 |[],r,F,D,_=>⟨F,fun d h=>by unfold vS iD;rw[ux,nq (D d h).1 (D d h).2]⟩
 |q::L,r,F,D,H=>by
  have Z:=H q (kb ..);have G:∀d,(r.set q.1 ((r.getD q.1 0+q.2)%p)).getD d 0=if q.1=d then(r.getD q.1 0+q.2)%p else r.getD d 0:=fun d=>Ch Qu
  have⟨I,J⟩:=zd3 U L (r.set q.1 ((r.getD q.1 0+q.2)%p)) (by rw[iW];exact F) (fun d h=>by
   rw[G];split
   .exact Wj
   .exact D d h) (fun Y T=>H Y (kC _ T))
  refine⟨I,fun d h=>(J d h).t ?_⟩;rw[G,E6];split
  .rename_i O;subst O;rw[Int.emod_add_emod];congr 1
   omega
  .rw[uQ]
def sD{L}(H:2<=p)(I:∀q∈L,q.1<n):(iE p n L).length=n/\∀d,d<n->(iE p n L).getD d 0=iD L d%p:=by
 have D:∀d,d<n->(List.replicate n (0:Int)).getD d 0=0:=fun d h=>by rw[bf,fI,ak h];rfl
 have⟨F,G⟩:=zd3 (n:=n) H L (List.replicate n 0) Qt (fun d h=>by rw[D d h];omega) I;refine⟨F,fun d h=>(G d h).t ?_⟩;rw[D d h,uQ]
def za_{n}{f}:∀(L:iH),(∀q∈L,q.1<n)->bW (fun d=>iD L d*f d) n=qP L f
 |[],_=>by unfold qP;exact gQ fun c _=>by unfold iD;rw[np]
 |q::L,h=>by
  unfold qP;rw[<-za_ L fun G D=>h G (kC _ D)];rw[bF (g:=fun d=>(if q.1=d then q.2 else 0)*f d+iD L d*f d) (fun c _=>by rw[iD,Int.add_mul]),kI];congr 1
  rw[iC (h q (kb ..)) (fun c _ F=>by rw[aj (fun e=>F e.q),np]),ak rfl]
def zd4{L}(D:2<=p)(h:∀q∈L,q.1<n)f:p∣bW (fun d=>(iE p n L).getD d 0*f d) n-qP L f:=by
 rw[<-za_ L h];refine eN fun d F=>?_
 rw[(sD D h).2 d F,<-mz];exact Dl (lI _ _)
def BK(p k v:Int)(i o:bP):List (List (Nat×Int)):=
 if k=3 then[[(o.getD 0 0,1),(i.getD 0 0,p-1)],[(o.getD 1 0,1),(i.getD 0 0,p-1)]]
 else if k=5 then[[(o.getD 0 0,1),(i.getD 0 0,p-1),(i.getD 1 0,p-1)]]
 else if k=6 then[[(o.getD 0 0,1)]]
 else if k=7 then[[(o.getD 0 0,1),(i.getD 0 0,(p-v)%p)]]
 else[]
def Ed.G(p:Int)(e:Ed):List (List (Nat×Int)):=if 9<=e.k then BK p (e.k-6) e.v e.o e.i else BK p e.k e.v e.i e.o
def ς(h:j<l.length):(l.map f).getD j 0=f (l.getD j 0):=by have⟨x,D⟩:=aq h;rw[bf,bI,bf,D];rfl
def zV{a b}q(h:a-b=p*q):p∣a↔p∣b:=jW ⟨q,h⟩
def zgp{k v}{i o}(hi:xz k<=i.length)(h:mf k<=o.length):zi p k v (i.map f) (o.map f)↔∀L∈BK p k v i o,p∣qP L f:=by
 unfold zi BK;by_cases F:k=3
 .subst F;rw[ak rfl,ak rfl];have J:1<=i.length:=hi;have D:2<=o.length:=h;rw[ς Qu,ς Qu,ς Qu];simp only[et,gJ,gX,forall_eq_or_imp,forall_eq,qP];refine and_congr (zV (-f (i.getD 0 0)) ?_) (zV (-f (i.getD 0 0)) ?_)<;>rw[mz]<;>rw[AL]<;>omega
 rw[aj F,aj F];by_cases G:k=5
 .subst G;rw[ak rfl,ak rfl];have J:2<=i.length:=hi;have D:1<=o.length:=h;rw[ς Qu,ς Qu,ς Qu];simp only[et,gJ,gX,forall_eq,qP];refine zV (-f (i.getD 0 0) + -f (i.getD 1 0)) ?_;rw[mz,mz,Aq,AL,AL];omega
 rw[aj G,aj G];by_cases H:k=6
 .subst H;rw[ak rfl,ak rfl];have D:1<=o.length:=h;rw[ς Qu];simp only[et,gJ,gX,forall_eq,qP];exact zV 0 Qu
 rw[aj H,aj H];by_cases I:k=7
 .subst I;rw[ak rfl,ak rfl];have J:1<=i.length:=hi;have D:1<=o.length:=h;rw[ς Qu,ς Qu];simp only[et,gJ,gX,forall_eq,qP];refine jW ?_;have:p∣((p-v)%p-(p-v))*f (i.getD 0 0):=Dl (lI (p-v) p);have O:p∣p*f (i.getD 0 0):=⟨_,rfl⟩;have:=xl.2 (ir this O);rw[mz,mz]at this;rwa[show ∀a b m q:Int,a-b-(1*a+(m+0))=-(m-(q-b)+q) from fun a b m q=>Qu]
 .rw[aj I,aj I];simp
def tf(D:e.jd=true):3<=e.k/\e.k<=14/\e.i.length=pC ⟨e.k,e.v,true⟩/\e.o.length=sC ⟨e.k,e.v,true⟩:=by
 unfold Ed.jd at D;simp only[bN,cf]at D;obtain⟨h,F,hi,G⟩:=D;refine⟨F,?_,hi,G⟩;unfold dI at h;simp only[xm]at h;rw[aj Qu]at h;split at h
 .omega
 .simp only[bN,cf]at h;omega
def zkR{k v}{b}(h:3<=k)(D:k<=8):pC ⟨k,v,b⟩=xz k/\sC ⟨k,v,b⟩=mf k/\pC ⟨k+6,v,b⟩=mf k/\sC ⟨k+6,v,b⟩=xz k:=by have:k=3∨k=4∨k=5∨k=6∨k=7∨k=8:=Qu;rcases this with rfl|rfl|rfl|rfl|rfl|rfl<;>exact⟨rfl,rfl,rfl,rfl⟩
def Ed.zgq(h:e.jd=true):e.Ok p f↔∀L∈e.G p,p∣qP L f:=by
 have⟨F,G,h3,h4⟩:=tf h;unfold Ed.Ok Ed.G;split
 .rename_i D;have⟨_,_,g1,g2⟩:=zkR (k:=e.k-6) (v:=e.v) (b:=true) Qu Qu;rw[show e.k-6+6=e.k by omega]at g1 g2;exact zgp Te Td
 .rename_i D;have⟨g1,g2,_,_⟩:=zkR (k:=e.k) (v:=e.v) (b:=true) Qu Qu;exact zgp Td Te
def ku(h:j<l.length):l.getD j 0∈l:=by rw[bf,di h];exact xk h
def zgr{k v}{i o}{w}(hi:xz k<=i.length)(G:mf k<=o.length)(Z:∀x∈i,x<w)(ab:∀x∈o,x<w):∀L∈BK p k v i o,∀q∈L,q.1<w:=by
 have F:∀j,j<i.length->i.getD j 0<w:=fun j I=>Z _ (ku I)
 have go:∀j,j<o.length->o.getD j 0<w:=fun j I=>ab _ (ku I)
 unfold BK;by_cases O:k=3
 .subst O;have J:1<=i.length:=hi;have H:2<=o.length:=G;rw[ak rfl];intro L h q D;have a:=F 0 Qu;have b:=go 0 Qu;have c:=go 1 Qu;simp only[et,gJ,gX]at h;rcases h with rfl|rfl<;>simp only[et,gJ,gX]at D<;>rcases D with rfl|rfl<;>assumption
 rw[aj O];by_cases T:k=5
 .subst T;have J:2<=i.length:=hi;have H:1<=o.length:=G;rw[ak rfl];intro L h q D;have a:=F 0 Qu;have b:=F 1 Qu;have c:=go 0 Qu;simp only[et,gJ,gX]at h;subst h;simp only[et,gJ,gX]at D;rcases D with rfl|rfl|rfl<;>assumption
 rw[aj T];by_cases U:k=6
 .subst U;have H:1<=o.length:=G;rw[ak rfl];intro L h q D;have c:=go 0 Qu;simp only[et,gJ,gX]at h;subst h;simp only[et,gJ,gX]at D;subst D;assumption
 rw[aj U];by_cases Y:k=7
 .subst Y;have J:1<=i.length:=hi;have H:1<=o.length:=G;rw[ak rfl];intro L h q D;have a:=F 0 Qu;have c:=go 0 Qu;simp only[et,gJ,gX]at h;subst h;simp only[et,gJ,gX]at D;rcases D with rfl|rfl<;>assumption
 .rw[aj Y];intro L h;simp at h
def Gr.iT:g.B=true↔g.w<=100/\g.es.length<=60/\g.i.length<=12/\g.o.length<=12/\(∀e∈g.es,e.jd=true)/\(∀x,x<g.w->g.O x=true)/\(∀x∈g.i,x<g.w)/\(∀x∈g.o,x<g.w)/\∀e∈g.es,(∀x∈e.i,x<g.w)/\∀x∈e.o,x<g.w:=by unfold Gr.B;simp only[bN,eD,cf]
def Gr.V(p:Int)(g:Gr):List (List (Nat×Int)):=g.es.flatMap (Ed.G p)
def Gr.rows(p:Int)(g:Gr):List (List Int):=(g.V p).map (iE p g.w)
def Gr.yh(J:∀e∈g.es,e.jd=true)(G:g.In):∀L∈g.V p,∀q∈L,q.1<g.w:=by
 intro L h;unfold Gr.V at h;obtain⟨e,D,h⟩:=lh.1 h;have⟨O,T,h3,h4⟩:=tf (J e D);have H:∀x∈e.i,x<g.w:=fun x F=>G x (au (au ⟨e,D,ay F⟩))
 have I:∀x∈e.o,x<g.w:=fun x F=>G x (au (au ⟨e,D,au F⟩))
 unfold Ed.G at h;split at h
 .have⟨_,_,g1,g2⟩:=zkR (k:=e.k-6) (v:=e.v) (b:=true) Qu Qu;rw[show e.k-6+6=e.k by omega]at g1 g2;exact zgr Te Td I H L h
 .have⟨g1,g2,_,_⟩:=zkR (k:=e.k) (v:=e.v) (b:=true) Qu Qu;exact zgr Td Te H I L h
def zaE{X:List (List (Nat×Int))}(G:2<=p)(F:∀L∈X,∀q∈L,q.1<n):eV p X n (X.map (iE p n)):=by
 have:=zD (p:=p) (n:=n) (M:=X.map (iE p n)) fun r J=>by obtain⟨L,H,rfl⟩:=cH.1 J;have⟨h,D⟩:=sD G (F L H);refine⟨h,fun x O=>?_⟩;obtain⟨d,I,rfl⟩:=De O;have:=D d Qu;rw[bf,di I,xd]at this;rw[this];exact Wj
 rwa[bs]at this
def zhd{X:List (List (Nat×Int))}(G:2<=p)(F:∀L∈X,∀q∈L,q.1<n)f:DK p X n (X.map (iE p n)) f↔∀L∈X,p∣qP L f:=by
 have D:∀i,(hi:i<X.length)->p∣bW (fun d=>eM (X.map (iE p n)) i d*f d) n-qP (X[i]) f:=fun i hi=>by
  have:=zd4 G (F X[i] (xk hi)) f;have e:(X.map (iE p n)).getD i []=iE p n X[i]:=by rw[bf,bI,di hi];rfl
  unfold eM;rw[e];exact this
 unfold DK;constructor
 .intro h L H;obtain⟨i,hi,rfl⟩:=De H;exact(jW (D i hi)).1 (h i hi)
 .intro h i hi;exact(jW (D i hi)).2 (h _ (xk hi))
def Gr.zfU(G:∀e∈g.es,e.jd=true):g.Fh p f↔∀L∈g.V p,p∣qP L f:=by
 unfold Gr.Fh Gr.V;constructor
 .intro F L h;obtain⟨e,D,h⟩:=lh.1 h;exact(Ed.zgq (G e D)).1 (F e D) L h
 .intro F e D;exact(Ed.zgq (G e D)).2 fun L h=>F L (lh.2 ⟨e,D,h⟩)
def Gr.zc(D:2<=p)(h:∀e∈g.es,e.jd=true)(F:g.In):eV p (g.V p) g.w (g.rows p):=zaE D (Gr.yh h F)
def Gr.lN(p:Int)(g:Gr):List (List Int):=xN p g.w (g.rows p)
def Gr.D0(h:bV p=true)(F:∀e∈g.es,e.jd=true)(G:g.In):eV p (g.lN p) g.w (g.lN p):=by have⟨r,l,_,D,_,_⟩:=Ex h (cv h).1 (Gr.zc (cv h).1 F G);exact sI D
def Gr.zaF(F:bV p=true)(h:∀e∈g.es,e.jd=true)(G:g.In)f:ij p (g.lN p) g.w (g.lN p) f↔g.Fh p f:=by have D:=(cv F).1;unfold Gr.lN;rw[zeC F (Gr.zc D h G),Gr.zfU h];exact zhd D (Gr.yh h G) f
def eC(l:bP)(row:aL):List Int:=l.map fun x=>row.getD x 0
def CH{row}(h:d<l.length):(eC l row).getD d 0=row.getD (l.getD d 0) 0:=ς h
def Gr.qw(p:Int)(g:Gr):Rl:=vc p g.i g.o ((g.lN p).map (eC (g.i++g.o)))
def Bh{i o}{z}:(nB p i f z/\nB p o f (fun j=>z (i.length+j)))↔∀d,d<i.length+o->p∣z d-f ((i++o).getD d 0):=by
 have F:∀d,(i++o).getD d 0=if d<i.length then i.getD d 0 else o.getD (d-i.length) 0:=fun d=>by rw[bf,C9];split<;>rw[bf]
 constructor
 .rintro⟨H,I⟩ d J;rw[F];by_cases D:d<i.length
  .rw[ak D];have⟨x,h⟩:=aq D;rw[bf,h];exact H d x h
  .rw[aj D];have⟨x,h⟩:=aq (Qu:d-i.length<o);rw[bf,h];have:=I _ x h;dsimp only at this;rwa[show i.length+(d-i.length)=d by omega]at this
 .intro D;refine⟨fun j x h=>?_,fun j x h=>?_⟩
  .have G:=(bG.1 h).1;have:=D j Qu;rwa[F,ak G,bf,h]at this
  .have G:=(bG.1 h).1;have:=D (i.length+j) Qu;rwa[F,aj Qu,iY,bf,h]at this
def Gr.zfV(F:bV p=true)(G:∀e∈g.es,e.jd=true)(D:g.In):(g.qw p).Ok p/\∀z,(g.qw p).Sp p z↔g.M p z:=by
 have O:=Gr.D0 F G D;have I:∀d,d<g.i.length+g.o->(g.i++g.o).getD d 0<g.w:=fun d hd=>by
  have:=ku (l:=g.i++g.o) (j:=d) RP;rcases dP.1 this with H|H
  .exact D _ (ay H)
  .exact D _ (au (ay H))
 have ac:eV p (g.lN p) (g.i.length+g.o) ((g.lN p).map (eC (g.i++g.o))):=eV.yP O fun r U=>by refine⟨by unfold eC;rw[bs,bm],fun d hd=>?_⟩;rw[CH RP];exact O.vY U (I d hd)
 have⟨Z,ab⟩:=wg F ac;refine⟨Z,fun z=>(ab z).t ?_⟩;have J:∀k d,k < (g.lN p).length->d<g.i.length+g.o->eM ((g.lN p).map (eC (g.i++g.o))) k d=eM (g.lN p) k ((g.i++g.o).getD d 0):=fun k d h hd=>by unfold eM;rw[bf (l:=List.map _ _),bI,di h,bf (l:=g.lN p),di h];exact CH RP
 unfold Gr.M;constructor
 .rintro⟨k,h⟩;refine⟨fun x=>bW (fun i=>k i*eM (g.lN p) i x) (g.lN p),(Gr.zaF F G D _).1 ⟨k,fun d _=>⟨0,Qt⟩⟩,Bh.2 fun d hd=>?_⟩;have:=h d hd;rwa[bF (fun i hi=>by rw[J i d hi hd])]at this
 .rintro⟨f,Y,T⟩;obtain⟨k,h⟩:=(Gr.zaF F G D _).2 Y;refine⟨k,fun d hd=>?_⟩;have h1:=Bh.1 T d hd;have h3:=h _ (I d hd);rw[bF (fun i hi=>by rw[J i d hi hd])];exact XZ
def zbu(F:∀y,ij p N n M y↔ij p J n M' y)x:DK p N n M x↔DK p J n M' x:=⟨fun h=>zcX (fun y D=>(F y).2 D) h,fun h=>zcX (fun y D=>(F y).1 D) h⟩
def zhe{A B:Rl}(U:2<=p)(Y:A.Ok p)(Z:B.Ok p)(I:A.l=B.l)(J:A.r=B.r)(h:∀z,A.Sp p z↔B.Sp p z):A=B:=by
 obtain⟨D,G⟩:=Y;obtain⟨F,H⟩:=Z;obtain⟨l,r,b⟩:=A;obtain⟨ac,r',ab⟩:=B;dsimp only at I J;subst I;subst J;unfold Rl.Sp at h;unfold Rl.eV at D F;unfold Rl.Red at G H;dsimp only at h D F G H;have⟨O,T⟩:=zfv U G H (fun x=>zbu h x);congr 1
 refine zkd D (by rw[O];exact F) T
def Tm.zhf(h:bV p=true){t:Tm}{c}(D:t.ty=some c)(ab:t.pf p)(Z:∀e∈t.gr.es,e.jd=true):t.rel p=t.gr.qw p:=by have⟨F,G,H,I⟩:=Tm.tN h D ab;have⟨T,U,Y⟩:=Tm.qF D;have⟨J,O⟩:=Gr.zfV h Z T;exact zhe (cv h).1 H J (F.t U.q) (G.t Y.q) fun z=>(I z).t (O z).q
def Ô(n:Nat)(R:aP):Nat->List Int
 |0=>List.replicate n (-1)
 |k+1=>(Ô n R k).set (nw R k) k
def zbi n R:∀k,(Ô n R k).length=n
 |0=>by simp[Ô]
 |k+1=>by rw[Ô,iW];exact zbi n R k
def zfI{n}{R}{j}:∀{k:Nat} {x:Int},(Ô n R k)[j]?=some x->(0<=x↔∃i,i<k/\nw R i=j)/\-1<=x/\x < (k:Int)+1
 |0,x,h=>by
  rw[Ô,fI]at h;split at h
  .cases h
   exact⟨⟨fun h=>Qu,fun⟨i,h,_⟩=>Qu⟩,Qu,Qu⟩
  .cases h
 |k+1,x,h=>by
  rw[Ô,pV]at h;by_cases e:nw R k=j
  .rw[ak e]at h;split at h
   .cases h
    exact⟨⟨fun _=>⟨k,Qu,e⟩,fun _=>Qu⟩,Qu,Qu⟩
   .cases h
  .rw[aj e]at h;have⟨G,H,I⟩:=zfI h;exact⟨G.t ⟨fun⟨i,hi,D⟩=>⟨i,Qu,D⟩,fun⟨i,hi,D⟩=>⟨i,by
    have:i≠k:=fun F=>e (by rw[<-F];exact D)
    omega,D⟩⟩,H,Qu⟩
def Ì(p:Int)(n:Nat)(R:aP)(j:Nat):Nat->List Int
 |0=>kg n j
 |k+1=>(Ì p n R j k).set (nw R k) ((p-eM R k j)%p)
def CD p n R j:∀k,(Ì p n R j k).length=n
 |0=>kh n j
 |k+1=>by rw[Ì,iW];exact CD p n R j k
def zcw{p}{n j c}{R}(D:c<n)(F:j<n):∀{k:Nat},(∀i,i<k->nw R i≠c)->(Ì p n R j k)[c]?=some (if c=j then 1 else 0)
 |0,_=>by
  unfold Ì kg;rw[pV];by_cases e:j=c
  .rw[ak e,ak (by simpa using F),ak e.q]
  .rw[aj e,aj (k_ e),fI,ak D]
 |k+1,h=>by rw[Ì,pV,aj (h k Qu)];exact zcw D F fun i hi=>h i Qu
def zcx{p}{n j r}{R}(h:mi p n r (eM R) (nw R)):∀{k i:Nat},k<=r->i<k->(Ì p n R j k)[nw R i]?=some ((p-eM R i j)%p)
 |0,i,_,hi=>Qu
 |k+1,i,F,hi=>by
  rw[Ì,pV];by_cases e:i=k
  .subst e;rw[ak rfl,ak (by rw[CD];exact h.ln i Qu)]
  .rw[aj (fun D=>e (h.inj Qu Qu D).q)];exact zcx h Qu Qu
def zcy{a}:(p-a)%p=-a%p:=by rw[show p-a=-a+p*1 by omega,zcb]
def zli{R}(O:2<=p)(J:R.length=r)(h:mi p n r (eM R) (nw R))(I:j<n)(H:mK (nw R) r j):Ì p n R j r=j7 p n R j:=by
 apply gk;intro c;by_cases D:c<n
 .unfold j7;rw[bI,iy D,J];by_cases F:∃i,i<r/\nw R i=c
  .obtain⟨i,hi,rfl⟩:=F;rw[zcx h (ae _) hi,ox,tP h hi (H i hi),zcy]
  .have G:∀i,i<r->nw R i≠c:=fun i hi e=>F ⟨i,hi,e⟩
   rw[zcw D I G,ox,kt G];split
   .rw[nq Qu Qu]
   .rw[Int.zero_emod]
 .rw[eP (by rw[CD];omega),eP (by simp[j7];omega)]
def Ö(n:Nat)(R:aP)(k:Nat):List Nat:=(List.range k).filter fun j=>(List.range R).all fun i=>decide (nw R i≠j)
def zka n R:Ö n R n=xM n R:=rfl
def zfK n R k:(Ö n R k).length<=k:=aZ (C4 _ _) Qt
def zkb{R}(h:mK (nw R) R k):Ö n R (k+1)=Ö n R k++[k]:=by
 unfold Ö;rw[nk,C5];congr 1
 rw[List.filter_cons_of_pos]
 .rfl
 .rw[eD];intro i hi;rw[fj]at hi;simpa using h i hi
def zlj{R}(h:∃i,i<R.length/\nw R i=k):Ö n R (k+1)=Ö n R k:=by unfold Ö;rw[nk,C5];obtain⟨i,hi,D⟩:=h;rw[List.filter_cons_of_neg,List.filter_nil,lZ];rw[eD];intro h;have:=h i (fj.2 hi);simp[D]at this
end Go.Proofs.YtpieilkmmiopfaaGreatDoor
