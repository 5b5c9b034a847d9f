/- Parts of the walks. Conditions: as stated with each. -/
import Derived.Test.YtdpgblncijojiaaGreatDoorPk30
namespace Go.Proofs.YtdpgblncijojiaaGreatDoor
open Go.RowKit Tryz
set_option linter.all false
variable{RI:Nat->Int}{b k:Nat}{p:Int}{s:Sy}
section
variable{M:aE}
def ziN(p:Int)(n:Nat)(M:aE)(x:Nat->Int):Prop:=∀r∈M,p∣cN (fun d=>r.getD d 0*x d) n
def Sy.n(s:Sy):Nat:=s.v.toNat+s.h.toNat
variable{n:Nat}
def Sy.Sat(p:Int)(s:Sy)(x:Nat->Int):Prop:=ziN p s.n s.rows x
def Sy.Vis(p:Int)(s:Sy)(z:Nat->Int):Prop:=∀x,s.Sat p x->p∣cN (fun d=>x d*z d) s.v.toNat
def qA(p:Int)(s:Sy):List (List Int):=qy p s.v.toNat (yp s.v.toNat (n_ p s.rows s.n))
def zfz{x:Nat->Int}:ziN p n M x↔∀i,i<M.length->p∣cN (fun d=>eM M i d*x d) n:=by
 constructor
 .intro h i hi;exact h _ (gT hi)
 .intro h r z;obtain⟨i,hi⟩:=e_.1 z;have:=h i (bA.1 hi).1;unfold eM at this;rwa[getD_some hi]at this
def Sy.zji(h:s.Ok p):(s.v+s.h).toNat=s.n:=by have:=Sys.v0 h;have:=Sys.h0 h;unfold Sy.n;omega
def Sy.shp(h:s.Ok p):iO p s.rows s.n s.rows:=by rw[<-Sy.zji h];exact zd7 h
def Cz(h:s.Ok p):∃N,N<=s.n/\iO p N s.v.toNat (yp s.v.toNat (n_ p s.rows s.n))/\∀z,(∀i,i<N->p∣cN (fun d=>eM (yp s.v.toNat (n_ p s.rows s.n)) i d*z d) s.v.toNat)↔s.Vis p z:=by
 obtain⟨r,l,H,E,_,F⟩:=y_ (Sys.f h) (Sys.p2 h) (Sy.shp h);refine⟨r,H,Di E Tl,fun z=>?_⟩;refine(zgs (h:=s.h.toNat) z).trans ((F _).trans ?_);unfold zgP Sy.Vis Sy.Sat;refine sf fun x=>?_
 rw[zfz];refine imp_congr_right fun _=>?_
 have e:cN (fun d=>x d*zaM s.v.toNat z d) s.n=cN (fun d=>x d*z d) s.v.toNat:=by unfold Sy.n;rw[yq _ _ _ (fun c D=>by unfold zaM;rw[al RU,pQ])];exact dn fun c D=>by unfold zaM;rw[ay D]
 rw[e]
def zgW{t:Sy}(D:s.Ok p)(J:t.Ok p)(O:s.v=t.v)(h:∀z,s.Vis p z↔t.Vis p z):qA p s=qA p t:=by obtain⟨N,_,E,F⟩:=Cz D;obtain⟨N',_,H,I⟩:=Cz J;unfold qA;rw[O]at E F ⊢;exact zgD (Sys.f D) (Sys.p2 D) E H fun z=>(F z).trans ((h z).trans (I z).symm)
def zh8(p:Int)(s t:Sy):Prop:=∀x,s.Sat p x->∃y,t.Sat p y/\∀c,c<s.v.toNat->p∣x c-y c
def zh8.jM{t:Sy}(h:zh8 p s t)(E:s.v=t.v)(I:t.Vis p RI):s.Vis p RI:=fun x F=>by obtain⟨y,H,z⟩:=h x F;have:=I y H;rw[<-E]at this;exact jN (iJ fun c D=>qQ (z c D)) this
def By(k d:Nat):Nat:=if d<k then d else d+1
def zh(g:Nat->Int)(k:Nat):∀(n:Nat),k<=n->cN g (n+1)=cN (fun d=>g (By k d)) n+g k
 |0,h=>by have:k=0:=RU;subst this;simp[cN]
 |n+1,h=>by
  by_cases D:k<=n
  .have ih:=zh g k n D;rw[cN,ih,cN];rw[show By k n=n+1 by unfold By;rw[al RU]];omega
  .have:k=n+1:=RU;subst this;rw[cN,dn (f:=g) (g:=fun d=>g (By (n+1) d)) (fun c z=>by unfold By;rw[ay z])]
def Am(k:Nat)(a:Int)(y:Nat->Int)(c:Nat):Int:=if c<k then y c else if c=k then a else y (c-1)
def zi(k:Nat)(a:Int)(y:Nat->Int)(d:Nat):Am k a y (By k d)=y d:=by unfold Am By;exact X1
def zgX(k:Nat)(a:Int)(y:Nat->Int):Am k a y k=a:=by unfold Am;rw[al RU,ay rfl]
def zfA{r:aG}{a:Int}(z:k<=r.length)(d:Nat):(bK r k a).getD (By k d) 0=r.getD d 0:=by unfold bK;rw[bu,j4 _ _ _ _ z,bu];unfold By;exact X1
def qU{r:aG}{a:Int}(z:k<=r.length):(bK r k a).getD k 0=a:=by unfold bK;rw[bu,j4 _ _ _ _ z,al RU,ay rfl];rfl
def zfB(r:aG)(k d:Nat):(r.eraseIdx k).getD d 0=r.getD (By k d) 0:=by rw[bu,ij,bu];rfl
def zcn{r:aG}{a:Int}(x:Nat->Int)(z:k<=r.length)(D:k<=n):cN (fun d=>(bK r k a).getD d 0*x d) (n+1)=cN (fun d=>r.getD d 0*x (By k d)) n+a*x k:=by rw[zh _ k n D];rw[qU z,dn (fun d _=>by rw[zfA z])]
def CA{r:aG}(x:Nat->Int)(z:k<=n):cN (fun d=>r.getD d 0*x d) (n+1)=cN (fun d=>(r.eraseIdx k).getD d 0*x (By k d)) n+r.getD k 0*x k:=by rw[zh _ k n z];rw[dn (fun d _=>by rw[<-zfB])]
inductive zh9 (p:Int) (s:Sy) (x:cS):Prop
 |swap (hk:x.k=1) (a b:Nat) (ea:x.a=a) (eb:x.b=b) (ha:a<s.rows.length) (hb:b<s.rows.length) (hab:a≠b) (hc:x.c=0) (hr:x.row=[])
 |scale (hk:x.k=2) (a:Nat) (ea:x.a=a) (ha:a<s.rows.length) (c1:1<=x.c) (c2:x.c<p) (hb:x.b=0) (hr:x.row=[])
 |add (hk:x.k=3) (a b:Nat) (ea:x.a=a) (eb:x.b=b) (ha:a<s.rows.length) (hb:b<s.rows.length) (hab:a≠b) (c1:0<=x.c) (c2:x.c<p) (hr:x.row=[])
 |drop (hk:x.k=4) (a:Nat) (ea:x.a=a) (ha:a<s.rows.length) (hz:∀y∈s.rows.getD a [],y=0) (hb:x.b=0) (hc:x.c=0) (hr:x.row=[])
 |put (hk:x.k=5) (a:Nat) (ea:x.a=a) (ha:a<=s.rows.length) (hn:s.rows.length<160) (hb:x.b=0) (hc:x.c=0) (hr:x.row=[])
 |solve (hk:x.k=6) (a b:Nat) (ea:x.a=a) (eb:x.b=b) (ha:a<s.rows.length) (hb:b<s.h.toNat) (hz:∀(j:Nat) (r:aG),s.rows[j]?=some r->(j=a↔r.getD (s.v.toNat+b) 0≠0)) (hc:x.c=0) (hr:x.row=[])
 |bring (hk:x.k=7) (a b:Nat) (ea:x.a=a) (eb:x.b=b) (ha:a<=s.rows.length) (hb:b<=s.h.toNat) (hn:s.rows.length<160) (hh:s.h<100) (hl:x.row.length=s.n+1) (he:∀y∈x.row,0<=y/\y<p) (hz:x.row.getD (s.v.toNat+b) 0≠0) (hc:x.c=0)
 |forget (hk:x.k=8) (b:Nat) (eb:x.b=b) (hb:b<s.h.toNat) (hz:∀r∈s.rows,r.getD (s.v.toNat+b) 0=0) (ha:x.a=0) (hc:x.c=0) (hr:x.row=[])
 |invent (hk:x.k=9) (b:Nat) (eb:x.b=b) (hb:b<=s.h.toNat) (hh:s.h<100) (ha:x.a=0) (hc:x.c=0) (hr:x.row=[])
def zfC{x:cS}(h:s.Ok p)(z:eI p s x=true):zh9 p s x:=by
 obtain⟨k,a,b,c,row⟩:=x;have a6:=Sys.v0 h;have a4:=Sys.h0 h;unfold eI ja at z;dsimp only at z;rw[bC]at z;obtain⟨D,z⟩:=z;unfold iY at D;by_cases R:k=1
 .subst R;rw[ay rfl]at z;simp[bk]at z D;obtain⟨⟨F,H⟩,⟨I,J⟩,ap⟩:=z;exact .swap rfl a.toNat b.toNat Tg Tg RU RU RU D.1 D.2
 by_cases U:k=2
 .subst U;rw[al RX,ay rfl]at z;simp[bk]at z D;obtain⟨⟨F,H⟩,c1,c2⟩:=z;exact .scale rfl a.toNat Tg RU c1 Tg D.1 D.2
 by_cases Y:k=3
 .subst Y;rw[al RX,al RX,ay rfl]at z;simp[bk]at z D;obtain⟨⟨⟨F,H⟩,⟨I,J⟩,ap⟩,c1,c2⟩:=z;exact .add rfl a.toNat b.toNat Tg Tg RU RU RU c1 Tg D
 by_cases Z:k=4
 .subst Z;rw[al RX,al RX,al RX,ay rfl,bC,bk,fp]at z;simp at D;obtain⟨⟨F,H⟩,E⟩:=z;exact .drop rfl a.toNat Tg RU (fun y a3=>by have:=E y a3;rw[bk]at this;omega) D.1 D.2.1 D.2.2
 by_cases ab:k=5
 .subst ab;rw[al RX,al RX,al RX,al RX,ay rfl]at z;simp[bk]at z D;obtain⟨⟨F,H⟩,Q⟩:=z;exact .put rfl a.toNat Tg RU Q D.1 D.2.1 D.2.2
 by_cases ac:k=6
 .subst ac;rw[al RX,al RX,al RX,al RX,al RX,ay rfl,bC,bC,bk,bk,rB]at z;simp at D;obtain⟨⟨F,H⟩,⟨I,J⟩,E⟩:=z;refine .solve rfl a.toNat b.toNat Tg Tg RU RU (fun j r a1=>?_) D.1 D.2;have:=E j _ (nW.2 ⟨r,a1,rfl⟩);rw[show(s.v+b).toNat=s.v.toNat+b.toNat by omega]at this;rw[<-this];omega
 by_cases ad:k=7
 .subst ad;rw[al RX,al RX,al RX,al RX,al RX,al RX,ay rfl]at z;simp only[bC,bk,cK,fp,fE]at z;simp at D;obtain⟨⟨F,H⟩,⟨I,J⟩,Q,O,a5,a0,E⟩:=z;rw[show(s.v+b).toNat=s.v.toNat+b.toNat by omega]at E;exact .bring rfl a.toNat b.toNat Tg Tg RU RU Q O (by dsimp only;unfold Sy.n;omega) a0 (by simpa using E) D
 by_cases am:k=8
 .subst am;rw[al RX,al RX,al RX,al RX,al RX,al RX,al RX,ay rfl,bC,bk,fp]at z;simp at D;obtain⟨⟨I,J⟩,E⟩:=z;refine .forget rfl b.toNat Tg RU (fun r a2=>?_) D.1 D.2.1 D.2.2;have:=E (r.getD (s.v+b).toNat 0) (cf.2 ⟨r,a2,rfl⟩);rw[bk,show(s.v+b).toNat=s.v.toNat+b.toNat by omega]at this;omega
 by_cases ao:k=9
 .subst ao;rw[al RX,al RX,al RX,al RX,al RX,al RX,al RX,al RX,ay rfl]at z;simp[bk]at z D;obtain⟨⟨I,J⟩,O⟩:=z;exact .invent rfl b.toNat Tg RU O D.1 D.2.1 D.2.2
 .rw[al R,al U,al Y,al Z,al ab,al ac,al ad,al am,al ao]at z;cases z
def zfD(p:Int)(s:Sy)(a:Nat):cE p s ⟨5,a,0,0,[]⟩=⟨s.v,s.h,bK s.rows a (List.replicate (s.v+s.h).toNat 0)⟩:=Th
def zfE(p:Int)(s:Sy)(a b:Nat):cE p s ⟨6,a,b,0,[]⟩=⟨s.v,s.h-1,(s.rows.map (fun r=>r.eraseIdx (s.v+(b:Int)).toNat)).eraseIdx a⟩:=Th
def zfF(p:Int)(s:Sy)(a b:Nat)(row:aG):cE p s ⟨7,a,b,0,row⟩=⟨s.v,s.h+1,bK (s.rows.map (fun r=>bK r (s.v+(b:Int)).toNat 0)) a row⟩:=Th
def zfG(p:Int)(s:Sy)(b:Nat):cE p s ⟨8,0,b,0,[]⟩=⟨s.v,s.h-1,s.rows.map (fun r=>r.eraseIdx (s.v+(b:Int)).toNat)⟩:=Th
def zfH(p:Int)(s:Sy)(b:Nat):cE p s ⟨9,0,b,0,[]⟩=⟨s.v,s.h+1,s.rows.map (fun r=>bK r (s.v+(b:Int)).toNat 0)⟩:=Th
def CB{r:aG}{x:Nat->Int}(h:∀d,d<n->r.getD d 0=0):p∣cN (fun d=>r.getD d 0*x d) n:=by rw[np fun d z=>by rw[h d z,lS]];exact⟨0,RS⟩
def uF{a:Int}(y:Int):p∣a%p*y-a*y:=qQ (rk a p)
def An{D:Type}{l:List D}{a:Nat}{r:D}(h:r∈l.eraseIdx a):∃j,j≠a/\l[j]?=some r:=by obtain⟨j,z⟩:=e_.1 h;rw[ij]at z;refine⟨_,?_,z⟩;split <;>omega
def Ec{x:cS}(h:s.Ok p)(ap:eI p s x=true):zh8 p s (cE p s x):=by
 intro y hy;have Ev:∀r∈s.rows,r.length=s.n:=fun r D=>by have:=Sys.len h r D;have:=Sys.v0 h;have:=Sys.h0 h;unfold Sy.n;omega
 have b0:=Sys.v0 h;have bz:=Sys.h0 h;have nR:∀{t:Sy},t.Sat p y->∃a3,t.Sat p a3/\∀c,c<s.v.toNat->p∣y c-a3 c:=fun bi=>⟨y,bi,fun c _=>⟨0,RU⟩⟩
 have a5:=zfC h ap;clear ap;obtain⟨k,bp,br,R,row⟩:=x;cases a5 with
 |swap z a b H I O J a8 F D=>
  dsimp only at z H I F D;subst z H I F D;rw[zbT];refine nR fun r E=>?_
  show p∣cN _ s.n
  rcases mem_set E with Q|rfl
  .rcases mem_set Q with Q|rfl
   .exact hy r Q
   .exact hy _ (gT J)
  .exact hy _ (gT O)
 |scale z a H O c1 c2 J D=>
  dsimp only at z H J D c1 c2;subst z H J D;rw[zbU];refine nR fun r E=>?_
  show p∣cN _ s.n
  rcases mem_set E with Q|rfl
  .exact hy r Q
  .have ao:=gT O;have Y:=hy _ ao;have ac:=Ev _ ao;refine jN (b:=R*cN (fun d=>(s.rows.getD a []).getD d 0*y d) s.n) ?_ (Int.dvd_mul_of_dvd_right Y);rw[<-o5];refine iJ fun d ab=>?_
   rw[tp (by rw[ac];exact ab),show R*((s.rows.getD a []).getD d 0*y d)=((s.rows.getD a []).getD d 0*R)*y d by rw[<-oB,kh R]];exact uF _
 |add z a b H I O J a8 c1 c2 D=>
  dsimp only at z H I D c1 c2;subst z H I D;rw[zbR];refine nR fun r E=>?_
  show p∣cN _ s.n
  rcases mem_set E with Q|rfl
  .exact hy r Q
  .have a1:=gT O;have a2:=gT J;have bo:=Ev _ a1;have a0:=Ev _ a2;refine jN (b:=cN (fun d=>(s.rows.getD b []).getD d 0*y d) s.n+R*cN (fun d=>(s.rows.getD a []).getD d 0*y d) s.n) ?_ (qh (hy _ a2) (Int.dvd_mul_of_dvd_right (hy _ a1)));rw[<-o5,<-mr];refine iJ fun d ab=>?_
   rw[td (by rw[bo,a0]) (by rw[a0];exact ab)];rw[show(s.rows.getD b []).getD d 0*y d+R*((s.rows.getD a []).getD d 0*y d)=((s.rows.getD b []).getD d 0+R*(s.rows.getD a []).getD d 0)*y d by rw[Int.add_mul,oB]];exact uF _
 |drop z a H O Z J F D=>
  dsimp only at z H J F D;subst z H J F D;rw[zbV];refine nR fun r E=>?_
  exact hy r (sh E)
 |put z a H O bb J F D=>
  dsimp only at z H J F D;subst z H J F D;rw[zfD];refine nR fun r E=>?_
  rcases oU E with Q|rfl
  .exact hy r Q
  .exact CB fun d _=>by rw[bu,ie];split <;>rfl
 |solve z a b H I O J Z F D=>
  dsimp only at z H I F D;subst z H I F D;rw[zfE];refine⟨fun d=>y (By (s.v.toNat+b) d),?_,fun c F=>⟨0,by show y c-y (By (s.v.toNat+b) c)=p*0;unfold By;rw[ay RU];omega⟩⟩;have U:s.n=(s.v.toNat+(s.h-1).toNat)+1:=Tl;intro r E;dsimp only at E
  show p∣cN (fun d=>r.getD d 0*y (By (s.v.toNat+b) d)) (s.v.toNat+(s.h-1).toNat)
  rw[show(s.v+(b:Int)).toNat=s.v.toNat+b by omega]at E;obtain⟨j,ba,am⟩:=An E;rw[cp]at am;obtain⟨q,hq,rfl⟩:=pV.1 am;have Y:=hy q (a_ hq);have be:q.getD (s.v.toNat+b) 0=0:=CT fun bd=>ba ((Z j q hq).2 bd)
  rw[U,CA (k:=s.v.toNat+b) _ RU,be,lS,pR]at Y;exact Y
 |bring z a b H I O J bb a9 ac ad Z F=>
  dsimp only at z H I F ac ad Z;subst z H I F;rw[zfF];have U:s.v.toNat+(s.h+1).toNat=s.n+1:=Tl;have KG:s.v.toNat+b<=s.n:=Tl;obtain⟨K,hK⟩:=aO (s.v.toNat+b);rw[<-hK]at Z KG;have a6:row.getD K 0∈row:=by rw[bu,dA (RU:K<row.length)];exact oz _
  obtain⟨bv,a4⟩:=ad _ a6;obtain⟨bm,_,_⟩:=mf (Sys.f h) (RU:1<=row.getD K 0) a4;obtain⟨S,a7⟩:=aO (cN (fun d=>(row.eraseIdx K).getD d 0*y d) s.n);refine⟨Am K (-(fD p (row.getD K 0)*S)) y,?_,fun c F=>⟨0,Vx⟩⟩;intro r E;dsimp only at E;rw[show(s.v+(b:Int)).toNat=K by omega]at E
  show p∣cN (fun d=>r.getD d 0*Am K (-(fD p (row.getD K 0)*S)) y d) (s.v.toNat+(s.h+1).toNat)
  rw[U];rcases oU E with Q|rfl
  .obtain⟨q,hq,rfl⟩:=cf.1 Q;exact Yg
  .rw[CA (k:=K) _ KG,dn (fun d _=>by rw[zi]),zgX,<-a7,Int.mul_neg,<-oB];have:=rk (r.getD K 0*fD p (r.getD K 0)) p;rw[bm]at this;have:=Int.dvd_mul_of_dvd_left (c:=S) this;rw[sv,Int.one_mul]at this;exact this
 |forget z b I J Z O F D=>
  dsimp only at z I O F D;subst z I O F D;rw[zfG];refine⟨fun d=>y (By (s.v.toNat+b) d),?_,fun c F=>⟨0,by show y c-y (By (s.v.toNat+b) c)=p*0;unfold By;rw[ay RU];omega⟩⟩;have U:s.n=(s.v.toNat+(s.h-1).toNat)+1:=Tl;intro r E;dsimp only at E
  show p∣cN (fun d=>r.getD d 0*y (By (s.v.toNat+b) d)) (s.v.toNat+(s.h-1).toNat)
  rw[show(s.v+(b:Int)).toNat=s.v.toNat+b by omega]at E;obtain⟨q,hq,rfl⟩:=cf.1 E;have Y:=hy q hq;rw[U,CA (k:=s.v.toNat+b) _ RU,Z q hq,lS,pR]at Y;exact Y
 |invent z b I J a9 O F D=>
  dsimp only at z I O F D;subst z I O F D;rw[zfH];have U:s.v.toNat+(s.h+1).toNat=s.n+1:=Tl;have KG:s.v.toNat+b<=s.n:=Tl;refine⟨Am (s.v.toNat+b) 0 y,?_,fun c F=>⟨0,Vx⟩⟩;intro r E;dsimp only at E;rw[show(s.v+(b:Int)).toNat=s.v.toNat+b by omega]at E
  show p∣cN (fun d=>r.getD d 0*Am (s.v.toNat+b) 0 y d) (s.v.toNat+(s.h+1).toNat)
  rw[U];obtain⟨q,hq,rfl⟩:=cf.1 E;exact Yg
end
def zhc{z:Type}(l:List z)(k j:Nat)(x:z)(h:k<=l.length):(bK l k x)[j]?=if j<k then l[j]? else if j=k then some x else l[j-1]?:=by unfold bK;exact j4 l k j x h
def xG{E:Type}{l:List E}{x:E}(h:l[k]?=some x):bK (l.eraseIdx k) k x=l:=by
 have F:=(bA.1 h).1;apply fu;intro j;unfold bK;rw[j4 _ _ _ _ (by rw[mW F];omega)];by_cases z:j<k
 .rw[ay z,ij,ay z]
 .rw[al z];by_cases D:j=k
  .rw[ay D,D,h]
  .rw[al D,ij,al RU,show j-1+1=j by omega]
def xH{D:Type}{l:List D}{x:D}(h:k<=l.length):(bK l k x).eraseIdx k=l:=by
 apply fu;intro j;rw[ij];unfold bK;rw[j4 _ _ _ _ h];by_cases z:j<k
 .rw[ay z,ay z]
 .rw[al z,al RU,al RU];rfl
def zhd{z D:Type}(f:z->D)(l:List z)(k:Nat):(l.eraseIdx k).map f=(l.map f).eraseIdx k:=by apply fu;intro j;rw[cp,ij,ij,cp]
def zhe{z D:Type}(f:z->D)(l:List z)(k:Nat)(x:z):(bK l k x).map f=bK (l.map f) k (f x):=by unfold bK;simp
def ziV(i j k:Nat):sw i j (sw i j k)=k:=by unfold sw;split<;>split<;>(try split)<;>omega
def ziW{a:Nat}(z:a<=s.rows.length)(D:s.rows.length<160):eI p s ⟨5,a,0,0,[]⟩=true:=WX
def zjp{a:Nat}(H:(b:Int)<s.h)(F:a<s.rows.length)(E:∀(j:Nat) (r:aG),s.rows[j]?=some r->(j=a↔r.getD (s.v+(b:Int)).toNat 0≠0)):eI p s ⟨6,a,b,0,[]⟩=true:=by
 have h1:nB (fF s.rows (s.v+(b:Int)).toNat) a=true:=by rw[rB];intro k x D;obtain⟨r,z,rfl⟩:=nW.1 D;rw[<-E k r z];omega
 exact Zx
def zjq{a:Nat}{row:aG}(Y:(b:Int)<=s.h)(U:a<=s.rows.length)(O:s.rows.length<160)(I:s.h<100)(J:(row:Int)=s.v+s.h+1)(H:∀y∈row,0<=y/\y<p)(R:row.getD (s.v+(b:Int)).toNat 0≠0):eI p s ⟨7,a,b,0,row⟩=true:=by
 have z:eX (a:Int) 0 (s.rows:Int)=true:=SL;have D:eX (b:Int) 0 s.h=true:=SL;have E:row.all (jr p)=true:=by rw[fp];exact fun y Q=>fE.2 (H y Q)
 have F:(row.getD (s.v+(b:Int)).toNat 0 !=0)=true:=by simpa using R
 unfold eI ja;simp only[show((7:Int)=1)=False by decide,show((7:Int)=2)=False by decide,show((7:Int)=3)=False by decide,show((7:Int)=4)=False by decide,show((7:Int)=5)=False by decide,show((7:Int)=6)=False by decide,ki,jf,z,D,E,F,O,I,J,decide_true];simp[iY]
def zjr(F:(b:Int)<s.h)(E:∀r∈s.rows,r.getD (s.v+(b:Int)).toNat 0=0):eI p s ⟨8,0,b,0,[]⟩=true:=by
 have h1:(fF s.rows (s.v+(b:Int)).toNat).all (fun x=>eX x 0 0)=true:=by rw[fp];intro x D;obtain⟨r,z,rfl⟩:=cf.1 D;rw[E r z];rfl
 exact Zw
def zjs(z:(b:Int)<=s.h)(D:s.h<100):eI p s ⟨9,0,b,0,[]⟩=true:=WX
def zga{c i x:Int}(h:c*i%p=1)(z:0<=x)(D:x<p):x*c%p*i%p=x:=by rw[oA,rX _ (rY p),<-oA,oB,oA,h,rZ,rX _ (rY p),oC z D]
def zap{c i:Int}(h:c*i%p=1){r:aG}(z:∀x∈r,0<=x/\x<p):gz p i (gz p c r)=r:=by
 unfold gz;rw[ko];conv=>rhs;rw[<-List.map_id r]
 exact jD fun x D=>zga h (z x D).1 (z x D).2
def zgb{c x y:Int}(z:0<=x)(D:x<p):((x+c*y)%p+(p-c)%p*y)%p=x:=by
 have e:((x+c*y)%p+(p-c)%p*y)%p=(x+c*y+(p-c)*y)%p:=by rw[rW,rX _ (rY p),oA ((p-c)%p),rX _ (rY p),<-oA,<-rW]
 rw[e,show x+c*y+(p-c)*y=x+p*y by rw[sv];omega,Int.add_mul_emod_self_left,oC z D]
def zaq{c:Int}{r q:aG}(J:r.length=q)(E:∀x∈r,0<=x/\x<p):dw p ((p-c)%p) (dw p c r q) q=r:=by
 apply fu;intro j;unfold dw;rw[vu,vu];by_cases D:j<r.length
 .obtain⟨x,z⟩:=aB D;obtain⟨y,F⟩:=aB (RU:j<q.length);obtain⟨H,I⟩:=E x (a_ z);rw[z,F];simp only[zgb H I]
 .rw[fQ RU,fQ (RU:q.length<=j)]
def pK{t:Sy}(z:s.v=t.v)(D:s.h=t.h)(E:s.rows=t.rows):s=t:=by cases s;cases t;simp_all
def rR{x:cS}(h:s.Ok p)(a3:eI p s x=true):eI p (cE p s x) (dL p s x)=true/\cE p (cE p s x) (dL p s x)=s:=by
 have Ev:∀r∈s.rows,r.length=(s.v+s.h).toNat:=fun r hr=>by have:=Sys.len h r hr;omega
 have b2:=Sys.v0 h;have b0:=Sys.h0 h;have p2:=Sys.p2 h;have am:=Sys.n h;have a7:=zfC h a3;clear a3;obtain⟨k,br,bv,Q,row⟩:=x;cases a7 with
 |swap z a b E H ha hb Y F hr=>
  dsimp only at z E H F hr;subst z E H F hr;have e:dL p s ⟨1,a,b,0,[]⟩=⟨1,a,b,0,[]⟩:=UO;rw[e,zbT];obtain⟨x,D⟩:=aB ha;obtain⟨y,O⟩:=aB hb;rw[getD_some D,getD_some O];refine⟨ok1 Sq Sr Y,?_⟩;rw[zbT];refine pK rfl rfl ?_;dsimp only;have g:=ld D O;have ao:((s.rows.set a y).set b x)[a]?=some y:=by rw[g];unfold sw;rw[al Y,ay rfl,O]
  have ap:((s.rows.set a y).set b x)[b]?=some x:=by rw[g];unfold sw;rw[ay rfl,D]
  rw[getD_some ao,getD_some ap];apply fu;intro j;rw[ld ao ap,g,ziV]
 |scale z a E ha c1 c2 hb hr=>
  dsimp only at z E hb hr c1 c2;subst z E hb hr;obtain⟨bm,bo,bp⟩:=mf (Sys.f h) c1 c2;have e:dL p s ⟨2,a,0,Q,[]⟩=⟨2,a,0,fD p Q,[]⟩:=UO;rw[e,zbU];refine⟨ok2 Sq bo bp,?_⟩;rw[zbU];refine pK rfl rfl ?_;dsimp only;obtain⟨x,D⟩:=aB ha;rw[getD_some D,getD_some (eu Sq),List.set_set,zap bm (Sys.el h x (a_ D)),nL D]
 |add z a b E H ha hb Y c1 c2 hr=>
  dsimp only at z E H hr c1 c2;subst z E H hr;have e:dL p s ⟨3,a,b,Q,[]⟩=⟨3,a,b,(p-Q)%p,[]⟩:=UO;rw[e,zbR];refine⟨ok3 Sq Sr (gJ Y) (ir _ RU) (iu _ RU),?_⟩;rw[zbR];refine pK rfl rfl ?_;dsimp only;obtain⟨x,D⟩:=aB ha;obtain⟨y,O⟩:=aB hb;have b4:=Ev x (a_ D);have b5:=Ev y (a_ O);rw[getD_some D,getD_some O,getD_some (eu Sr),getD_some (by rw[dz (gJ Y),D]:(s.rows.set b (dw p Q y x))[a]?=some x),List.set_set,zaq RU (Sys.el h y (a_ O)),nL O]
 |drop z a E ha I hb F hr=>
  dsimp only at z E hb F hr;subst z E hb F hr;have e:dL p s ⟨4,a,0,0,[]⟩=⟨5,a,0,0,[]⟩:=UO;rw[e,zbV];have ac:(s.rows.eraseIdx a).length=s.rows-1:=mW ha;refine⟨ziW Tg Tg,?_⟩;rw[zfD];refine pK rfl rfl ?_;dsimp only;obtain⟨x,D⟩:=aB ha;rw[getD_some D]at I;have:List.replicate (s.v+s.h).toNat (0:Int)=x:=by rw[<-Ev x (a_ D)];exact(List.eq_replicate_iff.2 ⟨rfl,I⟩).symm
  rw[this,xG D]
 |put z a E ha am hb F hr=>
  dsimp only at z E hb F hr;subst z E hb F hr;have e:dL p s ⟨5,a,0,0,[]⟩=⟨4,a,0,0,[]⟩:=UO;rw[e];have a4:(cE p s ⟨5,a,0,0,[]⟩).Ok p:=gG h (ziW ha am);rw[zfD]at a4 ⊢;have ac:(bK s.rows a (List.replicate (s.v+s.h).toNat 0)).length=s.rows+1:=lD _ _ _;refine⟨ok4 a4 Tg (fun d bz=>?_),?_⟩
  .unfold gS;dsimp only;have:(bK s.rows a (List.replicate (s.v+s.h).toNat 0))[a]?=some (List.replicate (s.v+s.h).toNat 0):=by unfold bK;rw[j4 _ _ _ _ ha,al RU,ay rfl]
   rw[getD_some this,bu,ie];split <;>rfl
  .rw[zbV];exact pK rfl rfl (xH ha)
 |solve z a b E H ha hb I F hr=>
  dsimp only at z E H F hr;subst z E H F hr;obtain⟨x,D⟩:=aB ha;have e:dL p s ⟨6,a,b,0,[]⟩=⟨7,a,b,0,x⟩:=by simp[dL,uK,uA,uB,uC,uR,D]
  rw[e,zfE];obtain⟨K,hK⟩:=aO ((s.v+(b:Int)).toNat);have U:s.v.toNat+b=K:=RU;rw[U]at I;rw[<-hK];have ac:((s.rows.map fun r=>r.eraseIdx K).eraseIdx a).length=s.rows-1:=by rw[mW Sq,bt]
  have b3:=Ev x (a_ D);have bi:=(I a x D).1 rfl;refine⟨zjq Tg Tg Tg VG Tg (Sys.el h x (a_ D)) (by dsimp only;rw[<-hK];exact bi),?_⟩;rw[zfF];refine pK rfl Tg ?_;dsimp only;rw[<-hK,zhd,ko];have a6:(s.rows.map ((fun r=>bK r K 0)∘fun r=>r.eraseIdx K)).eraseIdx a=s.rows.eraseIdx a:=by
   apply fu;intro j;rw[ij,ij,cp];obtain⟨i,hi⟩:=aO (if j<a then j else j+1);have ba:i≠a:=by rw[hi];split <;>omega
   rw[<-hi];cases hr:s.rows[i]? with
   |none=>rfl
   |some r=>
    have be:=Ev r (a_ hr);have R:r.getD K 0=0:=CT fun bb=>ba ((I i r hr).2 bb)
    obtain⟨u,Z⟩:=aB (RU:K<r.length);rw[getD_some Z]at R;subst R;simp only[sd,Function.comp];rw[xG Z]
  rw[a6,xG D]
 |bring z a b E H ha hb am a9 ac a8 I F=>
  dsimp only at z E H F ac a8 I;subst z E H F;have e:dL p s ⟨7,a,b,0,row⟩=⟨6,a,b,0,[]⟩:=UO;rw[e,zfF];obtain⟨K,hK⟩:=aO ((s.v+(b:Int)).toNat);have U:s.v.toNat+b=K:=RU;rw[U]at I;rw[<-hK];have a2:(s.rows.map fun r=>bK r K 0).length=s.rows:=bt _;have b1:(bK (s.rows.map fun r=>bK r K 0) a row).length=s.rows+1:=by rw[lD,a2]
  refine⟨zjp Tg Tg (fun j r J=>?_),?_⟩
  .dsimp only at J ⊢;rw[<-hK];rw[zhc _ _ _ _ (by rw[a2];exact ha)]at J;have a1:∀(i:Nat) (q:aG),(s.rows.map fun r=>bK r K 0)[i]?=some q->q.getD K 0=0:=fun i q ad=>by rw[cp]at ad;obtain⟨a5,bd,rfl⟩:=pV.1 ad;have be:=Ev a5 (a_ bd);exact qU (a:=0) (RU:K<=a5.length)
   by_cases a0:j<a
   .rw[ay a0]at J;exact⟨fun e=>RU,fun e=>absurd (a1 j r J) e⟩
   .rw[al a0]at J;by_cases ab:j=a
    .rw[ay ab]at J;cases J
     exact⟨fun _=>I,fun _=>ab⟩
    .rw[al ab]at J;exact⟨fun e=>absurd e ab,fun e=>absurd (a1 _ r J) e⟩
  .rw[zfE];refine pK rfl Tg ?_;dsimp only;rw[<-hK,zhe,ko,xH (by rw[bt];exact ha)];exact YO
 |forget z b H hb I ha F hr=>
  dsimp only at z H ha F hr;subst z H ha F hr;have e:dL p s ⟨8,0,b,0,[]⟩=⟨9,0,b,0,[]⟩:=UO;rw[e,zfG];obtain⟨K,hK⟩:=aO ((s.v+(b:Int)).toNat);have U:s.v.toNat+b=K:=RU;rw[U]at I;rw[<-hK];refine⟨zjs Tg VG,?_⟩;rw[zfH];refine pK rfl Tg ?_;dsimp only;rw[<-hK,ko];conv=>rhs;rw[<-List.map_id s.rows]
  exact jD fun r hr=>by have:=Ev r hr;obtain⟨u,Z⟩:=aB (RU:K<r.length);have R:=I r hr;rw[getD_some Z]at R;subst R;exact xG Z
 |invent z b H hb a9 ha F hr=>
  dsimp only at z H ha F hr;subst z H ha F hr;have e:dL p s ⟨9,0,b,0,[]⟩=⟨8,0,b,0,[]⟩:=UO;rw[e,zfH];obtain⟨K,hK⟩:=aO ((s.v+(b:Int)).toNat);rw[<-hK];refine⟨zjr Tg (fun r hr=>?_),?_⟩
  .dsimp only at hr ⊢;rw[<-hK];obtain⟨q,ad,rfl⟩:=cf.1 hr;have:=Ev q ad;exact qU RU
  .rw[zfG];refine pK rfl Tg ?_;dsimp only;rw[<-hK,ko];exact YO
def zgc{x:cS}(h:s.Ok p)(z:eI p s x=true)(F:Nat->Int):s.Vis p F↔(cE p s x).Vis p F:=by obtain⟨u1,u2⟩:=rR h z;have H:=gG h z;have E:=Ec H u1;rw[u2]at E;exact⟨fun D=>E.jM rfl D,fun D=>(Ec h z).jM rfl D⟩
def zgd{x:cS}(h:s.Ok p)(z:eI p s x=true):qA p (cE p s x)=qA p s:=zgW (gG h z) h rfl fun D=>(zgc h z D).symm
def zar{p:Int}{s:Sy}{xs:List cS}(h:s.Ok p):∀(n:Nat),n<=bO p s xs->bO p (dC p s xs n) (qJ p s xs n).reverse=n/\dC p (dC p s xs n) (qJ p s xs n).reverse n=s
 |0,_=>by rw[gg];exact⟨rfl,rfl⟩
 |n+1,H=>by
  have F:=fj p xs s;have z:xs[n]?=some xs[n]:=dA RU;obtain⟨D,E⟩:=zar (xs:=xs) h n RU;obtain⟨u1,u2⟩:=rR (jG h (RU:n<=bO p s xs)) (vP RU z);rw[Bc z,dk z,List.reverse_append,List.reverse_cons,List.reverse_nil,r_,List.singleton_append];refine⟨?_,?_⟩
  .unfold bO;rw[ay u1,u2,D]
  .unfold dC;rw[u2,E]
def zge{xs:List cS}(h:s.Ok p)(z:bO p s xs=xs.length):bO p (dC p s xs xs) (qJ p s xs xs).reverse=xs.length/\dC p (dC p s xs xs) (qJ p s xs xs).reverse xs=s:=zar h xs RU
end Go.Proofs.YtdpgblncijojiaaGreatDoor
