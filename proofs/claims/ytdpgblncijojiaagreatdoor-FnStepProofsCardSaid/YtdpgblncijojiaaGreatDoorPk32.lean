/- Parts of the walks. Conditions: as stated with each. -/
import Derived.Test.YtdpgblncijojiaaGreatDoorPk31
namespace Go.Proofs.YtdpgblncijojiaaGreatDoor
open Go.RowKit Tryz
set_option linter.all false
variable{M:aC}{Rn:Nat->Int}{k:Nat}{p:Int}{s:Sy}
def zja(p:Int)(n:Nat)(M:aC)(x:Nat->Int):Prop:=∀r∈M,p∣cm (fun d=>r.getD d 0*x d) n
def Sy.n(s:Sy):Nat:=s.v.toNat+s.h.toNat
variable{n:Nat}
def Sy.Sat(p:Int)(s:Sy)(x:Nat->Int):Prop:=zja p s.n s.rows x
def Sy.Vis(p:Int)(s:Sy)(z:Nat->Int):Prop:=∀x,s.Sat p x->p∣cm (fun d=>x d*z d) s.v.toNat
def uq(p:Int)(s:Sy):List (List Int):=jM p s.v.toNat (oC s.v.toNat (jE p s.rows s.n))
def zaB{x:Nat->Int}:zja p n M x↔∀i,i<M.length->p∣cm (fun d=>eM M i d*x d) n:=by
 constructor
 .intro h i hi;exact h _ (gT hi)
 .intro h r z;obtain⟨i,hi⟩:=eN.1 z;have:=h i (bs.1 hi).1;unfold eM at this;rwa[getD_some hi]at this
def Sy.zjF(h:s.Ok p):(s.v+s.h).toNat=s.n:=by have:=Sys.v0 h;have:=Sys.h0 h;unfold Sy.n;omega
def Sy.shp(h:s.Ok p):gZ p s.rows s.n s.rows:=by rw[<-Sy.zjF h];exact zeJ h
def yJ(h:s.Ok p):∃N,N<=s.n/\gZ p N s.v.toNat (oC s.v.toNat (jE p s.rows s.n))/\∀z,(∀i,i<N->p∣cm (fun d=>eM (oC s.v.toNat (jE p s.rows s.n)) i d*z d) s.v.toNat)↔s.Vis p z:=by
 obtain⟨r,l,F,D,_,E⟩:=qi (Sys.f h) (Sys.p2 h) (Sy.shp h);refine⟨r,F,rm D SW,fun z=>?_⟩;refine(CK (h:=s.h.toNat) z).trans ((E _).trans ?_);unfold Dg Sy.Vis Sy.Sat;refine pb fun x=>?_
 rw[zaB];refine imp_congr_right fun _=>?_
 have e:cm (fun d=>x d*zbi s.v.toNat z d) s.n=cm (fun d=>x d*z d) s.v.toNat:=by unfold Sy.n;rw[zD _ _ _ (fun c B=>by unfold zbi;rw[ak Ry,o0])];exact cG fun c B=>by unfold zbi;rw[ar B]
 rw[e]
def zhk{t:Sy}(B:s.Ok p)(I:t.Ok p)(J:s.v=t.v)(h:∀z,s.Vis p z↔t.Vis p z):uq p s=uq p t:=by obtain⟨N,_,D,E⟩:=yJ B;obtain⟨N',_,F,H⟩:=yJ I;unfold uq;rw[J]at D E ⊢;exact CT (Sys.f B) (Sys.p2 B) D F fun z=>(E z).trans ((h z).trans (H z).symm)
def zir(p:Int)(s t:Sy):Prop:=∀x,s.Sat p x->∃y,t.Sat p y/\∀c,c<s.v.toNat->p∣x c-y c
def zir.jU{t:Sy}(h:zir p s t)(D:s.v=t.v)(H:t.Vis p Rn):s.Vis p Rn:=fun x E=>by obtain⟨y,F,z⟩:=h x E;have:=H y F;rw[<-D]at this;exact iN (fN fun c B=>lj (z c B)) this
def Ce(k d:Nat):Nat:=if d<k then d else d+1
def Ax(g:Nat->Int)(k:Nat):∀(n:Nat),k<=n->cm g (n+1)=cm (fun d=>g (Ce k d)) n+g k
 |0,h=>by have:k=0:=Ry;subst this;simp[cm]
 |n+1,h=>by
  by_cases B:k<=n
  .have ih:=Ax g k n B;rw[cm,ih,cm];rw[show Ce k n=n+1 by unfold Ce;rw[ak Ry]];omega
  .have:k=n+1:=Ry;subst this;rw[cm,cG (f:=g) (g:=fun d=>g (Ce (n+1) d)) (fun c z=>by unfold Ce;rw[ar z])]
def Bp(k:Nat)(a:Int)(y:Nat->Int)(c:Nat):Int:=if c<k then y c else if c=k then a else y (c-1)
def Ay(k:Nat)(a:Int)(y:Nat->Int)(d:Nat):Bp k a y (Ce k d)=y d:=by unfold Bp Ce;exact XL
def zhl(k:Nat)(a:Int)(y:Nat->Int):Bp k a y k=a:=by unfold Bp;rw[ak Ry,ar rfl]
def zf4{r:aH}{a:Int}(z:k<=r.length)(d:Nat):(bK r k a).getD (Ce k d) 0=r.getD d 0:=by unfold bK;rw[bg,kh _ _ _ _ z,bg];unfold Ce;exact XL
def rI{r:aH}{a:Int}(z:k<=r.length):(bK r k a).getD k 0=a:=by unfold bK;rw[bg,kh _ _ _ _ z,ak Ry,ar rfl];rfl
def zf5(r:aH)(k d:Nat):(r.eraseIdx k).getD d 0=r.getD (Ce k d) 0:=by rw[bg,gG,bg];rfl
def zc0{r:aH}{a:Int}(x:Nat->Int)(z:k<=r.length)(B:k<=n):cm (fun d=>(bK r k a).getD d 0*x d) (n+1)=cm (fun d=>r.getD d 0*x (Ce k d)) n+a*x k:=by rw[Ax _ k n B];rw[rI z,cG (fun d _=>by rw[zf4 z])]
def Dk{r:aH}(x:Nat->Int)(z:k<=n):cm (fun d=>r.getD d 0*x d) (n+1)=cm (fun d=>(r.eraseIdx k).getD d 0*x (Ce k d)) n+r.getD k 0*x k:=by rw[Ax _ k n z];rw[cG (fun d _=>by rw[<-zf5])]
inductive zis (p:Int) (s:Sy) (x:cZ):Prop
 |swap (hk:x.k=1) (a b:Nat) (ea:x.a=a) (eb:x.b=b) (ha:a<s.rows.length) (hb:b<s.rows.length) (hab:a≠b) (hc:x.c=0) (hr:x.row=[])
 |scale (hk:x.k=2) (a:Nat) (ea:x.a=a) (ha:a<s.rows.length) (c1:1<=x.c) (c2:x.c<p) (hb:x.b=0) (hr:x.row=[])
 |add (hk:x.k=3) (a b:Nat) (ea:x.a=a) (eb:x.b=b) (ha:a<s.rows.length) (hb:b<s.rows.length) (hab:a≠b) (c1:0<=x.c) (c2:x.c<p) (hr:x.row=[])
 |drop (hk:x.k=4) (a:Nat) (ea:x.a=a) (ha:a<s.rows.length) (hz:∀y∈s.rows.getD a [],y=0) (hb:x.b=0) (hc:x.c=0) (hr:x.row=[])
 |put (hk:x.k=5) (a:Nat) (ea:x.a=a) (ha:a<=s.rows.length) (hn:s.rows.length<160) (hb:x.b=0) (hc:x.c=0) (hr:x.row=[])
 |solve (hk:x.k=6) (a b:Nat) (ea:x.a=a) (eb:x.b=b) (ha:a<s.rows.length) (hb:b<s.h.toNat) (hz:∀(j:Nat) (r:aH),s.rows[j]?=some r->(j=a↔r.getD (s.v.toNat+b) 0≠0)) (hc:x.c=0) (hr:x.row=[])
 |bring (hk:x.k=7) (a b:Nat) (ea:x.a=a) (eb:x.b=b) (ha:a<=s.rows.length) (hb:b<=s.h.toNat) (hn:s.rows.length<160) (hh:s.h<100) (hl:x.row.length=s.n+1) (he:∀y∈x.row,0<=y/\y<p) (hz:x.row.getD (s.v.toNat+b) 0≠0) (hc:x.c=0)
 |forget (hk:x.k=8) (b:Nat) (eb:x.b=b) (hb:b<s.h.toNat) (hz:∀r∈s.rows,r.getD (s.v.toNat+b) 0=0) (ha:x.a=0) (hc:x.c=0) (hr:x.row=[])
 |invent (hk:x.k=9) (b:Nat) (eb:x.b=b) (hb:b<=s.h.toNat) (hh:s.h<100) (ha:x.a=0) (hc:x.c=0) (hr:x.row=[])
def zf6{x:cZ}(h:s.Ok p)(z:eZ p s x=true):zis p s x:=by
 obtain⟨k,a,b,c,row⟩:=x;have a5:=Sys.v0 h;have a3:=Sys.h0 h;unfold eZ jO at z;dsimp only at z;rw[bn]at z;obtain⟨B,z⟩:=z;unfold jb at B;by_cases Q:k=1
 .subst Q;rw[ar rfl]at z;simp[bh]at z B;obtain⟨⟨E,F⟩,⟨H,I⟩,ao⟩:=z;exact .swap rfl a.toNat b.toNat SP SP Ry Ry Ry B.1 B.2
 by_cases R:k=2
 .subst R;rw[ak RC,ar rfl]at z;simp[bh]at z B;obtain⟨⟨E,F⟩,c1,c2⟩:=z;exact .scale rfl a.toNat SP Ry c1 SP B.1 B.2
 by_cases T:k=3
 .subst T;rw[ak RC,ak RC,ar rfl]at z;simp[bh]at z B;obtain⟨⟨⟨E,F⟩,⟨H,I⟩,ao⟩,c1,c2⟩:=z;exact .add rfl a.toNat b.toNat SP SP Ry Ry Ry c1 SP B
 by_cases U:k=4
 .subst U;rw[ak RC,ak RC,ak RC,ar rfl,bn,bh,eD]at z;simp at B;obtain⟨⟨E,F⟩,D⟩:=z;exact .drop rfl a.toNat SP Ry (fun y a2=>by have:=D y a2;rw[bh]at this;omega) B.1 B.2.1 B.2.2
 by_cases Z:k=5
 .subst Z;rw[ak RC,ak RC,ak RC,ak RC,ar rfl]at z;simp[bh]at z B;obtain⟨⟨E,F⟩,O⟩:=z;exact .put rfl a.toNat SP Ry O B.1 B.2.1 B.2.2
 by_cases ab:k=6
 .subst ab;rw[ak RC,ak RC,ak RC,ak RC,ak RC,ar rfl,bn,bn,bh,bh,si]at z;simp at B;obtain⟨⟨E,F⟩,⟨H,I⟩,D⟩:=z;refine .solve rfl a.toNat b.toNat SP SP Ry Ry (fun j r a0=>?_) B.1 B.2;have:=D j _ (oH.2 ⟨r,a0,rfl⟩);rw[show(s.v+b).toNat=s.v.toNat+b.toNat by omega]at this;rw[<-this];omega
 by_cases ac:k=7
 .subst ac;rw[ak RC,ak RC,ak RC,ak RC,ak RC,ak RC,ar rfl]at z;simp only[bn,bh,cw,eD,fC]at z;simp at B;obtain⟨⟨E,F⟩,⟨H,I⟩,O,J,a4,ap,D⟩:=z;rw[show(s.v+b).toNat=s.v.toNat+b.toNat by omega]at D;exact .bring rfl a.toNat b.toNat SP SP Ry Ry O J (by dsimp only;unfold Sy.n;omega) ap (by simpa using D) B
 by_cases ad:k=8
 .subst ad;rw[ak RC,ak RC,ak RC,ak RC,ak RC,ak RC,ak RC,ar rfl,bn,bh,eD]at z;simp at B;obtain⟨⟨H,I⟩,D⟩:=z;refine .forget rfl b.toNat SP Ry (fun r a1=>?_) B.1 B.2.1 B.2.2;have:=D (r.getD (s.v+b).toNat 0) (cd.2 ⟨r,a1,rfl⟩);rw[bh,show(s.v+b).toNat=s.v.toNat+b.toNat by omega]at this;omega
 by_cases am:k=9
 .subst am;rw[ak RC,ak RC,ak RC,ak RC,ak RC,ak RC,ak RC,ak RC,ar rfl]at z;simp[bh]at z B;obtain⟨⟨H,I⟩,J⟩:=z;exact .invent rfl b.toNat SP Ry J B.1 B.2.1 B.2.2
 .rw[ak Q,ak R,ak T,ak U,ak Z,ak ab,ak ac,ak ad,ak am]at z;cases z
def zf7(p:Int)(s:Sy)(a:Nat):cq p s ⟨5,a,0,0,[]⟩=⟨s.v,s.h,bK s.rows a (List.replicate (s.v+s.h).toNat 0)⟩:=SQ
def zf8(p:Int)(s:Sy)(a b:Nat):cq p s ⟨6,a,b,0,[]⟩=⟨s.v,s.h-1,(s.rows.map (fun r=>r.eraseIdx (s.v+(b:Int)).toNat)).eraseIdx a⟩:=SQ
def zf9(p:Int)(s:Sy)(a b:Nat)(row:aH):cq p s ⟨7,a,b,0,row⟩=⟨s.v,s.h+1,bK (s.rows.map (fun r=>bK r (s.v+(b:Int)).toNat 0)) a row⟩:=SQ
def zf_(p:Int)(s:Sy)(b:Nat):cq p s ⟨8,0,b,0,[]⟩=⟨s.v,s.h-1,s.rows.map (fun r=>r.eraseIdx (s.v+(b:Int)).toNat)⟩:=SQ
def zga(p:Int)(s:Sy)(b:Nat):cq p s ⟨9,0,b,0,[]⟩=⟨s.v,s.h+1,s.rows.map (fun r=>bK r (s.v+(b:Int)).toNat 0)⟩:=SQ
def Dl{r:aH}{x:Nat->Int}(h:∀d,d<n->r.getD d 0=0):p∣cm (fun d=>r.getD d 0*x d) n:=by rw[lY fun d z=>by rw[h d z,lP]];exact⟨0,Rx⟩
def vC{a:Int}(y:Int):p∣a%p*y-a*y:=lj (ot a p)
def Bq{B:Type}{l:List B}{a:Nat}{r:B}(h:r∈l.eraseIdx a):∃j,j≠a/\l[j]?=some r:=by obtain⟨j,z⟩:=eN.1 h;rw[gG]at z;refine⟨_,?_,z⟩;split <;>omega
def zaC{x:cZ}(h:s.Ok p)(ao:eZ p s x=true):zir p s (cq p s x):=by
 intro y hy;have Ex:∀r∈s.rows,r.length=s.n:=fun r B=>by have:=Sys.len h r B;have:=Sys.v0 h;have:=Sys.h0 h;unfold Sy.n;omega
 have bz:=Sys.v0 h;have bv:=Sys.h0 h;have oD:∀{t:Sy},t.Sat p y->∃a2,t.Sat p a2/\∀c,c<s.v.toNat->p∣y c-a2 c:=fun be=>⟨y,be,fun c _=>⟨0,Ry⟩⟩
 have a4:=zf6 h ao;clear ao;obtain⟨k,bo,bp,Q,row⟩:=x;cases a4 with
 |swap z a b F H J I a7 E B=>
  dsimp only at z F H E B;subst z F H E B;rw[DM];refine oD fun r D=>?_
  show p∣cm _ s.n
  rcases mem_set D with O|rfl
  .rcases mem_set O with O|rfl
   .exact hy r O
   .exact hy _ (gT I)
  .exact hy _ (gT J)
 |scale z a F J c1 c2 I B=>
  dsimp only at z F I B c1 c2;subst z F I B;rw[DN];refine oD fun r D=>?_
  show p∣cm _ s.n
  rcases mem_set D with O|rfl
  .exact hy r O
  .have am:=gT J;have T:=hy _ am;have ab:=Ex _ am;refine iN (b:=Q*cm (fun d=>(s.rows.getD a []).getD d 0*y d) s.n) ?_ (Int.dvd_mul_of_dvd_right T);rw[<-mM];refine fN fun d Z=>?_
   rw[uD (by rw[ab];exact Z),show Q*((s.rows.getD a []).getD d 0*y d)=((s.rows.getD a []).getD d 0*Q)*y d by rw[<-nk,iI Q]];exact vC _
 |add z a b F H J I a7 c1 c2 B=>
  dsimp only at z F H B c1 c2;subst z F H B;rw[DL];refine oD fun r D=>?_
  show p∣cm _ s.n
  rcases mem_set D with O|rfl
  .exact hy r O
  .have a0:=gT J;have a1:=gT I;have bm:=Ex _ a0;have ap:=Ex _ a1;refine iN (b:=cm (fun d=>(s.rows.getD b []).getD d 0*y d) s.n+Q*cm (fun d=>(s.rows.getD a []).getD d 0*y d) s.n) ?_ (qJ (hy _ a1) (Int.dvd_mul_of_dvd_right (hy _ a0)));rw[<-mM,<-lF];refine fN fun d Z=>?_
   rw[tY (by rw[bm,ap]) (by rw[ap];exact Z)];rw[show(s.rows.getD b []).getD d 0*y d+Q*((s.rows.getD a []).getD d 0*y d)=((s.rows.getD b []).getD d 0+Q*(s.rows.getD a []).getD d 0)*y d by rw[Int.add_mul,nk]];exact vC _
 |drop z a F J U I E B=>
  dsimp only at z F I E B;subst z F I E B;rw[DP];refine oD fun r D=>?_
  exact hy r (te D)
 |put z a F J ba I E B=>
  dsimp only at z F I E B;subst z F I E B;rw[zf7];refine oD fun r D=>?_
  rcases pA D with O|rfl
  .exact hy r O
  .exact Dl fun d _=>by rw[bg,fR];split <;>rfl
 |solve z a b F H J I U E B=>
  dsimp only at z F H E B;subst z F H E B;rw[zf8];refine⟨fun d=>y (Ce (s.v.toNat+b) d),?_,fun c E=>⟨0,by show y c-y (Ce (s.v.toNat+b) c)=p*0;unfold Ce;rw[ar Ry];omega⟩⟩;have R:s.n=(s.v.toNat+(s.h-1).toNat)+1:=SW;intro r D;dsimp only at D
  show p∣cm (fun d=>r.getD d 0*y (Ce (s.v.toNat+b) d)) (s.v.toNat+(s.h-1).toNat)
  rw[show(s.v+(b:Int)).toNat=s.v.toNat+b by omega]at D;obtain⟨j,a9,ad⟩:=Bq D;rw[bR]at ad;obtain⟨q,hq,rfl⟩:=o_.1 ad;have T:=hy q (aR hq);have bd:q.getD (s.v.toNat+b) 0=0:=qL fun bb=>a9 ((U j q hq).2 bb)
  rw[R,Dk (k:=s.v.toNat+b) _ Ry,bd,lP,qz]at T;exact T
 |bring z a b F H J I ba a8 ab ac U E=>
  dsimp only at z F H E ab ac U;subst z F H E;rw[zf9];have R:s.v.toNat+(s.h+1).toNat=s.n+1:=SW;have K3:s.v.toNat+b<=s.n:=SW;obtain⟨K,hK⟩:=aK (s.v.toNat+b);rw[<-hK]at U K3;have a5:row.getD K 0∈row:=by rw[bg,dq (Ry:K<row.length)];exact oX _
  obtain⟨br,a3⟩:=ac _ a5;obtain⟨bi,_,_⟩:=iW (Sys.f h) (Ry:1<=row.getD K 0) a3;obtain⟨S,a6⟩:=aK (cm (fun d=>(row.eraseIdx K).getD d 0*y d) s.n);refine⟨Bp K (-(ec p (row.getD K 0)*S)) y,?_,fun c E=>⟨0,Vf⟩⟩;intro r D;dsimp only at D;rw[show(s.v+(b:Int)).toNat=K by omega]at D
  show p∣cm (fun d=>r.getD d 0*Bp K (-(ec p (row.getD K 0)*S)) y d) (s.v.toNat+(s.h+1).toNat)
  rw[R];rcases pA D with O|rfl
  .obtain⟨q,hq,rfl⟩:=cd.1 O;exact X4
  .rw[Dk (k:=K) _ K3,cG (fun d _=>by rw[Ay]),zhl,<-a6,Int.mul_neg,<-nk];have:=ot (r.getD K 0*ec p (r.getD K 0)) p;rw[bi]at this;have:=Int.dvd_mul_of_dvd_left (c:=S) this;rw[tl,Int.one_mul]at this;exact this
 |forget z b H I U J E B=>
  dsimp only at z H J E B;subst z H J E B;rw[zf_];refine⟨fun d=>y (Ce (s.v.toNat+b) d),?_,fun c E=>⟨0,by show y c-y (Ce (s.v.toNat+b) c)=p*0;unfold Ce;rw[ar Ry];omega⟩⟩;have R:s.n=(s.v.toNat+(s.h-1).toNat)+1:=SW;intro r D;dsimp only at D
  show p∣cm (fun d=>r.getD d 0*y (Ce (s.v.toNat+b) d)) (s.v.toNat+(s.h-1).toNat)
  rw[show(s.v+(b:Int)).toNat=s.v.toNat+b by omega]at D;obtain⟨q,hq,rfl⟩:=cd.1 D;have T:=hy q hq;rw[R,Dk (k:=s.v.toNat+b) _ Ry,U q hq,lP,qz]at T;exact T
 |invent z b H I a8 J E B=>
  dsimp only at z H J E B;subst z H J E B;rw[zga];have R:s.v.toNat+(s.h+1).toNat=s.n+1:=SW;have K3:s.v.toNat+b<=s.n:=SW;refine⟨Bp (s.v.toNat+b) 0 y,?_,fun c E=>⟨0,Vf⟩⟩;intro r D;dsimp only at D;rw[show(s.v+(b:Int)).toNat=s.v.toNat+b by omega]at D
  show p∣cm (fun d=>r.getD d 0*Bp (s.v.toNat+b) 0 y d) (s.v.toNat+(s.h+1).toNat)
  rw[R];obtain⟨q,hq,rfl⟩:=cd.1 D;exact X4
end Go.Proofs.YtdpgblncijojiaaGreatDoor
