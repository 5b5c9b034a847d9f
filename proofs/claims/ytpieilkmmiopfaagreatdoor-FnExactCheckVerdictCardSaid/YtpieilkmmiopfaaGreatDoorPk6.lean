/- Parts of the walks. Conditions: as stated with each. -/
import Derived.Test.YtpieilkmmiopfaaGreatDoorPk4
import Derived.Test.YtpieilkmmiopfaaGreatDoorPk5
namespace Go.Proofs.YtpieilkmmiopfaaGreatDoor
open Go.RowKit Tryz
set_option linter.all false
set_option maxHeartbeats 4000000
variable{B b i k:Nat}{T u v0 v1 v2 v3 v4 v5 v6 v7 v8 z z2:aG}{p:Int}{t:dL}{w w':aa}
structure j8 where
 k:Int
 a:Int
 b:Int
 c:Int
 row:List Int
structure Sy where
 v:Int
 h:Int
 rows:List (List Int)
def iQ(p:Int)(s:Sy)(x:j8):Sy:=⟨s.v,fO x.k s.h,cG p s.v s.rows x.k x.a x.b x.c x.row (s.v+s.h).toNat⟩
def vO(p:Int)(s:Sy)(x:j8):Bool:=nR p s.v s.h s.rows x.k x.a x.b x.c x.row
def Sy.Ok(p:Int)(s:Sy):Prop:=Δ p s.v s.h s.rows
def zhV{s}{x}(D:s.Ok p)(h:vO p s x=true):(iQ p s x).Ok p:=by unfold vO at h;rw[sy D,bN,bN]at h;exact mY.1 h.2.2
def iU(p:Int):Sy->List j8->Nat->Sy
 |s,[],_=>s
 |s,_::_,0=>s
 |s,x::xs,n+1=>iU p (iQ p s x) xs n
def eL(p:Int):Sy->List j8->Nat
 |_,[]=>0
 |s,x::xs=>if vO p s x=true then eL p (iQ p s x) xs+1 else 0
def mG p s xs:iU p s xs 0=s:=by cases xs<;>rfl
def qJ{p}{x}:∀{xs:List j8} {s:Sy} {i:Nat},xs[i]?=some x->iU p s xs (i+1)=iQ p (iU p s xs i) x
 |[],_,_,h=>QO
 |y::ys,s,0,h=>by simp at h;subst h;simp[iU,mG]
 |y::ys,s,i+1,h=>by simp only[dm]at h;exact qJ (xs:=ys) (s:=iQ p s y) (i:=i) h
def pk p:∀(xs:List j8) (s:Sy),eL p s xs<=xs.length
 |[],_=>ae _
 |x::xs,s=>by
  have:=pk p xs (iQ p s x);unfold eL;split
  .simp;omega
  .omega
def zfw{p}{x}:∀{xs:List j8} {s:Sy} {i:Nat},i<eL p s xs->xs[i]?=some x->vO p (iU p s xs i) x=true
 |[],_,_,_,h=>QO
 |y::ys,s,i,hi,h=>by
  unfold eL at hi;split at hi
  .rename_i D;cases i with
   |zero=>simp at h;subst h;rw[mG];exact D
   |succ i=>
    simp only[dm]at h;exact zfw (xs:=ys) (s:=iQ p s y) (i:=i) Qu h
  .omega
def zgm{p}{x}:∀{xs:List j8} {s:Sy} {i:Nat},i=eL p s xs->xs[i]?=some x->vO p (iU p s xs i) x=false
 |[],_,_,_,h=>QO
 |y::ys,s,i,hi,h=>by
  unfold eL at hi;split at hi
  .cases i with
   |zero=>omega
   |succ i=>
    simp only[dm]at h;exact zgm (xs:=ys) (s:=iQ p s y) (i:=i) Qu h
  .rename_i D;subst hi;simp at h;subst h;rw[mG];simpa using D
def zdV{s}{xs}{x}(hi:i<=eL p s xs)(F:xs[i]?=some x)(D:vO p (iU p s xs i) x=true):i+1<=eL p s xs:=by
 rcases Dk hi with h|h
 .exact h
 .rw[zgm h F]at D;cases D
def zdW{s}{xs}{x}(hi:i<=eL p s xs)(F:xs[i]?=some x)(D:vO p (iU p s xs i) x=false):eL p s xs=i:=by
 rcases Dk hi with h|h
 .rw[zfw h F]at D;cases D
 .exact h.q
def vP{p}{s}{xs}(h:s.Ok p):∀{i:Nat},i<=eL p s xs->(iU p s xs i).Ok p
 |0,_=>by rw[mG];exact h
 |i+1,hi=>by have F:=pk p xs s;have D:xs[i]?=some xs[i]:=di Qu;rw[qJ D];exact zhV (vP h Qu) (zfw Qu D)
structure Small(s:Sy):Prop where
 n:s.rows.length<=160
 ι:∀r∈s.rows,r.length<=1000
def da(h:Sy)(D F):M (#[.int .i64 h.v,.int .i64 h.h,.slice D h.rows F]:Array Value):=⟨⟩
def pN(D F Y Z ab ac ad ah am an)(h:Sy)(G H I J O T U):M (#[.int .i64 (D:Nat),.slice F Y Z,.slice ab ac ad,.slice ah am an,.int .i64 h.v,.int .i64 h.h,.slice G h.rows H,.int .i64 (I:Nat),.int .i64 (J:Nat),.slice O T U]:Array Value):=⟨⟩
def CS(h:Sy)(D F G):M (#[.int .i64 h.v,.int .i64 h.h,.slice D F G]:Array Value):=⟨⟩
def Sy.Ok.β{s}(h:s.Ok p):Small s:=⟨Δ.n h,fun r D=>by have:=Δ.ι h r D;have:=Δ.Â h;have:=Δ.χ h;omega⟩
def Dq:Nat->Int->Int->Int->Int->Int
 |0,_,h,_,_=>h
 |f+1,p,h,a,n=>if 0<n then Dq f p (if n%2=1 then h*a%p else h) (a*a%p) (n / 2) else h
def zag:Nat->Int->Int->Int->Int
 |0,_,_,_=>0
 |f+1,p,a,x=>if x<p then(if a*x%p=1 then x else zag f p a (x+1)) else 0
def lu(p a:Int):Int:=zag 97 p a 1
def zj9(p:Int):Int:=p-2+(if p=2 then 1 else 0)
def zj_:((List.range 98).all fun p=>(!bV (p:Nat))||(List.range p).all fun a=>decide (a=0)||decide (Dq 7 (p:Nat) (1%(p:Nat)) (a:Nat) (zj9 (p:Nat))=lu (p:Nat) (a:Nat)))=true:=Rq
def Ý{a}(D:bV p=true)(I:1<=a)(J:a<p):Dq 7 p (1%p) a (zj9 p)=lu p a:=by
 have⟨G,H⟩:=cv D;obtain⟨q,rfl⟩:=iz (Qu:0<=p);obtain⟨c,rfl⟩:=iz (Qu:0<=a);have h:=eD.1 zj_ q (fj.2 Qu);rw[D]at h;simp only[Bool.not_true,Bool.false_or,eD,fj,jS,cf]at h;rcases h c Qu with F|F
 .omega
 .exact F
def zfH b w:az 227 #[.bool b] w fun e w'=>e=.returned (zI (if b=true then 1 else 0))/\w=w':=by
 cases b
 all_goals
  go_enter func227,ntmps227
  go_wp2;go_ret
  exact⟨Qt,rfl⟩
def zah p a w(F:2<=p)(G:p<=97)(h:0<=a)(D:a<p):az 156 (bC p a) w fun e w'=>e=.returned (zI ((p-a)%p))/\w=w':=by
 go_enter func156,ntmps156
 exact We
def zis{x y:Int}(D:0<=x)(F:x<=97)(h:0<=y)(G:y<=97):0<=x*y/\x*y<=9409:=by
 constructor
 .exact rS D h
 .calc x*y<=97*y:=zb_ F h
   _<=97*97:=zca G Qu
   _<=9409:=Qu
def zai p a n w(bd:2<=p)(be:p<=97)(a7:0<=a)(a8:a<=97)(bb:0<=n)(bc:n<128):az 226 (gT p a n) w fun e w'=>e=.returned (zI (Dq 7 p (1%p) a n))/\w=w':=by
 have a5:0<=1%p:=gV _ Qu;have a6:1%p<p:=gW _ Qu;have⟨R,I⟩:=aR (Dq 7 p (1%p) a n);rw[<-I];have Y:=zH I;clear I;go_enter func226,ntmps226
 go_wp2;go_loop [1,2,7] (fun x y z=>∃(f:Nat) (b m o:Int),x=.int .i64 b/\y=.int .i64 m/\z=.int .i64 o/\0<=b/\b<=97/\0<=o/\o<=97/\0<=m/\m<2 ^ f/\m<128/\R=Dq f p o b m) (fun _ y _=>(intOf y).toNat)
 case atStart=>exact⟨7,_,_,_,rfl,rfl,rfl,Qu,Qu,Qu,Qu,Qu,Qu,Qu,Y⟩
 case round=>
  obtain⟨f,b,m,o,rfl,rfl,rfl,J,O,ah,am,a9,Z,ba,ab⟩:=hrel;have⟨G,T⟩:=bJ ab Z;clear ab Z Y;by_cases H:0<m
  .have⟨ao,ap⟩:=zis J O J O;have⟨av,a0⟩:=zis ah am J O;have a1:0<=b*b%p:=gV _ Qu;have a2:b*b%p<p:=gW _ Qu;have a3:0<=o*b%p:=gV _ Qu;have a4:o*b%p<p:=gW _ Qu;have ad:∃D,f=D+1:=by
    cases f with
    |zero=>have:=T.o;simp at this;omega
    |succ f=>exact⟨f,rfl⟩
   obtain⟨D,rfl⟩:=ad;have U:=zH (show m / 2<2 ^ D by have:=T.o;rw[Int.pow_succ]at this;omega);by_cases h:m%2=1
   .have an:(m%2==1)=true:=by simp[h]
    have F:=zH h;clear h;go_wp2;go_round
    case rel=>exact⟨D,_,_,_,rfl,rfl,rfl,Qu,Qu,Qu,Qu,Qu,U,Qu,by rw[G.o,Dq,ak H,ak F.o]⟩
    case measure=>simp[intOf];omega
   .have an:(m%2==1)=false:=by simp[h]
    have F:=zH h;clear h;go_wp2;go_round
    case rel=>exact⟨D,_,_,_,rfl,rfl,rfl,Qu,Qu,Qu,Qu,Qu,U,Qu,by rw[G.o,Dq,ak H,aj F.o]⟩
    case measure=>simp[intOf];omega
  .have ac:=zH H;go_wp2;go_ret
   exact⟨rl (by rw[G.o];cases f with|zero=>rfl|succ f=>rw[Dq,aj (by have:=ac.o;omega)]),rfl⟩
def zcv p a w(h:bV p=true)(F:1<=a)(G:a<p):az 224 (bC p a) w fun e w'=>e=.returned (zI (lu p a))/\w=w':=by
 have⟨H,I⟩:=cv h;have D:=zH h;clear h;by_cases h2:p=2
 .have J:(p==2)=true:=QQ;have HI:=zH (by rw[<-Ý D F G,zj9,ak h2]:Dq 7 p (1%p) a (p-2+1)=lu p a);clear h2;go_enter func224,ntmps224
  go_wp2_with (first|(go_at_call 227;refine(zfH true _).x ?_;rintro e w' ⟨rfl,rfl⟩)|(go_at_call 226;refine(zai p a _ _ H I Qu Qu Qu Qu).x ?_;rintro e w' ⟨rfl,rfl⟩))
  exact WX
 .have J:(p==2)=false:=QQ;have HI:=zH (by rw[<-Ý D F G,zj9,aj h2,ux]:Dq 7 p (1%p) a (p-2)=lu p a);clear h2;go_enter func224,ntmps224
  go_wp2_with (first|(go_at_call 227;refine(zfH false _).x ?_;rintro e w' ⟨rfl,rfl⟩)|(go_at_call 226;refine(zai p a _ _ H I Qu Qu Qu Qu).x ?_;rintro e w' ⟨rfl,rfl⟩))
  exact WX
def zgD p a w(ah:2<=p)(am:p<=97)(O:0<=a)(Z:a<p):az 202 (bC p a) w fun e w'=>e=.returned (zI (lu p a))/\w=w':=by
 have⟨R,G⟩:=aR (lu p a);rw[<-G];have H:=zH G;clear G;go_enter func202,ntmps202
 go_wp2;go_loop [5] (fun x=>∃(f:Nat) (m:Int),x=.int .i64 m/\1<=m/\m<=p/\p-m<f/\R=zag f p a m) (fun x=>(p-intOf x).toNat)
 case atStart=>exact⟨97,1,rfl,Qu,Qu,Qu,H⟩
 case round=>
  obtain⟨f,m,rfl,ac,ad,ab,J⟩:=hrel;have D:=zH J;clear J H;have⟨U,Y⟩:=zis O Qu (Qu:0<=m) Qu;obtain⟨F,rfl⟩:∃F,f=F+1:=⟨f-1,Qu⟩;by_cases I:m<p
  .by_cases h1:a*m%p=1
   .have T:(a*m%p==1)=true:=QP;have h:=zH h1;clear h1;go_wp2;go_ret
    exact⟨rl (by rw[D.o,zag,ak I,ak h.o]),rfl⟩
   .have T:(a*m%p==1)=false:=QP;have h:=zH h1;clear h1;go_wp2;go_round
    case rel=>exact⟨F,_,rfl,Qu,Qu,Qu,by rw[D.o,zag,ak I,aj h.o]⟩
    case measure=>simp[intOf];omega
  .go_wp2;go_ret
   exact⟨rl (by rw[D.o,zag,aj Qu]),rfl⟩
def tj(p b:Int)A1 h ε D w:az 176 #[p,.slice A1 0 ε,b,.slice h 0 D] w fun e w'=>e=.returned (.tuple #[])/\w'=w:=by
 go_enter func176,ntmps176
 go_wp2;go_loopw [12] (fun i wr=>i=.int .i64 0/\wr=w) (fun _ _=>0)
 case atStart=>exact⟨rfl,rfl⟩
 case round=>
  obtain⟨rfl,rfl⟩:=hrel;go_wp2;go_end0
  exact⟨rfl,rfl⟩
def zgz(a b c p v D:Int)A ε rows w(ap:bt w A rows)(cb:rows.length<=160)(F6:∀r∈rows,r.length<=1000)(cc:1<=p)(ce:p<=1000)(b5:0<=a)(b6:a<rows.length)(hb:0<=b)(b8:b<rows.length)(b7:a≠b)(b9:0<=c)(ca:c<=1000)(hx:∀r∈rows,∀x∈r,0<=x/\x<=1000)(Z:∀r∈rows,r.length=0):az 252 (je (gT a b c) p (aA v D A rows ε)) w fun e w'=>∃u,e=.returned (.agg (en v D u))/\aY w' w u (rows.set b.toNat (dw p c (rows.getD b.toNat []) (rows.getD a.toNat [])))/\ag w w':=by
 refine OE fun ra GZ rb Hm=>?_
 have⟨bb,bd⟩:=bJ (SX:rows.getD a.toNat []=ra) (SW:rows.getD b.toNat []=rb);obtain rfl:ra=[]:=iq (Z ra (aU GZ));obtain rfl:rb=[]:=iq (Z rb (aU Hm));clear hx Z;refine Qc fun HM F_=>?_
 go_enter func252,ntmps252
 go_wp2_with fail
 refine(mQ _ _ _ _ _ _ (ap.ext (((al _ _).alloc Qt _ |>.alloc Qt _).alloc Rs _)) HM F_).x ?_;refine PT fun w1 FR us gA Ga hu _ _ _=>?_
 have⟨a7,b1,a8⟩:=cD w (.cells (gT a b c) 233) (.cells (aA v D A rows ε) 57) (.cells bx 57);have bz:=FR.size;simp only[dV]at bz;go_upto_region 2 with(fail)
 have⟨W2,FY⟩:=aR (w1.alloc (.cells (aA v D gA rows Ga) 57));rw[<-FY];have Y:ag w1 W2:=UP;have ch:(W2:Nat)=w1+1:=Rr;have G:=aT FR Y;have ab:bA W2 w1 (aA v D gA rows Ga) 57:=TK;have a5:=dg G a7;have a6:=dg G a8;have Gf:bL W2 ((w:Nat)+3) (.slice gA rows Ga) rows us:=(hu.ext Y).x Qt;have b0:∀g',gA=some ⟨g',0,none⟩->g' < (w1:Nat):=fun g' e=>UB
 have h:∀(k:Nat) (x:aG),us[k]?=some x->∀b,x.ownBlock=some b->b < (w1:Nat):=fun k x hx b hb=>Vk
 have av:ag w W2:=(ζ w _ _ _).t (G.x Rs);clear hu FR Y G ap F6 a7 b1 a8 FY;obtain⟨ci,a3,a1⟩:=Gf.F GZ;obtain⟨cj,a4,a2⟩:=Gf.F Hm;refine PI fun g GA Gy Gz=>?_
 subst GA;obtain⟨I,T,rfl,bv,_⟩:=a1.p;obtain⟨J,U,rfl,_,_⟩:=a2.p;have⟨ad,ah,am⟩:=cC a5;have an:=bB ab 2;simp only[dA,dm]at ad ah am an;have a9:af W2 g a.toNat (.slice I 0 T):=by rw[Gf.η.C _ Qu,a3];rfl
 have ba:af W2 g b.toNat (.slice J 0 U):=by rw[Gf.η.C _ Qu,a4];rfl
 have⟨bg,bc,be,bh,bi,ao⟩:=ny Gf av Hm a6 ab (tj p c J I U T W2.drew);clear Gf av a3 a4 a1 a2 GZ Hm bv b0 h a5 a6 ab;go_region_held3 (fun w'=>af w' w 0 (zI a)/\af w' w 1 (zI b)/\af w' w 2 (zI c)/\af w' w1 2 (.slice (bH g) rows Ga)/\af w' g a.toNat (.slice I 0 T)/\af w' g b.toNat (.slice J 0 U))
  (first|exact⟨ad,ah,am,an,a9,ba⟩)
  ((go_at_call 176;refine ao.x ?_;rintro e wr ⟨rfl,rfl⟩))
 have⟨O,F⟩:=aR W2.drew;have a0:O.heap=W2.heap:=by rw[F];rfl
 have ac:=bi.o;have H:=bh.o;rw[<-a0]at ac H;have h:=bg.ext (al _ _).drew;rw[<-F]at h ⊢;rw[<-qH be,show([]:aL)=dw p c [] [] from rfl]at h;rw[show(List.set rows b.toNat (dw p c [] []))=rows.set b.toNat (dw p c (rows.getD b.toNat []) (rows.getD a.toNat [])) by rw[bb.o,bd.o]]at h;simp only[iW]at h;have⟨HO,HE⟩:=bJ (show aY O ((w:Nat)+3) _ _ from⟨_,h⟩) (by rw[F];exact bc.drew:ag w O);clear F a0;clear h ad ah am an a9 ba ao;have⟨bn,bo,bp⟩:=cC ac;have⟨bq,br,bu⟩:=cC H;have⟨b2,b3,b4⟩:=cd H;simp only[dA,dm]at bn bo bp bq br bu;clear ac H;go_wp2;refine aI (v:=.agg (aA v D (bH g) rows Ga)) UA rfl ⟨_,rfl,?_,?_⟩
 .exact Ym
 .exact X7
def dD{x y}(h:bA w b #[x,y] t):af w b 0 x/\af w b 1 y/\w.frozen? ⟨b,0,none⟩=false/\w.frozen? ⟨b,1,none⟩=false:=by simp[World.cell?,World.frozen?,h]
def aB{x y}(h:bA w b #[x,y,z,u] t):af w b 0 x/\af w b 1 y/\af w b 2 z/\af w b 3 u:=by simp[World.cell?,h]
def cN{x y}(h:bA w b #[x,y,z,u] t):w.frozen? ⟨b,0,none⟩=false/\w.frozen? ⟨b,1,none⟩=false/\w.frozen? ⟨b,2,none⟩=false/\w.frozen? ⟨b,3,none⟩=false:=by simp[World.frozen?,h]
abbrev vf(w:aa)(b:Nat)(v0 v1:aG):World:=(w.setCell ⟨b,0,none⟩ v0).setCell ⟨b,1,none⟩ v1
abbrev dQ(w:aa)(b:Nat)(v0 v1 v2 v3:aG):World:=(((w.setCell ⟨b,0,none⟩ v0).setCell ⟨b,1,none⟩ v1).setCell ⟨b,2,none⟩ v2).setCell ⟨b,3,none⟩ v3
def fW{G}(F:bA w b #[T,G] t):(vf w b v0 v1).heap[b]?=some (.cells #[v0,v1] t (0,0)):=by have h:=bE w b 0 _ _ v0 F;have D:=bE _ b 1 _ _ v1 h;simpa[vf]using D
def cP{F G}(h:bA w b #[T,F,z2,G] t):(dQ w b v0 v1 v2 v3).heap[b]?=some (.cells #[v0,v1,v2,v3] t (0,0)):=by
 refine NL fun e1 e2 e3=>?_
 have D:=bE _ b 3 _ _ v3 e3;simpa[dQ]using D
def nZ(h:k≠b):(dQ w b v0 v1 v2 v3).heap[k]?=w.heap[k]?:=(a_ _ _ _ _ Q_).t ((a_ _ _ _ _ Q_).t ((a_ _ _ _ _ Q_).t (a_ _ _ _ _ Q_)))
def eK:(dQ w b v0 v1 v2 v3:Nat)=w:=by simp[dQ]
def fX(D:Below B w w')(h:B<=b)v0 v1:Below B w (vf w' b v0 v1):=(D.setCell h _).setCell h _
def bY(D:Below B w w')(h:B<=b)v0 v1 v2 v3:Below B w (dQ w' b v0 v1 v2 v3):=(((D.setCell h _).setCell h _).setCell h _).setCell h _
def kR{x}{p}(h:p.block≠b)(D:w.cell? p=some x):((w.setCell ⟨b,0,none⟩ v0).setCell ⟨b,1,none⟩ v1).cell? p=some x:=(cE h).t ((cE h).t D)
def dH{x}{p}(h:p.block≠b)(D:w.cell? p=some x):((((w.setCell ⟨b,0,none⟩ v0).setCell ⟨b,1,none⟩ v1).setCell ⟨b,2,none⟩ v2).setCell ⟨b,3,none⟩ v3).cell? p=some x:=(cE h).t ((cE h).t ((cE h).t ((cE h).t D)))
def j6{D p2}(h:ag w w')(t:w.cell? D=some v1/\w.cell? p2=some v2):w'.cell? D=some v1/\w'.cell? p2=some v2:=⟨ar h t.1,ar h t.2⟩
def jH{D p2 F}(h:ag w w')(t:w.cell? D=some v1/\w.cell? p2=some v2/\w.cell? F=some v3):w'.cell? D=some v1/\w'.cell? p2=some v2/\w'.cell? F=some v3:=⟨ar h t.1,ar h t.2.1,ar h t.2.2⟩
def gS{D p2 F G}(h:ag w w')(t:w.cell? D=some v1/\w.cell? p2=some v2/\w.cell? F=some v3/\w.cell? G=some v4):w'.cell? D=some v1/\w'.cell? p2=some v2/\w'.cell? F=some v3/\w'.cell? G=some v4:=⟨ar h t.1,ar h t.2.1,ar h t.2.2.1,ar h t.2.2.2⟩
def kU{D p2 F G H}(h:ag w w')(t:w.cell? D=some v1/\w.cell? p2=some v2/\w.cell? F=some v3/\w.cell? G=some v4/\w.cell? H=some v5):w'.cell? D=some v1/\w'.cell? p2=some v2/\w'.cell? F=some v3/\w'.cell? G=some v4/\w'.cell? H=some v5:=⟨ar h t.1,ar h t.2.1,ar h t.2.2.1,ar h t.2.2.2.1,ar h t.2.2.2.2⟩
def n_{D p2 F G H I}(h:ag w w')(t:w.cell? D=some v1/\w.cell? p2=some v2/\w.cell? F=some v3/\w.cell? G=some v4/\w.cell? H=some v5/\w.cell? I=some v6):w'.cell? D=some v1/\w'.cell? p2=some v2/\w'.cell? F=some v3/\w'.cell? G=some v4/\w'.cell? H=some v5/\w'.cell? I=some v6:=⟨ar h t.1,ar h t.2.1,ar h t.2.2.1,ar h t.2.2.2.1,ar h t.2.2.2.2.1,ar h t.2.2.2.2.2⟩
def zjU{D p2 F G H I J}(h:ag w w')(t:w.cell? D=some v1/\w.cell? p2=some v2/\w.cell? F=some v3/\w.cell? G=some v4/\w.cell? H=some v5/\w.cell? I=some v6/\w.cell? J=some v7):w'.cell? D=some v1/\w'.cell? p2=some v2/\w'.cell? F=some v3/\w'.cell? G=some v4/\w'.cell? H=some v5/\w'.cell? I=some v6/\w'.cell? J=some v7:=⟨ar h t.1,ar h t.2.1,ar h t.2.2.1,ar h t.2.2.2.1,ar h t.2.2.2.2.1,ar h t.2.2.2.2.2.1,ar h t.2.2.2.2.2.2⟩
def E_{D p2 F G H I J O}(h:ag w w')(t:w.cell? D=some v1/\w.cell? p2=some v2/\w.cell? F=some v3/\w.cell? G=some v4/\w.cell? H=some v5/\w.cell? I=some v6/\w.cell? J=some v7/\w.cell? O=some v8):w'.cell? D=some v1/\w'.cell? p2=some v2/\w'.cell? F=some v3/\w'.cell? G=some v4/\w'.cell? H=some v5/\w'.cell? I=some v6/\w'.cell? J=some v7/\w'.cell? O=some v8:=⟨ar h t.1,ar h t.2.1,ar h t.2.2.1,ar h t.2.2.2.1,ar h t.2.2.2.2.1,ar h t.2.2.2.2.2.1,ar h t.2.2.2.2.2.2.1,ar h t.2.2.2.2.2.2.2⟩
def aw(w:aa)o:Below w w (w.alloc o):=(al _ _).alloc (ae _) o
def ky(w:aa)o:(w.alloc o).drew.heap[w.heap.size]?=some o:=aH w o rfl
def aC(w:aa):Below w w w.drew:=(al _ _).drew
end Go.Proofs.YtpieilkmmiopfaaGreatDoor
