/- Parts of the walks and laws (StpP, Inv). Conditions: as stated with each. -/
import Derived.Test.YtpieilkmmiopfaaGreatDoorPk5
namespace Go.Proofs.YtpieilkmmiopfaaGreatDoor
open Go.RowKit Tryz
set_option linter.all false
set_option maxHeartbeats 1000000
variable{i:Nat}{p:Int}
structure ft where
 k:Int
 a:Int
 b:Int
 c:Int
 row:List Int
structure Sy where
 v:Int
 h:Int
 rows:List (List Int)
def gy(p:Int)(s:Sy)(x:ft):Sy:=⟨s.v,eS x.k s.h,bT p s.v s.rows x.k x.a x.b x.c x.row (s.v+s.h).toNat⟩
def rS(p:Int)(s:Sy)(x:ft):Bool:=lC p s.v s.h s.rows x.k x.a x.b x.c x.row
def Sy.Ok(p:Int)(s:Sy):Prop:=Sys p s.v s.h s.rows
theorem zd7{s:Sy}{x:ft}(D:s.Ok p)(h:rS p s x=true):(gy p s x).Ok p:=by unfold rS at h;rw[pb D,bE,bE]at h;exact AA.1 h.2.2
def gz(p:Int):Sy->List ft->Nat->Sy
 |s,[],_=>s
 |s,_::_,0=>s
 |s,x::xs,n+1=>gz p (gy p s x) xs n
def dX(p:Int):Sy->List ft->Nat
 |_,[]=>0
 |s,x::xs=>if rS p s x=true then dX p (gy p s x) xs+1 else 0
theorem kt(p:Int)(s:Sy)(xs:List ft):gz p s xs 0=s:=by cases xs<;>rfl
theorem nQ{p:Int}{x:ft}:∀{xs:List ft} {s:Sy} {i:Nat},xs[i]?=some x->gz p s xs (i+1)=gy p (gz p s xs i) x
 |[],_,_,h=>RM
 |y::ys,s,0,h=>by simp at h;subst h;simp[gz,kt]
 |y::ys,s,i+1,h=>by simp only[cP]at h;exact nQ (xs:=ys) (s:=gy p s y) (i:=i) h
theorem mh(p:Int):∀(xs:List ft) (s:Sy),dX p s xs<=xs.length
 |[],_=>af _
 |x::xs,s=>by
  have:=mh p xs (gy p s x);unfold dX;split
  .simp;omega
  .omega
theorem zb8{p:Int}{x:ft}:∀{xs:List ft} {s:Sy} {i:Nat},i<dX p s xs->xs[i]?=some x->rS p (gz p s xs i) x=true
 |[],_,_,_,h=>RM
 |y::ys,s,i,hi,h=>by
  unfold dX at hi;split at hi
  .rename_i D;cases i with
   |zero=>simp at h;subst h;rw[kt];exact D
   |succ i=>
    simp only[cP]at h;exact zb8 (xs:=ys) (s:=gy p s y) (i:=i) Rr h
  .omega
theorem zcM{p:Int}{x:ft}:∀{xs:List ft} {s:Sy} {i:Nat},i=dX p s xs->xs[i]?=some x->rS p (gz p s xs i) x=false
 |[],_,_,_,h=>RM
 |y::ys,s,i,hi,h=>by
  unfold dX at hi;split at hi
  .cases i with
   |zero=>omega
   |succ i=>
    simp only[cP]at h;exact zcM (xs:=ys) (s:=gy p s y) (i:=i) Rr h
  .rename_i D;subst hi;simp at h;subst h;rw[kt];simpa using D
theorem zaW{s:Sy}{xs:List ft}{x:ft}(hi:i<=dX p s xs)(F:xs[i]?=some x)(D:rS p (gz p s xs i) x=true):i+1<=dX p s xs:=by
 rcases Nat.lt_or_eq_of_le hi with h|h
 .exact h
 .rw[zcM h F]at D;cases D
theorem zaX{s:Sy}{xs:List ft}{x:ft}(hi:i<=dX p s xs)(F:xs[i]?=some x)(D:rS p (gz p s xs i) x=false):dX p s xs=i:=by
 rcases Nat.lt_or_eq_of_le hi with h|h
 .rw[zb8 h F]at D;cases D
 .exact h.symm
theorem rT{p:Int}{s:Sy}{xs:List ft}(h:s.Ok p):∀{i:Nat},i<=dX p s xs->(gz p s xs i).Ok p
 |0,_=>by rw[kt];exact h
 |i+1,hi=>by have F:=mh p xs s;have D:xs[i]?=some xs[i]:=dL Rr;rw[nQ D];exact zd7 (rT h Rr) (zb8 Rr D)
structure Small(s:Sy):Prop where
 n:s.rows.length<=160
 len:∀r∈s.rows,r.length<=1000
def cU(h:Sy)(D F):M (#[.int .i64 h.v,.int .i64 h.h,.slice D h.rows.length F]:Array Value):=⟨⟩
def mO(F G Y a2 ba bb bc bd bg bi H)(h:Sy)(I J N O R T U V Z ab ac ad am ao ap a0 a1)(D:Sy)(a3 a4 a5 a6 a7 a8 a9):M (#[.int .i64 F,.int .i64 (G:Nat),.slice Y a2 ba,.slice bb bc bd,.slice bg bi H,.int .i64 h.v,.int .i64 h.h,.slice I h.rows.length J,.int .i64 (N:Nat),.int .i64 (O:Nat),.slice R T U,.int .i64 (V:Nat),.slice Z ab ac,.slice ad am ao,.slice ap a0 a1,.int .i64 D.v,.int .i64 D.h,.slice a3 D.rows.length a4,.int .i64 (a5:Nat),.int .i64 (a6:Nat),.slice a7 a8 a9]:Array Value):=⟨⟩
def oB(F G Z ao ap a0 a1 a2 a3 a4 H I J N O R T U V Y)(h:Sy)(ab ac)(D:Sy)(ad am):M (#[.int .i64 (F:Nat),.slice G Z ao,.slice ap a0 a1,.slice a2 a3 a4,.int .i64 (H:Nat),.slice I J N,.slice O R T,.slice U V Y,.int .i64 h.v,.int .i64 h.h,.slice ab h.rows.length ac,.int .i64 D.v,.int .i64 D.h,.slice ad D.rows.length am]:Array Value):=⟨⟩
def mP(D F T U V Y Z ab ac ad)(h:Sy)(G H I J N O R):M (#[.int .i64 (D:Nat),.slice F T U,.slice V Y Z,.slice ab ac ad,.int .i64 h.v,.int .i64 h.h,.slice G h.rows.length H,.int .i64 (I:Nat),.int .i64 (J:Nat),.slice N O R]:Array Value):=⟨⟩
theorem Sy.Ok.small{s:Sy}(h:s.Ok p):Small s:=⟨Sys.n h,fun r D=>by have:=Sys.len h r D;have:=Sys.v24 h;have:=Sys.h100 h;omega⟩
def zq:Nat->Int->Int->Int->Int->Int
 |0,_,h,_,_=>h
 |f+1,p,h,a,n=>if 0<n then zq f p (if n%2=1 then h*a%p else h) (a*a%p) (n / 2) else h
def zgx:Nat->Int->Int->Int->Int
 |0,_,_,_=>0
 |f+1,p,a,x=>if x<p then(if a*x%p=1 then x else zgx f p a (x+1)) else 0
def mG(p a:Int):Int:=zgx 97 p a 1
def zfQ(p:Int):Int:=p-2+(if p=2 then 1 else 0)
theorem zfR:((List.range 98).all fun p=>(!cN (p:Nat))||(List.range p).all fun a=>decide (a=0)||decide (zq 7 (p:Nat) (1%(p:Nat)) (a:Nat) (zfQ (p:Nat))=mG (p:Nat) (a:Nat)))=true:=Sn
theorem inv_eq{a:Int}(D:cN p=true)(I:1<=a)(J:a<p):zq 7 p (1%p) a (zfQ p)=mG p a:=by
 obtain⟨G,H⟩:=di D;obtain⟨q,rfl⟩:=fY (Rr:0<=p);obtain⟨c,rfl⟩:=fY (Rr:0<=a);have h:=fZ.1 zfR q (fi.2 Rr);rw[D]at h;simp only[Bool.not_true,Bool.false_or,fZ,fi,iG,bX]at h;rcases h c Rr with F|F
 .omega
 .exact F
theorem zci(b:Bool)(w:aa):aw 227 #[.bool b] w fun e w'=>e=.returned (.int .i64 (if b=true then 1 else 0))/\w=w':=by
 cases b
 all_goals
  go_enter func227,ntmps227
  go_wp2;go_ret
  exact⟨Rq,rfl⟩
theorem zc0(p a:Int)(w:aa)(F:2<=p)(G:p<=97)(h:0<=a)(D:a<p):aw 156 (bf p a) w fun e w'=>e=.returned (.int .i64 ((p-a)%p))/\w=w':=by
 go_enter func156,ntmps156
 exact Wn
theorem zgy{x y:Int}(D:0<=x)(F:x<=97)(h:0<=y)(G:y<=97):0<=x*y/\x*y<=9409:=by
 constructor
 .exact y_ D h
 .calc x*y<=97*y:=DT F h
   _<=97*97:=Int.mul_le_mul_of_nonneg_left G Rr
   _<=9409:=Rr
theorem BY(p a n:Int)(w:aa)(bg:2<=p)(bi:p<=97)(a8:0<=a)(a9:a<=97)(bc:0<=n)(bd:n<128):aw 226 (fP p a n) w fun e w'=>e=.returned (.int .i64 (zq 7 p (1%p) a n))/\w=w':=by
 have a6:0<=1%p:=gU _ Rr;have a7:1%p<p:=gV _ Rr;obtain⟨Z,I⟩:=aM (zq 7 p (1%p) a n);rw[<-I];have T:=zH I;clear I;go_enter func226,ntmps226
 go_wp2;go_loop [1,2,7] (fun x y z=>∃(f:Nat) (b m o:Int),x=.int .i64 b/\y=.int .i64 m/\z=.int .i64 o/\0<=b/\b<=97/\0<=o/\o<=97/\0<=m/\m<2 ^ f/\m<128/\Z=zq f p o b m) (fun _ y _=>(intOf y).toNat)
 case atStart=>exact⟨7,_,_,_,rfl,rfl,rfl,Rr,Rr,Rr,Rr,Rr,Rr,Rr,T.o⟩
 case round=>
  obtain⟨f,b,m,o,rfl,rfl,rfl,J,N,ac,ad,ba,U,bb,V⟩:=hrel;obtain⟨G,O⟩:=bD V U;clear V U T;by_cases H:0<m
  .obtain⟨ao,ap⟩:=zgy J N J N;obtain⟨a0,a1⟩:=zgy ac ad J N;have a2:0<=b*b%p:=gU _ Rr;have a3:b*b%p<p:=gV _ Rr;have a4:0<=o*b%p:=gU _ Rr;have a5:o*b%p<p:=gV _ Rr;have ab:∃D,f=D+1:=by
    cases f with
    |zero=>have:=O.o;simp at this;omega
    |succ f=>exact⟨f,rfl⟩
   obtain⟨D,rfl⟩:=ab;have R:=zH (show m / 2<2 ^ D by have:=O.o;rw[Int.pow_succ]at this;omega);by_cases h:m%2=1
   .have am:(m%2==1)=true:=by simp[h]
    have F:=zH h;clear h;go_wp2;go_round
    case rel=>exact⟨D,_,_,_,rfl,rfl,rfl,Rr,Rr,Rr,Rr,Rr,R.o,Rr,by rw[G.o,zq,ay H,ay F.o]⟩
    case measure=>simp[intOf];omega
   .have am:(m%2==1)=false:=by simp[h]
    have F:=zH h;clear h;go_wp2;go_round
    case rel=>exact⟨D,_,_,_,rfl,rfl,rfl,Rr,Rr,Rr,Rr,Rr,R.o,Rr,by rw[G.o,zq,ay H,av F.o]⟩
    case measure=>simp[intOf];omega
  .have Y:=zH H;go_wp2;go_ret
   exact⟨iB (by rw[G.o];cases f with|zero=>rfl|succ f=>rw[zq,av (by have:=Y.o;omega)]),rfl⟩
theorem Eg(p a:Int)(w:aa)(D:cN p=true)(G:1<=a)(H:a<p):aw 224 (bf p a) w fun e w'=>e=.returned (.int .i64 (mG p a))/\w=w':=by
 obtain⟨I,J⟩:=di D;have F:=zH D;clear D;by_cases h:p=2
 .have O:(p==2)=true:=by simp[h]
  obtain⟨HI,N⟩:=bD (by rw[<-inv_eq F.o G H,zfQ,ay h]:zq 7 p (1%p) a (p-2+1)=mG p a) h;clear h;go_enter func224,ntmps224
  go_wp2_with (first|(go_at_call 227;refine(zci true _).mono ?_;rintro e w' ⟨rfl,rfl⟩)|(go_at_call 226;refine(BY p a _ _ I J Rr Rr Rr Rr).mono ?_;rintro e w' ⟨rfl,rfl⟩))
  exact Xc
 .have O:(p==2)=false:=by simp[h]
  obtain⟨HI,N⟩:=bD (by rw[<-inv_eq F.o G H,zfQ,av h,Int.add_zero]:zq 7 p (1%p) a (p-2)=mG p a) h;clear h;go_enter func224,ntmps224
  go_wp2_with (first|(go_at_call 227;refine(zci false _).mono ?_;rintro e w' ⟨rfl,rfl⟩)|(go_at_call 226;refine(BY p a _ _ I J Rr Rr Rr Rr).mono ?_;rintro e w' ⟨rfl,rfl⟩))
  exact Xc
end Go.Proofs.YtpieilkmmiopfaaGreatDoor
