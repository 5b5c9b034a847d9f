/- Parts of the walks. Conditions: as stated with each. -/
import Derived.Test.YtdpgblncijojiaaGreatDoorPk5
namespace Go.Proofs.YtdpgblncijojiaaGreatDoor
open Go.RowKit Tryz
set_option linter.all false
set_option maxHeartbeats 1000000
variable{p:Int}
def yA:Nat->Int->Int->Int->Int->Int
 |0,_,z,_,_=>z
 |f+1,p,z,a,n=>if 0<n then yA f p (if n%2=1 then z*a%p else z) (a*a%p) (n / 2) else z
def AQ:Nat->Int->Int->Int->Int
 |0,_,_,_=>0
 |f+1,p,a,x=>if x<p then(if a*x%p=1 then x else AQ f p a (x+1)) else 0
def fD(p a:Int):Int:=AQ 97 p a 1
def zgv(p:Int):Int:=p-2+(if p=2 then 1 else 0)
def zgw:((List.range 98).all fun p=>(!dr (p:Nat))||(List.range p).all fun a=>decide (a=0)||decide (yA 7 (p:Nat) (1%(p:Nat)) (a:Nat) (zgv (p:Nat))=fD (p:Nat) (a:Nat)))=true:=SP
def inv_eq{a:Int}(h:dr p=true)(H:1<=a)(I:a<p):yA 7 p (1%p) a (zgv p)=fD p a:=by
 obtain⟨E,F⟩:=eY h;obtain⟨q,rfl⟩:=fX (RU:0<=p);obtain⟨c,rfl⟩:=fX (RU:0<=a);have z:=fp.1 zgw q (et.2 RU);rw[h]at z;simp only[Bool.not_true,Bool.false_or,fp,et,lQ,cK]at z;rcases z c RU with D|D
 .omega
 .exact D
def zb6(b:Bool)(w:aa):aw 145 #[.bool b] w fun e w'=>e=.returned (zI (if b=true then 1 else 0))/\w=w':=by
 cases b
 all_goals
  go_enter func145,ntmps145
  go_wp2;go_ret
  exact⟨RS,rfl⟩
def vT(p a:Int)(w:aa)(E:2<=p)(F:p<=97)(z:0<=a)(D:a<p):aw 119 (bP p a) w fun e w'=>e=.returned (zI ((p-a)%p))/\w=w':=by
 go_enter func119,ntmps119
 exact WY
def zb7{x y:Int}(D:0<=x)(E:x<=97)(z:0<=y)(F:y<=97):0<=x*y/\x*y<=9409:=by
 constructor
 .exact xT D z
 .calc x*y<=97*y:=CR E z
   _<=97*97:=CS F RU
   _<=9409:=RU
def AS(p a n:Int)(w:aa)(bp:2<=p)(br:p<=97)(bb:0<=a)(bd:a<=97)(bm:0<=n)(bo:n<128):aw 144 (fB p a n) w fun e w'=>e=.returned (zI (yA 7 p (1%p) a n))/\w=w':=by
 have a9:0<=1%p:=ir _ RU;have ba:1%p<p:=iu _ RU;obtain⟨ac,I⟩:=aO (yA 7 p (1%p) a n);rw[<-I];have U:=zH I;clear I;go_enter func144,ntmps144
 go_wp2;go_loop [1,2,7] (fun x y a0=>∃(f:Nat) (b m o:Int),x=.int .i64 b/\y=.int .i64 m/\a0=.int .i64 o/\0<=b/\b<=97/\0<=o/\o<=97/\0<=m/\m<2 ^ f/\m<128/\ac=yA f p o b m) (fun _ y _=>(intOf y).toNat)
 case atStart=>exact⟨7,_,_,_,rfl,rfl,rfl,RU,RU,RU,RU,RU,RU,RU,U.o⟩
 case round=>
  obtain⟨f,b,m,o,rfl,rfl,rfl,J,O,am,ao,be,Y,bi,Z⟩:=hrel;obtain⟨F,Q⟩:=bS Z Y;clear Z Y U;by_cases H:0<m
  .obtain⟨a1,a2⟩:=zb7 J O J O;obtain⟨a3,a4⟩:=zb7 am ao J O;have a5:0<=b*b%p:=ir _ RU;have a6:b*b%p<p:=iu _ RU;have a7:0<=o*b%p:=ir _ RU;have a8:o*b%p<p:=iu _ RU;have ad:∃D,f=D+1:=by
    cases f with
    |zero=>have:=Q.o;simp at this;omega
    |succ f=>exact⟨f,rfl⟩
   obtain⟨D,rfl⟩:=ad;have R:=zH (show m / 2<2 ^ D by have:=Q.o;rw[Int.pow_succ]at this;omega);by_cases z:m%2=1
   .have ap:(m%2==1)=true:=by simp[z]
    have E:=zH z;clear z;go_wp2;go_round
    case rel=>exact⟨D,_,_,_,rfl,rfl,rfl,RU,RU,RU,RU,RU,R.o,RU,by rw[F.o,yA,ay H,ay E.o]⟩
    case measure=>simp[intOf];omega
   .have ap:(m%2==1)=false:=by simp[z]
    have E:=zH z;clear z;go_wp2;go_round
    case rel=>exact⟨D,_,_,_,rfl,rfl,rfl,RU,RU,RU,RU,RU,R.o,RU,by rw[F.o,yA,ay H,al E.o]⟩
    case measure=>simp[intOf];omega
  .have ab:=zH H;go_wp2;go_ret
   exact⟨mO (by rw[F.o];cases f with|zero=>rfl|succ f=>rw[yA,al (by have:=ab.o;omega)]),rfl⟩
def wL(p a:Int)(w:aa)(D:dr p=true)(F:1<=a)(H:a<p):aw 129 (bP p a) w fun e w'=>e=.returned (zI (fD p a))/\w=w':=by
 obtain⟨I,J⟩:=eY D;have E:=zH D;clear D;by_cases z:p=2
 .have O:(p==2)=true:=by simp[z]
  have HI:=zH (by rw[<-inv_eq E.o F H,zgv,ay z]:yA 7 p (1%p) a (p-2+1)=fD p a);clear z;go_enter func129,ntmps129
  go_wp2_with (first|(go_at_call 145;refine(zb6 true _).mono ?_;rintro e w' ⟨rfl,rfl⟩)|(go_at_call 144;refine(AS p a _ _ I J RU RU RU RU).mono ?_;rintro e w' ⟨rfl,rfl⟩))
  exact XG
 .have O:(p==2)=false:=by simp[z]
  have HI:=zH (by rw[<-inv_eq E.o F H,zgv,al z,pR]:yA 7 p (1%p) a (p-2)=fD p a);clear z;go_enter func129,ntmps129
  go_wp2_with (first|(go_at_call 145;refine(zb6 false _).mono ?_;rintro e w' ⟨rfl,rfl⟩)|(go_at_call 144;refine(AS p a _ _ I J RU RU RU RU).mono ?_;rintro e w' ⟨rfl,rfl⟩))
  exact XG
def vU(p a:Int)(w:aa)(ao:2<=p)(ap:p<=97)(R:0<=a)(ab:a<p):aw 103 (bP p a) w fun e w'=>e=.returned (zI (fD p a))/\w=w':=by
 obtain⟨Q,H⟩:=aO (fD p a);rw[<-H];have I:=zH H;clear H;go_enter func103,ntmps103
 go_wp2;go_loop [5] (fun x=>∃(f:Nat) (m:Int),x=.int .i64 m/\1<=m/\m<=p/\p-m<f/\Q=AQ f p a m) (fun x=>(p-intOf x).toNat)
 case atStart=>exact⟨97,1,rfl,RU,RU,RU,I⟩
 case round=>
  obtain⟨f,m,rfl,ad,am,ac,O⟩:=hrel;have E:=zH O;clear O I;obtain⟨Y,Z⟩:=zb7 R RU (RU:0<=m) RU;obtain⟨F,rfl⟩:∃F,f=F+1:=⟨f-1,RU⟩;by_cases J:m<p
  .by_cases z:a*m%p=1
   .have U:(a*m%p==1)=true:=by simp[z]
    have D:=zH z;clear z;go_wp2;go_ret
    exact⟨mO (by rw[E.o,AQ,ay J,ay D.o]),rfl⟩
   .have U:(a*m%p==1)=false:=by simp[z]
    have D:=zH z;clear z;go_wp2;go_round
    case rel=>exact⟨F,_,rfl,RU,RU,RU,by rw[E.o,AQ,ay J,al D.o]⟩
    case measure=>simp[intOf];omega
  .go_wp2;go_ret
   exact⟨mO (by rw[E.o,AQ,al RU]),rfl⟩
end Go.Proofs.YtdpgblncijojiaaGreatDoor
