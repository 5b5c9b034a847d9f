/- Parts of the walks. Conditions: as stated with each. -/
import Derived.Test.YtdpgblncijojiaaGreatDoorPk6
namespace Go.Proofs.YtdpgblncijojiaaGreatDoor
open Go.RowKit Tryz
set_option linter.all false
set_option maxHeartbeats 1000000
variable{p:Int}
def zM:Nat->Int->Int->Int->Int->Int
 |0,_,z,_,_=>z
 |f+1,p,z,a,n=>if 0<n then zM f p (if n%2=1 then z*a%p else z) (a*a%p) (n / 2) else z
def BG:Nat->Int->Int->Int->Int
 |0,_,_,_=>0
 |f+1,p,a,x=>if x<p then(if a*x%p=1 then x else BG f p a (x+1)) else 0
def ec(p a:Int):Int:=BG 97 p a 1
def zgU(p:Int):Int:=p-2+(if p=2 then 1 else 0)
def zgV:((List.range 98).all fun p=>(!cP (p:Nat))||(List.range p).all fun a=>decide (a=0)||decide (zM 7 (p:Nat) (1%(p:Nat)) (a:Nat) (zgU (p:Nat))=ec (p:Nat) (a:Nat)))=true:=Su
def inv_eq{a:Int}(h:cP p=true)(F:1<=a)(H:a<p):zM 7 p (1%p) a (zgU p)=ec p a:=by
 obtain⟨D,E⟩:=et h;obtain⟨q,rfl⟩:=fW (Ry:0<=p);obtain⟨c,rfl⟩:=fW (Ry:0<=a);have z:=eD.1 zgV q (dQ.2 Ry);rw[h]at z;simp only[Bool.not_true,Bool.false_or,eD,dQ,mg,cw]at z;rcases z c Ry with B|B
 .omega
 .exact B
def zcH(b:Bool)(w:aa):ax 145 #[.bool b] w fun e w'=>e=.returned (zI (if b=true then 1 else 0))/\w=w':=by
 cases b
 all_goals
  go_enter func145,ntmps145
  go_wp2;go_ret
  exact⟨Rx,rfl⟩
def sl(p a:Int)(w:aa)(D:2<=p)(E:p<=97)(z:0<=a)(B:a<p):ax 119 (bI p a) w fun e w'=>e=.returned (zI ((p-a)%p))/\w=w':=by
 go_enter func119,ntmps119
 exact WE
def zcI{x y:Int}(B:0<=x)(D:x<=97)(z:0<=y)(E:y<=97):0<=x*y/\x*y<=9409:=by
 constructor
 .exact za B z
 .calc x*y<=97*y:=DG D z
   _<=97*97:=DH E Ry
   _<=9409:=Ry
def BH(p a n:Int)(w:aa)(bo:2<=p)(bp:p<=97)(ba:0<=a)(bb:a<=97)(bi:0<=n)(bm:n<128):ax 144 (fe p a n) w fun e w'=>e=.returned (zI (zM 7 p (1%p) a n))/\w=w':=by
 have a8:0<=1%p:=gI _ Ry;have a9:1%p<p:=gJ _ Ry;obtain⟨ab,H⟩:=aK (zM 7 p (1%p) a n);rw[<-H];have R:=zH H;clear H;go_enter func144,ntmps144
 go_wp2;go_loop [1,2,7] (fun x y ap=>∃(f:Nat) (b m o:Int),x=.int .i64 b/\y=.int .i64 m/\ap=.int .i64 o/\0<=b/\b<=97/\0<=o/\o<=97/\0<=m/\m<2 ^ f/\m<128/\ab=zM f p o b m) (fun _ y _=>(intOf y).toNat)
 case atStart=>exact⟨7,_,_,_,rfl,rfl,rfl,Ry,Ry,Ry,Ry,Ry,Ry,Ry,R.o⟩
 case round=>
  obtain⟨f,b,m,o,rfl,rfl,rfl,I,J,ad,am,bd,T,be,U⟩:=hrel;obtain⟨E,O⟩:=bL U T;clear U T R;by_cases F:0<m
  .obtain⟨a0,a1⟩:=zcI I J I J;obtain⟨a2,a3⟩:=zcI ad am I J;have a4:0<=b*b%p:=gI _ Ry;have a5:b*b%p<p:=gJ _ Ry;have a6:0<=o*b%p:=gI _ Ry;have a7:o*b%p<p:=gJ _ Ry;have ac:∃B,f=B+1:=by
    cases f with
    |zero=>have:=O.o;simp at this;omega
    |succ f=>exact⟨f,rfl⟩
   obtain⟨B,rfl⟩:=ac;have Q:=zH (show m / 2<2 ^ B by have:=O.o;rw[Int.pow_succ]at this;omega);by_cases z:m%2=1
   .have ao:(m%2==1)=true:=by simp[z]
    have D:=zH z;clear z;go_wp2;go_round
    case rel=>exact⟨B,_,_,_,rfl,rfl,rfl,Ry,Ry,Ry,Ry,Ry,Q.o,Ry,by rw[E.o,zM,ar F,ar D.o]⟩
    case measure=>simp[intOf];omega
   .have ao:(m%2==1)=false:=by simp[z]
    have D:=zH z;clear z;go_wp2;go_round
    case rel=>exact⟨B,_,_,_,rfl,rfl,rfl,Ry,Ry,Ry,Ry,Ry,Q.o,Ry,by rw[E.o,zM,ar F,ak D.o]⟩
    case measure=>simp[intOf];omega
  .have Z:=zH F;go_wp2;go_ret
   exact⟨lC (by rw[E.o];cases f with|zero=>rfl|succ f=>rw[zM,ak (by have:=Z.o;omega)]),rfl⟩
def oJ(p a:Int)(w:aa)(B:cP p=true)(E:1<=a)(F:a<p):ax 129 (bI p a) w fun e w'=>e=.returned (zI (ec p a))/\w=w':=by
 obtain⟨H,I⟩:=et B;have D:=zH B;clear B;by_cases z:p=2
 .have J:(p==2)=true:=by simp[z]
  have HI:=zH (by rw[<-inv_eq D.o E F,zgU,ar z]:zM 7 p (1%p) a (p-2+1)=ec p a);clear z;go_enter func129,ntmps129
  go_wp2_with (first|(go_at_call 145;refine(zcH true _).mono ?_;rintro e w' ⟨rfl,rfl⟩)|(go_at_call 144;refine(BH p a _ _ H I Ry Ry Ry Ry).mono ?_;rintro e w' ⟨rfl,rfl⟩))
  exact Xq
 .have J:(p==2)=false:=by simp[z]
  have HI:=zH (by rw[<-inv_eq D.o E F,zgU,ak z,qz]:zM 7 p (1%p) a (p-2)=ec p a);clear z;go_enter func129,ntmps129
  go_wp2_with (first|(go_at_call 145;refine(zcH false _).mono ?_;rintro e w' ⟨rfl,rfl⟩)|(go_at_call 144;refine(BH p a _ _ H I Ry Ry Ry Ry).mono ?_;rintro e w' ⟨rfl,rfl⟩))
  exact Xq
def so(p a:Int)(w:aa)(am:2<=p)(ao:p<=97)(Q:0<=a)(Z:a<p):ax 103 (bI p a) w fun e w'=>e=.returned (zI (ec p a))/\w=w':=by
 obtain⟨O,F⟩:=aK (ec p a);rw[<-F];have H:=zH F;clear F;go_enter func103,ntmps103
 go_wp2;go_loop [5] (fun x=>∃(f:Nat) (m:Int),x=.int .i64 m/\1<=m/\m<=p/\p-m<f/\O=BG f p a m) (fun x=>(p-intOf x).toNat)
 case atStart=>exact⟨97,1,rfl,Ry,Ry,Ry,H.o⟩
 case round=>
  obtain⟨f,m,rfl,ac,ad,ab,J⟩:=hrel;have D:=zH J;clear J H;obtain⟨T,U⟩:=zcI Q Ry (Ry:0<=m) Ry;obtain⟨E,rfl⟩:∃E,f=E+1:=⟨f-1,Ry⟩;by_cases I:m<p
  .by_cases z:a*m%p=1
   .have R:(a*m%p==1)=true:=by simp[z]
    have B:=zH z;clear z;go_wp2;go_ret
    exact⟨lC (by rw[D.o,BG,ar I,ar B.o]),rfl⟩
   .have R:(a*m%p==1)=false:=by simp[z]
    have B:=zH z;clear z;go_wp2;go_round
    case rel=>exact⟨E,_,rfl,Ry,Ry,Ry,by rw[D.o,BG,ar I,ak B.o]⟩
    case measure=>simp[intOf];omega
  .go_wp2;go_ret
   exact⟨lC (by rw[D.o,BG,ak Ry]),rfl⟩
end Go.Proofs.YtdpgblncijojiaaGreatDoor
