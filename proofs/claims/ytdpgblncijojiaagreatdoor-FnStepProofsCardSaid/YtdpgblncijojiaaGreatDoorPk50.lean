/- Parts of the walks. Conditions: as stated with each. -/
import Derived.Test.YtdpgblncijojiaaGreatDoorPk47
import Derived.Test.YtdpgblncijojiaaGreatDoorPk49
namespace Go.Proofs.YtdpgblncijojiaaGreatDoor
open Go.RowKit Tryz
set_option linter.all false
variable{X:List cZ}{e:Ending}{p:Int}{s:Sy}{w':aa}
def zjt(y:cZ)(ok:Bool)(w:aa)(e:Ending)(w':aa):Prop:=∃A c,e=.returned (.tuple #[.agg (dk y.k y.a y.b y.c A y.row c),.bool ok])/\aU w' A y.row/\aj w w'
def zu(X:List cZ)(ok:Bool)(w:aa)(e:Ending)(w':aa):Prop:=∃A c,e=.returned (.tuple #[.slice A X c,.bool ok])/\fF w' A X/\aj w w'
def gM.to{y:cZ}{ok:Bool}{w:aa}(h:gM y.k y.a y.b y.c y.row ok w e w'):zjt y ok w e w':=XX
def c_.to{X:List cZ}{ok:Bool}{w:aa}(h:c_ X ok w e w'):zu X ok w e w':=XX
abbrev lU(S:Sy)(A:aq)(c:Nat):Value:=.agg (ae S.v S.h A S.rows c)
section
variable{p:Int}{S:Sy}{x:cZ}{X:List cZ}{A XA:aq}{c xc:Nat}{w:aa}
def dUn(D:cU w)(E:aL w A S.rows)(F:fF w XA X)(z:S.rows.length<=1048576/\∀r∈S.rows,r.length<=1048576)(B:X.length<=1048576/\∀x∈X,x.row.length<=1048576):ax 20 #[p,lU S A c,.slice XA X xc] w (zu (unX p S X) (yu p S X) w):=(zcq p S A c X XA xc w D E z.1 z.2 F B.1 B.2).mono fun _ _ h=>h.to
end
def zdm{p:Int}{Y:List cZ}:∀(X:List cZ) (s:Sy),bB p s X=X.length->bB p s (X++Y)=X.length+bB p (dn p s X X) Y/\∀n,dn p s (X++Y) (X.length+n)=dn p (dn p s X X) Y n
 |[],s,_=>by
  refine⟨?_,fun n=>?_⟩
  .show bB p s Y=0+bB p s Y
   rw[fY]
  .show dn p s Y (0+n)=dn p s Y n
   rw[fY]
 |y::X,s,hb=>by
  unfold bB at hb;split at hb
  .rename_i E;have D:bB p (cq p s y) X=X.length:=R7;obtain⟨z,B⟩:=zdm X (cq p s y) D;have e:bB p s (y::(X++Y))=bB p (cq p s y) (X++Y)+1:=by rw[bB,ar E]
   refine⟨?_,fun n=>?_⟩
   .show bB p s (y::(X++Y))=X.length+1+bB p (dn p (cq p s y) X X) Y
    rw[e,z];omega
   .show dn p s (y::(X++Y)) (X.length+1+n)=dn p (dn p (cq p s y) X X) Y n
    rw[show X.length+1+n=X+n+1 by omega,<-B n];rfl
  .simp at hb
def Bc{a b:Sy}:jm a b=true↔a=b:=by obtain⟨v,h,r⟩:=a;obtain⟨v',h',r'⟩:=b;unfold jm;simp
def Bd(h:s.Ok p):bB p s (fT p s).2=(fT p s).2.length/\dn p s (fT p s).2 (fT p s).2=gW p s:=by have k:=sS h;exact⟨k.bad,k.sys.trans (zcc h)⟩
structure By(p:Int)(a:Sy)(X:List cZ)(b:Sy):Prop where
 oka:a.Ok p
 okb:b.Ok p
 n:X.length<=3000
 bad:bB p a X=X.length
 sys:dn p a X X=b
def By.ck{a b:Sy}(h:By p a X b):CH p a X b=true/\ckR p a X b=true:=by
 have z:CH p a X b=true:=by unfold CH;rw[vG.2 ⟨h.oka,h.n⟩,il.2 h.okb];rfl
 refine⟨z,?_⟩;unfold ckR ldB;rw[z,fJ h.bad,Bc.2 h.sys];rfl
def By.ok{a b:Sy}(h:By p a X b):yu p a X=true:=zaZ.2 ⟨h.oka,h.n,h.bad⟩
def By.back{a b:Sy}(h:By p a X b):By p b (unX p a X) a:=by
 have E:unX p a X=(j8 p a X X).reverse:=by unfold unX;rw[ar h.ok]
 have z:(j8 p a X X).reverse.length=X:=by rw[nt,im]
 obtain⟨B,D⟩:=za5 h.oka h.bad;rw[h.sys]at B D;rw[E];exact⟨h.okb,h.oka,by rw[z];exact h.n,by rw[z];exact B,by rw[z];exact D⟩
def ym{a b:Sy}(h:tp p a b=true):By p a (prX p a b) b/\a.v=b.v/\gW p a=gW p b:=by
 have D:prX p a b=pbY p a b:=by unfold prX;rw[ar h]
 unfold tp pbB at h;rw[bn,bn,bn,cw]at h;obtain⟨⟨T,U⟩,Z,ab⟩:=h;have F:a.Ok p:=il.1 T;have E:b.Ok p:=il.1 U;have z:=Bc.1 Z;obtain⟨J,O⟩:=Bd F;obtain⟨Q,R⟩:=Bd E;obtain⟨u1,u2⟩:=za5 E Q;rw[R]at u1 u2;obtain⟨H,I⟩:=zdm (Y:=(j8 p b (fT p b).2 (fT p b).2).reverse) (fT p a).2 a J;rw[O,z]at H I;have ac:(j8 p b (fT p b).2 (fT p b).2).reverse.length=(fT p b).2:=by rw[nt,im]
 have B:(pbY p a b).length=(fT p a).2+(fT p b).2:=by unfold pbY;rw[bS,ac]
 refine⟨⟨F,E,by rw[D,B];exact ab,?_,?_⟩,(by have:=ml Sy.v z;exact this),z⟩
 .rw[D,B];unfold pbY;rw[H,u1]
 .rw[D,B];unfold pbY;rw[I,u2]
def DA(h:oE p s=true):By p s (Be p s) (gW p s):=by
 have z:Be p s=(fT p s).2:=by unfold Be;rw[ar h]
 unfold oE at h;rw[bn,cw]at h;have B:s.Ok p:=il.1 h.1;obtain⟨F,D⟩:=Bd B;have E:=jP B (xs:=(fT p s).2) (i:=(fT p s).2.length) Ry;rw[D]at E;exact⟨B,E,by rw[z];exact h.2,by rw[z];exact F,by rw[z];exact D⟩
end Go.Proofs.YtdpgblncijojiaaGreatDoor
