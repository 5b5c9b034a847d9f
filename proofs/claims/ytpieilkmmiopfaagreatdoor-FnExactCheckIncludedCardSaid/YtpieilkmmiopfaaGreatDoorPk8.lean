/- Parts of the walks. Conditions: as stated with each. -/
import Derived.Test.YtpieilkmmiopfaaGreatDoorPk2
namespace Go.Proofs.YtpieilkmmiopfaaGreatDoor
open Go.RowKit Tryz
set_option linter.all false
set_option maxHeartbeats 8000000
set_option maxRecDepth 100000
variable{J:Nat}{T:aG}{W w w':aa}
def fV{h}G H I J O t(ab:Below (w.alloc (.cells #[G,H,I,J,O] t)) (w.alloc (.cells #[G,H,I,J,O] t)) h)T U Y Z t2:∃W,W=h.alloc (.cells #[T,U,Y,Z] t2)/\ag w W/\af W w 0 G/\af W w 1 H/\af W w 2 I/\af W w 3 J/\af W w 4 O/\af W h 0 T/\af W h 1 U/\af W h 2 Y/\af W h 3 Z:=by have ac:=ab.alloc ab.size (.cells #[T,U,Y,Z] t2);have D:=dg ac (aH w (.cells #[G,H,I,J,O] t) rfl);have F:=aH h (.cells #[T,U,Y,Z] t2) rfl;exact⟨_,rfl,((al w w).alloc (ae _) _).t (ac.x Qt),bB D 0,bB D 1,bB D 2,bB D 3,bB D 4,bB F 0,bB F 1,bB F 2,bB F 3⟩
def Cp a b c h n ε w(D:n<=1048576):az 146 (cY (t_ a b c h n ε)) w fun e w'=>e=.returned (.tuple #[if((c==0)&&((n==0)))=true then .iface 229 (.agg (bC a b)) else .nilIface,.bool ((c==0)&&((n==0)))])/\ag w w':=by
 by_cases tC:c=0
 .subst tC;by_cases tL:n=0
  .subst tL;go_enter eQ,eS
   go_upto_region 2 with(go_at_call 192;refine(cM _ _).x ?_;rintro e w1 ⟨rfl,FR⟩)
   have⟨W,hW,hb,e0,e1,e2,e3,e4,f0,f1,f2,f3⟩:=fV _ _ _ _ _ _ FR (.bool (fC 1)) (.bool (fD 1)) (.bool (fE 1)) (.bool (fF 1)) 226;rw[<-hW];clear hW FR;simp only[show fC 1=true from rfl,show fD 1=true from rfl,show fE 1=false from rfl,show fF 1=false from rfl]at f0 f1 f2 f3 ⊢;go_wp2
   all_goals exact aI (v:=.tuple #[.iface 229 (.agg (bC a b)),.bool true]) TH rfl ⟨QD,hb⟩
  .refine O3 fun gL hL GB=>?_
   exact Zw
 .refine N9 fun gC hC=>?_
  exact Zw
def Bn a b c h n ε w(G:n<=1048576):az 146 (cY (ud a b c h n ε)) w fun e w'=>e=.returned (.tuple #[if((b==0)&&((n==0)))=true then .iface 231 (.agg (bC a c)) else .nilIface,.bool ((b==0)&&((n==0)))])/\ag w w':=by
 by_cases tB:b=0
 .subst tB;by_cases tL:n=0
  .subst tL;go_enter eQ,eS
   go_upto_region 2 with(go_at_call 192;refine(cM _ _).x ?_;rintro e w1 ⟨rfl,FR⟩)
   have⟨W,hW,hb,e0,e1,e2,e3,e4,f0,f1,f2,f3⟩:=fV _ _ _ _ _ _ FR (.bool (fC 2)) (.bool (fD 2)) (.bool (fE 2)) (.bool (fF 2)) 226;rw[<-hW];clear hW FR;simp only[show fC 2=true from rfl,show fD 2=false from rfl,show fE 2=true from rfl,show fF 2=false from rfl]at f0 f1 f2 f3 ⊢;go_wp2
   all_goals exact aI (v:=.tuple #[.iface 231 (.agg (bC a c)),.bool true]) TH rfl ⟨QD,hb⟩
  .refine O3 fun gL hL GB=>?_
   exact Zv
 .have D:(b==0)=false:=Rd;have F:(b !=0)=true:=Rd;exact Zv
def Er a b c h n ε w(F:n<=1048576):az 146 (cY (tX a b c h n ε)) w fun e w'=>e=.returned (.tuple #[if((n==0))=true then .iface 233 (.agg (gT a b c)) else .nilIface,.bool ((n==0))])/\ag w w':=by
 by_cases tL:n=0
 .subst tL;go_enter eQ,eS
  go_upto_region 2 with(go_at_call 192;refine(cM _ _).x ?_;rintro e D ⟨rfl,FR⟩)
  refine Nl fun W hb e0 e1 e2 e3 e4 f0 f1 f2 f3=>?_
  go_wp2
  all_goals exact aI (v:=.tuple #[.iface 233 (.agg (gT a b c)),.bool true]) TH rfl ⟨QD,hb⟩
 .refine O3 fun gL hL GB=>?_
  go_enter eQ,eS
  go_upto_region 2 with(go_at_call 192;refine(cM _ _).x ?_;rintro e D ⟨rfl,FR⟩)
  refine Nl fun W hb e0 e1 e2 e3 e4 f0 f1 f2 f3=>?_
  exact XT
def Cq a b c h n ε w(G:n<=1048576):az 146 (cY (ue a b c h n ε)) w fun e w'=>e=.returned (.tuple #[if((b==0)&&((c==0)&&((n==0))))=true then .iface 235 (.agg (bK a)) else .nilIface,.bool ((b==0)&&((c==0)&&((n==0))))])/\ag w w':=by
 by_cases tB:b=0
 .subst tB;by_cases tC:c=0
  .subst tC;by_cases tL:n=0
   .subst tL;go_enter eQ,eS
    go_upto_region 2 with(go_at_call 192;refine(cM _ _).x ?_;rintro e w1 ⟨rfl,FR⟩)
    have⟨W,hW,hb,e0,e1,e2,e3,e4,f0,f1,f2,f3⟩:=fV _ _ _ _ _ _ FR (.bool (fC 4)) (.bool (fD 4)) (.bool (fE 4)) (.bool (fF 4)) 226;rw[<-hW];clear hW FR;simp only[show fC 4=true from rfl,show fD 4=false from rfl,show fE 4=false from rfl,show fF 4=false from rfl]at f0 f1 f2 f3 ⊢;go_wp2
    all_goals exact aI (v:=.tuple #[.iface 235 (.agg (bK a)),.bool true]) TH rfl ⟨QD,hb⟩
   .refine O3 fun gL hL GB=>?_
    exact ZA
  .refine N9 fun gC hC=>?_
   exact ZA
 .have D:(b==0)=false:=Rd;have F:(b !=0)=true:=Rd;exact ZA
def Es a b c h n ε w(G:n<=1048576):az 146 (cY (uf a b c h n ε)) w fun e w'=>e=.returned (.tuple #[if((b==0)&&((c==0)&&((n==0))))=true then .iface 236 (.agg (bK a)) else .nilIface,.bool ((b==0)&&((c==0)&&((n==0))))])/\ag w w':=by
 by_cases tB:b=0
 .subst tB;by_cases tC:c=0
  .subst tC;by_cases tL:n=0
   .subst tL;go_enter eQ,eS
    go_upto_region 2 with(go_at_call 192;refine(cM _ _).x ?_;rintro e w1 ⟨rfl,FR⟩)
    have⟨W,hW,hb,e0,e1,e2,e3,e4,f0,f1,f2,f3⟩:=fV _ _ _ _ _ _ FR (.bool (fC 5)) (.bool (fD 5)) (.bool (fE 5)) (.bool (fF 5)) 226;rw[<-hW];clear hW FR;simp only[show fC 5=true from rfl,show fD 5=false from rfl,show fE 5=false from rfl,show fF 5=false from rfl]at f0 f1 f2 f3 ⊢;go_wp2
    all_goals exact aI (v:=.tuple #[.iface 236 (.agg (bK a)),.bool true]) TH rfl ⟨QD,hb⟩
   .refine O3 fun gL hL GB=>?_
    exact Zz
  .refine N9 fun gC hC=>?_
   exact Zz
 .have D:(b==0)=false:=Rd;have F:(b !=0)=true:=Rd;exact Zz
def Bo a b c h n ε w(D:n<=1048576):az 146 (cY (tY a b c h n ε)) w fun e w'=>e=.returned (.tuple #[if((c==0)&&((n==0)))=true then .iface 237 (.agg (bC a b)) else .nilIface,.bool ((c==0)&&((n==0)))])/\ag w w':=by
 by_cases tC:c=0
 .subst tC;by_cases tL:n=0
  .subst tL;go_enter eQ,eS
   go_upto_region 2 with(go_at_call 192;refine(cM _ _).x ?_;rintro e w1 ⟨rfl,FR⟩)
   have⟨W,hW,hb,e0,e1,e2,e3,e4,f0,f1,f2,f3⟩:=fV _ _ _ _ _ _ FR (.bool (fC 6)) (.bool (fD 6)) (.bool (fE 6)) (.bool (fF 6)) 226;rw[<-hW];clear hW FR;simp only[show fC 6=true from rfl,show fD 6=true from rfl,show fE 6=false from rfl,show fF 6=false from rfl]at f0 f1 f2 f3 ⊢;go_wp2
   all_goals exact aI (v:=.tuple #[.iface 237 (.agg (bC a b)),.bool true]) TH rfl ⟨QD,hb⟩
  .refine O3 fun gL hL GB=>?_
   exact Zu
 .refine N9 fun gC hC=>?_
  exact Zu
def Bp a b c hA n ε w(F:n<=1048576):az 146 (cY (uh a b c hA n ε)) w fun e w'=>e=.returned (.tuple #[if((c==0))=true then .iface 239 (.agg (eO a b hA n ε)) else .nilIface,.bool ((c==0))])/\ag w w':=by
 by_cases tC:c=0
 .subst tC;go_enter eQ,eS
  go_upto_region 2 with(go_at_call 192;refine(cM _ _).x ?_;rintro e D ⟨rfl,FR⟩)
  refine Nm fun W hb e0 e1 e2 e3 e4 f0 f1 f2 f3=>?_
  go_wp2
  all_goals exact aI (v:=.tuple #[.iface 239 (.agg (eO a b hA n ε)),.bool true]) TH rfl ⟨QD,hb⟩
 .refine N9 fun gC hC=>?_
  go_enter eQ,eS
  go_upto_region 2 with(go_at_call 192;refine(cM _ _).x ?_;rintro e D ⟨rfl,FR⟩)
  refine Nm fun W hb e0 e1 e2 e3 e4 f0 f1 f2 f3=>?_
  exact XT
def zo a b c h n ε w(G:n<=1048576):az 146 (cY (tZ a b c h n ε)) w fun e w'=>e=.returned (.tuple #[if((a==0)&&((c==0)&&((n==0))))=true then .iface 241 (.agg (bK b)) else .nilIface,.bool ((a==0)&&((c==0)&&((n==0))))])/\ag w w':=by
 by_cases tA:a=0
 .subst tA;by_cases tC:c=0
  .subst tC;by_cases tL:n=0
   .subst tL;go_enter eQ,eS
    go_upto_region 2 with(go_at_call 192;refine(cM _ _).x ?_;rintro e w1 ⟨rfl,FR⟩)
    have⟨W,hW,hb,e0,e1,e2,e3,e4,f0,f1,f2,f3⟩:=fV _ _ _ _ _ _ FR (.bool (fC 8)) (.bool (fD 8)) (.bool (fE 8)) (.bool (fF 8)) 226;rw[<-hW];clear hW FR;simp only[show fC 8=false from rfl,show fD 8=true from rfl,show fE 8=false from rfl,show fF 8=false from rfl]at f0 f1 f2 f3 ⊢;go_wp2
    all_goals exact aI (v:=.tuple #[.iface 241 (.agg (bK b)),.bool true]) TH rfl ⟨QD,hb⟩
   .refine O3 fun gL hL GB=>?_
    exact Zy
  .refine N9 fun gC hC=>?_
   exact Zy
 .have D:(a==0)=false:=Rc;have F:(a !=0)=true:=Rc;exact Zy
def zp a b c h n ε w(G:n<=1048576):az 146 (cY (uk a b c h n ε)) w fun e w'=>e=.returned (.tuple #[if((a==0)&&((c==0)&&((n==0))))=true then .iface 242 (.agg (bK b)) else .nilIface,.bool ((a==0)&&((c==0)&&((n==0))))])/\ag w w':=by
 by_cases tA:a=0
 .subst tA;by_cases tC:c=0
  .subst tC;by_cases tL:n=0
   .subst tL;go_enter eQ,eS
    go_upto_region 2 with(go_at_call 192;refine(cM _ _).x ?_;rintro e w1 ⟨rfl,FR⟩)
    have⟨W,hW,hb,e0,e1,e2,e3,e4,f0,f1,f2,f3⟩:=fV _ _ _ _ _ _ FR (.bool (fC 9)) (.bool (fD 9)) (.bool (fE 9)) (.bool (fF 9)) 226;rw[<-hW];clear hW FR;simp only[show fC 9=false from rfl,show fD 9=true from rfl,show fE 9=false from rfl,show fF 9=false from rfl]at f0 f1 f2 f3 ⊢;go_wp2
    all_goals exact aI (v:=.tuple #[.iface 242 (.agg (bK b)),.bool true]) TH rfl ⟨QD,hb⟩
   .refine O3 fun gL hL GB=>?_
    exact Zx
  .refine N9 fun gC hC=>?_
   exact Zx
 .have D:(a==0)=false:=Rc;have F:(a !=0)=true:=Rc;exact Zx
def zbA k a b c h n ε w(ab:n<=1048576)(F:k≠1)(G:k≠2)(H:k≠3)(I:k≠4)(J:k≠5)(O:k≠6)(T:k≠7)(U:k≠8)(Y:k≠9):az 146 (cY (rJ k a b c h n ε)) w fun e w'=>e=.returned (.tuple gh)/\ag w w':=by
 by_cases tB:b=0
 .subst tB;by_cases tC:c=0
  .subst tC;by_cases tL:n=0
   .subst tL;exact ZC
   .refine O3 fun gL hL GB=>?_
    exact ZC
  .refine N9 fun gC hC=>?_
   exact ZC
 .have D:(b==0)=false:=Rd;have Z:(b !=0)=true:=Rd;exact ZC
def dS{g}{D F}{G}(h:bA W g #[T,D,F] G):af W g 0 T/\af W g 1 D/\af W g 2 F/\W.frozen? ⟨g,0,none⟩=false/\W.frozen? ⟨g,1,none⟩=false/\W.frozen? ⟨g,2,none⟩=false:=⟨bB h 0,bB h 1,bB h 2,aK h 0,aK h 1,aK h 2⟩
def ο(H F:Int)(G:aP)(ok:Bool)(w:aa)(e:Ending)(w':aa):Prop:=
 ∃(v2 D:Int) (h:ax) (n2 c2:Nat),e=.returned (.tuple (ka (eO v2 D h n2 c2) ok))/\(ok=true->v2=H/\D=F/\aY w' w (.slice h n2 c2) G)/\(ok=false->v2=0/\D=0/\h=none/\n2=0/\c2=0)/\ag w w'
def ο.no{I D}{H}{ok}{e}(h:ok=false)(G:e=.returned (.tuple (dz bx)))(F:ag w w'):ο I D H ok w e w':=by subst h;exact⟨0,0,none,0,0,G,fun h=>Qy,fun _=>⟨rfl,rfl,rfl,rfl,rfl⟩,F⟩
def ο.yes{H G}{D}{F}{I}{ok}{e}(h:ok=true)(T:e=.returned (.tuple (fH (eO H G D J F))))(U:aY w' w (.slice D J F) I)(O:ag w w'):ο H G I ok w e w':=by subst h;exact⟨H,G,D,J,F,T,fun _=>⟨rfl,rfl,U⟩,fun h=>Qy,O⟩
def ο.none{v1 h T F}{J O}{ok1 ok}{e}(m:ο v1 h J ok1 w e w')(h:ok1=false)(D:ok=false):ο T F O ok w e w':=by subst h;subst D;obtain⟨v2,Y,U,n2,c2,H,_,I,G⟩:=m;obtain⟨rfl,rfl,rfl,rfl,rfl⟩:=I rfl;exact ο.no rfl H G
def ο.y{F h}{D}{ok1 ok}{e}(m:ο F h D ok1 w e w')(G:ok1=ok):ο F h D ok w e w':=G ▸ m
def zr h D w:(method 399 229 (.agg #[h,D]) "loop.example/g01073/impl.can").run prog w=.ok (244,(.agg #[h,D])) w:=QT
def Br h D w:(method 399 229 (.agg #[h,D]) "loop.example/g01073/impl.do").run prog w=.ok (245,(.agg #[h,D])) w:=QT
def xJ p v H v' h' A ε(rows GF:aP)w U a b c T n Z(a1:∀W,az 146 (cY (t_ a b c T n Z)) W fun e w'=>e=.returned (.tuple #[.iface 229 (.agg (bC a b)),.bool true])/\ag W w')(am:∀W,ag w W->az 244 (jx (.agg (bC a b)) p (aA v H A rows ε)) W (dt W U))(an:U=true->∀W,ag w W->az 245 (jx (.agg (bC a b)) p (aA v H A rows ε)) W fun e w'=>∃u,e=.returned (.agg (en v' h' u))/\aY w' W.heap.size u GF/\ag W w')(a5:dZ w)(a6:GF.length<=maxLen)(a7:∀r∈GF,r.length<=maxLen):az 101 (j_ p (aA v H A rows ε) (t_ a b c T n Z)) w fun e w'=>ο v' h' GF (U&&ic p v' h' GF) w e w':=by
 have⟨a8,ao,GG,a0,ap,av⟩:=ny a1 am an a5 a6 a7;have bd:=zr (zI a) (zI b);have a9:=Br (zI a) (zI b);go_enter oI,oJ
 go_upto_region 2 with(go_at_call 146;refine(a8.o _).x ?_;rintro e be ⟨rfl,FR⟩)
 have GJ:=(ζ w (.cells (aA v H A rows ε) 57) (.cells (t_ a b c T n Z) 97) (.cells bx 57));have⟨q0,ba,q2⟩:=cD w (.cells (aA v H A rows ε) 57) (.cells (t_ a b c T n Z) 97) (.cells bx 57);refine Qe fun Ge e0 e1 e2 HB M0 M2=>?_
 cases U with
 |false=>
  go_wp2_with (go_at_call 244;refine(ao.o _ HB.o).x ?_;rintro e w2 ⟨rfl,h⟩;have⟨ac,ad,ah,a2,a3,a4⟩:=dS (dg h M2);have FV:=zH h)
  exact Y9
 |true=>
  go_upto_region 4 with(go_at_call 244;refine(ao.o _ HB.o).x ?_;rintro e w2 ⟨rfl,h⟩;have⟨ac,ad,ah,_,_,_⟩:=dS (dg h M0);have FV:=zH h)
  refine PJ fun Gj GI GH=>?_
  cases Y:ic p v' h' GF with
  |false=>
   have HS:=zH Y;go_wp2_with (first|(go_at_call 245;refine GH.x ?_;rintro e bb ⟨u,rfl,G,D⟩;obtain⟨A3,c3,rfl,O,_,_⟩:=G.p;have I:=GI.t (D.x Qu);have ab:=zH O;have HU:=zH G;have FZ:=zH D;have GC:=zH I)|(go_at_call 67;refine(dk p v' h' A3 c3 GF _ (a0.ext GC) ab ap av).x ?_;rintro e bc ⟨_,J,F⟩;obtain rfl:=J HS;have⟨ac,ad,ah,a2,a3,a4⟩:=dS (dg F (dg FZ (dg FV M2)));have Gp:=zH F))
   exact Zf
  |true=>
   have HS:=zH Y;go_wp2_with (first|(go_at_call 245;refine GH.x ?_;rintro e bb ⟨u,rfl,G,D⟩;obtain⟨A3,c3,rfl,O,_,_⟩:=G.p;have I:=GI.t (D.x Qu);have ab:=zH O;have HU:=zH G;have FZ:=zH D;have GC:=zH I)|(go_at_call 67;refine(dk p v' h' A3 c3 GF _ (a0.ext GC) ab ap av).x ?_;rintro e bc ⟨J,_,F⟩;obtain rfl:=J HS;have⟨ac,ad,ah,a2,a3,a4⟩:=dS (dg F (dg FZ (dg FV M2)));have Gp:=zH F))
   exact Zs
def yl h D w:(method 399 231 (.agg #[h,D]) "loop.example/g01073/impl.can").run prog w=.ok (248,(.agg #[h,D])) w:=QT
def zt h D w:(method 399 231 (.agg #[h,D]) "loop.example/g01073/impl.do").run prog w=.ok (249,(.agg #[h,D])) w:=QT
def vE p v H v' h' A ε(rows GF:aP)w U a b c T n Z(a1:∀W,az 146 (cY (ud a b c T n Z)) W fun e w'=>e=.returned (.tuple #[.iface 231 (.agg (bC a c)),.bool true])/\ag W w')(am:∀W,ag w W->az 248 (jx (.agg (bC a c)) p (aA v H A rows ε)) W (dt W U))(an:U=true->∀W,ag w W->az 249 (jx (.agg (bC a c)) p (aA v H A rows ε)) W fun e w'=>∃u,e=.returned (.agg (en v' h' u))/\aY w' W.heap.size u GF/\ag W w')(a5:dZ w)(a6:GF.length<=maxLen)(a7:∀r∈GF,r.length<=maxLen):az 101 (j_ p (aA v H A rows ε) (ud a b c T n Z)) w fun e w'=>ο v' h' GF (U&&ic p v' h' GF) w e w':=by
 have⟨a8,ao,GG,a0,ap,av⟩:=ny a1 am an a5 a6 a7;have bd:=yl (zI a) (zI c);have a9:=zt (zI a) (zI c);go_enter oI,oJ
 go_upto_region 2 with(go_at_call 146;refine(a8.o _).x ?_;rintro e be ⟨rfl,FR⟩)
 have GJ:=(ζ w (.cells (aA v H A rows ε) 57) (.cells (ud a b c T n Z) 97) (.cells bx 57));have⟨q0,ba,q2⟩:=cD w (.cells (aA v H A rows ε) 57) (.cells (ud a b c T n Z) 97) (.cells bx 57);refine Qe fun Ge e0 e1 e2 HB M0 M2=>?_
 cases U with
 |false=>
  go_wp2_with (go_at_call 248;refine(ao.o _ HB.o).x ?_;rintro e w2 ⟨rfl,h⟩;have⟨ac,ad,ah,a2,a3,a4⟩:=dS (dg h M2);have FV:=zH h)
  exact Y9
 |true=>
  go_upto_region 4 with(go_at_call 248;refine(ao.o _ HB.o).x ?_;rintro e w2 ⟨rfl,h⟩;have⟨ac,ad,ah,_,_,_⟩:=dS (dg h M0);have FV:=zH h)
  refine PJ fun Gj GI GH=>?_
  cases Y:ic p v' h' GF with
  |false=>
   have HS:=zH Y;go_wp2_with (first|(go_at_call 249;refine GH.x ?_;rintro e bb ⟨u,rfl,G,D⟩;obtain⟨A3,c3,rfl,O,_,_⟩:=G.p;have I:=GI.t (D.x Qu);have ab:=zH O;have HU:=zH G;have FZ:=zH D;have GC:=zH I)|(go_at_call 67;refine(dk p v' h' A3 c3 GF _ (a0.ext GC) ab ap av).x ?_;rintro e bc ⟨_,J,F⟩;obtain rfl:=J HS;have⟨ac,ad,ah,a2,a3,a4⟩:=dS (dg F (dg FZ (dg FV M2)));have Gp:=zH F))
   exact Zf
  |true=>
   have HS:=zH Y;go_wp2_with (first|(go_at_call 249;refine GH.x ?_;rintro e bb ⟨u,rfl,G,D⟩;obtain⟨A3,c3,rfl,O,_,_⟩:=G.p;have I:=GI.t (D.x Qu);have ab:=zH O;have HU:=zH G;have FZ:=zH D;have GC:=zH I)|(go_at_call 67;refine(dk p v' h' A3 c3 GF _ (a0.ext GC) ab ap av).x ?_;rintro e bc ⟨J,_,F⟩;obtain rfl:=J HS;have⟨ac,ad,ah,a2,a3,a4⟩:=dS (dg F (dg FZ (dg FV M2)));have Gp:=zH F))
   exact Zs
def Bs h D F w:(method 399 233 (.agg #[h,D,F]) "loop.example/g01073/impl.can").run prog w=.ok (251,(.agg #[h,D,F])) w:=QT
def Cr h D F w:(method 399 233 (.agg #[h,D,F]) "loop.example/g01073/impl.do").run prog w=.ok (252,(.agg #[h,D,F])) w:=QT
def zu p v H v' h' A ε(rows GF:aP)w U a b c T n Z(a1:∀W,az 146 (cY (tX a b c T n Z)) W fun e w'=>e=.returned (.tuple #[.iface 233 (.agg (gT a b c)),.bool true])/\ag W w')(am:∀W,ag w W->az 251 (jx (.agg (gT a b c)) p (aA v H A rows ε)) W (dt W U))(an:U=true->∀W,ag w W->az 252 (jx (.agg (gT a b c)) p (aA v H A rows ε)) W fun e w'=>∃u,e=.returned (.agg (en v' h' u))/\aY w' W.heap.size u GF/\ag W w')(a5:dZ w)(a6:GF.length<=maxLen)(a7:∀r∈GF,r.length<=maxLen):az 101 (j_ p (aA v H A rows ε) (tX a b c T n Z)) w fun e w'=>ο v' h' GF (U&&ic p v' h' GF) w e w':=by
 have⟨a8,ao,GG,a0,ap,av⟩:=ny a1 am an a5 a6 a7;have bd:=Bs (zI a) (zI b) (zI c);have a9:=Cr (zI a) (zI b) (zI c);go_enter oI,oJ
 go_upto_region 2 with(go_at_call 146;refine(a8.o _).x ?_;rintro e be ⟨rfl,FR⟩)
 have GJ:=(ζ w (.cells (aA v H A rows ε) 57) (.cells (tX a b c T n Z) 97) (.cells bx 57));have⟨q0,ba,q2⟩:=cD w (.cells (aA v H A rows ε) 57) (.cells (tX a b c T n Z) 97) (.cells bx 57);refine Qe fun Ge e0 e1 e2 HB M0 M2=>?_
 cases U with
 |false=>
  go_wp2_with (go_at_call 251;refine(ao.o _ HB.o).x ?_;rintro e w2 ⟨rfl,h⟩;have⟨ac,ad,ah,a2,a3,a4⟩:=dS (dg h M2);have FV:=zH h)
  exact Y9
 |true=>
  go_upto_region 4 with(go_at_call 251;refine(ao.o _ HB.o).x ?_;rintro e w2 ⟨rfl,h⟩;have⟨ac,ad,ah,_,_,_⟩:=dS (dg h M0);have FV:=zH h)
  refine PJ fun Gj GI GH=>?_
  cases Y:ic p v' h' GF with
  |false=>
   have HS:=zH Y;go_wp2_with (first|(go_at_call 252;refine GH.x ?_;rintro e bb ⟨u,rfl,G,D⟩;obtain⟨A3,c3,rfl,O,_,_⟩:=G.p;have I:=GI.t (D.x Qu);have ab:=zH O;have HU:=zH G;have FZ:=zH D;have GC:=zH I)|(go_at_call 67;refine(dk p v' h' A3 c3 GF _ (a0.ext GC) ab ap av).x ?_;rintro e bc ⟨_,J,F⟩;obtain rfl:=J HS;have⟨ac,ad,ah,a2,a3,a4⟩:=dS (dg F (dg FZ (dg FV M2)));have Gp:=zH F))
   exact Zf
  |true=>
   have HS:=zH Y;go_wp2_with (first|(go_at_call 252;refine GH.x ?_;rintro e bb ⟨u,rfl,G,D⟩;obtain⟨A3,c3,rfl,O,_,_⟩:=G.p;have I:=GI.t (D.x Qu);have ab:=zH O;have HU:=zH G;have FZ:=zH D;have GC:=zH I)|(go_at_call 67;refine(dk p v' h' A3 c3 GF _ (a0.ext GC) ab ap av).x ?_;rintro e bc ⟨J,_,F⟩;obtain rfl:=J HS;have⟨ac,ad,ah,a2,a3,a4⟩:=dS (dg F (dg FZ (dg FV M2)));have Gp:=zH F))
   exact Zs
def zv h w:(method 399 235 (.agg #[h]) "loop.example/g01073/impl.can").run prog w=.ok (254,(.agg #[h])) w:=QT
def Bt h w:(method 399 235 (.agg #[h]) "loop.example/g01073/impl.do").run prog w=.ok (255,(.agg #[h])) w:=QT
def xK p v H v' h' A ε(rows GF:aP)w U a b c T n Z(a1:∀W,az 146 (cY (ue a b c T n Z)) W fun e w'=>e=.returned (.tuple #[.iface 235 (.agg (bK a)),.bool true])/\ag W w')(am:∀W,ag w W->az 254 (jx (.agg (bK a)) p (aA v H A rows ε)) W (dt W U))(an:U=true->∀W,ag w W->az 255 (jx (.agg (bK a)) p (aA v H A rows ε)) W fun e w'=>∃u,e=.returned (.agg (en v' h' u))/\aY w' W.heap.size u GF/\ag W w')(a5:dZ w)(a6:GF.length<=maxLen)(a7:∀r∈GF,r.length<=maxLen):az 101 (j_ p (aA v H A rows ε) (ue a b c T n Z)) w fun e w'=>ο v' h' GF (U&&ic p v' h' GF) w e w':=by
 have⟨a8,ao,GG,a0,ap,av⟩:=ny a1 am an a5 a6 a7;have bd:=zv (zI a);have a9:=Bt (zI a);go_enter oI,oJ
 go_upto_region 2 with(go_at_call 146;refine(a8.o _).x ?_;rintro e be ⟨rfl,FR⟩)
 have GJ:=(ζ w (.cells (aA v H A rows ε) 57) (.cells (ue a b c T n Z) 97) (.cells bx 57));have⟨q0,ba,q2⟩:=cD w (.cells (aA v H A rows ε) 57) (.cells (ue a b c T n Z) 97) (.cells bx 57);refine Qe fun Ge e0 e1 e2 HB M0 M2=>?_
 cases U with
 |false=>
  go_wp2_with (go_at_call 254;refine(ao.o _ HB.o).x ?_;rintro e w2 ⟨rfl,h⟩;have⟨ac,ad,ah,a2,a3,a4⟩:=dS (dg h M2);have FV:=zH h)
  exact Y9
 |true=>
  go_upto_region 4 with(go_at_call 254;refine(ao.o _ HB.o).x ?_;rintro e w2 ⟨rfl,h⟩;have⟨ac,ad,ah,_,_,_⟩:=dS (dg h M0);have FV:=zH h)
  refine PJ fun Gj GI GH=>?_
  cases Y:ic p v' h' GF with
  |false=>
   have HS:=zH Y;go_wp2_with (first|(go_at_call 255;refine GH.x ?_;rintro e bb ⟨u,rfl,G,D⟩;obtain⟨A3,c3,rfl,O,_,_⟩:=G.p;have I:=GI.t (D.x Qu);have ab:=zH O;have HU:=zH G;have FZ:=zH D;have GC:=zH I)|(go_at_call 67;refine(dk p v' h' A3 c3 GF _ (a0.ext GC) ab ap av).x ?_;rintro e bc ⟨_,J,F⟩;obtain rfl:=J HS;have⟨ac,ad,ah,a2,a3,a4⟩:=dS (dg F (dg FZ (dg FV M2)));have Gp:=zH F))
   exact Zf
  |true=>
   have HS:=zH Y;go_wp2_with (first|(go_at_call 255;refine GH.x ?_;rintro e bb ⟨u,rfl,G,D⟩;obtain⟨A3,c3,rfl,O,_,_⟩:=G.p;have I:=GI.t (D.x Qu);have ab:=zH O;have HU:=zH G;have FZ:=zH D;have GC:=zH I)|(go_at_call 67;refine(dk p v' h' A3 c3 GF _ (a0.ext GC) ab ap av).x ?_;rintro e bc ⟨J,_,F⟩;obtain rfl:=J HS;have⟨ac,ad,ah,a2,a3,a4⟩:=dS (dg F (dg FZ (dg FV M2)));have Gp:=zH F))
   exact Zs
def Bu h w:(method 399 236 (.agg #[h]) "loop.example/g01073/impl.can").run prog w=.ok (258,(.agg #[h])) w:=QT
def Cs h w:(method 399 236 (.agg #[h]) "loop.example/g01073/impl.do").run prog w=.ok (259,(.agg #[h])) w:=QT
def zw p v H v' h' A ε(rows GF:aP)w U a b c T n Z(a1:∀W,az 146 (cY (uf a b c T n Z)) W fun e w'=>e=.returned (.tuple #[.iface 236 (.agg (bK a)),.bool true])/\ag W w')(am:∀W,ag w W->az 258 (jx (.agg (bK a)) p (aA v H A rows ε)) W (dt W U))(an:U=true->∀W,ag w W->az 259 (jx (.agg (bK a)) p (aA v H A rows ε)) W fun e w'=>∃u,e=.returned (.agg (en v' h' u))/\aY w' W.heap.size u GF/\ag W w')(a5:dZ w)(a6:GF.length<=maxLen)(a7:∀r∈GF,r.length<=maxLen):az 101 (j_ p (aA v H A rows ε) (uf a b c T n Z)) w fun e w'=>ο v' h' GF (U&&ic p v' h' GF) w e w':=by
 have⟨a8,ao,GG,a0,ap,av⟩:=ny a1 am an a5 a6 a7;have bd:=Bu (zI a);have a9:=Cs (zI a);go_enter oI,oJ
 go_upto_region 2 with(go_at_call 146;refine(a8.o _).x ?_;rintro e be ⟨rfl,FR⟩)
 have GJ:=(ζ w (.cells (aA v H A rows ε) 57) (.cells (uf a b c T n Z) 97) (.cells bx 57));have⟨q0,ba,q2⟩:=cD w (.cells (aA v H A rows ε) 57) (.cells (uf a b c T n Z) 97) (.cells bx 57);refine Qe fun Ge e0 e1 e2 HB M0 M2=>?_
 cases U with
 |false=>
  go_wp2_with (go_at_call 258;refine(ao.o _ HB.o).x ?_;rintro e w2 ⟨rfl,h⟩;have⟨ac,ad,ah,a2,a3,a4⟩:=dS (dg h M2);have FV:=zH h)
  exact Y9
 |true=>
  go_upto_region 4 with(go_at_call 258;refine(ao.o _ HB.o).x ?_;rintro e w2 ⟨rfl,h⟩;have⟨ac,ad,ah,_,_,_⟩:=dS (dg h M0);have FV:=zH h)
  refine PJ fun Gj GI GH=>?_
  cases Y:ic p v' h' GF with
  |false=>
   have HS:=zH Y;go_wp2_with (first|(go_at_call 259;refine GH.x ?_;rintro e bb ⟨u,rfl,G,D⟩;obtain⟨A3,c3,rfl,O,_,_⟩:=G.p;have I:=GI.t (D.x Qu);have ab:=zH O;have HU:=zH G;have FZ:=zH D;have GC:=zH I)|(go_at_call 67;refine(dk p v' h' A3 c3 GF _ (a0.ext GC) ab ap av).x ?_;rintro e bc ⟨_,J,F⟩;obtain rfl:=J HS;have⟨ac,ad,ah,a2,a3,a4⟩:=dS (dg F (dg FZ (dg FV M2)));have Gp:=zH F))
   exact Zf
  |true=>
   have HS:=zH Y;go_wp2_with (first|(go_at_call 259;refine GH.x ?_;rintro e bb ⟨u,rfl,G,D⟩;obtain⟨A3,c3,rfl,O,_,_⟩:=G.p;have I:=GI.t (D.x Qu);have ab:=zH O;have HU:=zH G;have FZ:=zH D;have GC:=zH I)|(go_at_call 67;refine(dk p v' h' A3 c3 GF _ (a0.ext GC) ab ap av).x ?_;rintro e bc ⟨J,_,F⟩;obtain rfl:=J HS;have⟨ac,ad,ah,a2,a3,a4⟩:=dS (dg F (dg FZ (dg FV M2)));have Gp:=zH F))
   exact Zs
def ym h D w:(method 399 237 (.agg #[h,D]) "loop.example/g01073/impl.can").run prog w=.ok (266,(.agg #[h,D])) w:=QT
def zx h D w:(method 399 237 (.agg #[h,D]) "loop.example/g01073/impl.do").run prog w=.ok (267,(.agg #[h,D])) w:=QT
def vF p v H v' h' A ε(rows GF:aP)w U a b c T n Z(a1:∀W,az 146 (cY (tY a b c T n Z)) W fun e w'=>e=.returned (.tuple #[.iface 237 (.agg (bC a b)),.bool true])/\ag W w')(am:∀W,ag w W->az 266 (jx (.agg (bC a b)) p (aA v H A rows ε)) W (dt W U))(an:U=true->∀W,ag w W->az 267 (jx (.agg (bC a b)) p (aA v H A rows ε)) W fun e w'=>∃u,e=.returned (.agg (en v' h' u))/\aY w' W.heap.size u GF/\ag W w')(a5:dZ w)(a6:GF.length<=maxLen)(a7:∀r∈GF,r.length<=maxLen):az 101 (j_ p (aA v H A rows ε) (tY a b c T n Z)) w fun e w'=>ο v' h' GF (U&&ic p v' h' GF) w e w':=by
 have⟨a8,ao,GG,a0,ap,av⟩:=ny a1 am an a5 a6 a7;have bd:=ym (zI a) (zI b);have a9:=zx (zI a) (zI b);go_enter oI,oJ
 go_upto_region 2 with(go_at_call 146;refine(a8.o _).x ?_;rintro e be ⟨rfl,FR⟩)
 have GJ:=(ζ w (.cells (aA v H A rows ε) 57) (.cells (tY a b c T n Z) 97) (.cells bx 57));have⟨q0,ba,q2⟩:=cD w (.cells (aA v H A rows ε) 57) (.cells (tY a b c T n Z) 97) (.cells bx 57);refine Qe fun Ge e0 e1 e2 HB M0 M2=>?_
 cases U with
 |false=>
  go_wp2_with (go_at_call 266;refine(ao.o _ HB.o).x ?_;rintro e w2 ⟨rfl,h⟩;have⟨ac,ad,ah,a2,a3,a4⟩:=dS (dg h M2);have FV:=zH h)
  exact Y9
 |true=>
  go_upto_region 4 with(go_at_call 266;refine(ao.o _ HB.o).x ?_;rintro e w2 ⟨rfl,h⟩;have⟨ac,ad,ah,_,_,_⟩:=dS (dg h M0);have FV:=zH h)
  refine PJ fun Gj GI GH=>?_
  cases Y:ic p v' h' GF with
  |false=>
   have HS:=zH Y;go_wp2_with (first|(go_at_call 267;refine GH.x ?_;rintro e bb ⟨u,rfl,G,D⟩;obtain⟨A3,c3,rfl,O,_,_⟩:=G.p;have I:=GI.t (D.x Qu);have ab:=zH O;have HU:=zH G;have FZ:=zH D;have GC:=zH I)|(go_at_call 67;refine(dk p v' h' A3 c3 GF _ (a0.ext GC) ab ap av).x ?_;rintro e bc ⟨_,J,F⟩;obtain rfl:=J HS;have⟨ac,ad,ah,a2,a3,a4⟩:=dS (dg F (dg FZ (dg FV M2)));have Gp:=zH F))
   exact Zf
  |true=>
   have HS:=zH Y;go_wp2_with (first|(go_at_call 267;refine GH.x ?_;rintro e bb ⟨u,rfl,G,D⟩;obtain⟨A3,c3,rfl,O,_,_⟩:=G.p;have I:=GI.t (D.x Qu);have ab:=zH O;have HU:=zH G;have FZ:=zH D;have GC:=zH I)|(go_at_call 67;refine(dk p v' h' A3 c3 GF _ (a0.ext GC) ab ap av).x ?_;rintro e bc ⟨J,_,F⟩;obtain rfl:=J HS;have⟨ac,ad,ah,a2,a3,a4⟩:=dS (dg F (dg FZ (dg FV M2)));have Gp:=zH F))
   exact Zs
def yn h D F w:(method 399 239 (.agg #[h,D,F]) "loop.example/g01073/impl.can").run prog w=.ok (273,(.agg #[h,D,F])) w:=QT
def zy h D F w:(method 399 239 (.agg #[h,D,F]) "loop.example/g01073/impl.do").run prog w=.ok (274,(.agg #[h,D,F])) w:=QT
def vG p v J v' h' A ε(rows GF:aP)w Y a b c h n D(a1:∀W,az 146 (cY (uh a b c h n D)) W fun e w'=>e=.returned (.tuple #[.iface 239 (.agg (eO a b h n D)),.bool true])/\ag W w')(am:∀W,ag w W->az 273 (jx (.agg (eO a b h n D)) p (aA v J A rows ε)) W (dt W Y))(an:Y=true->∀W,ag w W->az 274 (jx (.agg (eO a b h n D)) p (aA v J A rows ε)) W fun e w'=>∃u,e=.returned (.agg (en v' h' u))/\aY w' W.heap.size u GF/\ag W w')(a5:dZ w)(a6:GF.length<=maxLen)(a7:∀r∈GF,r.length<=maxLen):az 101 (j_ p (aA v J A rows ε) (uh a b c h n D)) w fun e w'=>ο v' h' GF (Y&&ic p v' h' GF) w e w':=by
 have⟨a8,ao,GG,a0,ap,av⟩:=ny a1 am an a5 a6 a7;have bd:=yn (zI a) (zI b) (.slice h n D);have a9:=zy (zI a) (zI b) (.slice h n D);go_enter oI,oJ
 go_upto_region 2 with(go_at_call 146;refine(a8.o _).x ?_;rintro e be ⟨rfl,FR⟩)
 have GJ:=(ζ w (.cells (aA v J A rows ε) 57) (.cells (uh a b c h n D) 97) (.cells bx 57));have⟨q0,ba,q2⟩:=cD w (.cells (aA v J A rows ε) 57) (.cells (uh a b c h n D) 97) (.cells bx 57);refine Qe fun Ge e0 e1 e2 HB M0 M2=>?_
 cases Y with
 |false=>
  go_wp2_with (go_at_call 273;refine(ao.o _ HB.o).x ?_;rintro e w2 ⟨rfl,F⟩;have⟨ac,ad,ah,a2,a3,a4⟩:=dS (dg F M2);have FV:=zH F)
  exact Y9
 |true=>
  go_upto_region 4 with(go_at_call 273;refine(ao.o _ HB.o).x ?_;rintro e w2 ⟨rfl,F⟩;have⟨ac,ad,ah,_,_,_⟩:=dS (dg F M0);have FV:=zH F)
  refine PJ fun Gj GI GH=>?_
  cases Z:ic p v' h' GF with
  |false=>
   have HS:=zH Z;go_wp2_with (first|(go_at_call 274;refine GH.x ?_;rintro e bb ⟨u,rfl,I,G⟩;obtain⟨A3,c3,rfl,U,_,_⟩:=I.p;have O:=GI.t (G.x Qu);have ab:=zH U;have HU:=zH I;have FZ:=zH G;have GC:=zH O)|(go_at_call 67;refine(dk p v' h' A3 c3 GF _ (a0.ext GC) ab ap av).x ?_;rintro e bc ⟨_,T,H⟩;obtain rfl:=T HS;have⟨ac,ad,ah,a2,a3,a4⟩:=dS (dg H (dg FZ (dg FV M2)));have Gp:=zH H))
   exact Zf
  |true=>
   have HS:=zH Z;go_wp2_with (first|(go_at_call 274;refine GH.x ?_;rintro e bb ⟨u,rfl,I,G⟩;obtain⟨A3,c3,rfl,U,_,_⟩:=I.p;have O:=GI.t (G.x Qu);have ab:=zH U;have HU:=zH I;have FZ:=zH G;have GC:=zH O)|(go_at_call 67;refine(dk p v' h' A3 c3 GF _ (a0.ext GC) ab ap av).x ?_;rintro e bc ⟨T,_,H⟩;obtain rfl:=T HS;have⟨ac,ad,ah,a2,a3,a4⟩:=dS (dg H (dg FZ (dg FV M2)));have Gp:=zH H))
   exact Zs
def xx h w:(method 399 241 (.agg #[h]) "loop.example/g01073/impl.can").run prog w=.ok (282,(.agg #[h])) w:=QT
def yo h w:(method 399 241 (.agg #[h]) "loop.example/g01073/impl.do").run prog w=.ok (283,(.agg #[h])) w:=QT
def uU p v H v' h' A ε(rows GF:aP)w U a b c T n Z(a1:∀W,az 146 (cY (tZ a b c T n Z)) W fun e w'=>e=.returned (.tuple #[.iface 241 (.agg (bK b)),.bool true])/\ag W w')(am:∀W,ag w W->az 282 (jx (.agg (bK b)) p (aA v H A rows ε)) W (dt W U))(an:U=true->∀W,ag w W->az 283 (jx (.agg (bK b)) p (aA v H A rows ε)) W fun e w'=>∃u,e=.returned (.agg (en v' h' u))/\aY w' W.heap.size u GF/\ag W w')(a5:dZ w)(a6:GF.length<=maxLen)(a7:∀r∈GF,r.length<=maxLen):az 101 (j_ p (aA v H A rows ε) (tZ a b c T n Z)) w fun e w'=>ο v' h' GF (U&&ic p v' h' GF) w e w':=by
 have⟨a8,ao,GG,a0,ap,av⟩:=ny a1 am an a5 a6 a7;have bd:=xx (zI b);have a9:=yo (zI b);go_enter oI,oJ
 go_upto_region 2 with(go_at_call 146;refine(a8.o _).x ?_;rintro e be ⟨rfl,FR⟩)
 have GJ:=(ζ w (.cells (aA v H A rows ε) 57) (.cells (tZ a b c T n Z) 97) (.cells bx 57));have⟨q0,ba,q2⟩:=cD w (.cells (aA v H A rows ε) 57) (.cells (tZ a b c T n Z) 97) (.cells bx 57);refine Qe fun Ge e0 e1 e2 HB M0 M2=>?_
 cases U with
 |false=>
  go_wp2_with (go_at_call 282;refine(ao.o _ HB.o).x ?_;rintro e w2 ⟨rfl,h⟩;have⟨ac,ad,ah,a2,a3,a4⟩:=dS (dg h M2);have FV:=zH h)
  exact Y9
 |true=>
  go_upto_region 4 with(go_at_call 282;refine(ao.o _ HB.o).x ?_;rintro e w2 ⟨rfl,h⟩;have⟨ac,ad,ah,_,_,_⟩:=dS (dg h M0);have FV:=zH h)
  refine PJ fun Gj GI GH=>?_
  cases Y:ic p v' h' GF with
  |false=>
   have HS:=zH Y;go_wp2_with (first|(go_at_call 283;refine GH.x ?_;rintro e bb ⟨u,rfl,G,D⟩;obtain⟨A3,c3,rfl,O,_,_⟩:=G.p;have I:=GI.t (D.x Qu);have ab:=zH O;have HU:=zH G;have FZ:=zH D;have GC:=zH I)|(go_at_call 67;refine(dk p v' h' A3 c3 GF _ (a0.ext GC) ab ap av).x ?_;rintro e bc ⟨_,J,F⟩;obtain rfl:=J HS;have⟨ac,ad,ah,a2,a3,a4⟩:=dS (dg F (dg FZ (dg FV M2)));have Gp:=zH F))
   exact Zf
  |true=>
   have HS:=zH Y;go_wp2_with (first|(go_at_call 283;refine GH.x ?_;rintro e bb ⟨u,rfl,G,D⟩;obtain⟨A3,c3,rfl,O,_,_⟩:=G.p;have I:=GI.t (D.x Qu);have ab:=zH O;have HU:=zH G;have FZ:=zH D;have GC:=zH I)|(go_at_call 67;refine(dk p v' h' A3 c3 GF _ (a0.ext GC) ab ap av).x ?_;rintro e bc ⟨J,_,F⟩;obtain rfl:=J HS;have⟨ac,ad,ah,a2,a3,a4⟩:=dS (dg F (dg FZ (dg FV M2)));have Gp:=zH F))
   exact Zs
def xy h w:(method 399 242 (.agg #[h]) "loop.example/g01073/impl.can").run prog w=.ok (285,(.agg #[h])) w:=QT
def yp h w:(method 399 242 (.agg #[h]) "loop.example/g01073/impl.do").run prog w=.ok (286,(.agg #[h])) w:=QT
def uV p v H v' h' A ε(rows GF:aP)w U a b c T n Z(a1:∀W,az 146 (cY (uk a b c T n Z)) W fun e w'=>e=.returned (.tuple #[.iface 242 (.agg (bK b)),.bool true])/\ag W w')(am:∀W,ag w W->az 285 (jx (.agg (bK b)) p (aA v H A rows ε)) W (dt W U))(an:U=true->∀W,ag w W->az 286 (jx (.agg (bK b)) p (aA v H A rows ε)) W fun e w'=>∃u,e=.returned (.agg (en v' h' u))/\aY w' W.heap.size u GF/\ag W w')(a5:dZ w)(a6:GF.length<=maxLen)(a7:∀r∈GF,r.length<=maxLen):az 101 #[p,.agg (aA v H A rows ε),.agg (uk a b c T n Z)] w fun e w'=>ο v' h' GF (U&&ic p v' h' GF) w e w':=by
 have⟨a8,ao,GG,a0,ap,av⟩:=ny a1 am an a5 a6 a7;have bd:=xy (zI b);have a9:=yp (zI b);go_enter oI,oJ
 go_upto_region 2 with(go_at_call 146;refine(a8.o _).x ?_;rintro e be ⟨rfl,FR⟩)
 have GJ:=(ζ w (.cells (aA v H A rows ε) 57) (.cells (uk a b c T n Z) 97) (.cells bx 57));have⟨q0,ba,q2⟩:=cD w (.cells (aA v H A rows ε) 57) (.cells (uk a b c T n Z) 97) (.cells bx 57);refine Qe fun Ge e0 e1 e2 HB M0 M2=>?_
 cases U with
 |false=>
  go_wp2_with (go_at_call 285;refine(ao.o _ HB.o).x ?_;rintro e w2 ⟨rfl,h⟩;have⟨ac,ad,ah,a2,a3,a4⟩:=dS (dg h M2);have FV:=zH h)
  exact Y9
 |true=>
  go_upto_region 4 with(go_at_call 285;refine(ao.o _ HB.o).x ?_;rintro e w2 ⟨rfl,h⟩;have⟨ac,ad,ah,_,_,_⟩:=dS (dg h M0);have FV:=zH h)
  refine PJ fun Gj GI GH=>?_
  cases Y:ic p v' h' GF with
  |false=>
   have HS:=zH Y;go_wp2_with (first|(go_at_call 286;refine GH.x ?_;rintro e bb ⟨u,rfl,G,D⟩;obtain⟨A3,c3,rfl,O,_,_⟩:=G.p;have I:=GI.t (D.x Qu);have ab:=zH O;have HU:=zH G;have FZ:=zH D;have GC:=zH I)|(go_at_call 67;refine(dk p v' h' A3 c3 GF _ (a0.ext GC) ab ap av).x ?_;rintro e bc ⟨_,J,F⟩;obtain rfl:=J HS;have⟨ac,ad,ah,a2,a3,a4⟩:=dS (dg F (dg FZ (dg FV M2)));have Gp:=zH F))
   exact Zf
  |true=>
   have HS:=zH Y;go_wp2_with (first|(go_at_call 286;refine GH.x ?_;rintro e bb ⟨u,rfl,G,D⟩;obtain⟨A3,c3,rfl,O,_,_⟩:=G.p;have I:=GI.t (D.x Qu);have ab:=zH O;have HU:=zH G;have FZ:=zH D;have GC:=zH I)|(go_at_call 67;refine(dk p v' h' A3 c3 GF _ (a0.ext GC) ab ap av).x ?_;rintro e bc ⟨J,_,F⟩;obtain rfl:=J HS;have⟨ac,ad,ah,a2,a3,a4⟩:=dS (dg F (dg FZ (dg FV M2)));have Gp:=zH F))
   exact Zs
def zkP(p v H a b c:Int)A ε rows w a3 n bh(a5:bt w A rows)(cn:rows.length<=160)(F6:∀r∈rows,r.length<=1000)(cc:0<=a)(ce:a<rows.length)(hb:0<=b)(ci:b<rows.length)(ch:a≠b):az 96 (j_ p (aA v H A rows ε) (t_ a b c a3 n bh)) w fun e w'=>∃u,e=.returned (.agg (en v H u))/\aY w' w u ((rows.set a.toNat (rows.getD b.toNat [])).set b.toNat (rows.getD a.toNat []))/\ag w w':=by
 refine OE fun ra GZ rb Hm=>?_
 have⟨bi,bo,bp,bq⟩:=gG (SX:rows.getD a.toNat []=ra) (SW:rows.getD b.toNat []=rb) (Qu:rows.length<=1048576) (show ∀r∈rows,r.length<=1048576 from fun r hr=>Ti);go_enter func96,pY
 go_wp2_with fail
 refine(kL _ _ _ _ _ _ (a5.ext (((al _ _).alloc Qt _ |>.alloc Qt _).alloc Rs _)) bp bq).x ?_;rintro e h ⟨u,rfl,⟨us,hu⟩,ah⟩;obtain⟨gA,G,rfl,_,_,_⟩:=aY.p ⟨us,hu⟩;have⟨bd,be,bg⟩:=cD w (.cells (aA v H A rows ε) 57) (.cells (t_ a b c a3 n bh) 97) (.cells bx 57);have b6:=ah.size;simp only[dV]at b6;go_upto_region 2 with(fail)
 have⟨W2,FY⟩:=aR (h.alloc (.cells (aA v H gA rows G) 57));rw[<-FY];have am:ag h W2:=UP;have co:(W2:Nat)=h+1:=Rr;have O:=aT ah am;have m2:bA W2 h (aA v H gA rows G) 57:=TK;have ba:=dg O bd;have k1:=dg O be;have bc:=dg O bg;have Gf:bL W2 ((w:Nat)+3) (.slice gA rows G) rows us:=(hu.ext am).x Qt;have a9:∀g',gA=some ⟨g',0,none⟩->g' < (h:Nat):=fun g' e=>UB
 have ck:∀(k:Nat) (x:aG),us[k]?=some x->∀b,x.ownBlock=some b->b < (h:Nat):=fun k x hx b hb=>Vk
 have a6:ag w W2:=(ζ w _ _ _).t (O.x Rs);clear hu ah am O a5 F6 bd be bg FY;refine PI fun g GA Gy Gz=>?_
 subst GA;have cj:=a9 g rfl;obtain⟨ct,Hp,a7⟩:=Gf.F GZ;obtain⟨cu,J0,a8⟩:=Gf.F Hm;obtain⟨av,a4,rfl,_⟩:=a7.p;obtain⟨D,F,rfl,_⟩:=a8.p;refine NW fun y0 y1 y2 y3 y4 x0 x1 x2=>?_
 have b7:af W2 g a.toNat (.slice av ra a4):=UM;have ao:af W2 g b.toNat (.slice D rb F):=US;have f0:=Gf.η.g a.toNat;have f1:=Gf.η.g b.toNat;have⟨bu,bn,bv,a1,bz,a2⟩:=ny (bL.J rfl Gf Hp J0 GZ Hm) a6 ba k1 bc m2;clear Gf a6 a9 ba k1 bc m2 Hp J0 a7 a8 GZ Hm;go_upto_region 5 with(fail)
 have ap:(W2.setCell ⟨g,a.toNat,none⟩ (.slice D rb F)).cell? ⟨g,b.toNat,none⟩=some (.slice D rb F):=by rw[As _ _ _ _ Rs];exact ao
 go_region_held3 (fun W=>af W ((w:Nat)+1) 1 (zI a)/\af W ((w:Nat)+1) 2 (zI b)/\af W h 2 (.slice (bH g) rows G)/\af W g b.toNat (.slice D rb F)) (first|exact⟨y1,y2,x2,ao⟩|exact⟨(cE Rs).t y1,(cE Rs).t y2,(cE Rs).t x2,ap⟩)
  (fail)
 have⟨Z,I⟩:=aR ((W2.setCell ⟨g,a.toNat,none⟩ (.slice D rb F)).drew);rw[<-I];have ac:∀j,j≠g->Z.heap[j]?=W2.heap[j]?:=fun j ab=>by rw[I];exact a_ _ _ _ _ ab
 have b8:af Z g b.toNat (.slice D rb F):=by rw[I];exact ap
 have f4:Z.frozen? ⟨g,b.toNat,none⟩=false:=by rw[I];simpa using f1
 have U:=(ac _ Qu).t a1;have Y:=(ac _ Qu).t a2;have⟨br,a0⟩:=bJ ac I;clear y0 y1 y2 y3 y4 x0 x1 x2 b7 ao f0 f1 ap ac I;have⟨y0,y1,y2,y3,y4⟩:=fg U;have⟨x0,x1,x2⟩:=aD Y;clear U Y;go_upto_region 21 with(fail)
 have⟨ad,J⟩:=aR (Z.setCell ⟨g,b.toNat,none⟩ (.slice av ra a4));rw[<-J];have T:∀j,j≠g->ad.heap[j]?=W2.heap[j]?:=fun j ab=>by rw[J];exact(a_ _ _ _ _ ab).t (br j ab)
 have bb:=(T _ Qu).t bv;have U:=(T _ Qu).t a1;have Y:=(T _ Qu).t a2;have an:=(T _ Qu).t bz;have⟨HO,HE⟩:=bJ (by rw[J,a0.o];exact⟨_,bu.ext (al _ _).drew⟩:aY ad ((w:Nat)+3) (.slice (bH g) rows G) ((rows.set a.toNat rb).set b.toNat ra)) (by rw[J,a0.o];exact((bn.setCell Rs _).drew).setCell Rs _:ag w ad);rw[<-bi.o,<-bo.o]at HO;clear y0 y1 y2 y3 y4 x0 x1 x2 b8 f4 T J;have⟨y0,y1,y2,y3,y4⟩:=fg U;have⟨cp,cq,cr⟩:=aD bb;clear bb U;have⟨b0,b1,b2⟩:=cC Y;have⟨b3,b4,b5⟩:=cC an;have⟨b9,ca,cb⟩:=cd an;simp only[dA,dm]at b0 b1 b2 b3 b4 b5;clear Y an;go_wp2;refine aI (v:=.agg (aA v H (bH g) rows G)) TV rfl ⟨_,rfl,?_,?_⟩
 .exact Ym
 .exact X7
def zjS(p v h a b c:Int)A ε rows w ac n a0(ah:bt w A rows)(bn:rows.length<=160)(F6:∀r∈rows,r.length<=1000)(a6:1<=p)(a7:p<=1000)(bb:0<=a)(bc:a<rows.length)(a4:0<=c)(a5:c<=1000)(hx:∀r∈rows,∀x∈r,0<=x/\x<=1000):az 96 (j_ p (aA v h A rows ε) (ud a b c ac n a0)) w fun e w'=>∃u,e=.returned (.agg (en v h u))/\aY w' w u (rows.set a.toNat (kq p c (rows.getD a.toNat [])))/\ag w w':=by
 refine M_ fun ra GZ HA HX MB=>?_;clear hx
 refine Qc fun HM F_=>?_
 go_enter func96,pY
 go_wp2_with fail
 refine(kL _ _ _ _ _ _ (ah.ext (((al _ _).alloc Qt _ |>.alloc Qt _).alloc Rs _)) HM F_).x ?_;rintro e w1 ⟨u,rfl,⟨us,hu⟩,U⟩;obtain⟨gA,Ga,rfl,_,_,_⟩:=aY.p ⟨us,hu⟩;have⟨av,O,T⟩:=cD w (.cells (aA v h A rows ε) 57) (.cells (ud a b c ac n a0) 97) (.cells bx 57);have a8:=U.size;simp only[dV]at a8;go_upto_region 2 with(fail)
 have⟨W2,FY⟩:=aR (w1.alloc (.cells (aA v h gA rows Ga) 57));rw[<-FY];have Y:ag w1 W2:=UP;have bp:(W2:Nat)=w1+1:=Rr;have G:=aT U Y;have m2:bA W2 w1 (aA v h gA rows Ga) 57:=TK;have ao:=dg G av;have k1:=dg G O;have ap:=dg G T;have Gf:bL W2 ((w:Nat)+3) (.slice gA rows Ga) rows us:=(hu.ext Y).x Qt;have a9:∀g',gA=some ⟨g',0,none⟩->g' < (w1:Nat):=fun g' e=>UB
 have an:∀(k:Nat) (x:aG),us[k]?=some x->∀b,x.ownBlock=some b->b < (w1:Nat):=fun k x hx b hb=>Vk
 have am:ag w W2:=(ζ w _ _ _).t (G.x Rs);clear hu U Y G ah F6 av O T FY;obtain⟨bq,Hp,I⟩:=Gf.F GZ;refine PI fun g GA Gy Gz=>?_
 subst GA;obtain⟨H,D,rfl,ad,_⟩:=I.p;have Z:af W2 g a.toNat (.slice H ra D):=UM;refine NW fun y0 y1 y2 y3 y4 x0 x1 x2=>?_
 have⟨a2,a1,a3,J2,ba,K0,K1,K2,M2,ab,Hu⟩:=ũ Gf am Hp I ad ao k1 ap m2 (an _ _ Hp) (gF Gf.η I);clear Gf am Hp I GZ ad a9 an ao k1 ap m2;go_wp2;go_loopw [56] (fun i wr=>∃k:Nat,k<=ra.length/\i=.int .i64 k/\wr.ownsRow ((w:Nat)+3) 3 1 (.slice H ra D) ra ((ma p c ra k).map (Value.int .i64))/\W2.grownBy wr (Value.slice H ra D).ownBlock)
  (fun i _=>ra.length-(intOf i).toNat)
 case atStart=>exact⟨0,aW _,rfl,SD,⟨rfl,rfl,rfl,ae _,fun _ _ _=>rfl⟩⟩
 case round=>
  obtain⟨k,bi,rfl,FT,Io⟩:=hrel;by_cases FX:k<ra.length
  .have⟨x,hx⟩:=aq FX;obtain⟨F,rfl,bg,_⟩:=mr J2 Qu;have bh:=ab F rfl;have bo:g≠F:=WV;have t1:af wr ((w:Nat)+1) 1 (zI a):=Io.cell y1 TQ;have t3:af wr ((w:Nat)+1) 3 (zI c):=Io.cell y3 TQ;have t5:af wr w1 2 (.slice (bH g) rows Ga):=Io.cell x2 TQ;have t6:af wr g a.toNat (.slice (bH F) ra D):=Io.cell Z TQ;have bd:af wr F k (zI x):=WD;have be:=FT.g k;obtain⟨O,T⟩:=HX x (aU hx);have J:=FT.j k (zI (x*c%p));rw[<-eW,wH _ _ _ _ _ hx]at J;have⟨HS,HG⟩:=bJ J.1 (cx Io J.2);clear J hx FT Io x0 x1 x2 y0 y1 y2 y3 y4 Z;go_wp2_with fail
   go_region_held3 (fun W=>af W ((w:Nat)+1) 1 (zI a)/\af W ((w:Nat)+1) 3 (zI c)/\af W w1 2 (.slice (bH g) rows Ga)/\af W g a.toNat (.slice (bH F) ra D))
    (first|exact⟨t1,t3,t5,t6⟩|(refine⟨?_,?_,?_,?_⟩<;>(first|(refine(fu Rs).t ?_;assumption)|(refine(lQ Rs).t ?_;assumption))))
    ((go_at_call 139;refine(wO p x c _ a6 a7 O T a4 a5).x ?_;rintro e w' ⟨rfl,rfl⟩))
   exact Yj
  .have J1:∀b,(Value.slice H ra D).ownBlock=some b->(w:Nat)+3<=b/\b < (w1:Nat):=fun b hb=>⟨(bS J2 b hb).1,ab b hb⟩
   refine NZ fun IF Iu Iy Iw Il=>?_
   subst Il;have HO:=zH (show aY wr ((w:Nat)+3) (.slice (bH g) rows Ga) (rows.set a.toNat (kq p c (rows.getD a.toNat []))) from
    ⟨_,a2.K a3 Io (by rw[HA.o,<-wF p c ra ra (ae _)];unfold aE;rw[show(ma p c ra ra).length=ra by simp[ma]];exact FT)⟩)
   have HE:=zH (a1.grown Io Qu fun b hb=>Tu);clear FT Io J1 x0 x1 x2 y0 y1 y2 y3 y4 Z;exact ZG
def zkQ(p v h a b c:Int)A ε rows w ao n bc(av:bt w A rows)(cO:rows.length<=160)(F6:∀r∈rows,r.length<=1000)(b5:0<=a)(cz:a<rows.length):az 96 (j_ p (aA v h A rows ε) (ue a b c ao n bc)) w fun e w'=>∃u,e=.returned (.agg (en v h u))/\aY w' w u (rows.eraseIdx a.toNat)/\ag w w':=by
 refine Qc fun HM F_=>?_
 go_enter func96,pY
 go_wp2_with fail
 refine(kL _ _ _ _ _ _ (av.ext (((al _ _).alloc Qt _ |>.alloc Qt _).alloc Rs _)) HM F_).x ?_;rintro e D ⟨u,rfl,⟨us,hu⟩,Y⟩;obtain⟨gA,Ga,rfl,_,_,_⟩:=aY.p ⟨us,hu⟩;have⟨a7,a8,a9⟩:=cD w (.cells (aA v h A rows ε) 57) (.cells (ue a b c ao n bc) 97) (.cells bx 57);have b9:=Y.size;simp only[dV]at b9;go_upto_region 2 with(fail)
 have⟨W2,FY⟩:=aR (D.alloc (.cells (aA v h gA rows Ga) 57));rw[<-FY];have Z:ag D W2:=UP;have cR:(W2:Nat)=D+1:=Rr;have H:=aT Y Z;have ad:bA W2 D (aA v h gA rows Ga) 57:=TK;have a4:=dg H a7;have ab:=dg H a8;have a6:=dg H a9;have Gf:bL W2 ((w:Nat)+3) (.slice gA rows Ga) rows us:=(hu.ext Z).x Qt;have a3:∀g',gA=some ⟨g',0,none⟩->g' < (D:Nat):=fun g' e=>UB
 have cB:∀(k:Nat) (x:aG),us[k]?=some x->∀b,x.ownBlock=some b->b < (D:Nat):=fun k x hx b hb=>Vk
 have a1:ag w W2:=(ζ w _ _ _).t (H.x Rs);clear hu Y Z H av F6 a7 a8 a9 FY;obtain⟨j,rfl⟩:=iz b5;refine PI fun g GA Gy Gz=>?_
 subst GA;have cA:=a3 g rfl;have⟨ce,b6,c0,cc,c3⟩:=dp kX;have⟨Iq,Ip⟩:=aR (us.drop (j+1));obtain⟨J3,⟨cb,_⟩|⟨g',cp,F9,ca,ap,MT,b7,a2,J6,J4⟩⟩:=Gf.η
 .cases cb
 cases ca
 simp only[fk]at J3 J6 J4;have Gb:Iq.length=rows-(j+1):=Tg;have Gk:∀t,t<rows.length->F9.toList[t]?=us[t]?:=fun t ht=>Ts
 obtain⟨J,cu,b8⟩:∃J:dM,(if Ga=j+1 then some (⟨g,0,none⟩:dM) else some ⟨g,j+1,none⟩)=some J/\Hd (∀t u,Iq[t]?=some u->W2.drew.cell? (J.add t)=some u):=Zr;have ba:Hd (Iq.length=(rows.length-(j+1))*1):=Sm;have bb:Hd (∀u∈Iq,u.oneCell'=true):=by intro u hu;rw[Ip]at hu;exact rp Gf u (mx hu)
 have ch:Hd (∀t,t<Iq.length->(W2.drew.cell? ⟨g,0+j*1+t,none⟩).isSome=true/\W2.drew.frozen? ⟨g,0+j*1+t,none⟩=false):=Yp;have⟨F,U⟩:=aR (W2.drew.setCells g (0+j*1) Iq);have T:=dY g 26 Iq (0+j*1) W2.drew F9 MT RN;rw[<-U]at T;have G:=zH (show W2.grownBy F (some g) from cx (eG W2 (some g)) T.2);have bo:=zH (show F.ownsRow ((w:Nat)+3) 26 1 (.slice (bH g) (rows.length-1) Ga) (rows.length-1) (us.eraseIdx j) by
  refine⟨SZ,au ⟨g,Ga,_,rfl,ap,T.1,Qu,a2,?_,?_⟩⟩
  .exact WE
  .simp only[fk,jU];rw[show rows.length-1=j+Iq by omega,jJ _ _ _ QW,Ip,C_,<-J4,nt,iw Qu])
 have bq:=zH U;have cF:j<=Ga:=Qu;have cW:IntKind.i64.wrap ((j:Int)+1)=(j:Int)+1:=Rt;have cV:((j:Int)+1).toNat=j+1:=Qu;have cI:(0:Int)<=(j:Int)+1:=Qu;have cK:(j:Int)+1<=(rows:Int):=Qu;clear J3 J6 J4 MT Ip Gb U T Gk ap b7 a2;have⟨bd,be,bg,bh,bi⟩:=fg ab;have⟨ci,cj,ck⟩:=aD ad;have⟨bp,bn,br,an,bu,bv⟩:=ny Gf a1 a4 ab a6 ad;clear Gf a1 a3 a4 ab a6 ad;go_upto_region 22 with(fail)
 refine cU (S:=fun W=>af W ((w:Nat)+1) 1 (zI j)/\af W D 2 (.slice (bH g) rows Ga)) 13 QT QD (fun hHeld=>?_);refine Qj ?_;refine aM 9 ?_;refine aM 10 ?_;refine cm 11 fun K hK=>?_
 refine xf rfl (.tmp 140) (.tmp 146) 55 rfl 26 ce 1 iA b6 cc g 0 j Ga rfl J (rows.length-(j+1)) (Ga-(j+1)) Iq rfl ba.o b8.o bb.o Qu ch.o ?_;rw[<-bq.o,show j+(rows.length-(j+1))=rows.length-1 by omega];have O:F.heap[D.heap.size]?=_:=(G.block _ Qu Rs).t bv;have I:F.heap[(w:Nat)+1]?=_:=(G.block _ Qu Rs).t an;have am:=zH O;have f2:=aK O 2;have⟨cn,co,z2⟩:=aD O;have⟨t0,t1,t2,t3,t4⟩:=fg I;clear O I bd be bg bh bi ci cj ck;refine hK.out _ _ (fun _=>⟨t1,z2⟩) (fun hHeld=>?_);refine Qm ?_;clear K hK;have hHeld:=hHeld Qw;refine cm 12 fun K hK=>?_
 go_simp;refine hK.out _ _ (fun _=>⟨t1,z2⟩) (fun hHeld=>?_);refine Qm ?_;clear K hK;have hHeld:=hHeld Qw;refine cm 13 fun K hK=>?_
 go_simp;refine Qn ?_;clear K hK;refine gM QT ?_ _;have ah:=bE F D 2 _ _ (.slice (bH g) (rows.length-1) Ga) am;simp only[zA]at ah;have a5:=(eX F ⟨D,2,none⟩ w (.slice (bH g) (rows.length-1) Ga) Rs).t ((G.block _ Qu Rs).t br);have I:=(eX F ⟨D,2,none⟩ ((w:Nat)+1) (.slice (bH g) (rows.length-1) Ga) Rs).t ((G.block _ Qu Rs).t an);have ac:=(eX F ⟨D,2,none⟩ ((w:Nat)+1+1) (.slice (bH g) (rows.length-1) Ga) Rs).t ((G.block _ Qu Rs).t bu);have a0:=bp.γ Qu bo G;have⟨HO,HE⟩:=bJ (show aY _ ((w:Nat)+3) _ _ from⟨_,a0.m9 am (j:=2) (u:=.slice (bH g) (rows.length-1) Ga)⟩) ((bn.grown G Qu fun b hb=>RD).setCell (p:=⟨D,2,none⟩) Rs (.slice (bH g) (rows.length-1) Ga));clear a0 cn co z2 t0 t1 t2 t3 t4 f2;have⟨bd,be,bg,bh,bi⟩:=fg I;have⟨c4,ba,bb⟩:=aD a5;clear a5 I;have⟨bz,b0,b1⟩:=cC ah;have⟨b2,b3,b4⟩:=cC ac;have⟨cq,cr,ct⟩:=cd ac;simp only[dA,dm]at bz b0 b1 b2 b3 b4;clear ah ac;go_wp2;refine aI (v:=.agg (eO v h (bH g) (rows.length-1) Ga)) TV rfl ⟨_,rfl,?_,?_⟩
 .exact Ym
 .exact X7
def zl1(p v h a b c:Int)A ε rows w av n bd(a0:bt w A rows)(cj:rows.length<=160)(F6:∀r∈rows,r.length<=1000)(bv:0<=a)(bz:a<=rows.length)(co:0<=v)(cp:v<=1000)(ce:0<=h)(ch:h<=1000):az 96 (j_ p (aA v h A rows ε) (uf a b c av n bd)) w fun e w'=>∃u,e=.returned (.agg (en v h u))/\aY w' w u (cT rows a.toNat (List.replicate (v+h).toNat 0))/\ag w w':=by
 refine Qc fun HM F_=>?_
 go_enter func96,pY
 go_wp2_with fail
 refine(kL _ _ _ _ _ _ (a0.ext (((al _ _).alloc Qt _ |>.alloc Qt _).alloc Rs _)) HM F_).x ?_;rintro e w1 ⟨u,rfl,⟨us,hu⟩,T⟩;obtain⟨F,H,rfl,_,_,_⟩:=aY.p ⟨us,hu⟩;have⟨a9,ba,bb⟩:=cD w (.cells (aA v h A rows ε) 57) (.cells (uf a b c av n bd) 97) (.cells bx 57);have b1:=T.size;simp only[dV]at b1;go_upto_region 2 with(fail)
 have⟨D,FY⟩:=aR (w1.alloc (.cells (aA v h F rows H) 57));rw[<-FY];have U:ag w1 D:=UP;have b2:(D:Nat)=w1+1:=Rr;have I:=aT T U;have m2:bA D w1 (aA v h F rows H) 57:=TK;have ad:=dg I a9;have k1:=dg I ba;have a8:=dg I bb;have a7:bL D ((w:Nat)+3) (.slice F rows H) rows us:=(hu.ext U).x Qt;have cn:∀g',F=some ⟨g',0,none⟩->g' < (w1:Nat):=fun g' e=>UB
 have ci:∀(k:Nat) (x:aG),us[k]?=some x->∀b,x.ownBlock=some b->b < (w1:Nat):=fun k x hx b hb=>Vk
 have a2:ag w D:=(ζ w _ _ _).t (I.x Rs);clear hu T U I a0 F6 a9 ba bb FY;refine NW fun y0 y1 y2 y3 y4 x0 x1 x2=>?_
 have⟨ah,am,bc⟩:=aD ad;have cq:IntKind.i64.wrap (v+h)=v+h:=Rt;have a6:((v+h).toNat:Int)=v+h:=Qu;have ap:=zH a6;clear a6;have⟨O,be,K0,K1,K2,bi⟩:=ny a7 a2 ad k1 a8 m2;clear a7 a2 ad k1 a8 m2;go_upto_region 20 with(fail)
 have HS:=zH (show ∀ao,ag D ao->(fun W:World=>af W w1 2 (.slice F rows H)/\af W ((w:Nat)+1) 1 (zI a)/\af W w 0 (zI v)/\af W w 1 (zI h)) ao from fun ao hb=>⟨ar hb x2,ar hb y1,ar hb ah,ar hb am⟩);refine cU (S:=(fun W:World=>af W w1 2 (.slice F rows H)/\af W ((w:Nat)+1) 1 (zI a)/\af W w 0 (zI v)/\af W w 1 (zI h))) 12 QT (HS.o _ (al _ _).drew) (fun hHeld=>?_);refine Qj ?_;refine cm 9 fun K hK=>?_
 have⟨b5,b0,b3,b4,FU⟩:=dp gD;refine za3 _ rfl (.tmp 124) (.tmp 124) 26 rfl D 3 b5 (zI 0) 1 dR b0 b3 b4 .i64 .i64 (v+h) (v+h) (v+h).toNat rfl rfl ap.o.q ap.o.q RF SL Qt ?_;intro an ab a5;have a4:ag D an:=(al _ _).drew.t (cy a5);rw[jn]at ab;have ac:aE an D (.slice (some ⟨D.drew,0,none⟩) (v+h).toNat (v+h).toNat) (List.replicate (v+h).toNat 0):=by simpa[aE]using ab
 rw[show(D.drew:Nat)=w1+1 from b2]at ac;have⟨G,bh⟩:=bJ a4 ac;clear a4 ac ab a5;refine hK.out _ _ (fun _=>HS.o _ G.o) (fun hHeld=>?_);refine Mr fun hHeld=>?_;clear K hK
 refine cm 10 fun K hK=>?_
 go_simp;refine(zP ((w:Nat)+3) _ a us rows _ _ _ an (O.ext G).η (rp O) bv bz Qu).x ?_;rintro e wc ⟨v9,rfl,Z,Y⟩;obtain⟨g,Kj,rfl,cb,cc⟩:=pW Z Qu;have a3:=aJ G Y;have ck:=G.size;have a1:=O.insert G bh Qu (Qu:a.toNat<=rows.length) (zQ Z Qu) (gz Y);have⟨Jo,bg⟩:=bJ a3 a1;clear a3 a1 Z Y;refine Mz fun hHeld=>?_
 refine Mr fun hHeld=>?_;clear K hK
 refine cm 11 fun K hK=>?_
 refine Mz fun hHeld=>?_
 refine Mr fun hHeld=>?_;clear K hK
 have J:=(Jo.block w1 Qu).t bi;have HF:=zH J;have f2:=aK J 2;have⟨b6,b7,z2⟩:=aD J;clear J;refine cm 12 fun K hK=>?_
 go_simp;refine Qn ?_;clear K hK;refine Pp fun IF Iu Iy Iw=>?_
 have⟨HO,HE⟩:=bJ (show aY _ ((w:Nat)+3) _ (cT rows a.toNat (List.replicate (v+h).toNat 0)) from⟨_,bg.m9 HF (j:=2) (u:=.slice (bH g) (rows.length+1) Kj)⟩) ((aJ be Jo).setCell (p:=⟨w1,2,none⟩) Rs (.slice (bH g) (rows.length+1) Kj));clear b6 b7 z2 y0 y1 y2 y3 y4 x0 x1 x2 ah am bc f2;have⟨y0,y1,y2,y3,y4⟩:=fg Iy;have⟨ah,am,bc⟩:=aD Iu;clear Iu Iy;have⟨bn,bo,bp⟩:=cC IF;have⟨bq,br,bu⟩:=cC Iw;have⟨b8,b9,ca⟩:=cd Iw;simp only[dA,dm]at bn bo bp bq br bu;clear IF Iw;go_wp2;refine aI (v:=.agg (eO v h (bH g) (rows.length+1) Kj)) TV rfl ⟨_,rfl,?_,?_⟩
 .exact Ym
 .exact X7
def zcT W B g ε j(xs:aL)(I:aE W B (.slice (bH g) xs ε) xs)(ad:j<xs.length):∃(D:dM) (h:cL) (H:aa),Hd (H=W.setCells g (0+j*1) h)/\(if ε=j+1 then some (⟨g,0,none⟩:dM) else some ⟨g,j+1,none⟩)=some D/\Hd (∀t u,h[t]?=some u->W.cell? (D.add t)=some u)/\Hd (h.length=(xs.length-(j+1))*1)/\Hd (∀u∈h,u.oneCell'=true)/\Hd (∀t,t<h.length->(W.cell? ⟨g,0+j*1+t,none⟩).isSome=true/\W.frozen? ⟨g,0+j*1+t,none⟩=false)/\Hd (W.grownBy H (some g))/\Hd (aE H B (.slice (bH g) (xs.length-1) ε) (xs.eraseIdx j))/\xs.length<=ε:=by
 have⟨us,J⟩:=aR (xs.map (Value.int .i64));have h1:∀u∈us,u.oneCell'=true:=by rw[J];intro u hu;simp at hu;obtain⟨x,_,rfl⟩:=hu;rfl
 unfold aE at I;rw[<-J]at I;have⟨h,Ip⟩:=aR (us.drop (j+1));obtain⟨J3,⟨an,_⟩|⟨ap,ao,O,am,Z,F,ah,ac,J6,J4⟩⟩:=I
 .cases an
 cases am
 simp only[fk]at J3 J6 J4;have Gb:h.length=xs-(j+1):=Tg;have ab:∀t,t<xs.length->O.toList[t]?=us[t]?:=fun t ht=>Ts
 have G:∀t u,h[t]?=some u->t<xs.length-(j+1):=fun t u hu=>by have:=(bG.1 hu).1;rwa[Gb]at this
 obtain⟨D,Y,G⟩:∃D:dM,(if ε=j+1 then some (⟨g,0,none⟩:dM) else some ⟨g,j+1,none⟩)=some D/\(∀t u,h[t]?=some u->W.cell? (D.add t)=some u):=by
  by_cases U:ε=j+1
  .refine⟨⟨g,0,none⟩,by simp[U],fun t u hu=>?_⟩;have:=G t u hu;omega
  .refine⟨⟨g,j+1,none⟩,by simp[U],fun t u hu=>?_⟩;have ht:=G t u hu;rw[dF];rw[bB F,ab _ Qu,<-hu,Ip,fQ]
 have T:=dY g 3 h (0+j*1) W O F RN;refine⟨D,h,_,zH rfl,Y,zH G,zH Sm,zH ?_,zH ?_,zH T.2,zH ?_,ah⟩
 .exact Wn
 .intro t ht;rw[Gb]at ht;refine⟨?_,aK F _⟩;rw[bB F,di QW];rfl
 .unfold aE;rw[<-Be,<-J,Ay ad];refine⟨SZ,au ⟨g,ε,_,rfl,Z,T.1,Qu,ac,?_,?_⟩⟩
  .exact WE
  .simp only[fk,jU];rw[show xs.length-1=j+h by omega,jJ _ _ _ QW,Ip,C_,<-J4,nt,iw Qu]
def ziO(p v h a b c:Int)A ε rows w a5 n bv(a9:bt w A rows)(c5:rows.length<=160)(F6:∀r∈rows,r.length<=1000)(cb:0<=a)(cB:a<rows.length)(db:0<=v)(dc:v<=1000)(hb:0<=b)(cF:b<=1000)(cV:1<=h)(cW:h<=1000)(Gb:∀r∈rows,v+b<r.length):az 96 (j_ p (aA v h A rows ε) (tY a b c a5 n bv)) w fun e w'=>∃u,e=.returned (.agg (en v (h-1) u))/\aY w' w u ((rows.map (fun r=>r.eraseIdx (v+b).toNat)).eraseIdx a.toNat)/\ag w w':=by
 have⟨q,c6⟩:=iz (Qu:0<=v+b);have ch:(v+b).toNat=q:=Qu;rw[ch];have ah:=zH (show ∀r∈rows.eraseIdx a.toNat,(q:Int)<r.length/\r.length<=1000 from fun r hr=>⟨by have:=Gb r (AA hr);omega,F6 r (AA hr)⟩);clear Gb;have dr:IntKind.i64.wrap (v+b)=(q:Int):=Rt;have dl:IntKind.i64.wrap (h-1)=h-1:=Rt;refine Qc fun HM F_=>?_
 go_enter func96,pY
 go_wp2_with fail
 refine(kL _ _ _ _ _ _ (a9.ext (((al _ _).alloc Qt _ |>.alloc Qt _).alloc Rs _)) HM F_).x ?_;rintro e w1 ⟨u,rfl,⟨us,hu⟩,ao⟩;obtain⟨gA,Ga,rfl,_,_,_⟩:=aY.p ⟨us,hu⟩;have⟨bo,bp,bq⟩:=cD w (.cells (aA v h A rows ε) 57) (.cells (tY a b c a5 n bv) 97) (.cells bx 57);have ci:=ao.size;simp only[dV]at ci;go_upto_region 2 with(fail)
 have⟨W2,FY⟩:=aR (w1.alloc (.cells (aA v h gA rows Ga) 57));rw[<-FY];have ap:ag w1 W2:=UP;have c7:(W2:Nat)=w1+1:=Rr;have J:=aT ao ap;have m2:bA W2 w1 (aA v h gA rows Ga) 57:=TK;have H:=dg J bo;have k1:=dg J bp;have U:=dg J bq;have Gf:bL W2 ((w:Nat)+3) (.slice gA rows Ga) rows us:=(hu.ext ap).x Qt;have be:∀g',gA=some ⟨g',0,none⟩->g' < (w1:Nat):=fun g' e=>UB
 have c0:∀(k:Nat) (x:aG),us[k]?=some x->∀b,x.ownBlock=some b->b < (w1:Nat):=fun k x hx b hb=>Vk
 have ba:ag w W2:=(ζ w _ _ _).t (J.x Rs);clear hu ao ap J a9 F6 bo bp bq FY;obtain⟨j,rfl⟩:=iz cb;refine PI fun g GA Gy Gz=>?_
 subst GA;have cR:=be g rfl;have⟨i0,Hw,IA,G4,FU⟩:=dp kX;have⟨Iq,Ip⟩:=aR (us.drop (j+1));obtain⟨J3,⟨ck,_⟩|⟨g',ct,F9,cj,a8,MT,ce,bb,J6,J4⟩⟩:=Gf.η
 .cases ck
 cases cj
 simp only[fk]at J3 J6 J4;have Gb:Iq.length=rows-(j+1):=Tg;have Gk:∀t,t<rows.length->F9.toList[t]?=us[t]?:=fun t ht=>Ts
 obtain⟨A9,hA,I6⟩:∃A9:dM,(if Ga=j+1 then some (⟨g,0,none⟩:dM) else some ⟨g,j+1,none⟩)=some A9/\Hd (∀t u,Iq[t]?=some u->W2.drew.cell? (A9.add t)=some u):=Zr;have s1:Hd (Iq.length=(rows.length-(j+1))*1):=Sm;have s2:Hd (∀u∈Iq,u.oneCell'=true):=by intro u hu;rw[Ip]at hu;exact rp Gf u (mx hu)
 have s3:Hd (∀t,t<Iq.length->(W2.drew.cell? ⟨g,0+j*1+t,none⟩).isSome=true/\W2.drew.frozen? ⟨g,0+j*1+t,none⟩=false):=Yp;have⟨W5,an⟩:=aR (W2.drew.setCells g (0+j*1) Iq);have ab:=dY g 26 Iq (0+j*1) W2.drew F9 MT RN;rw[<-an]at ab;have Hz:=zH (show W2.grownBy W5 (some g) from cx (eG W2 (some g)) ab.2);have a4:=zH (show W5.ownsRow ((w:Nat)+3) 26 1 (.slice (bH g) (rows.length-1) Ga) (rows.length-1) (us.eraseIdx j) by
  refine⟨SZ,au ⟨g,Ga,_,rfl,a8,ab.1,Qu,bb,?_,?_⟩⟩
  .exact WE
  .simp only[fk,jU];rw[show rows.length-1=j+Iq by omega,jJ _ _ _ QW,Ip,C_,<-J4,nt,iw Qu])
 have IK:=zH an;have c3:j<=Ga:=Qu;have dq:IntKind.i64.wrap ((j:Int)+1)=(j:Int)+1:=Rt;have Hv:((j:Int)+1).toNat=j+1:=Qu;have Na:(0:Int)<=(j:Int)+1:=Qu;have M8:(j:Int)+1<=(rows:Int):=Qu;clear J3 J6 J4 MT Ip Gb an ab Gk a8 ce bb;have⟨y0,y1,y2,y3,y4⟩:=fg k1;have⟨x0,x1,x2⟩:=aD m2;have⟨HU,HB,K0,K1,K2,M2⟩:=ny Gf ba H k1 U m2;clear Gf ba be H k1 U m2;go_upto_region 22 with(fail)
 refine cU (S:=fun W=>af W ((w:Nat)+1) 1 (zI j)/\af W w1 2 (.slice (bH g) rows Ga)) 13 QT QD (fun hHeld=>?_);refine Qj ?_;refine aM 9 ?_;refine aM 10 ?_;refine cm 11 fun K hK=>?_
 refine xf rfl (.tmp 140) (.tmp 146) 55 rfl 26 i0 1 iA Hw G4 g 0 j Ga rfl A9 (rows.length-(j+1)) (Ga-(j+1)) Iq rfl s1.o I6.o s2.o Qu s3.o ?_;rw[<-IK.o,show j+(rows.length-(j+1))=rows.length-1 by omega];have Y:W5.heap[w1.heap.size]?=_:=(Hz.block _ Qu Rs).t M2;have T:W5.heap[(w:Nat)+1]?=_:=(Hz.block _ Qu Rs).t K1;have ad:=zH Y;have f2:=aK Y 2;have⟨I,cp,z2⟩:=aD Y;have⟨t0,t1,t2,t3,t4⟩:=fg T;clear Y T y0 y1 y2 y3 y4 x0 x1 x2;refine hK.out _ _ (fun _=>⟨t1,z2⟩) (fun hHeld=>?_);refine Qm ?_;clear K hK;have hHeld:=hHeld Qw;refine cm 12 fun K hK=>?_
 go_simp;refine hK.out _ _ (fun _=>⟨t1,z2⟩) (fun hHeld=>?_);refine Qm ?_;clear K hK;have hHeld:=hHeld Qw;refine cm 13 fun K hK=>?_
 go_simp;refine Qn ?_;clear K hK;refine gM QT ?_ _;clear I cp z2 t0 t1 t2 t3 t4 f2 s1 s2 s3 hA I6;have⟨D,O⟩:=aR (rows.eraseIdx j);have a1:rows.length-1=D:=by rw[O,Ay Qu]
 have Z:=HU.γ Qu a4 Hz;rw[<-O,a1]at Z;simp only[Da]at ah ⊢;rw[a1];rw[<-O]at ah;have b3:=zH O;clear O;have⟨G,F⟩:=aR (W5.setCell ⟨w1,2,none⟩ (.slice (bH g) D Ga));rw[<-F];have⟨co,bh⟩:=aR (us.eraseIdx j);rw[<-bh]at Z;have a2:=Z.m9 ad (j:=2) (u:=.slice (bH g) D Ga);rw[<-F]at a2;have m2:=bE W5 w1 2 _ _ (.slice (bH g) D Ga) ad;simp only[zA]at m2;rw[<-F]at m2;have ac:∀j,j≠w1.heap.size->G.heap[j]?=W5.heap[j]?:=fun j hj=>by rw[F];exact a_ _ _ _ _ hj
 have H:=(ac w Qu).t ((Hz.block _ Qu Rs).t K0);have k1:=(ac ((w:Nat)+1) Qu).t ((Hz.block _ Qu Rs).t K1);have U:=(ac ((w:Nat)+1+1) Qu).t ((Hz.block _ Qu Rs).t K2);have av:=(HB.grown Hz Qu fun b hb=>RD).setCell (p:=⟨w1,2,none⟩) Rs (.slice (bH g) D Ga);rw[<-F]at av;have c9:(w1:Nat)<G:=by have:=Hz.size;rw[F];simp;omega
 clear HU HB K0 K1 K2 M2 ad a4 Hz ac Z F bh;refine NW fun y0 y1 y2 y3 y4 x0 x1 x2=>?_
 have⟨br,s1,s2⟩:=aD H;have f1:=aK m2 1;have⟨HU,HB,K0,K1,K2,M2⟩:=ny a2 av H k1 U m2;clear a2 av H k1 U m2;go_upto_region 26 with(fail)
 have⟨am,Ir⟩:=aR (G.setCell ⟨w1,1,none⟩ (zI (h-1)));rw[<-Ir];have ME:=bE G w1 1 _ _ (zI (h-1)) M2;simp only[zA]at ME;rw[<-Ir]at ME;have MH:∀j,j≠w1.heap.size->am.heap[j]?=G.heap[j]?:=fun j hj=>TW
 refine NO fun M6 MR MP MJ MV MN=>?_
 have c8:(am:Nat)=G:=by rw[Ir];simp
 have⟨Is,b2⟩:=bJ MV MN;have⟨cn,bg⟩:=aR co;rw[<-bg]at Is;clear ME MH MV MN Ir bg;clear y0 y1 y2 y3 y4 x0 x1 x2 br s1 s2 f1;obtain⟨gA,a0⟩:∃gA:ax,gA=some ⟨g,0,none⟩:=⟨_,rfl⟩;rw[<-a0]at Is M6;simp only[<-a0];clear a0;have⟨y0,y1,y2,y3,y4⟩:=fg MP;have⟨x0,x1,x2⟩:=aD M6;go_wp2;go_loopw [169] (fun i wr=>∃k:Nat,k<=D.length/\i=.int .i64 k/\(∃bu,bL wr ((w:Nat)+3) (.slice gA D Ga) (lE (fun r=>r.eraseIdx q) D k) bu)/\
   bA wr w1 (aA v (h-1) gA D Ga) 57/\Below ((w:Nat)+3) am wr)
  (fun i _=>D.length-(intOf i).toNat)
 case atStart=>exact⟨0,aW _,rfl,⟨cn,SB⟩,M6,al _ _⟩
 case round=>
  obtain⟨k,hk,rfl,⟨bu,FT⟩,Hh,Gd⟩:=hrel;clear y0 y1 y2 y3 y4 x0 x1 x2;by_cases bc:k<D.length
  .have⟨r,hr⟩:=aq bc;have bd:(lE (fun r=>r.eraseIdx q) D k)[k]?=some r:=(qj _ _ _ bc).t hr;obtain⟨dO,Hc,J5⟩:=FT.F bd;obtain⟨a1,c4⟩:=ah r (aU hr);obtain⟨cq,cr,rfl,_⟩:=J5.p;obtain⟨gr,rfl,cK,cO⟩:=mr J5 Qu;obtain⟨g,rfl,Ic,cI⟩:=mh FT Tf;have He:=FT.η;rw[eJ _ _ _ hk]at He;have I:af wr g k (.slice (bH gr) r cr):=Ub;have y2:af wr w1 2 (.slice (bH g) D Ga):=bB Hh 2;refine ON fun F0 Nb f0 M7 HO HW Hf IC H_ i0 Hw IA G4 FU A9 Iq W5 IK hA I6 s1 s2 s3 Hz MS Nc MC Hv M9 Na M8=>?_;clear Gd hr bd Hc J5 FT Hh He
   have bz:af W5 w1 2 (.slice (bH g) D Ga):=Hz.cell (w:=wr.drew) y2 Rs;have b0:af W5 g k (.slice (bH gr) r cr):=Hz.cell (w:=wr.drew) I Rs;have a7:W5.frozen? ⟨g,k,none⟩=false:=frz (w:=wr.drew) Hz f0 I M7;have⟨b4,b1,a6⟩:=er b0 a7 bz;clear b0 a7 bz;go_wp2_with fail
   refine cU (S:=fun W=>af W w1 2 (.slice (bH g) D Ga)) 12 QT y2 (fun hHeld=>?_);refine Qj ?_;refine aM 9 ?_;refine cm 10 fun K hK=>?_
   refine xf rfl (.tmp 179) (.tmp 183) 26 rfl 3 i0 1 dR Hw G4 gr 0 q cr rfl A9 (r.length-(q+1)) (cr-(q+1)) Iq rfl s1.o I6.o s2.o Qu s3.o ?_;rw[<-IK.o,show q+(r.length-(q+1))=r.length-1 by omega];refine hK.out _ _ (fun _=>a6.o) (fun hHeld=>?_);clear hK K I f0 y2;have I:=b4.o;have f0:=b1.o;refine P9 ?_;have hHeld:=hHeld Qw;refine cm 11 fun K hK=>?_
   go_simp;refine hK.out _ _ (fun _=>a6.o) (fun hHeld=>?_);refine Mr fun hHeld=>?_;clear K hK
   refine cm 12 fun K hK=>?_
   go_simp;refine Qn ?_;clear K hK;refine gM QT ?_ _;have MX:=cx (eG wr (some gr)) Hz;have MD:aE W5 ((w:Nat)+3) (.slice (bH gr) (r.length-1) cr) (r.eraseIdx q):=MS.o;have IE:=HO.put (eJ _ _ _ hk).q IC MX MD (fun b hb=>ay hb);rw[jI (fun r=>r.eraseIdx q) D k r H_]at IE;exact ZD
  .have cc:k=D.length:=Qu;subst cc;rw[qi _ _ _ (ae _)]at FT;have bn:=Hh;have bi:=(Gd.block _ Qu).t MR;have T:=(Gd.block _ Qu).t MP;have a3:=(Gd.block _ Qu).t MJ;have⟨HO,HE⟩:=bJ (by(rw[Be,<-b3.o]);exact⟨_,FT⟩:aY wr ((w:Nat)+3) (.slice gA D Ga) ((rows.map (fun r=>r.eraseIdx q)).eraseIdx j)) (b2.t (Gd.x Qu));clear FT Gd Hh;have⟨y0,y1,y2,y3,y4⟩:=fg T;have⟨br,s1,s2⟩:=aD bi;clear bi T;have⟨b5,b6,b7⟩:=cC bn;have⟨b8,b9,ca⟩:=cC a3;have⟨cu,cz,cA⟩:=cd a3;simp only[dA,dm]at b5 b6 b7 b8 b9 ca;clear bn a3;go_wp2;refine aI (v:=.agg (aA v (h-1) gA D Ga)) TV rfl ⟨_,rfl,?_,?_⟩
   .exact Ym
   .exact X7
def zgU(p v h a b c:Int)A ε rows w Y n a7(ac:bt w A rows)(cc:rows.length<=160)(F6:∀r∈rows,r.length<=1000)(cj:0<=v)(ck:v<=1000)(hb:0<=b)(b2:b<=1000)(b7:1<=h)(b8:h<=1000)(Gb:∀r∈rows,v+b<r.length):az 96 (j_ p (aA v h A rows ε) (tZ a b c Y n a7)) w fun e w'=>∃u,e=.returned (.agg (en v (h-1) u))/\aY w' w u (rows.map (fun r=>r.eraseIdx (v+b).toNat))/\ag w w':=by
 have⟨q,ce⟩:=iz (Qu:0<=v+b);have bq:(v+b).toNat=q:=Qu;rw[bq];have bc:=zH (show ∀r∈rows,(q:Int)<r.length/\r.length<=1000 from fun r hr=>⟨Tr,F6 r hr⟩);clear Gb;have co:IntKind.i64.wrap (v+b)=(q:Int):=Rt;have cn:IntKind.i64.wrap (h-1)=h-1:=Rt;refine Qc fun HM F_=>?_
 go_enter func96,pY
 go_wp2_with fail
 refine(kL _ _ _ _ _ _ (ac.ext (((al _ _).alloc Qt _ |>.alloc Qt _).alloc Rs _)) HM F_).x ?_;rintro e w1 ⟨u,rfl,⟨us,hu⟩,J⟩;obtain⟨F,Ga,rfl,_,_,_⟩:=aY.p ⟨us,hu⟩;have⟨a2,a3,a4⟩:=cD w (.cells (aA v h A rows ε) 57) (.cells (tZ a b c Y n a7) 97) (.cells bx 57);have br:=J.size;simp only[dV]at br;go_upto_region 2 with(fail)
 have⟨D,FY⟩:=aR (w1.alloc (.cells (aA v h F rows Ga) 57));rw[<-FY];have O:ag w1 D:=UP;have Jp:(D:Nat)=w1+1:=Rr;have G:=aT J O;have m2:bA D w1 (aA v h F rows Ga) 57:=TK;have T:=dg G a2;have k1:=dg G a3;have a0:=dg G a4;have an:bL D ((w:Nat)+3) (.slice F rows Ga) rows us:=(hu.ext O).x Qt;have ci:∀g',F=some ⟨g',0,none⟩->g' < (w1:Nat):=fun g' e=>UB
 have b9:∀(k:Nat) (x:aG),us[k]?=some x->∀b,x.ownBlock=some b->b < (w1:Nat):=fun k x hx b hb=>Vk
 have ad:ag w D:=(ζ w _ _ _).t (G.x Rs);clear hu J O G ac F6 a2 a3 a4 FY;refine NW fun y0 y1 y2 y3 y4 x0 x1 x2=>?_
 have⟨a5,s1,s2⟩:=aD T;have f1:=aK m2 1;have⟨HU,HB,K0,K1,K2,M2⟩:=ny an ad T k1 a0 m2;clear an ad T k1 a0 m2;go_upto_region 26 with(fail)
 have⟨I,Ir⟩:=aR (D.setCell ⟨w1,1,none⟩ (zI (h-1)));rw[<-Ir];have ME:=bE D w1 1 _ _ (zI (h-1)) M2;simp only[zA]at ME;rw[<-Ir]at ME;have MH:∀j,j≠w1.heap.size->I.heap[j]?=D.heap[j]?:=fun j hj=>TW
 refine NO fun M6 MR MP MJ MV MN=>?_
 have ch:(I:Nat)=w1+1:=TJ;have⟨Is,bb⟩:=bJ MV MN;have⟨bu,ao⟩:=aR us;rw[<-ao]at Is;clear ME MH MV MN Ir ao;clear y0 y1 y2 y3 y4 x0 x1 x2 a5 s1 s2 f1;have⟨y0,y1,y2,y3,y4⟩:=fg MP;have⟨x0,x1,x2⟩:=aD M6;go_wp2;go_loopw [169] (fun i wr=>∃k:Nat,k<=rows.length/\i=.int .i64 k/\(∃a6,bL wr ((w:Nat)+3) (.slice F rows Ga) (lE (fun r=>r.eraseIdx q) rows k) a6)/\
   bA wr w1 (aA v (h-1) F rows Ga) 57/\Below ((w:Nat)+3) I wr)
  (fun i _=>rows.length-(intOf i).toNat)
 case atStart=>exact⟨0,aW _,rfl,⟨bu,SB⟩,M6,al _ _⟩
 case round=>
  obtain⟨k,hk,rfl,⟨a6,FT⟩,Hh,Gd⟩:=hrel;clear y0 y1 y2 y3 y4 x0 x1 x2;by_cases ah:k<rows.length
  .have⟨r,hr⟩:=aq ah;have am:(lE (fun r=>r.eraseIdx q) rows k)[k]?=some r:=(qj _ _ _ ah).t hr;obtain⟨cp,Hc,J5⟩:=FT.F am;obtain⟨ca,cb⟩:=bc r (aU hr);obtain⟨bv,cr,rfl,_⟩:=J5.p;obtain⟨gr,rfl,b5,b6⟩:=mr J5 Qu;obtain⟨g,rfl,b3,b4⟩:=mh FT Tf;have He:=FT.η;rw[eJ _ _ _ hk]at He;have H:af wr g k (.slice (bH gr) r cr):=Ub;refine Mh fun y2=>?_
   refine ON fun F0 Nb f0 M7 HO HW Hf IC H_ i0 Hw IA G4 FU A9 Iq W5 IK hA I6 s1 s2 s3 Hz MS Nc MC Hv M9 Na M8=>?_;clear Gd hr am Hc J5 FT Hh He
   have a8:af W5 w1 2 (.slice (bH g) rows Ga):=Hz.cell (w:=wr.drew) y2 Rs;have a9:af W5 g k (.slice (bH gr) r cr):=Hz.cell (w:=wr.drew) H Rs;have ab:W5.frozen? ⟨g,k,none⟩=false:=frz (w:=wr.drew) Hz f0 H M7;have⟨bd,ba,Z⟩:=er a9 ab a8;clear a9 ab a8;go_wp2_with fail
   refine cU (S:=fun W=>af W w1 2 (.slice (bH g) rows Ga)) 12 QT y2 (fun hHeld=>?_);refine Qj ?_;refine aM 9 ?_;refine cm 10 fun K hK=>?_
   refine xf rfl (.tmp 179) (.tmp 183) 26 rfl 3 i0 1 dR Hw G4 gr 0 q cr rfl A9 (r.length-(q+1)) (cr-(q+1)) Iq rfl s1.o I6.o s2.o Qu s3.o ?_;rw[<-IK.o,show q+(r.length-(q+1))=r.length-1 by omega];refine hK.out _ _ (fun _=>Z.o) (fun hHeld=>?_);clear hK K H f0 y2;have H:=bd.o;have f0:=ba.o;refine P9 ?_;have hHeld:=hHeld Qw;refine cm 11 fun K hK=>?_
   go_simp;refine hK.out _ _ (fun _=>Z.o) (fun hHeld=>?_);refine Mr fun hHeld=>?_;clear K hK
   refine cm 12 fun K hK=>?_
   go_simp;refine Qn ?_;clear K hK;refine gM QT ?_ _;have MX:=cx (eG wr (some gr)) Hz;have MD:aE W5 ((w:Nat)+3) (.slice (bH gr) (r.length-1) cr) (r.eraseIdx q):=MS.o;have IE:=HO.put (eJ _ _ _ hk).q IC MX MD (fun b hb=>ay hb);rw[jI (fun r=>r.eraseIdx q) rows k r H_]at IE;exact ZD
  .have bp:k=rows.length:=Qu;subst bp;rw[qi _ _ _ (ae _)]at FT;have a1:=Hh;have ap:=(Gd.block _ Qu).t MR;have av:=(Gd.block _ Qu).t MP;have U:=(Gd.block _ Qu).t MJ;have⟨HO,HE⟩:=bJ (by skip;exact⟨_,FT⟩:aY wr ((w:Nat)+3) (.slice F rows Ga) (rows.map (fun r=>r.eraseIdx q))) (bb.t (Gd.x Qu));clear FT Gd Hh;have⟨y0,y1,y2,y3,y4⟩:=fg av;have⟨a5,s1,s2⟩:=aD ap;clear ap av;have⟨be,bg,bh⟩:=cC a1;have⟨bi,bn,bo⟩:=cC U;have⟨bz,b0,b1⟩:=cd U;simp only[dA,dm]at be bg bh bi bn bo;clear a1 U;go_wp2;refine aI (v:=.agg (aA v (h-1) F rows Ga)) TV rfl ⟨_,rfl,?_,?_⟩
   .exact Ym
   .exact X7
end Go.Proofs.YtpieilkmmiopfaaGreatDoor
