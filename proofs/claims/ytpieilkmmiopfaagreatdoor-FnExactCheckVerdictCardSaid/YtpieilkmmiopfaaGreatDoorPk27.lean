/- Parts of the walks. Conditions: as stated with each. -/
import Derived.Test.YtpieilkmmiopfaaGreatDoorPk5
namespace Go.Proofs.YtpieilkmmiopfaaGreatDoor
open Go.RowKit Tryz
set_option linter.all false
set_option maxHeartbeats 4000000
set_option maxRecDepth 20000
variable{J:Nat}{T:aG}{W w w':aa}
def fV{h}G H I J O t(ab:Below (w.alloc (.cells #[G,H,I,J,O] t)) (w.alloc (.cells #[G,H,I,J,O] t)) h)T U Y Z t2:∃W,W=h.alloc (.cells #[T,U,Y,Z] t2)/\ag w W/\af W w 0 G/\af W w 1 H/\af W w 2 I/\af W w 3 J/\af W w 4 O/\af W h 0 T/\af W h 1 U/\af W h 2 Y/\af W h 3 Z:=by have ac:=ab.alloc ab.size (.cells #[T,U,Y,Z] t2);have D:=dg ac (aH w (.cells #[G,H,I,J,O] t) rfl);have F:=aH h (.cells #[T,U,Y,Z] t2) rfl;exact⟨_,rfl,((al w w).alloc (ae _) _).t (ac.x Qt),bB D 0,bB D 1,bB D 2,bB D 3,bB D 4,bB F 0,bB F 1,bB F 2,bB F 3⟩
def Cp a b c h n ε w(D:n<=1048576):az 146 (cY (t_ a b c h n ε)) w fun e w'=>e=.returned (.tuple #[if((c==0)&&((n==0)))=true then .iface 229 (.agg (bC a b)) else .nilIface,.bool ((c==0)&&((n==0)))])/\ag w w':=by
 by_cases tC:c=0
 .subst tC;by_cases tL:n=0
  .subst tL;go_enter eQ,eS
   go_upto_region 2 with(go_at_call 192;refine(cM _ _).x ?_;rintro e w1 ⟨rfl,FR⟩)
   have⟨W,hW,hb,e0,e1,e2,e3,e4,f0,f1,f2,f3⟩:=fV _ _ _ _ _ _ FR (.bool (fC 1)) (.bool (fD 1)) (.bool (fE 1)) (.bool (fF 1)) 226;rw[<-hW];clear hW FR;simp only[show fC 1=true from rfl,show fD 1=true from rfl,show fE 1=false from rfl,show fF 1=false from rfl]at f0 f1 f2 f3 ⊢;go_wp2
   all_goals exact aI (v:=.tuple #[.iface 229 (.agg (bC a b)),.bool true]) TH rfl ⟨QD,hb⟩
  .refine O3 fun gL hL GB=>?_
   exact Zw
 .refine N9 fun gC hC=>?_
  exact Zw
def Bn a b c h n ε w(G:n<=1048576):az 146 (cY (ud a b c h n ε)) w fun e w'=>e=.returned (.tuple #[if((b==0)&&((n==0)))=true then .iface 231 (.agg (bC a c)) else .nilIface,.bool ((b==0)&&((n==0)))])/\ag w w':=by
 by_cases tB:b=0
 .subst tB;by_cases tL:n=0
  .subst tL;go_enter eQ,eS
   go_upto_region 2 with(go_at_call 192;refine(cM _ _).x ?_;rintro e w1 ⟨rfl,FR⟩)
   have⟨W,hW,hb,e0,e1,e2,e3,e4,f0,f1,f2,f3⟩:=fV _ _ _ _ _ _ FR (.bool (fC 2)) (.bool (fD 2)) (.bool (fE 2)) (.bool (fF 2)) 226;rw[<-hW];clear hW FR;simp only[show fC 2=true from rfl,show fD 2=false from rfl,show fE 2=true from rfl,show fF 2=false from rfl]at f0 f1 f2 f3 ⊢;go_wp2
   all_goals exact aI (v:=.tuple #[.iface 231 (.agg (bC a c)),.bool true]) TH rfl ⟨QD,hb⟩
  .refine O3 fun gL hL GB=>?_
   exact Zv
 .have D:(b==0)=false:=Rd;have F:(b !=0)=true:=Rd;exact Zv
def Er a b c h n ε w(F:n<=1048576):az 146 (cY (tX a b c h n ε)) w fun e w'=>e=.returned (.tuple #[if((n==0))=true then .iface 233 (.agg (gT a b c)) else .nilIface,.bool ((n==0))])/\ag w w':=by
 by_cases tL:n=0
 .subst tL;go_enter eQ,eS
  go_upto_region 2 with(go_at_call 192;refine(cM _ _).x ?_;rintro e D ⟨rfl,FR⟩)
  refine Nl fun W hb e0 e1 e2 e3 e4 f0 f1 f2 f3=>?_
  go_wp2
  all_goals exact aI (v:=.tuple #[.iface 233 (.agg (gT a b c)),.bool true]) TH rfl ⟨QD,hb⟩
 .refine O3 fun gL hL GB=>?_
  go_enter eQ,eS
  go_upto_region 2 with(go_at_call 192;refine(cM _ _).x ?_;rintro e D ⟨rfl,FR⟩)
  refine Nl fun W hb e0 e1 e2 e3 e4 f0 f1 f2 f3=>?_
  exact XT
def Cq a b c h n ε w(G:n<=1048576):az 146 (cY (ue a b c h n ε)) w fun e w'=>e=.returned (.tuple #[if((b==0)&&((c==0)&&((n==0))))=true then .iface 235 (.agg (bK a)) else .nilIface,.bool ((b==0)&&((c==0)&&((n==0))))])/\ag w w':=by
 by_cases tB:b=0
 .subst tB;by_cases tC:c=0
  .subst tC;by_cases tL:n=0
   .subst tL;go_enter eQ,eS
    go_upto_region 2 with(go_at_call 192;refine(cM _ _).x ?_;rintro e w1 ⟨rfl,FR⟩)
    have⟨W,hW,hb,e0,e1,e2,e3,e4,f0,f1,f2,f3⟩:=fV _ _ _ _ _ _ FR (.bool (fC 4)) (.bool (fD 4)) (.bool (fE 4)) (.bool (fF 4)) 226;rw[<-hW];clear hW FR;simp only[show fC 4=true from rfl,show fD 4=false from rfl,show fE 4=false from rfl,show fF 4=false from rfl]at f0 f1 f2 f3 ⊢;go_wp2
    all_goals exact aI (v:=.tuple #[.iface 235 (.agg (bK a)),.bool true]) TH rfl ⟨QD,hb⟩
   .refine O3 fun gL hL GB=>?_
    exact ZA
  .refine N9 fun gC hC=>?_
   exact ZA
 .have D:(b==0)=false:=Rd;have F:(b !=0)=true:=Rd;exact ZA
def Es a b c h n ε w(G:n<=1048576):az 146 (cY (uf a b c h n ε)) w fun e w'=>e=.returned (.tuple #[if((b==0)&&((c==0)&&((n==0))))=true then .iface 236 (.agg (bK a)) else .nilIface,.bool ((b==0)&&((c==0)&&((n==0))))])/\ag w w':=by
 by_cases tB:b=0
 .subst tB;by_cases tC:c=0
  .subst tC;by_cases tL:n=0
   .subst tL;go_enter eQ,eS
    go_upto_region 2 with(go_at_call 192;refine(cM _ _).x ?_;rintro e w1 ⟨rfl,FR⟩)
    have⟨W,hW,hb,e0,e1,e2,e3,e4,f0,f1,f2,f3⟩:=fV _ _ _ _ _ _ FR (.bool (fC 5)) (.bool (fD 5)) (.bool (fE 5)) (.bool (fF 5)) 226;rw[<-hW];clear hW FR;simp only[show fC 5=true from rfl,show fD 5=false from rfl,show fE 5=false from rfl,show fF 5=false from rfl]at f0 f1 f2 f3 ⊢;go_wp2
    all_goals exact aI (v:=.tuple #[.iface 236 (.agg (bK a)),.bool true]) TH rfl ⟨QD,hb⟩
   .refine O3 fun gL hL GB=>?_
    exact Zz
  .refine N9 fun gC hC=>?_
   exact Zz
 .have D:(b==0)=false:=Rd;have F:(b !=0)=true:=Rd;exact Zz
def Bo a b c h n ε w(D:n<=1048576):az 146 (cY (tY a b c h n ε)) w fun e w'=>e=.returned (.tuple #[if((c==0)&&((n==0)))=true then .iface 237 (.agg (bC a b)) else .nilIface,.bool ((c==0)&&((n==0)))])/\ag w w':=by
 by_cases tC:c=0
 .subst tC;by_cases tL:n=0
  .subst tL;go_enter eQ,eS
   go_upto_region 2 with(go_at_call 192;refine(cM _ _).x ?_;rintro e w1 ⟨rfl,FR⟩)
   have⟨W,hW,hb,e0,e1,e2,e3,e4,f0,f1,f2,f3⟩:=fV _ _ _ _ _ _ FR (.bool (fC 6)) (.bool (fD 6)) (.bool (fE 6)) (.bool (fF 6)) 226;rw[<-hW];clear hW FR;simp only[show fC 6=true from rfl,show fD 6=true from rfl,show fE 6=false from rfl,show fF 6=false from rfl]at f0 f1 f2 f3 ⊢;go_wp2
   all_goals exact aI (v:=.tuple #[.iface 237 (.agg (bC a b)),.bool true]) TH rfl ⟨QD,hb⟩
  .refine O3 fun gL hL GB=>?_
   exact Zu
 .refine N9 fun gC hC=>?_
  exact Zu
def Bp a b c hA n ε w(F:n<=1048576):az 146 (cY (uh a b c hA n ε)) w fun e w'=>e=.returned (.tuple #[if((c==0))=true then .iface 239 (.agg (eO a b hA n ε)) else .nilIface,.bool ((c==0))])/\ag w w':=by
 by_cases tC:c=0
 .subst tC;go_enter eQ,eS
  go_upto_region 2 with(go_at_call 192;refine(cM _ _).x ?_;rintro e D ⟨rfl,FR⟩)
  refine Nm fun W hb e0 e1 e2 e3 e4 f0 f1 f2 f3=>?_
  go_wp2
  all_goals exact aI (v:=.tuple #[.iface 239 (.agg (eO a b hA n ε)),.bool true]) TH rfl ⟨QD,hb⟩
 .refine N9 fun gC hC=>?_
  go_enter eQ,eS
  go_upto_region 2 with(go_at_call 192;refine(cM _ _).x ?_;rintro e D ⟨rfl,FR⟩)
  refine Nm fun W hb e0 e1 e2 e3 e4 f0 f1 f2 f3=>?_
  exact XT
def zo a b c h n ε w(G:n<=1048576):az 146 (cY (tZ a b c h n ε)) w fun e w'=>e=.returned (.tuple #[if((a==0)&&((c==0)&&((n==0))))=true then .iface 241 (.agg (bK b)) else .nilIface,.bool ((a==0)&&((c==0)&&((n==0))))])/\ag w w':=by
 by_cases tA:a=0
 .subst tA;by_cases tC:c=0
  .subst tC;by_cases tL:n=0
   .subst tL;go_enter eQ,eS
    go_upto_region 2 with(go_at_call 192;refine(cM _ _).x ?_;rintro e w1 ⟨rfl,FR⟩)
    have⟨W,hW,hb,e0,e1,e2,e3,e4,f0,f1,f2,f3⟩:=fV _ _ _ _ _ _ FR (.bool (fC 8)) (.bool (fD 8)) (.bool (fE 8)) (.bool (fF 8)) 226;rw[<-hW];clear hW FR;simp only[show fC 8=false from rfl,show fD 8=true from rfl,show fE 8=false from rfl,show fF 8=false from rfl]at f0 f1 f2 f3 ⊢;go_wp2
    all_goals exact aI (v:=.tuple #[.iface 241 (.agg (bK b)),.bool true]) TH rfl ⟨QD,hb⟩
   .refine O3 fun gL hL GB=>?_
    exact Zy
  .refine N9 fun gC hC=>?_
   exact Zy
 .have D:(a==0)=false:=Rc;have F:(a !=0)=true:=Rc;exact Zy
def zp a b c h n ε w(G:n<=1048576):az 146 (cY (uk a b c h n ε)) w fun e w'=>e=.returned (.tuple #[if((a==0)&&((c==0)&&((n==0))))=true then .iface 242 (.agg (bK b)) else .nilIface,.bool ((a==0)&&((c==0)&&((n==0))))])/\ag w w':=by
 by_cases tA:a=0
 .subst tA;by_cases tC:c=0
  .subst tC;by_cases tL:n=0
   .subst tL;go_enter eQ,eS
    go_upto_region 2 with(go_at_call 192;refine(cM _ _).x ?_;rintro e w1 ⟨rfl,FR⟩)
    have⟨W,hW,hb,e0,e1,e2,e3,e4,f0,f1,f2,f3⟩:=fV _ _ _ _ _ _ FR (.bool (fC 9)) (.bool (fD 9)) (.bool (fE 9)) (.bool (fF 9)) 226;rw[<-hW];clear hW FR;simp only[show fC 9=false from rfl,show fD 9=true from rfl,show fE 9=false from rfl,show fF 9=false from rfl]at f0 f1 f2 f3 ⊢;go_wp2
    all_goals exact aI (v:=.tuple #[.iface 242 (.agg (bK b)),.bool true]) TH rfl ⟨QD,hb⟩
   .refine O3 fun gL hL GB=>?_
    exact Zx
  .refine N9 fun gC hC=>?_
   exact Zx
 .have D:(a==0)=false:=Rc;have F:(a !=0)=true:=Rc;exact Zx
def zbA k a b c h n ε w(ab:n<=1048576)(F:k≠1)(G:k≠2)(H:k≠3)(I:k≠4)(J:k≠5)(O:k≠6)(T:k≠7)(U:k≠8)(Y:k≠9):az 146 (cY (rJ k a b c h n ε)) w fun e w'=>e=.returned (.tuple gh)/\ag w w':=by
 by_cases tB:b=0
 .subst tB;by_cases tC:c=0
  .subst tC;by_cases tL:n=0
   .subst tL;exact ZC
   .refine O3 fun gL hL GB=>?_
    exact ZC
  .refine N9 fun gC hC=>?_
   exact ZC
 .have D:(b==0)=false:=Rd;have Z:(b !=0)=true:=Rd;exact ZC
def dS{g}{D F}{G}(h:bA W g #[T,D,F] G):af W g 0 T/\af W g 1 D/\af W g 2 F/\W.frozen? ⟨g,0,none⟩=false/\W.frozen? ⟨g,1,none⟩=false/\W.frozen? ⟨g,2,none⟩=false:=⟨bB h 0,bB h 1,bB h 2,aK h 0,aK h 1,aK h 2⟩
def ο(H F:Int)(G:aP)(ok:Bool)(w:aa)(e:Ending)(w':aa):Prop:=
 ∃(v2 D:Int) (h:ax) (n2 c2:Nat),e=.returned (.tuple (ka (eO v2 D h n2 c2) ok))/\(ok=true->v2=H/\D=F/\aY w' w (.slice h n2 c2) G)/\(ok=false->v2=0/\D=0/\h=none/\n2=0/\c2=0)/\ag w w'
def ο.no{I D}{H}{ok}{e}(h:ok=false)(G:e=.returned (.tuple (dz bx)))(F:ag w w'):ο I D H ok w e w':=by subst h;exact⟨0,0,none,0,0,G,fun h=>Qy,fun _=>⟨rfl,rfl,rfl,rfl,rfl⟩,F⟩
def ο.yes{H G}{D}{F}{I}{ok}{e}(h:ok=true)(T:e=.returned (.tuple (fH (eO H G D J F))))(U:aY w' w (.slice D J F) I)(O:ag w w'):ο H G I ok w e w':=by subst h;exact⟨H,G,D,J,F,T,fun _=>⟨rfl,rfl,U⟩,fun h=>Qy,O⟩
def ο.none{v1 h T F}{J O}{ok1 ok}{e}(m:ο v1 h J ok1 w e w')(h:ok1=false)(D:ok=false):ο T F O ok w e w':=by subst h;subst D;obtain⟨v2,Y,U,n2,c2,H,_,I,G⟩:=m;obtain⟨rfl,rfl,rfl,rfl,rfl⟩:=I rfl;exact ο.no rfl H G
def ο.y{F h}{D}{ok1 ok}{e}(m:ο F h D ok1 w e w')(G:ok1=ok):ο F h D ok w e w':=G ▸ m
def zr h D w:(method 399 229 (.agg #[h,D]) "loop.example/g01073/impl.can").run prog w=.ok (244,(.agg #[h,D])) w:=QT
def zhp h D w:(nilAhead 399 229 (.agg #[h,D]) "loop.example/g01073/impl.can").run prog w=.ok (some false) w:=QT
def Br h D w:(method 399 229 (.agg #[h,D]) "loop.example/g01073/impl.do").run prog w=.ok (245,(.agg #[h,D])) w:=QT
def zia h D w:(nilAhead 399 229 (.agg #[h,D]) "loop.example/g01073/impl.do").run prog w=.ok (some false) w:=QT
def xJ p v H v' h' A ε(rows GF:aP)w U a b c T n Z(a1:∀W,az 146 (cY (t_ a b c T n Z)) W fun e w'=>e=.returned (.tuple #[.iface 229 (.agg (bC a b)),.bool true])/\ag W w')(am:∀W,ag w W->az 244 (jx (.agg (bC a b)) p (aA v H A rows ε)) W (dt W U))(an:U=true->∀W,ag w W->az 245 (jx (.agg (bC a b)) p (aA v H A rows ε)) W fun e w'=>∃u,e=.returned (.agg (en v' h' u))/\aY w' W.heap.size u GF/\ag W w')(a5:dZ w)(a6:GF.length<=maxLen)(a7:∀r∈GF,r.length<=maxLen):az 101 (j_ p (aA v H A rows ε) (t_ a b c T n Z)) w fun e w'=>ο v' h' GF (U&&ic p v' h' GF) w e w':=by
 have⟨a8,ao,GG,a0,ap,av⟩:=ny a1 am an a5 a6 a7;have bd:=zr (zI a) (zI b);have a9:=Br (zI a) (zI b);go_enter oI,oJ
 go_upto_region 2 with(go_at_call 146;refine(a8.o _).x ?_;rintro e be ⟨rfl,FR⟩)
 have GJ:=(ζ w (.cells (aA v H A rows ε) 57) (.cells (t_ a b c T n Z) 97) (.cells bx 57));have⟨q0,ba,q2⟩:=cD w (.cells (aA v H A rows ε) 57) (.cells (t_ a b c T n Z) 97) (.cells bx 57);refine Qe fun Ge e0 e1 e2 HB M0 M2=>?_
 cases U with
 |false=>
  go_wp2_with (go_at_call 244;refine(ao.o _ HB.o).x ?_;rintro e w2 ⟨rfl,h⟩;have⟨ac,ad,ah,a2,a3,a4⟩:=dS (dg h M2);have FV:=zH h)
  exact Y9
 |true=>
  go_upto_region 4 with(go_at_call 244;refine(ao.o _ HB.o).x ?_;rintro e w2 ⟨rfl,h⟩;have⟨ac,ad,ah,_,_,_⟩:=dS (dg h M0);have FV:=zH h)
  refine PJ fun Gj GI GH=>?_
  cases Y:ic p v' h' GF with
  |false=>
   have HS:=zH Y;go_wp2_with (first|(go_at_call 245;refine GH.x ?_;rintro e bb ⟨u,rfl,G,D⟩;obtain⟨A3,c3,rfl,O,_,_⟩:=G.p;have I:=GI.t (D.x Qu);have ab:=zH O;have HU:=zH G;have FZ:=zH D;have GC:=zH I)|(go_at_call 67;refine(dk p v' h' A3 c3 GF _ (a0.ext GC) ab ap av).x ?_;rintro e bc ⟨_,J,F⟩;obtain rfl:=J HS;have⟨ac,ad,ah,a2,a3,a4⟩:=dS (dg F (dg FZ (dg FV M2)));have Gp:=zH F))
   exact Zf
  |true=>
   have HS:=zH Y;go_wp2_with (first|(go_at_call 245;refine GH.x ?_;rintro e bb ⟨u,rfl,G,D⟩;obtain⟨A3,c3,rfl,O,_,_⟩:=G.p;have I:=GI.t (D.x Qu);have ab:=zH O;have HU:=zH G;have FZ:=zH D;have GC:=zH I)|(go_at_call 67;refine(dk p v' h' A3 c3 GF _ (a0.ext GC) ab ap av).x ?_;rintro e bc ⟨J,_,F⟩;obtain rfl:=J HS;have⟨ac,ad,ah,a2,a3,a4⟩:=dS (dg F (dg FZ (dg FV M2)));have Gp:=zH F))
   exact Zs
def yl h D w:(method 399 231 (.agg #[h,D]) "loop.example/g01073/impl.can").run prog w=.ok (248,(.agg #[h,D])) w:=QT
def zf3 h D w:(nilAhead 399 231 (.agg #[h,D]) "loop.example/g01073/impl.can").run prog w=.ok (some false) w:=QT
def zt h D w:(method 399 231 (.agg #[h,D]) "loop.example/g01073/impl.do").run prog w=.ok (249,(.agg #[h,D])) w:=QT
def zhq h D w:(nilAhead 399 231 (.agg #[h,D]) "loop.example/g01073/impl.do").run prog w=.ok (some false) w:=QT
def vE p v H v' h' A ε(rows GF:aP)w U a b c T n Z(a1:∀W,az 146 (cY (ud a b c T n Z)) W fun e w'=>e=.returned (.tuple #[.iface 231 (.agg (bC a c)),.bool true])/\ag W w')(am:∀W,ag w W->az 248 (jx (.agg (bC a c)) p (aA v H A rows ε)) W (dt W U))(an:U=true->∀W,ag w W->az 249 (jx (.agg (bC a c)) p (aA v H A rows ε)) W fun e w'=>∃u,e=.returned (.agg (en v' h' u))/\aY w' W.heap.size u GF/\ag W w')(a5:dZ w)(a6:GF.length<=maxLen)(a7:∀r∈GF,r.length<=maxLen):az 101 (j_ p (aA v H A rows ε) (ud a b c T n Z)) w fun e w'=>ο v' h' GF (U&&ic p v' h' GF) w e w':=by
 have⟨a8,ao,GG,a0,ap,av⟩:=ny a1 am an a5 a6 a7;have bd:=yl (zI a) (zI c);have a9:=zt (zI a) (zI c);go_enter oI,oJ
 go_upto_region 2 with(go_at_call 146;refine(a8.o _).x ?_;rintro e be ⟨rfl,FR⟩)
 have GJ:=(ζ w (.cells (aA v H A rows ε) 57) (.cells (ud a b c T n Z) 97) (.cells bx 57));have⟨q0,ba,q2⟩:=cD w (.cells (aA v H A rows ε) 57) (.cells (ud a b c T n Z) 97) (.cells bx 57);refine Qe fun Ge e0 e1 e2 HB M0 M2=>?_
 cases U with
 |false=>
  go_wp2_with (go_at_call 248;refine(ao.o _ HB.o).x ?_;rintro e w2 ⟨rfl,h⟩;have⟨ac,ad,ah,a2,a3,a4⟩:=dS (dg h M2);have FV:=zH h)
  exact Y9
 |true=>
  go_upto_region 4 with(go_at_call 248;refine(ao.o _ HB.o).x ?_;rintro e w2 ⟨rfl,h⟩;have⟨ac,ad,ah,_,_,_⟩:=dS (dg h M0);have FV:=zH h)
  refine PJ fun Gj GI GH=>?_
  cases Y:ic p v' h' GF with
  |false=>
   have HS:=zH Y;go_wp2_with (first|(go_at_call 249;refine GH.x ?_;rintro e bb ⟨u,rfl,G,D⟩;obtain⟨A3,c3,rfl,O,_,_⟩:=G.p;have I:=GI.t (D.x Qu);have ab:=zH O;have HU:=zH G;have FZ:=zH D;have GC:=zH I)|(go_at_call 67;refine(dk p v' h' A3 c3 GF _ (a0.ext GC) ab ap av).x ?_;rintro e bc ⟨_,J,F⟩;obtain rfl:=J HS;have⟨ac,ad,ah,a2,a3,a4⟩:=dS (dg F (dg FZ (dg FV M2)));have Gp:=zH F))
   exact Zf
  |true=>
   have HS:=zH Y;go_wp2_with (first|(go_at_call 249;refine GH.x ?_;rintro e bb ⟨u,rfl,G,D⟩;obtain⟨A3,c3,rfl,O,_,_⟩:=G.p;have I:=GI.t (D.x Qu);have ab:=zH O;have HU:=zH G;have FZ:=zH D;have GC:=zH I)|(go_at_call 67;refine(dk p v' h' A3 c3 GF _ (a0.ext GC) ab ap av).x ?_;rintro e bc ⟨J,_,F⟩;obtain rfl:=J HS;have⟨ac,ad,ah,a2,a3,a4⟩:=dS (dg F (dg FZ (dg FV M2)));have Gp:=zH F))
   exact Zs
def Bs h D F w:(method 399 233 (.agg #[h,D,F]) "loop.example/g01073/impl.can").run prog w=.ok (251,(.agg #[h,D,F])) w:=QT
def zib h D F w:(nilAhead 399 233 (.agg #[h,D,F]) "loop.example/g01073/impl.can").run prog w=.ok (some false) w:=QT
def Cr h D F w:(method 399 233 (.agg #[h,D,F]) "loop.example/g01073/impl.do").run prog w=.ok (252,(.agg #[h,D,F])) w:=QT
def zjd h D F w:(nilAhead 399 233 (.agg #[h,D,F]) "loop.example/g01073/impl.do").run prog w=.ok (some false) w:=QT
def zu p v H v' h' A ε(rows GF:aP)w U a b c T n Z(a1:∀W,az 146 (cY (tX a b c T n Z)) W fun e w'=>e=.returned (.tuple #[.iface 233 (.agg (gT a b c)),.bool true])/\ag W w')(am:∀W,ag w W->az 251 (jx (.agg (gT a b c)) p (aA v H A rows ε)) W (dt W U))(an:U=true->∀W,ag w W->az 252 (jx (.agg (gT a b c)) p (aA v H A rows ε)) W fun e w'=>∃u,e=.returned (.agg (en v' h' u))/\aY w' W.heap.size u GF/\ag W w')(a5:dZ w)(a6:GF.length<=maxLen)(a7:∀r∈GF,r.length<=maxLen):az 101 (j_ p (aA v H A rows ε) (tX a b c T n Z)) w fun e w'=>ο v' h' GF (U&&ic p v' h' GF) w e w':=by
 have⟨a8,ao,GG,a0,ap,av⟩:=ny a1 am an a5 a6 a7;have bd:=Bs (zI a) (zI b) (zI c);have a9:=Cr (zI a) (zI b) (zI c);go_enter oI,oJ
 go_upto_region 2 with(go_at_call 146;refine(a8.o _).x ?_;rintro e be ⟨rfl,FR⟩)
 have GJ:=(ζ w (.cells (aA v H A rows ε) 57) (.cells (tX a b c T n Z) 97) (.cells bx 57));have⟨q0,ba,q2⟩:=cD w (.cells (aA v H A rows ε) 57) (.cells (tX a b c T n Z) 97) (.cells bx 57);refine Qe fun Ge e0 e1 e2 HB M0 M2=>?_
 cases U with
 |false=>
  go_wp2_with (go_at_call 251;refine(ao.o _ HB.o).x ?_;rintro e w2 ⟨rfl,h⟩;have⟨ac,ad,ah,a2,a3,a4⟩:=dS (dg h M2);have FV:=zH h)
  exact Y9
 |true=>
  go_upto_region 4 with(go_at_call 251;refine(ao.o _ HB.o).x ?_;rintro e w2 ⟨rfl,h⟩;have⟨ac,ad,ah,_,_,_⟩:=dS (dg h M0);have FV:=zH h)
  refine PJ fun Gj GI GH=>?_
  cases Y:ic p v' h' GF with
  |false=>
   have HS:=zH Y;go_wp2_with (first|(go_at_call 252;refine GH.x ?_;rintro e bb ⟨u,rfl,G,D⟩;obtain⟨A3,c3,rfl,O,_,_⟩:=G.p;have I:=GI.t (D.x Qu);have ab:=zH O;have HU:=zH G;have FZ:=zH D;have GC:=zH I)|(go_at_call 67;refine(dk p v' h' A3 c3 GF _ (a0.ext GC) ab ap av).x ?_;rintro e bc ⟨_,J,F⟩;obtain rfl:=J HS;have⟨ac,ad,ah,a2,a3,a4⟩:=dS (dg F (dg FZ (dg FV M2)));have Gp:=zH F))
   exact Zf
  |true=>
   have HS:=zH Y;go_wp2_with (first|(go_at_call 252;refine GH.x ?_;rintro e bb ⟨u,rfl,G,D⟩;obtain⟨A3,c3,rfl,O,_,_⟩:=G.p;have I:=GI.t (D.x Qu);have ab:=zH O;have HU:=zH G;have FZ:=zH D;have GC:=zH I)|(go_at_call 67;refine(dk p v' h' A3 c3 GF _ (a0.ext GC) ab ap av).x ?_;rintro e bc ⟨J,_,F⟩;obtain rfl:=J HS;have⟨ac,ad,ah,a2,a3,a4⟩:=dS (dg F (dg FZ (dg FV M2)));have Gp:=zH F))
   exact Zs
def zv h w:(method 399 235 (.agg #[h]) "loop.example/g01073/impl.can").run prog w=.ok (254,(.agg #[h])) w:=QT
def zhr h w:(nilAhead 399 235 (.agg #[h]) "loop.example/g01073/impl.can").run prog w=.ok (some false) w:=QT
def Bt h w:(method 399 235 (.agg #[h]) "loop.example/g01073/impl.do").run prog w=.ok (255,(.agg #[h])) w:=QT
def zic h w:(nilAhead 399 235 (.agg #[h]) "loop.example/g01073/impl.do").run prog w=.ok (some false) w:=QT
def xK p v H v' h' A ε(rows GF:aP)w U a b c T n Z(a1:∀W,az 146 (cY (ue a b c T n Z)) W fun e w'=>e=.returned (.tuple #[.iface 235 (.agg (bK a)),.bool true])/\ag W w')(am:∀W,ag w W->az 254 (jx (.agg (bK a)) p (aA v H A rows ε)) W (dt W U))(an:U=true->∀W,ag w W->az 255 (jx (.agg (bK a)) p (aA v H A rows ε)) W fun e w'=>∃u,e=.returned (.agg (en v' h' u))/\aY w' W.heap.size u GF/\ag W w')(a5:dZ w)(a6:GF.length<=maxLen)(a7:∀r∈GF,r.length<=maxLen):az 101 (j_ p (aA v H A rows ε) (ue a b c T n Z)) w fun e w'=>ο v' h' GF (U&&ic p v' h' GF) w e w':=by
 have⟨a8,ao,GG,a0,ap,av⟩:=ny a1 am an a5 a6 a7;have bd:=zv (zI a);have a9:=Bt (zI a);go_enter oI,oJ
 go_upto_region 2 with(go_at_call 146;refine(a8.o _).x ?_;rintro e be ⟨rfl,FR⟩)
 have GJ:=(ζ w (.cells (aA v H A rows ε) 57) (.cells (ue a b c T n Z) 97) (.cells bx 57));have⟨q0,ba,q2⟩:=cD w (.cells (aA v H A rows ε) 57) (.cells (ue a b c T n Z) 97) (.cells bx 57);refine Qe fun Ge e0 e1 e2 HB M0 M2=>?_
 cases U with
 |false=>
  go_wp2_with (go_at_call 254;refine(ao.o _ HB.o).x ?_;rintro e w2 ⟨rfl,h⟩;have⟨ac,ad,ah,a2,a3,a4⟩:=dS (dg h M2);have FV:=zH h)
  exact Y9
 |true=>
  go_upto_region 4 with(go_at_call 254;refine(ao.o _ HB.o).x ?_;rintro e w2 ⟨rfl,h⟩;have⟨ac,ad,ah,_,_,_⟩:=dS (dg h M0);have FV:=zH h)
  refine PJ fun Gj GI GH=>?_
  cases Y:ic p v' h' GF with
  |false=>
   have HS:=zH Y;go_wp2_with (first|(go_at_call 255;refine GH.x ?_;rintro e bb ⟨u,rfl,G,D⟩;obtain⟨A3,c3,rfl,O,_,_⟩:=G.p;have I:=GI.t (D.x Qu);have ab:=zH O;have HU:=zH G;have FZ:=zH D;have GC:=zH I)|(go_at_call 67;refine(dk p v' h' A3 c3 GF _ (a0.ext GC) ab ap av).x ?_;rintro e bc ⟨_,J,F⟩;obtain rfl:=J HS;have⟨ac,ad,ah,a2,a3,a4⟩:=dS (dg F (dg FZ (dg FV M2)));have Gp:=zH F))
   exact Zf
  |true=>
   have HS:=zH Y;go_wp2_with (first|(go_at_call 255;refine GH.x ?_;rintro e bb ⟨u,rfl,G,D⟩;obtain⟨A3,c3,rfl,O,_,_⟩:=G.p;have I:=GI.t (D.x Qu);have ab:=zH O;have HU:=zH G;have FZ:=zH D;have GC:=zH I)|(go_at_call 67;refine(dk p v' h' A3 c3 GF _ (a0.ext GC) ab ap av).x ?_;rintro e bc ⟨J,_,F⟩;obtain rfl:=J HS;have⟨ac,ad,ah,a2,a3,a4⟩:=dS (dg F (dg FZ (dg FV M2)));have Gp:=zH F))
   exact Zs
def Bu h w:(method 399 236 (.agg #[h]) "loop.example/g01073/impl.can").run prog w=.ok (258,(.agg #[h])) w:=QT
def zid h w:(nilAhead 399 236 (.agg #[h]) "loop.example/g01073/impl.can").run prog w=.ok (some false) w:=QT
def Cs h w:(method 399 236 (.agg #[h]) "loop.example/g01073/impl.do").run prog w=.ok (259,(.agg #[h])) w:=QT
def zje h w:(nilAhead 399 236 (.agg #[h]) "loop.example/g01073/impl.do").run prog w=.ok (some false) w:=QT
def zw p v H v' h' A ε(rows GF:aP)w U a b c T n Z(a1:∀W,az 146 (cY (uf a b c T n Z)) W fun e w'=>e=.returned (.tuple #[.iface 236 (.agg (bK a)),.bool true])/\ag W w')(am:∀W,ag w W->az 258 (jx (.agg (bK a)) p (aA v H A rows ε)) W (dt W U))(an:U=true->∀W,ag w W->az 259 (jx (.agg (bK a)) p (aA v H A rows ε)) W fun e w'=>∃u,e=.returned (.agg (en v' h' u))/\aY w' W.heap.size u GF/\ag W w')(a5:dZ w)(a6:GF.length<=maxLen)(a7:∀r∈GF,r.length<=maxLen):az 101 (j_ p (aA v H A rows ε) (uf a b c T n Z)) w fun e w'=>ο v' h' GF (U&&ic p v' h' GF) w e w':=by
 have⟨a8,ao,GG,a0,ap,av⟩:=ny a1 am an a5 a6 a7;have bd:=Bu (zI a);have a9:=Cs (zI a);go_enter oI,oJ
 go_upto_region 2 with(go_at_call 146;refine(a8.o _).x ?_;rintro e be ⟨rfl,FR⟩)
 have GJ:=(ζ w (.cells (aA v H A rows ε) 57) (.cells (uf a b c T n Z) 97) (.cells bx 57));have⟨q0,ba,q2⟩:=cD w (.cells (aA v H A rows ε) 57) (.cells (uf a b c T n Z) 97) (.cells bx 57);refine Qe fun Ge e0 e1 e2 HB M0 M2=>?_
 cases U with
 |false=>
  go_wp2_with (go_at_call 258;refine(ao.o _ HB.o).x ?_;rintro e w2 ⟨rfl,h⟩;have⟨ac,ad,ah,a2,a3,a4⟩:=dS (dg h M2);have FV:=zH h)
  exact Y9
 |true=>
  go_upto_region 4 with(go_at_call 258;refine(ao.o _ HB.o).x ?_;rintro e w2 ⟨rfl,h⟩;have⟨ac,ad,ah,_,_,_⟩:=dS (dg h M0);have FV:=zH h)
  refine PJ fun Gj GI GH=>?_
  cases Y:ic p v' h' GF with
  |false=>
   have HS:=zH Y;go_wp2_with (first|(go_at_call 259;refine GH.x ?_;rintro e bb ⟨u,rfl,G,D⟩;obtain⟨A3,c3,rfl,O,_,_⟩:=G.p;have I:=GI.t (D.x Qu);have ab:=zH O;have HU:=zH G;have FZ:=zH D;have GC:=zH I)|(go_at_call 67;refine(dk p v' h' A3 c3 GF _ (a0.ext GC) ab ap av).x ?_;rintro e bc ⟨_,J,F⟩;obtain rfl:=J HS;have⟨ac,ad,ah,a2,a3,a4⟩:=dS (dg F (dg FZ (dg FV M2)));have Gp:=zH F))
   exact Zf
  |true=>
   have HS:=zH Y;go_wp2_with (first|(go_at_call 259;refine GH.x ?_;rintro e bb ⟨u,rfl,G,D⟩;obtain⟨A3,c3,rfl,O,_,_⟩:=G.p;have I:=GI.t (D.x Qu);have ab:=zH O;have HU:=zH G;have FZ:=zH D;have GC:=zH I)|(go_at_call 67;refine(dk p v' h' A3 c3 GF _ (a0.ext GC) ab ap av).x ?_;rintro e bc ⟨J,_,F⟩;obtain rfl:=J HS;have⟨ac,ad,ah,a2,a3,a4⟩:=dS (dg F (dg FZ (dg FV M2)));have Gp:=zH F))
   exact Zs
def ym h D w:(method 399 237 (.agg #[h,D]) "loop.example/g01073/impl.can").run prog w=.ok (266,(.agg #[h,D])) w:=QT
def zf4 h D w:(nilAhead 399 237 (.agg #[h,D]) "loop.example/g01073/impl.can").run prog w=.ok (some false) w:=QT
def zx h D w:(method 399 237 (.agg #[h,D]) "loop.example/g01073/impl.do").run prog w=.ok (267,(.agg #[h,D])) w:=QT
def zhs h D w:(nilAhead 399 237 (.agg #[h,D]) "loop.example/g01073/impl.do").run prog w=.ok (some false) w:=QT
def vF p v H v' h' A ε(rows GF:aP)w U a b c T n Z(a1:∀W,az 146 (cY (tY a b c T n Z)) W fun e w'=>e=.returned (.tuple #[.iface 237 (.agg (bC a b)),.bool true])/\ag W w')(am:∀W,ag w W->az 266 (jx (.agg (bC a b)) p (aA v H A rows ε)) W (dt W U))(an:U=true->∀W,ag w W->az 267 (jx (.agg (bC a b)) p (aA v H A rows ε)) W fun e w'=>∃u,e=.returned (.agg (en v' h' u))/\aY w' W.heap.size u GF/\ag W w')(a5:dZ w)(a6:GF.length<=maxLen)(a7:∀r∈GF,r.length<=maxLen):az 101 (j_ p (aA v H A rows ε) (tY a b c T n Z)) w fun e w'=>ο v' h' GF (U&&ic p v' h' GF) w e w':=by
 have⟨a8,ao,GG,a0,ap,av⟩:=ny a1 am an a5 a6 a7;have bd:=ym (zI a) (zI b);have a9:=zx (zI a) (zI b);go_enter oI,oJ
 go_upto_region 2 with(go_at_call 146;refine(a8.o _).x ?_;rintro e be ⟨rfl,FR⟩)
 have GJ:=(ζ w (.cells (aA v H A rows ε) 57) (.cells (tY a b c T n Z) 97) (.cells bx 57));have⟨q0,ba,q2⟩:=cD w (.cells (aA v H A rows ε) 57) (.cells (tY a b c T n Z) 97) (.cells bx 57);refine Qe fun Ge e0 e1 e2 HB M0 M2=>?_
 cases U with
 |false=>
  go_wp2_with (go_at_call 266;refine(ao.o _ HB.o).x ?_;rintro e w2 ⟨rfl,h⟩;have⟨ac,ad,ah,a2,a3,a4⟩:=dS (dg h M2);have FV:=zH h)
  exact Y9
 |true=>
  go_upto_region 4 with(go_at_call 266;refine(ao.o _ HB.o).x ?_;rintro e w2 ⟨rfl,h⟩;have⟨ac,ad,ah,_,_,_⟩:=dS (dg h M0);have FV:=zH h)
  refine PJ fun Gj GI GH=>?_
  cases Y:ic p v' h' GF with
  |false=>
   have HS:=zH Y;go_wp2_with (first|(go_at_call 267;refine GH.x ?_;rintro e bb ⟨u,rfl,G,D⟩;obtain⟨A3,c3,rfl,O,_,_⟩:=G.p;have I:=GI.t (D.x Qu);have ab:=zH O;have HU:=zH G;have FZ:=zH D;have GC:=zH I)|(go_at_call 67;refine(dk p v' h' A3 c3 GF _ (a0.ext GC) ab ap av).x ?_;rintro e bc ⟨_,J,F⟩;obtain rfl:=J HS;have⟨ac,ad,ah,a2,a3,a4⟩:=dS (dg F (dg FZ (dg FV M2)));have Gp:=zH F))
   exact Zf
  |true=>
   have HS:=zH Y;go_wp2_with (first|(go_at_call 267;refine GH.x ?_;rintro e bb ⟨u,rfl,G,D⟩;obtain⟨A3,c3,rfl,O,_,_⟩:=G.p;have I:=GI.t (D.x Qu);have ab:=zH O;have HU:=zH G;have FZ:=zH D;have GC:=zH I)|(go_at_call 67;refine(dk p v' h' A3 c3 GF _ (a0.ext GC) ab ap av).x ?_;rintro e bc ⟨J,_,F⟩;obtain rfl:=J HS;have⟨ac,ad,ah,a2,a3,a4⟩:=dS (dg F (dg FZ (dg FV M2)));have Gp:=zH F))
   exact Zs
def yn h D F w:(method 399 239 (.agg #[h,D,F]) "loop.example/g01073/impl.can").run prog w=.ok (273,(.agg #[h,D,F])) w:=QT
def zf5 h D F w:(nilAhead 399 239 (.agg #[h,D,F]) "loop.example/g01073/impl.can").run prog w=.ok (some false) w:=QT
def zy h D F w:(method 399 239 (.agg #[h,D,F]) "loop.example/g01073/impl.do").run prog w=.ok (274,(.agg #[h,D,F])) w:=QT
def zht h D F w:(nilAhead 399 239 (.agg #[h,D,F]) "loop.example/g01073/impl.do").run prog w=.ok (some false) w:=QT
def vG p v J v' h' A ε(rows GF:aP)w Y a b c h n D(a1:∀W,az 146 (cY (uh a b c h n D)) W fun e w'=>e=.returned (.tuple #[.iface 239 (.agg (eO a b h n D)),.bool true])/\ag W w')(am:∀W,ag w W->az 273 (jx (.agg (eO a b h n D)) p (aA v J A rows ε)) W (dt W Y))(an:Y=true->∀W,ag w W->az 274 (jx (.agg (eO a b h n D)) p (aA v J A rows ε)) W fun e w'=>∃u,e=.returned (.agg (en v' h' u))/\aY w' W.heap.size u GF/\ag W w')(a5:dZ w)(a6:GF.length<=maxLen)(a7:∀r∈GF,r.length<=maxLen):az 101 (j_ p (aA v J A rows ε) (uh a b c h n D)) w fun e w'=>ο v' h' GF (Y&&ic p v' h' GF) w e w':=by
 have⟨a8,ao,GG,a0,ap,av⟩:=ny a1 am an a5 a6 a7;have bd:=yn (zI a) (zI b) (.slice h n D);have a9:=zy (zI a) (zI b) (.slice h n D);go_enter oI,oJ
 go_upto_region 2 with(go_at_call 146;refine(a8.o _).x ?_;rintro e be ⟨rfl,FR⟩)
 have GJ:=(ζ w (.cells (aA v J A rows ε) 57) (.cells (uh a b c h n D) 97) (.cells bx 57));have⟨q0,ba,q2⟩:=cD w (.cells (aA v J A rows ε) 57) (.cells (uh a b c h n D) 97) (.cells bx 57);refine Qe fun Ge e0 e1 e2 HB M0 M2=>?_
 cases Y with
 |false=>
  go_wp2_with (go_at_call 273;refine(ao.o _ HB.o).x ?_;rintro e w2 ⟨rfl,F⟩;have⟨ac,ad,ah,a2,a3,a4⟩:=dS (dg F M2);have FV:=zH F)
  exact Y9
 |true=>
  go_upto_region 4 with(go_at_call 273;refine(ao.o _ HB.o).x ?_;rintro e w2 ⟨rfl,F⟩;have⟨ac,ad,ah,_,_,_⟩:=dS (dg F M0);have FV:=zH F)
  refine PJ fun Gj GI GH=>?_
  cases Z:ic p v' h' GF with
  |false=>
   have HS:=zH Z;go_wp2_with (first|(go_at_call 274;refine GH.x ?_;rintro e bb ⟨u,rfl,I,G⟩;obtain⟨A3,c3,rfl,U,_,_⟩:=I.p;have O:=GI.t (G.x Qu);have ab:=zH U;have HU:=zH I;have FZ:=zH G;have GC:=zH O)|(go_at_call 67;refine(dk p v' h' A3 c3 GF _ (a0.ext GC) ab ap av).x ?_;rintro e bc ⟨_,T,H⟩;obtain rfl:=T HS;have⟨ac,ad,ah,a2,a3,a4⟩:=dS (dg H (dg FZ (dg FV M2)));have Gp:=zH H))
   exact Zf
  |true=>
   have HS:=zH Z;go_wp2_with (first|(go_at_call 274;refine GH.x ?_;rintro e bb ⟨u,rfl,I,G⟩;obtain⟨A3,c3,rfl,U,_,_⟩:=I.p;have O:=GI.t (G.x Qu);have ab:=zH U;have HU:=zH I;have FZ:=zH G;have GC:=zH O)|(go_at_call 67;refine(dk p v' h' A3 c3 GF _ (a0.ext GC) ab ap av).x ?_;rintro e bc ⟨T,_,H⟩;obtain rfl:=T HS;have⟨ac,ad,ah,a2,a3,a4⟩:=dS (dg H (dg FZ (dg FV M2)));have Gp:=zH H))
   exact Zs
def xx h w:(method 399 241 (.agg #[h]) "loop.example/g01073/impl.can").run prog w=.ok (282,(.agg #[h])) w:=QT
def ze5 h w:(nilAhead 399 241 (.agg #[h]) "loop.example/g01073/impl.can").run prog w=.ok (some false) w:=QT
def yo h w:(method 399 241 (.agg #[h]) "loop.example/g01073/impl.do").run prog w=.ok (283,(.agg #[h])) w:=QT
def zf6 h w:(nilAhead 399 241 (.agg #[h]) "loop.example/g01073/impl.do").run prog w=.ok (some false) w:=QT
def uU p v H v' h' A ε(rows GF:aP)w U a b c T n Z(a1:∀W,az 146 (cY (tZ a b c T n Z)) W fun e w'=>e=.returned (.tuple #[.iface 241 (.agg (bK b)),.bool true])/\ag W w')(am:∀W,ag w W->az 282 (jx (.agg (bK b)) p (aA v H A rows ε)) W (dt W U))(an:U=true->∀W,ag w W->az 283 (jx (.agg (bK b)) p (aA v H A rows ε)) W fun e w'=>∃u,e=.returned (.agg (en v' h' u))/\aY w' W.heap.size u GF/\ag W w')(a5:dZ w)(a6:GF.length<=maxLen)(a7:∀r∈GF,r.length<=maxLen):az 101 (j_ p (aA v H A rows ε) (tZ a b c T n Z)) w fun e w'=>ο v' h' GF (U&&ic p v' h' GF) w e w':=by
 have⟨a8,ao,GG,a0,ap,av⟩:=ny a1 am an a5 a6 a7;have bd:=xx (zI b);have a9:=yo (zI b);go_enter oI,oJ
 go_upto_region 2 with(go_at_call 146;refine(a8.o _).x ?_;rintro e be ⟨rfl,FR⟩)
 have GJ:=(ζ w (.cells (aA v H A rows ε) 57) (.cells (tZ a b c T n Z) 97) (.cells bx 57));have⟨q0,ba,q2⟩:=cD w (.cells (aA v H A rows ε) 57) (.cells (tZ a b c T n Z) 97) (.cells bx 57);refine Qe fun Ge e0 e1 e2 HB M0 M2=>?_
 cases U with
 |false=>
  go_wp2_with (go_at_call 282;refine(ao.o _ HB.o).x ?_;rintro e w2 ⟨rfl,h⟩;have⟨ac,ad,ah,a2,a3,a4⟩:=dS (dg h M2);have FV:=zH h)
  exact Y9
 |true=>
  go_upto_region 4 with(go_at_call 282;refine(ao.o _ HB.o).x ?_;rintro e w2 ⟨rfl,h⟩;have⟨ac,ad,ah,_,_,_⟩:=dS (dg h M0);have FV:=zH h)
  refine PJ fun Gj GI GH=>?_
  cases Y:ic p v' h' GF with
  |false=>
   have HS:=zH Y;go_wp2_with (first|(go_at_call 283;refine GH.x ?_;rintro e bb ⟨u,rfl,G,D⟩;obtain⟨A3,c3,rfl,O,_,_⟩:=G.p;have I:=GI.t (D.x Qu);have ab:=zH O;have HU:=zH G;have FZ:=zH D;have GC:=zH I)|(go_at_call 67;refine(dk p v' h' A3 c3 GF _ (a0.ext GC) ab ap av).x ?_;rintro e bc ⟨_,J,F⟩;obtain rfl:=J HS;have⟨ac,ad,ah,a2,a3,a4⟩:=dS (dg F (dg FZ (dg FV M2)));have Gp:=zH F))
   exact Zf
  |true=>
   have HS:=zH Y;go_wp2_with (first|(go_at_call 283;refine GH.x ?_;rintro e bb ⟨u,rfl,G,D⟩;obtain⟨A3,c3,rfl,O,_,_⟩:=G.p;have I:=GI.t (D.x Qu);have ab:=zH O;have HU:=zH G;have FZ:=zH D;have GC:=zH I)|(go_at_call 67;refine(dk p v' h' A3 c3 GF _ (a0.ext GC) ab ap av).x ?_;rintro e bc ⟨J,_,F⟩;obtain rfl:=J HS;have⟨ac,ad,ah,a2,a3,a4⟩:=dS (dg F (dg FZ (dg FV M2)));have Gp:=zH F))
   exact Zs
def xy h w:(method 399 242 (.agg #[h]) "loop.example/g01073/impl.can").run prog w=.ok (285,(.agg #[h])) w:=QT
def ze6 h w:(nilAhead 399 242 (.agg #[h]) "loop.example/g01073/impl.can").run prog w=.ok (some false) w:=QT
def yp h w:(method 399 242 (.agg #[h]) "loop.example/g01073/impl.do").run prog w=.ok (286,(.agg #[h])) w:=QT
def zf7 h w:(nilAhead 399 242 (.agg #[h]) "loop.example/g01073/impl.do").run prog w=.ok (some false) w:=QT
def uV p v H v' h' A ε(rows GF:aP)w U a b c T n Z(a1:∀W,az 146 (cY (uk a b c T n Z)) W fun e w'=>e=.returned (.tuple #[.iface 242 (.agg (bK b)),.bool true])/\ag W w')(am:∀W,ag w W->az 285 (jx (.agg (bK b)) p (aA v H A rows ε)) W (dt W U))(an:U=true->∀W,ag w W->az 286 (jx (.agg (bK b)) p (aA v H A rows ε)) W fun e w'=>∃u,e=.returned (.agg (en v' h' u))/\aY w' W.heap.size u GF/\ag W w')(a5:dZ w)(a6:GF.length<=maxLen)(a7:∀r∈GF,r.length<=maxLen):az 101 #[p,.agg (aA v H A rows ε),.agg (uk a b c T n Z)] w fun e w'=>ο v' h' GF (U&&ic p v' h' GF) w e w':=by
 have⟨a8,ao,GG,a0,ap,av⟩:=ny a1 am an a5 a6 a7;have bd:=xy (zI b);have a9:=yp (zI b);go_enter oI,oJ
 go_upto_region 2 with(go_at_call 146;refine(a8.o _).x ?_;rintro e be ⟨rfl,FR⟩)
 have GJ:=(ζ w (.cells (aA v H A rows ε) 57) (.cells (uk a b c T n Z) 97) (.cells bx 57));have⟨q0,ba,q2⟩:=cD w (.cells (aA v H A rows ε) 57) (.cells (uk a b c T n Z) 97) (.cells bx 57);refine Qe fun Ge e0 e1 e2 HB M0 M2=>?_
 cases U with
 |false=>
  go_wp2_with (go_at_call 285;refine(ao.o _ HB.o).x ?_;rintro e w2 ⟨rfl,h⟩;have⟨ac,ad,ah,a2,a3,a4⟩:=dS (dg h M2);have FV:=zH h)
  exact Y9
 |true=>
  go_upto_region 4 with(go_at_call 285;refine(ao.o _ HB.o).x ?_;rintro e w2 ⟨rfl,h⟩;have⟨ac,ad,ah,_,_,_⟩:=dS (dg h M0);have FV:=zH h)
  refine PJ fun Gj GI GH=>?_
  cases Y:ic p v' h' GF with
  |false=>
   have HS:=zH Y;go_wp2_with (first|(go_at_call 286;refine GH.x ?_;rintro e bb ⟨u,rfl,G,D⟩;obtain⟨A3,c3,rfl,O,_,_⟩:=G.p;have I:=GI.t (D.x Qu);have ab:=zH O;have HU:=zH G;have FZ:=zH D;have GC:=zH I)|(go_at_call 67;refine(dk p v' h' A3 c3 GF _ (a0.ext GC) ab ap av).x ?_;rintro e bc ⟨_,J,F⟩;obtain rfl:=J HS;have⟨ac,ad,ah,a2,a3,a4⟩:=dS (dg F (dg FZ (dg FV M2)));have Gp:=zH F))
   exact Zf
  |true=>
   have HS:=zH Y;go_wp2_with (first|(go_at_call 286;refine GH.x ?_;rintro e bb ⟨u,rfl,G,D⟩;obtain⟨A3,c3,rfl,O,_,_⟩:=G.p;have I:=GI.t (D.x Qu);have ab:=zH O;have HU:=zH G;have FZ:=zH D;have GC:=zH I)|(go_at_call 67;refine(dk p v' h' A3 c3 GF _ (a0.ext GC) ab ap av).x ?_;rintro e bc ⟨J,_,F⟩;obtain rfl:=J HS;have⟨ac,ad,ah,a2,a3,a4⟩:=dS (dg F (dg FZ (dg FV M2)));have Gp:=zH F))
   exact Zs
end Go.Proofs.YtpieilkmmiopfaaGreatDoor
