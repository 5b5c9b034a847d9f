/- Parts of the walks. Conditions: as stated with each. -/
import Derived.Test.YtdpgblncijojiaaGreatDoorPk6
namespace Go.Proofs.YtdpgblncijojiaaGreatDoor
open Go.RowKit Tryz
set_option linter.all false
set_option maxHeartbeats 4000000
set_option maxRecDepth 20000
variable{A3:aq}{D c3:Nat}{E W w w':aa}{H Ru Rw:av}{Ra U:aC}{Rv:dE}{e:Ending}{h':Int}
def e_(B D F H I:av)(t:dE)(T:Below (w.alloc (.cells #[B,D,F,H,I] t)) (w.alloc (.cells #[B,D,F,H,I] t)) E)(J O Q R:av)(t2:dE):∃W,W=E.alloc (.cells #[J,O,Q,R] t2)/\aj w W/\af W w 0 B/\af W w 1 D/\af W w 2 F/\af W w 3 H/\af W w 4 I/\af W E 0 J/\af W E 1 O/\af W E 2 Q/\af W E 3 R:=by have U:=T.alloc T.size (.cells #[J,O,Q,R] t2);have h:=cp U (aD w (.cells #[B,D,F,H,I] t) rfl);have z:=aD E (.cells #[J,O,Q,R] t2) rfl;exact⟨_,rfl,((ai w w).alloc (ah _) _).trans (U.mono Rx),aV h 0,aV h 1,aV h 2,aV h 3,aV h 4,aV z 0,aV z 1,aV z 2,aV z 3⟩
def qR(a b c:Int)(z:aq)(n cap:Nat)(w:aa)(I:n<=1048576):ax 67 (cB (km a b c z n cap)) w fun e w'=>e=.returned (.tuple #[if((c==0)&&((n==0)))=true then .iface 130 (.agg (bI a b)) else .nilIface,.bool ((c==0)&&((n==0)))])/\aj w w':=by
 by_cases tC:c=0
 .subst tC;by_cases tL:n=0
  .subst tL;go_enter dY,dZ
   go_upto_region 2 with(go_at_call 108;refine(bY _ _).mono ?_;rintro e w1 ⟨rfl,Et⟩)
   obtain⟨W,hW,hb,e0,e1,e2,e3,e4,f0,f1,f2,f3⟩:=e_ _ _ _ _ _ _ Et (.bool (eH 1)) (.bool (eI 1)) (.bool (eJ 1)) (.bool (eK 1)) 127;rw[<-hW];clear hW Et;simp only[show eH 1=true from rfl,show eI 1=true from rfl,show eJ 1=false from rfl,show eK 1=false from rfl]at f0 f1 f2 f3 ⊢;go_wp2
   all_goals exact az (v:=.tuple #[.iface 130 (.agg (bI a b)),.bool true]) Ug rfl ⟨RI,hb⟩
  .have D:(n==0)=false:=Sb;have F:(0:Int)<n:=Ry;have H:0<n:=Ry;exact ZA
 .have B:(c==0)=false:=Sa;have E:(c !=0)=true:=Sa;exact ZA
def pM(a b c:Int)(z:aq)(n cap:Nat)(w:aa)(I:n<=1048576):ax 67 (cB (kr a b c z n cap)) w fun e w'=>e=.returned (.tuple #[if((b==0)&&((n==0)))=true then .iface 132 (.agg (bI a c)) else .nilIface,.bool ((b==0)&&((n==0)))])/\aj w w':=by
 by_cases tB:b=0
 .subst tB;by_cases tL:n=0
  .subst tL;go_enter dY,dZ
   go_upto_region 2 with(go_at_call 108;refine(bY _ _).mono ?_;rintro e w1 ⟨rfl,Et⟩)
   obtain⟨W,hW,hb,e0,e1,e2,e3,e4,f0,f1,f2,f3⟩:=e_ _ _ _ _ _ _ Et (.bool (eH 2)) (.bool (eI 2)) (.bool (eJ 2)) (.bool (eK 2)) 127;rw[<-hW];clear hW Et;simp only[show eH 2=true from rfl,show eI 2=false from rfl,show eJ 2=true from rfl,show eK 2=false from rfl]at f0 f1 f2 f3 ⊢;go_wp2
   all_goals exact az (v:=.tuple #[.iface 132 (.agg (bI a c)),.bool true]) Ug rfl ⟨RI,hb⟩
  .have D:(n==0)=false:=Sb;have F:(0:Int)<n:=Ry;have H:0<n:=Ry;exact Zz
 .have B:(b==0)=false:=R_;have E:(b !=0)=true:=R_;exact Zz
def rJ(a b c:Int)(D:aq)(n cap:Nat)(w:aa)(U:n<=1048576):ax 67 (cB (kj a b c D n cap)) w fun e w'=>e=.returned (.tuple #[if((n==0))=true then .iface 134 (.agg (fe a b c)) else .nilIface,.bool ((n==0))])/\aj w w':=by
 by_cases tL:n=0
 .subst tL;go_enter dY,dZ
  go_upto_region 2 with(go_at_call 108;refine(bY _ _).mono ?_;rintro e O ⟨rfl,B⟩)
  obtain⟨W,z,hb,E,F,H,I,J,f0,f1,f2,f3⟩:=e_ _ _ _ _ _ _ B (.bool (eH 3)) (.bool (eI 3)) (.bool (eJ 3)) (.bool (eK 3)) 127;rw[<-z];clear z B;simp only[show eH 3=true from rfl,show eI 3=true from rfl,show eJ 3=true from rfl,show eK 3=false from rfl]at f0 f1 f2 f3 ⊢;go_wp2
  all_goals exact az (v:=.tuple #[.iface 134 (.agg (fe a b c)),.bool true]) Ug rfl ⟨RI,hb⟩
 .have Q:(n==0)=false:=Sb;have R:(0:Int)<n:=Ry;have T:0<n:=Ry;go_enter dY,dZ
  go_upto_region 2 with(go_at_call 108;refine(bY _ _).mono ?_;rintro e O ⟨rfl,B⟩)
  obtain⟨W,z,hb,E,F,H,I,J,f0,f1,f2,f3⟩:=e_ _ _ _ _ _ _ B (.bool (eH 3)) (.bool (eI 3)) (.bool (eJ 3)) (.bool (eK 3)) 127;rw[<-z];clear z B;simp only[show eH 3=true from rfl,show eI 3=true from rfl,show eJ 3=true from rfl,show eK 3=false from rfl]at f0 f1 f2 f3 ⊢;exact X6
def qS(a b c:Int)(z:aq)(n cap:Nat)(w:aa)(O:n<=1048576):ax 67 (cB (kn a b c z n cap)) w fun e w'=>e=.returned (.tuple #[if((b==0)&&((c==0)&&((n==0))))=true then .iface 136 (.agg (bc a)) else .nilIface,.bool ((b==0)&&((c==0)&&((n==0))))])/\aj w w':=by
 by_cases tB:b=0
 .subst tB;by_cases tC:c=0
  .subst tC;by_cases tL:n=0
   .subst tL;go_enter dY,dZ
    go_upto_region 2 with(go_at_call 108;refine(bY _ _).mono ?_;rintro e w1 ⟨rfl,Et⟩)
    obtain⟨W,hW,hb,e0,e1,e2,e3,e4,f0,f1,f2,f3⟩:=e_ _ _ _ _ _ _ Et (.bool (eH 4)) (.bool (eI 4)) (.bool (eJ 4)) (.bool (eK 4)) 127;rw[<-hW];clear hW Et;simp only[show eH 4=true from rfl,show eI 4=false from rfl,show eJ 4=false from rfl,show eK 4=false from rfl]at f0 f1 f2 f3 ⊢;go_wp2
    all_goals exact az (v:=.tuple #[.iface 136 (.agg (bc a)),.bool true]) Ug rfl ⟨RI,hb⟩
   .have E:(n==0)=false:=Sb;have I:(0:Int)<n:=Ry;have J:0<n:=Ry;exact ZE
  .have D:(c==0)=false:=Sa;have H:(c !=0)=true:=Sa;exact ZE
 .have B:(b==0)=false:=R_;have F:(b !=0)=true:=R_;exact ZE
def rL(a b c:Int)(z:aq)(n cap:Nat)(w:aa)(O:n<=1048576):ax 67 (cB (ko a b c z n cap)) w fun e w'=>e=.returned (.tuple #[if((b==0)&&((c==0)&&((n==0))))=true then .iface 137 (.agg (bc a)) else .nilIface,.bool ((b==0)&&((c==0)&&((n==0))))])/\aj w w':=by
 by_cases tB:b=0
 .subst tB;by_cases tC:c=0
  .subst tC;by_cases tL:n=0
   .subst tL;go_enter dY,dZ
    go_upto_region 2 with(go_at_call 108;refine(bY _ _).mono ?_;rintro e w1 ⟨rfl,Et⟩)
    obtain⟨W,hW,hb,e0,e1,e2,e3,e4,f0,f1,f2,f3⟩:=e_ _ _ _ _ _ _ Et (.bool (eH 5)) (.bool (eI 5)) (.bool (eJ 5)) (.bool (eK 5)) 127;rw[<-hW];clear hW Et;simp only[show eH 5=true from rfl,show eI 5=false from rfl,show eJ 5=false from rfl,show eK 5=false from rfl]at f0 f1 f2 f3 ⊢;go_wp2
    all_goals exact az (v:=.tuple #[.iface 137 (.agg (bc a)),.bool true]) Ug rfl ⟨RI,hb⟩
   .have E:(n==0)=false:=Sb;have I:(0:Int)<n:=Ry;have J:0<n:=Ry;exact ZD
  .have D:(c==0)=false:=Sa;have H:(c !=0)=true:=Sa;exact ZD
 .have B:(b==0)=false:=R_;have F:(b !=0)=true:=R_;exact ZD
def pN(a b c:Int)(z:aq)(n cap:Nat)(w:aa)(I:n<=1048576):ax 67 (cB (iT a b c z n cap)) w fun e w'=>e=.returned (.tuple #[if((c==0)&&((n==0)))=true then .iface 138 (.agg (bI a b)) else .nilIface,.bool ((c==0)&&((n==0)))])/\aj w w':=by
 by_cases tC:c=0
 .subst tC;by_cases tL:n=0
  .subst tL;go_enter dY,dZ
   go_upto_region 2 with(go_at_call 108;refine(bY _ _).mono ?_;rintro e w1 ⟨rfl,Et⟩)
   obtain⟨W,hW,hb,e0,e1,e2,e3,e4,f0,f1,f2,f3⟩:=e_ _ _ _ _ _ _ Et (.bool (eH 6)) (.bool (eI 6)) (.bool (eJ 6)) (.bool (eK 6)) 127;rw[<-hW];clear hW Et;simp only[show eH 6=true from rfl,show eI 6=true from rfl,show eJ 6=false from rfl,show eK 6=false from rfl]at f0 f1 f2 f3 ⊢;go_wp2
   all_goals exact az (v:=.tuple #[.iface 138 (.agg (bI a b)),.bool true]) Ug rfl ⟨RI,hb⟩
  .have D:(n==0)=false:=Sb;have F:(0:Int)<n:=Ry;have H:0<n:=Ry;exact Zy
 .have B:(c==0)=false:=Sa;have E:(c !=0)=true:=Sa;exact Zy
def pO(a b c:Int)(D:aq)(n cap:Nat)(w:aa)(T:n<=1048576):ax 67 (cB (kp a b c D n cap)) w fun e w'=>e=.returned (.tuple #[if((c==0))=true then .iface 140 (.agg (dp a b D n cap)) else .nilIface,.bool ((c==0))])/\aj w w':=by
 by_cases tC:c=0
 .subst tC;go_enter dY,dZ
  go_upto_region 2 with(go_at_call 108;refine(bY _ _).mono ?_;rintro e O ⟨rfl,B⟩)
  obtain⟨W,z,hb,E,F,H,I,J,f0,f1,f2,f3⟩:=e_ _ _ _ _ _ _ B (.bool (eH 7)) (.bool (eI 7)) (.bool (eJ 7)) (.bool (eK 7)) 127;rw[<-z];clear z B;simp only[show eH 7=true from rfl,show eI 7=true from rfl,show eJ 7=false from rfl,show eK 7=true from rfl]at f0 f1 f2 f3 ⊢;go_wp2
  all_goals exact az (v:=.tuple #[.iface 140 (.agg (dp a b D n cap)),.bool true]) Ug rfl ⟨RI,hb⟩
 .have Q:(c==0)=false:=Sa;have R:(c !=0)=true:=Sa;go_enter dY,dZ
  go_upto_region 2 with(go_at_call 108;refine(bY _ _).mono ?_;rintro e O ⟨rfl,B⟩)
  obtain⟨W,z,hb,E,F,H,I,J,f0,f1,f2,f3⟩:=e_ _ _ _ _ _ _ B (.bool (eH 7)) (.bool (eI 7)) (.bool (eJ 7)) (.bool (eK 7)) 127;rw[<-z];clear z B;simp only[show eH 7=true from rfl,show eI 7=true from rfl,show eJ 7=false from rfl,show eK 7=true from rfl]at f0 f1 f2 f3 ⊢;exact X6
def oM(a b c:Int)(z:aq)(n cap:Nat)(w:aa)(O:n<=1048576):ax 67 (cB (ki a b c z n cap)) w fun e w'=>e=.returned (.tuple #[if((a==0)&&((c==0)&&((n==0))))=true then .iface 142 (.agg (bc b)) else .nilIface,.bool ((a==0)&&((c==0)&&((n==0))))])/\aj w w':=by
 by_cases tA:a=0
 .subst tA;by_cases tC:c=0
  .subst tC;by_cases tL:n=0
   .subst tL;go_enter dY,dZ
    go_upto_region 2 with(go_at_call 108;refine(bY _ _).mono ?_;rintro e w1 ⟨rfl,Et⟩)
    obtain⟨W,hW,hb,e0,e1,e2,e3,e4,f0,f1,f2,f3⟩:=e_ _ _ _ _ _ _ Et (.bool (eH 8)) (.bool (eI 8)) (.bool (eJ 8)) (.bool (eK 8)) 127;rw[<-hW];clear hW Et;simp only[show eH 8=false from rfl,show eI 8=true from rfl,show eJ 8=false from rfl,show eK 8=false from rfl]at f0 f1 f2 f3 ⊢;go_wp2
    all_goals exact az (v:=.tuple #[.iface 142 (.agg (bc b)),.bool true]) Ug rfl ⟨RI,hb⟩
   .have E:(n==0)=false:=Sb;have I:(0:Int)<n:=Ry;have J:0<n:=Ry;exact ZC
  .have D:(c==0)=false:=Sa;have H:(c !=0)=true:=Sa;exact ZC
 .have B:(a==0)=false:=R9;have F:(a !=0)=true:=R9;exact ZC
def oN(a b c:Int)(z:aq)(n cap:Nat)(w:aa)(O:n<=1048576):ax 67 (cB (kq a b c z n cap)) w fun e w'=>e=.returned (.tuple #[if((a==0)&&((c==0)&&((n==0))))=true then .iface 143 (.agg (bc b)) else .nilIface,.bool ((a==0)&&((c==0)&&((n==0))))])/\aj w w':=by
 by_cases tA:a=0
 .subst tA;by_cases tC:c=0
  .subst tC;by_cases tL:n=0
   .subst tL;go_enter dY,dZ
    go_upto_region 2 with(go_at_call 108;refine(bY _ _).mono ?_;rintro e w1 ⟨rfl,Et⟩)
    obtain⟨W,hW,hb,e0,e1,e2,e3,e4,f0,f1,f2,f3⟩:=e_ _ _ _ _ _ _ Et (.bool (eH 9)) (.bool (eI 9)) (.bool (eJ 9)) (.bool (eK 9)) 127;rw[<-hW];clear hW Et;simp only[show eH 9=false from rfl,show eI 9=true from rfl,show eJ 9=false from rfl,show eK 9=false from rfl]at f0 f1 f2 f3 ⊢;go_wp2
    all_goals exact az (v:=.tuple #[.iface 143 (.agg (bc b)),.bool true]) Ug rfl ⟨RI,hb⟩
   .have E:(n==0)=false:=Sb;have I:(0:Int)<n:=Ry;have J:0<n:=Ry;exact ZB
  .have D:(c==0)=false:=Sa;have H:(c !=0)=true:=Sa;exact ZB
 .have B:(a==0)=false:=R9;have F:(a !=0)=true:=R9;exact ZB
def Dn(k a b c:Int)(z:aq)(n cap:Nat)(w:aa)(am:n<=1048576)(F:k≠1)(H:k≠2)(I:k≠3)(J:k≠4)(O:k≠5)(Q:k≠6)(R:k≠7)(T:k≠8)(U:k≠9):ax 67 (cB (ks k a b c z n cap)) w fun e w'=>e=.returned (.tuple ff)/\aj w w':=by
 by_cases tB:b=0
 .subst tB;by_cases tC:c=0
  .subst tC;by_cases tL:n=0
   .subst tL;exact ZG
   .have E:(n==0)=false:=Sb;have ac:(0:Int)<n:=Ry;have ad:0<n:=Ry;exact ZG
  .have D:(c==0)=false:=Sa;have ab:(c !=0)=true:=Sa;exact ZG
 .have B:(b==0)=false:=R_;have Z:(b !=0)=true:=R_;exact ZG
def dj{g:Nat}(h:aW W g #[H,Rw,Ru] Rv):af W g 0 H/\af W g 1 Rw/\af W g 2 Ru/\W.frozen? ⟨g,0,none⟩=false/\W.frozen? ⟨g,1,none⟩=false/\W.frozen? ⟨g,2,none⟩=false:=⟨aV h 0,aV h 1,aV h 2,aS h 0,aS h 1,aS h 2⟩
def Made(v' h':Int)(B:aC)(ok:Bool)(w:aa)(e:Ending)(w':aa):Prop:=
 ∃(v2 z:Int) (A2:aq) (n2 c2:Nat),e=.returned (.tuple #[.agg (dp v2 z A2 n2 c2),.bool ok])/\(ok=true->v2=v'/\z=h'/\aI w' w (.slice A2 n2 c2) B)/\(ok=false->v2=0/\z=0/\A2=none/\n2=0/\c2=0)/\aj w w'
def Made.no{v':Int}{ok:Bool}(h:ok=false)(B:e=.returned (.tuple (dP aQ)))(z:aj w w'):Made v' h' U ok w e w':=by subst h;exact⟨0,0,none,0,0,B,fun h=>RE,fun _=>⟨rfl,rfl,rfl,rfl,rfl⟩,z⟩
def Made.yes{v':Int}{ok:Bool}(h:ok=true)(B:e=.returned (.tuple (eh (dp v' h' A3 D c3))))(E:aI w' w (.slice A3 D c3) U)(z:aj w w'):Made v' h' U ok w e w':=by subst h;exact⟨v',h',A3,D,c3,B,fun _=>⟨rfl,rfl,E⟩,fun h=>RE,z⟩
def Made.none{v1 z v':Int}{ok1 ok:Bool}(m:Made v1 z U ok1 w e w')(z:ok1=false)(h:ok=false):Made v' h' Ra ok w e w':=by subst z;subst h;obtain⟨v2,F,A2,n2,c2,D,_,E,B⟩:=m;obtain⟨rfl,rfl,rfl,rfl,rfl⟩:=E rfl;exact Made.no rfl D B
def Made.same{v':Int}{ok1 ok:Bool}(m:Made v' h' U ok1 w e w')(h:ok1=ok):Made v' h' U ok w e w':=h ▸ m
def vI(z:av)(B:av)(w:aa):(method 347 130 (.agg #[z,B]) "loop.example/g01073/impl.can").run prog w=.ok (206,(.agg #[z,B])) w:=RU
def zey(z:av)(B:av)(w:aa):(nilAhead 347 130 (.agg #[z,B]) "loop.example/g01073/impl.can").run prog w=.ok (some false) w:=RU
def xF(z:av)(B:av)(w:aa):(method 347 130 (.agg #[z,B]) "loop.example/g01073/impl.do").run prog w=.ok (207,(.agg #[z,B])) w:=RU
def zeX(z:av)(B:av)(w:aa):(nilAhead 347 130 (.agg #[z,B]) "loop.example/g01073/impl.do").run prog w=.ok (some false) w:=RU
def tQ(p v h v' h':Int)(A:aq)(cap:Nat)(rows EM:aC)(w:aa)(Q:Bool)(a b c:Int)(O:aq)(n T:Nat)(a8:∀W,ax 67 (cB (km a b c O n T)) W fun e w'=>e=.returned (.tuple #[.iface 130 (.agg (bI a b)),.bool true])/\aj W w')(ap:∀W,aj w W->ax 206 (eY (.agg (bI a b)) p (ae v h A rows cap)) W (fp W Q))(a0:Q=true->∀W,aj w W->ax 207 (eY (.agg (bI a b)) p (ae v h A rows cap)) W fun e w'=>∃u,e=.returned (.agg (dz v' h' u))/\aI w' W.heap.size u EM/\aj W w')(be:cU w)(bm:EM.length<=maxLen)(bo:∀r∈EM,r.length<=maxLen):ax 34 (dI p (ae v h A rows cap) (km a b c O n T)) w fun e w'=>Made v' h' EM (Q&&gg p v' h' EM) w e w':=by
 obtain⟨b0,a3,a4,a7,a5,a6⟩:=lq a8 ap a0 be bm bo;clear a8 ap a0 be bm bo;have cb:=vI (zI a) (zI b);have b3:=xF (zI a) (zI b);go_enter mw,mx
 go_upto_region 2 with(go_at_call 67;refine(b0.o _).mono ?_;rintro e cc ⟨rfl,F⟩)
 have bd:=(below_alloc3 w (.cells (ae v h A rows cap) 26) (.cells (km a b c O n T) 29) (.cells aQ 26));obtain⟨br,b4,bv⟩:=cv w (.cells (ae v h A rows cap) 26) (.cells (km a b c O n T) 29) (.cells aQ 26);have ao:=cp F br;have bp:=cp F bv;have bi:=bd.trans (F.mono (B':=w.heap.size) Sn);have b2:=F.size;simp only[cx]at b2;obtain⟨b7,b8,b9,_,_,_⟩:=dj ao;obtain⟨HB,b1,Z⟩:=dD bi ao bp;clear br b4 bv ao bp bi F bd;cases Q with
 |false=>
  clear a4 b3;go_wp2_with (go_at_call 206;refine(a3.o _ HB.o).mono ?_;rintro e bz ⟨rfl,z⟩;obtain⟨ab,ac,ad,a9,ba,bb⟩:=dj (cp z Z);have EE:=zH z;clear z)
  exact Za
 |true=>
  go_upto_region 4 with(go_at_call 206;refine(a3.o _ HB.o).mono ?_;rintro e bz ⟨rfl,z⟩;obtain⟨ab,ac,ad,_,_,_⟩:=dj (cp z b1);have EE:=zH z;clear z)
  have am:=HB.trans (EE.mono Ry);have ca:=EE.size;obtain⟨a2,a1⟩:=bL am (a4 RD bz am);clear am;cases R:gg p v' h' EM with
  |false=>
   have HS:=zH R;clear R;go_wp2_with (first|(go_at_call 207;refine a1.mono ?_;rintro e b5 ⟨u,rfl,E,B⟩;obtain⟨A3,c3,rfl,J,_,_⟩:=E.view;have H:=a2.trans (B.mono Ry);have U:=zH J;have HU:=zH E;have Eu:=zH B;have EK:=zH H;clear E B J H)|(go_at_call 68;refine(cS p v' h' A3 c3 EM _ (a7.ext EK) U.o a5 a6).mono ?_;rintro e b6 ⟨_,I,D⟩;obtain rfl:=I HS;clear I;obtain⟨ab,ac,ad,a9,ba,bb⟩:=dj (cp D (cp Eu (cp EE Z)));have ED:=zH D;clear D))
   exact Ze
  |true=>
   have HS:=zH R;clear R;go_wp2_with (first|(go_at_call 207;refine a1.mono ?_;rintro e b5 ⟨u,rfl,E,B⟩;obtain⟨A3,c3,rfl,J,_,_⟩:=E.view;have H:=a2.trans (B.mono Ry);have U:=zH J;have HU:=zH E;have Eu:=zH B;have EK:=zH H;clear E B J H)|(go_at_call 68;refine(cS p v' h' A3 c3 EM _ (a7.ext EK) U.o a5 a6).mono ?_;rintro e b6 ⟨I,_,D⟩;obtain rfl:=I HS;clear I;obtain⟨ab,ac,ad,a9,ba,bb⟩:=dj (cp D (cp Eu (cp EE Z)));have ED:=zH D;clear D))
   exact Zw
def uG(z:av)(B:av)(w:aa):(method 347 132 (.agg #[z,B]) "loop.example/g01073/impl.can").run prog w=.ok (210,(.agg #[z,B])) w:=RU
def zc5(z:av)(B:av)(w:aa):(nilAhead 347 132 (.agg #[z,B]) "loop.example/g01073/impl.can").run prog w=.ok (some false) w:=RU
def vJ(z:av)(B:av)(w:aa):(method 347 132 (.agg #[z,B]) "loop.example/g01073/impl.do").run prog w=.ok (211,(.agg #[z,B])) w:=RU
def zez(z:av)(B:av)(w:aa):(nilAhead 347 132 (.agg #[z,B]) "loop.example/g01073/impl.do").run prog w=.ok (some false) w:=RU
def rU(p v h v' h':Int)(A:aq)(cap:Nat)(rows EM:aC)(w:aa)(Q:Bool)(a b c:Int)(O:aq)(n T:Nat)(a8:∀W,ax 67 (cB (kr a b c O n T)) W fun e w'=>e=.returned (.tuple #[.iface 132 (.agg (bI a c)),.bool true])/\aj W w')(ap:∀W,aj w W->ax 210 (eY (.agg (bI a c)) p (ae v h A rows cap)) W (fp W Q))(a0:Q=true->∀W,aj w W->ax 211 (eY (.agg (bI a c)) p (ae v h A rows cap)) W fun e w'=>∃u,e=.returned (.agg (dz v' h' u))/\aI w' W.heap.size u EM/\aj W w')(be:cU w)(bm:EM.length<=maxLen)(bo:∀r∈EM,r.length<=maxLen):ax 34 (dI p (ae v h A rows cap) (kr a b c O n T)) w fun e w'=>Made v' h' EM (Q&&gg p v' h' EM) w e w':=by
 obtain⟨b0,a3,a4,a7,a5,a6⟩:=lq a8 ap a0 be bm bo;clear a8 ap a0 be bm bo;have cb:=uG (zI a) (zI c);have b3:=vJ (zI a) (zI c);go_enter mw,mx
 go_upto_region 2 with(go_at_call 67;refine(b0.o _).mono ?_;rintro e cc ⟨rfl,F⟩)
 have bd:=(below_alloc3 w (.cells (ae v h A rows cap) 26) (.cells (kr a b c O n T) 29) (.cells aQ 26));obtain⟨br,b4,bv⟩:=cv w (.cells (ae v h A rows cap) 26) (.cells (kr a b c O n T) 29) (.cells aQ 26);have ao:=cp F br;have bp:=cp F bv;have bi:=bd.trans (F.mono (B':=w.heap.size) Sn);have b2:=F.size;simp only[cx]at b2;obtain⟨b7,b8,b9,_,_,_⟩:=dj ao;obtain⟨HB,b1,Z⟩:=dD bi ao bp;clear br b4 bv ao bp bi F bd;cases Q with
 |false=>
  clear a4 b3;go_wp2_with (go_at_call 210;refine(a3.o _ HB.o).mono ?_;rintro e bz ⟨rfl,z⟩;obtain⟨ab,ac,ad,a9,ba,bb⟩:=dj (cp z Z);have EE:=zH z;clear z)
  exact Za
 |true=>
  go_upto_region 4 with(go_at_call 210;refine(a3.o _ HB.o).mono ?_;rintro e bz ⟨rfl,z⟩;obtain⟨ab,ac,ad,_,_,_⟩:=dj (cp z b1);have EE:=zH z;clear z)
  have am:=HB.trans (EE.mono Ry);have ca:=EE.size;obtain⟨a2,a1⟩:=bL am (a4 RD bz am);clear am;cases R:gg p v' h' EM with
  |false=>
   have HS:=zH R;clear R;go_wp2_with (first|(go_at_call 211;refine a1.mono ?_;rintro e b5 ⟨u,rfl,E,B⟩;obtain⟨A3,c3,rfl,J,_,_⟩:=E.view;have H:=a2.trans (B.mono Ry);have U:=zH J;have HU:=zH E;have Eu:=zH B;have EK:=zH H;clear E B J H)|(go_at_call 68;refine(cS p v' h' A3 c3 EM _ (a7.ext EK) U.o a5 a6).mono ?_;rintro e b6 ⟨_,I,D⟩;obtain rfl:=I HS;clear I;obtain⟨ab,ac,ad,a9,ba,bb⟩:=dj (cp D (cp Eu (cp EE Z)));have ED:=zH D;clear D))
   exact Ze
  |true=>
   have HS:=zH R;clear R;go_wp2_with (first|(go_at_call 211;refine a1.mono ?_;rintro e b5 ⟨u,rfl,E,B⟩;obtain⟨A3,c3,rfl,J,_,_⟩:=E.view;have H:=a2.trans (B.mono Ry);have U:=zH J;have HU:=zH E;have Eu:=zH B;have EK:=zH H;clear E B J H)|(go_at_call 68;refine(cS p v' h' A3 c3 EM _ (a7.ext EK) U.o a5 a6).mono ?_;rintro e b6 ⟨I,_,D⟩;obtain rfl:=I HS;clear I;obtain⟨ab,ac,ad,a9,ba,bb⟩:=dj (cp D (cp Eu (cp EE Z)));have ED:=zH D;clear D))
   exact Zw
def xG(z:av)(B:av)(D:av)(w:aa):(method 347 134 (.agg #[z,B,D]) "loop.example/g01073/impl.can").run prog w=.ok (213,(.agg #[z,B,D])) w:=RU
def zeY(z:av)(B:av)(D:av)(w:aa):(nilAhead 347 134 (.agg #[z,B,D]) "loop.example/g01073/impl.can").run prog w=.ok (some false) w:=RU
def yz(z:av)(B:av)(D:av)(w:aa):(method 347 134 (.agg #[z,B,D]) "loop.example/g01073/impl.do").run prog w=.ok (214,(.agg #[z,B,D])) w:=RU
def zgs(z:av)(B:av)(D:av)(w:aa):(nilAhead 347 134 (.agg #[z,B,D]) "loop.example/g01073/impl.do").run prog w=.ok (some false) w:=RU
def vK(p v h v' h':Int)(A:aq)(cap:Nat)(rows EM:aC)(w:aa)(Q:Bool)(a b c:Int)(O:aq)(n T:Nat)(a8:∀W,ax 67 (cB (kj a b c O n T)) W fun e w'=>e=.returned (.tuple #[.iface 134 (.agg (fe a b c)),.bool true])/\aj W w')(ap:∀W,aj w W->ax 213 (eY (.agg (fe a b c)) p (ae v h A rows cap)) W (fp W Q))(a0:Q=true->∀W,aj w W->ax 214 (eY (.agg (fe a b c)) p (ae v h A rows cap)) W fun e w'=>∃u,e=.returned (.agg (dz v' h' u))/\aI w' W.heap.size u EM/\aj W w')(be:cU w)(bm:EM.length<=maxLen)(bo:∀r∈EM,r.length<=maxLen):ax 34 (dI p (ae v h A rows cap) (kj a b c O n T)) w fun e w'=>Made v' h' EM (Q&&gg p v' h' EM) w e w':=by
 obtain⟨b0,a3,a4,a7,a5,a6⟩:=lq a8 ap a0 be bm bo;clear a8 ap a0 be bm bo;have cb:=xG (zI a) (zI b) (zI c);have b3:=yz (zI a) (zI b) (zI c);go_enter mw,mx
 go_upto_region 2 with(go_at_call 67;refine(b0.o _).mono ?_;rintro e cc ⟨rfl,F⟩)
 have bd:=(below_alloc3 w (.cells (ae v h A rows cap) 26) (.cells (kj a b c O n T) 29) (.cells aQ 26));obtain⟨br,b4,bv⟩:=cv w (.cells (ae v h A rows cap) 26) (.cells (kj a b c O n T) 29) (.cells aQ 26);have ao:=cp F br;have bp:=cp F bv;have bi:=bd.trans (F.mono (B':=w.heap.size) Sn);have b2:=F.size;simp only[cx]at b2;obtain⟨b7,b8,b9,_,_,_⟩:=dj ao;obtain⟨HB,b1,Z⟩:=dD bi ao bp;clear br b4 bv ao bp bi F bd;cases Q with
 |false=>
  clear a4 b3;go_wp2_with (go_at_call 213;refine(a3.o _ HB.o).mono ?_;rintro e bz ⟨rfl,z⟩;obtain⟨ab,ac,ad,a9,ba,bb⟩:=dj (cp z Z);have EE:=zH z;clear z)
  exact Za
 |true=>
  go_upto_region 4 with(go_at_call 213;refine(a3.o _ HB.o).mono ?_;rintro e bz ⟨rfl,z⟩;obtain⟨ab,ac,ad,_,_,_⟩:=dj (cp z b1);have EE:=zH z;clear z)
  have am:=HB.trans (EE.mono Ry);have ca:=EE.size;obtain⟨a2,a1⟩:=bL am (a4 RD bz am);clear am;cases R:gg p v' h' EM with
  |false=>
   have HS:=zH R;clear R;go_wp2_with (first|(go_at_call 214;refine a1.mono ?_;rintro e b5 ⟨u,rfl,E,B⟩;obtain⟨A3,c3,rfl,J,_,_⟩:=E.view;have H:=a2.trans (B.mono Ry);have U:=zH J;have HU:=zH E;have Eu:=zH B;have EK:=zH H;clear E B J H)|(go_at_call 68;refine(cS p v' h' A3 c3 EM _ (a7.ext EK) U.o a5 a6).mono ?_;rintro e b6 ⟨_,I,D⟩;obtain rfl:=I HS;clear I;obtain⟨ab,ac,ad,a9,ba,bb⟩:=dj (cp D (cp Eu (cp EE Z)));have ED:=zH D;clear D))
   exact Ze
  |true=>
   have HS:=zH R;clear R;go_wp2_with (first|(go_at_call 214;refine a1.mono ?_;rintro e b5 ⟨u,rfl,E,B⟩;obtain⟨A3,c3,rfl,J,_,_⟩:=E.view;have H:=a2.trans (B.mono Ry);have U:=zH J;have HU:=zH E;have Eu:=zH B;have EK:=zH H;clear E B J H)|(go_at_call 68;refine(cS p v' h' A3 c3 EM _ (a7.ext EK) U.o a5 a6).mono ?_;rintro e b6 ⟨I,_,D⟩;obtain rfl:=I HS;clear I;obtain⟨ab,ac,ad,a9,ba,bb⟩:=dj (cp D (cp Eu (cp EE Z)));have ED:=zH D;clear D))
   exact Zw
def vL(z:av)(w:aa):(method 347 136 (.agg #[z]) "loop.example/g01073/impl.can").run prog w=.ok (216,(.agg #[z])) w:=RU
def zeA(z:av)(w:aa):(nilAhead 347 136 (.agg #[z]) "loop.example/g01073/impl.can").run prog w=.ok (some false) w:=RU
def xH(z:av)(w:aa):(method 347 136 (.agg #[z]) "loop.example/g01073/impl.do").run prog w=.ok (217,(.agg #[z])) w:=RU
def zeZ(z:av)(w:aa):(nilAhead 347 136 (.agg #[z]) "loop.example/g01073/impl.do").run prog w=.ok (some false) w:=RU
def tR(p v h v' h':Int)(A:aq)(cap:Nat)(rows EM:aC)(w:aa)(Q:Bool)(a b c:Int)(O:aq)(n T:Nat)(a8:∀W,ax 67 (cB (kn a b c O n T)) W fun e w'=>e=.returned (.tuple #[.iface 136 (.agg (bc a)),.bool true])/\aj W w')(ap:∀W,aj w W->ax 216 (eY (.agg (bc a)) p (ae v h A rows cap)) W (fp W Q))(a0:Q=true->∀W,aj w W->ax 217 (eY (.agg (bc a)) p (ae v h A rows cap)) W fun e w'=>∃u,e=.returned (.agg (dz v' h' u))/\aI w' W.heap.size u EM/\aj W w')(be:cU w)(bm:EM.length<=maxLen)(bo:∀r∈EM,r.length<=maxLen):ax 34 (dI p (ae v h A rows cap) (kn a b c O n T)) w fun e w'=>Made v' h' EM (Q&&gg p v' h' EM) w e w':=by
 obtain⟨b0,a3,a4,a7,a5,a6⟩:=lq a8 ap a0 be bm bo;clear a8 ap a0 be bm bo;have cb:=vL (zI a);have b3:=xH (zI a);go_enter mw,mx
 go_upto_region 2 with(go_at_call 67;refine(b0.o _).mono ?_;rintro e cc ⟨rfl,F⟩)
 have bd:=(below_alloc3 w (.cells (ae v h A rows cap) 26) (.cells (kn a b c O n T) 29) (.cells aQ 26));obtain⟨br,b4,bv⟩:=cv w (.cells (ae v h A rows cap) 26) (.cells (kn a b c O n T) 29) (.cells aQ 26);have ao:=cp F br;have bp:=cp F bv;have bi:=bd.trans (F.mono (B':=w.heap.size) Sn);have b2:=F.size;simp only[cx]at b2;obtain⟨b7,b8,b9,_,_,_⟩:=dj ao;obtain⟨HB,b1,Z⟩:=dD bi ao bp;clear br b4 bv ao bp bi F bd;cases Q with
 |false=>
  clear a4 b3;go_wp2_with (go_at_call 216;refine(a3.o _ HB.o).mono ?_;rintro e bz ⟨rfl,z⟩;obtain⟨ab,ac,ad,a9,ba,bb⟩:=dj (cp z Z);have EE:=zH z;clear z)
  exact Za
 |true=>
  go_upto_region 4 with(go_at_call 216;refine(a3.o _ HB.o).mono ?_;rintro e bz ⟨rfl,z⟩;obtain⟨ab,ac,ad,_,_,_⟩:=dj (cp z b1);have EE:=zH z;clear z)
  have am:=HB.trans (EE.mono Ry);have ca:=EE.size;obtain⟨a2,a1⟩:=bL am (a4 RD bz am);clear am;cases R:gg p v' h' EM with
  |false=>
   have HS:=zH R;clear R;go_wp2_with (first|(go_at_call 217;refine a1.mono ?_;rintro e b5 ⟨u,rfl,E,B⟩;obtain⟨A3,c3,rfl,J,_,_⟩:=E.view;have H:=a2.trans (B.mono Ry);have U:=zH J;have HU:=zH E;have Eu:=zH B;have EK:=zH H;clear E B J H)|(go_at_call 68;refine(cS p v' h' A3 c3 EM _ (a7.ext EK) U.o a5 a6).mono ?_;rintro e b6 ⟨_,I,D⟩;obtain rfl:=I HS;clear I;obtain⟨ab,ac,ad,a9,ba,bb⟩:=dj (cp D (cp Eu (cp EE Z)));have ED:=zH D;clear D))
   exact Ze
  |true=>
   have HS:=zH R;clear R;go_wp2_with (first|(go_at_call 217;refine a1.mono ?_;rintro e b5 ⟨u,rfl,E,B⟩;obtain⟨A3,c3,rfl,J,_,_⟩:=E.view;have H:=a2.trans (B.mono Ry);have U:=zH J;have HU:=zH E;have Eu:=zH B;have EK:=zH H;clear E B J H)|(go_at_call 68;refine(cS p v' h' A3 c3 EM _ (a7.ext EK) U.o a5 a6).mono ?_;rintro e b6 ⟨I,_,D⟩;obtain rfl:=I HS;clear I;obtain⟨ab,ac,ad,a9,ba,bb⟩:=dj (cp D (cp Eu (cp EE Z)));have ED:=zH D;clear D))
   exact Zw
def xI(z:av)(w:aa):(method 347 137 (.agg #[z]) "loop.example/g01073/impl.can").run prog w=.ok (222,(.agg #[z])) w:=RU
def ze0(z:av)(w:aa):(nilAhead 347 137 (.agg #[z]) "loop.example/g01073/impl.can").run prog w=.ok (some false) w:=RU
def yA(z:av)(w:aa):(method 347 137 (.agg #[z]) "loop.example/g01073/impl.do").run prog w=.ok (223,(.agg #[z])) w:=RU
def zgt(z:av)(w:aa):(nilAhead 347 137 (.agg #[z]) "loop.example/g01073/impl.do").run prog w=.ok (some false) w:=RU
def vM(p v h v' h':Int)(A:aq)(cap:Nat)(rows EM:aC)(w:aa)(Q:Bool)(a b c:Int)(O:aq)(n T:Nat)(a8:∀W,ax 67 (cB (ko a b c O n T)) W fun e w'=>e=.returned (.tuple #[.iface 137 (.agg (bc a)),.bool true])/\aj W w')(ap:∀W,aj w W->ax 222 (eY (.agg (bc a)) p (ae v h A rows cap)) W (fp W Q))(a0:Q=true->∀W,aj w W->ax 223 (eY (.agg (bc a)) p (ae v h A rows cap)) W fun e w'=>∃u,e=.returned (.agg (dz v' h' u))/\aI w' W.heap.size u EM/\aj W w')(be:cU w)(bm:EM.length<=maxLen)(bo:∀r∈EM,r.length<=maxLen):ax 34 (dI p (ae v h A rows cap) (ko a b c O n T)) w fun e w'=>Made v' h' EM (Q&&gg p v' h' EM) w e w':=by
 obtain⟨b0,a3,a4,a7,a5,a6⟩:=lq a8 ap a0 be bm bo;clear a8 ap a0 be bm bo;have cb:=xI (zI a);have b3:=yA (zI a);go_enter mw,mx
 go_upto_region 2 with(go_at_call 67;refine(b0.o _).mono ?_;rintro e cc ⟨rfl,F⟩)
 have bd:=(below_alloc3 w (.cells (ae v h A rows cap) 26) (.cells (ko a b c O n T) 29) (.cells aQ 26));obtain⟨br,b4,bv⟩:=cv w (.cells (ae v h A rows cap) 26) (.cells (ko a b c O n T) 29) (.cells aQ 26);have ao:=cp F br;have bp:=cp F bv;have bi:=bd.trans (F.mono (B':=w.heap.size) Sn);have b2:=F.size;simp only[cx]at b2;obtain⟨b7,b8,b9,_,_,_⟩:=dj ao;obtain⟨HB,b1,Z⟩:=dD bi ao bp;clear br b4 bv ao bp bi F bd;cases Q with
 |false=>
  clear a4 b3;go_wp2_with (go_at_call 222;refine(a3.o _ HB.o).mono ?_;rintro e bz ⟨rfl,z⟩;obtain⟨ab,ac,ad,a9,ba,bb⟩:=dj (cp z Z);have EE:=zH z;clear z)
  exact Za
 |true=>
  go_upto_region 4 with(go_at_call 222;refine(a3.o _ HB.o).mono ?_;rintro e bz ⟨rfl,z⟩;obtain⟨ab,ac,ad,_,_,_⟩:=dj (cp z b1);have EE:=zH z;clear z)
  have am:=HB.trans (EE.mono Ry);have ca:=EE.size;obtain⟨a2,a1⟩:=bL am (a4 RD bz am);clear am;cases R:gg p v' h' EM with
  |false=>
   have HS:=zH R;clear R;go_wp2_with (first|(go_at_call 223;refine a1.mono ?_;rintro e b5 ⟨u,rfl,E,B⟩;obtain⟨A3,c3,rfl,J,_,_⟩:=E.view;have H:=a2.trans (B.mono Ry);have U:=zH J;have HU:=zH E;have Eu:=zH B;have EK:=zH H;clear E B J H)|(go_at_call 68;refine(cS p v' h' A3 c3 EM _ (a7.ext EK) U.o a5 a6).mono ?_;rintro e b6 ⟨_,I,D⟩;obtain rfl:=I HS;clear I;obtain⟨ab,ac,ad,a9,ba,bb⟩:=dj (cp D (cp Eu (cp EE Z)));have ED:=zH D;clear D))
   exact Ze
  |true=>
   have HS:=zH R;clear R;go_wp2_with (first|(go_at_call 223;refine a1.mono ?_;rintro e b5 ⟨u,rfl,E,B⟩;obtain⟨A3,c3,rfl,J,_,_⟩:=E.view;have H:=a2.trans (B.mono Ry);have U:=zH J;have HU:=zH E;have Eu:=zH B;have EK:=zH H;clear E B J H)|(go_at_call 68;refine(cS p v' h' A3 c3 EM _ (a7.ext EK) U.o a5 a6).mono ?_;rintro e b6 ⟨I,_,D⟩;obtain rfl:=I HS;clear I;obtain⟨ab,ac,ad,a9,ba,bb⟩:=dj (cp D (cp Eu (cp EE Z)));have ED:=zH D;clear D))
   exact Zw
def uH(z:av)(B:av)(w:aa):(method 347 138 (.agg #[z,B]) "loop.example/g01073/impl.can").run prog w=.ok (230,(.agg #[z,B])) w:=RU
def zc6(z:av)(B:av)(w:aa):(nilAhead 347 138 (.agg #[z,B]) "loop.example/g01073/impl.can").run prog w=.ok (some false) w:=RU
def vN(z:av)(B:av)(w:aa):(method 347 138 (.agg #[z,B]) "loop.example/g01073/impl.do").run prog w=.ok (231,(.agg #[z,B])) w:=RU
def zeB(z:av)(B:av)(w:aa):(nilAhead 347 138 (.agg #[z,B]) "loop.example/g01073/impl.do").run prog w=.ok (some false) w:=RU
def rV(p v h v' h':Int)(A:aq)(cap:Nat)(rows EM:aC)(w:aa)(Q:Bool)(a b c:Int)(O:aq)(n T:Nat)(a8:∀W,ax 67 (cB (iT a b c O n T)) W fun e w'=>e=.returned (.tuple #[.iface 138 (.agg (bI a b)),.bool true])/\aj W w')(ap:∀W,aj w W->ax 230 (eY (.agg (bI a b)) p (ae v h A rows cap)) W (fp W Q))(a0:Q=true->∀W,aj w W->ax 231 (eY (.agg (bI a b)) p (ae v h A rows cap)) W fun e w'=>∃u,e=.returned (.agg (dz v' h' u))/\aI w' W.heap.size u EM/\aj W w')(be:cU w)(bm:EM.length<=maxLen)(bo:∀r∈EM,r.length<=maxLen):ax 34 (ew p (ae v h A rows cap) (iT a b c O n T)) w fun e w'=>Made v' h' EM (Q&&gg p v' h' EM) w e w':=by
 obtain⟨b0,a3,a4,a7,a5,a6⟩:=lq a8 ap a0 be bm bo;clear a8 ap a0 be bm bo;have cb:=uH (zI a) (zI b);have b3:=vN (zI a) (zI b);go_enter mw,mx
 go_upto_region 2 with(go_at_call 67;refine(b0.o _).mono ?_;rintro e cc ⟨rfl,F⟩)
 have bd:=(below_alloc3 w (.cells (ae v h A rows cap) 26) (.cells (iT a b c O n T) 29) (.cells aQ 26));obtain⟨br,b4,bv⟩:=cv w (.cells (ae v h A rows cap) 26) (.cells (iT a b c O n T) 29) (.cells aQ 26);have ao:=cp F br;have bp:=cp F bv;have bi:=bd.trans (F.mono (B':=w.heap.size) Sn);have b2:=F.size;simp only[cx]at b2;obtain⟨b7,b8,b9,_,_,_⟩:=dj ao;obtain⟨HB,b1,Z⟩:=dD bi ao bp;clear br b4 bv ao bp bi F bd;cases Q with
 |false=>
  clear a4 b3;go_wp2_with (go_at_call 230;refine(a3.o _ HB.o).mono ?_;rintro e bz ⟨rfl,z⟩;obtain⟨ab,ac,ad,a9,ba,bb⟩:=dj (cp z Z);have EE:=zH z;clear z)
  exact Za
 |true=>
  go_upto_region 4 with(go_at_call 230;refine(a3.o _ HB.o).mono ?_;rintro e bz ⟨rfl,z⟩;obtain⟨ab,ac,ad,_,_,_⟩:=dj (cp z b1);have EE:=zH z;clear z)
  have am:=HB.trans (EE.mono Ry);have ca:=EE.size;obtain⟨a2,a1⟩:=bL am (a4 RD bz am);clear am;cases R:gg p v' h' EM with
  |false=>
   have HS:=zH R;clear R;go_wp2_with (first|(go_at_call 231;refine a1.mono ?_;rintro e b5 ⟨u,rfl,E,B⟩;obtain⟨A3,c3,rfl,J,_,_⟩:=E.view;have H:=a2.trans (B.mono Ry);have U:=zH J;have HU:=zH E;have Eu:=zH B;have EK:=zH H;clear E B J H)|(go_at_call 68;refine(cS p v' h' A3 c3 EM _ (a7.ext EK) U.o a5 a6).mono ?_;rintro e b6 ⟨_,I,D⟩;obtain rfl:=I HS;clear I;obtain⟨ab,ac,ad,a9,ba,bb⟩:=dj (cp D (cp Eu (cp EE Z)));have ED:=zH D;clear D))
   exact Ze
  |true=>
   have HS:=zH R;clear R;go_wp2_with (first|(go_at_call 231;refine a1.mono ?_;rintro e b5 ⟨u,rfl,E,B⟩;obtain⟨A3,c3,rfl,J,_,_⟩:=E.view;have H:=a2.trans (B.mono Ry);have U:=zH J;have HU:=zH E;have Eu:=zH B;have EK:=zH H;clear E B J H)|(go_at_call 68;refine(cS p v' h' A3 c3 EM _ (a7.ext EK) U.o a5 a6).mono ?_;rintro e b6 ⟨I,_,D⟩;obtain rfl:=I HS;clear I;obtain⟨ab,ac,ad,a9,ba,bb⟩:=dj (cp D (cp Eu (cp EE Z)));have ED:=zH D;clear D))
   exact Zw
def uI(z:av)(B:av)(D:av)(w:aa):(method 347 140 (.agg #[z,B,D]) "loop.example/g01073/impl.can").run prog w=.ok (237,(.agg #[z,B,D])) w:=RU
def zc7(z:av)(B:av)(D:av)(w:aa):(nilAhead 347 140 (.agg #[z,B,D]) "loop.example/g01073/impl.can").run prog w=.ok (some false) w:=RU
def vO(z:av)(B:av)(D:av)(w:aa):(method 347 140 (.agg #[z,B,D]) "loop.example/g01073/impl.do").run prog w=.ok (238,(.agg #[z,B,D])) w:=RU
def zeC(z:av)(B:av)(D:av)(w:aa):(nilAhead 347 140 (.agg #[z,B,D]) "loop.example/g01073/impl.do").run prog w=.ok (some false) w:=RU
def rW(p v h v' h':Int)(A:aq)(cap:Nat)(rows EM:aC)(w:aa)(R:Bool)(a b c:Int)(z:aq)(n B:Nat)(a8:∀W,ax 67 (cB (kp a b c z n B)) W fun e w'=>e=.returned (.tuple #[.iface 140 (.agg (dp a b z n B)),.bool true])/\aj W w')(ap:∀W,aj w W->ax 237 (eY (.agg (dp a b z n B)) p (ae v h A rows cap)) W (fp W R))(a0:R=true->∀W,aj w W->ax 238 (eY (.agg (dp a b z n B)) p (ae v h A rows cap)) W fun e w'=>∃u,e=.returned (.agg (dz v' h' u))/\aI w' W.heap.size u EM/\aj W w')(be:cU w)(bm:EM.length<=maxLen)(bo:∀r∈EM,r.length<=maxLen):ax 34 (dI p (ae v h A rows cap) (kp a b c z n B)) w fun e w'=>Made v' h' EM (R&&gg p v' h' EM) w e w':=by
 obtain⟨b0,a3,a4,a7,a5,a6⟩:=lq a8 ap a0 be bm bo;clear a8 ap a0 be bm bo;have cb:=uI (zI a) (zI b) (.slice z n B);have b3:=vO (zI a) (zI b) (.slice z n B);go_enter mw,mx
 go_upto_region 2 with(go_at_call 67;refine(b0.o _).mono ?_;rintro e cc ⟨rfl,I⟩)
 have bd:=(below_alloc3 w (.cells (ae v h A rows cap) 26) (.cells (kp a b c z n B) 29) (.cells aQ 26));obtain⟨br,b4,bv⟩:=cv w (.cells (ae v h A rows cap) 26) (.cells (kp a b c z n B) 29) (.cells aQ 26);have ao:=cp I br;have bp:=cp I bv;have bi:=bd.trans (I.mono (B':=w.heap.size) Sn);have b2:=I.size;simp only[cx]at b2;obtain⟨b7,b8,b9,_,_,_⟩:=dj ao;obtain⟨HB,b1,Z⟩:=dD bi ao bp;clear br b4 bv ao bp bi I bd;cases R with
 |false=>
  clear a4 b3;go_wp2_with (go_at_call 237;refine(a3.o _ HB.o).mono ?_;rintro e bz ⟨rfl,D⟩;obtain⟨ab,ac,ad,a9,ba,bb⟩:=dj (cp D Z);have EE:=zH D;clear D)
  exact Za
 |true=>
  go_upto_region 4 with(go_at_call 237;refine(a3.o _ HB.o).mono ?_;rintro e bz ⟨rfl,D⟩;obtain⟨ab,ac,ad,_,_,_⟩:=dj (cp D b1);have EE:=zH D;clear D)
  have am:=HB.trans (EE.mono Ry);have ca:=EE.size;obtain⟨a2,a1⟩:=bL am (a4 RD bz am);clear am;cases T:gg p v' h' EM with
  |false=>
   have HS:=zH T;clear T;go_wp2_with (first|(go_at_call 238;refine a1.mono ?_;rintro e b5 ⟨u,rfl,H,E⟩;obtain⟨A3,c3,rfl,Q,_,_⟩:=H.view;have J:=a2.trans (E.mono Ry);have U:=zH Q;have HU:=zH H;have Eu:=zH E;have EK:=zH J;clear H E Q J)|(go_at_call 68;refine(cS p v' h' A3 c3 EM _ (a7.ext EK) U.o a5 a6).mono ?_;rintro e b6 ⟨_,O,F⟩;obtain rfl:=O HS;clear O;obtain⟨ab,ac,ad,a9,ba,bb⟩:=dj (cp F (cp Eu (cp EE Z)));have ED:=zH F;clear F))
   exact Ze
  |true=>
   have HS:=zH T;clear T;go_wp2_with (first|(go_at_call 238;refine a1.mono ?_;rintro e b5 ⟨u,rfl,H,E⟩;obtain⟨A3,c3,rfl,Q,_,_⟩:=H.view;have J:=a2.trans (E.mono Ry);have U:=zH Q;have HU:=zH H;have Eu:=zH E;have EK:=zH J;clear H E Q J)|(go_at_call 68;refine(cS p v' h' A3 c3 EM _ (a7.ext EK) U.o a5 a6).mono ?_;rintro e b6 ⟨O,_,F⟩;obtain rfl:=O HS;clear O;obtain⟨ab,ac,ad,a9,ba,bb⟩:=dj (cp F (cp Eu (cp EE Z)));have ED:=zH F;clear F))
   exact Zw
def tu(z:av)(w:aa):(method 347 142 (.agg #[z]) "loop.example/g01073/impl.can").run prog w=.ok (246,(.agg #[z])) w:=RU
def zb6(z:av)(w:aa):(nilAhead 347 142 (.agg #[z]) "loop.example/g01073/impl.can").run prog w=.ok (some false) w:=RU
def uJ(z:av)(w:aa):(method 347 142 (.agg #[z]) "loop.example/g01073/impl.do").run prog w=.ok (247,(.agg #[z])) w:=RU
def zc8(z:av)(w:aa):(nilAhead 347 142 (.agg #[z]) "loop.example/g01073/impl.do").run prog w=.ok (some false) w:=RU
def qU(p v h v' h':Int)(A:aq)(cap:Nat)(rows EM:aC)(w:aa)(Q:Bool)(a b c:Int)(O:aq)(n T:Nat)(a8:∀W,ax 67 (cB (ki a b c O n T)) W fun e w'=>e=.returned (.tuple #[.iface 142 (.agg (bc b)),.bool true])/\aj W w')(ap:∀W,aj w W->ax 246 (eY (.agg (bc b)) p (ae v h A rows cap)) W (fp W Q))(a0:Q=true->∀W,aj w W->ax 247 (eY (.agg (bc b)) p (ae v h A rows cap)) W fun e w'=>∃u,e=.returned (.agg (dz v' h' u))/\aI w' W.heap.size u EM/\aj W w')(be:cU w)(bm:EM.length<=maxLen)(bo:∀r∈EM,r.length<=maxLen):ax 34 (ew p (ae v h A rows cap) (ki a b c O n T)) w fun e w'=>Made v' h' EM (Q&&gg p v' h' EM) w e w':=by
 obtain⟨b0,a3,a4,a7,a5,a6⟩:=lq a8 ap a0 be bm bo;clear a8 ap a0 be bm bo;have cb:=tu (zI b);have b3:=uJ (zI b);go_enter mw,mx
 go_upto_region 2 with(go_at_call 67;refine(b0.o _).mono ?_;rintro e cc ⟨rfl,F⟩)
 have bd:=(below_alloc3 w (.cells (ae v h A rows cap) 26) (.cells (ki a b c O n T) 29) (.cells aQ 26));obtain⟨br,b4,bv⟩:=cv w (.cells (ae v h A rows cap) 26) (.cells (ki a b c O n T) 29) (.cells aQ 26);have ao:=cp F br;have bp:=cp F bv;have bi:=bd.trans (F.mono (B':=w.heap.size) Sn);have b2:=F.size;simp only[cx]at b2;obtain⟨b7,b8,b9,_,_,_⟩:=dj ao;obtain⟨HB,b1,Z⟩:=dD bi ao bp;clear br b4 bv ao bp bi F bd;cases Q with
 |false=>
  clear a4 b3;go_wp2_with (go_at_call 246;refine(a3.o _ HB.o).mono ?_;rintro e bz ⟨rfl,z⟩;obtain⟨ab,ac,ad,a9,ba,bb⟩:=dj (cp z Z);have EE:=zH z;clear z)
  exact Za
 |true=>
  go_upto_region 4 with(go_at_call 246;refine(a3.o _ HB.o).mono ?_;rintro e bz ⟨rfl,z⟩;obtain⟨ab,ac,ad,_,_,_⟩:=dj (cp z b1);have EE:=zH z;clear z)
  have am:=HB.trans (EE.mono Ry);have ca:=EE.size;obtain⟨a2,a1⟩:=bL am (a4 RD bz am);clear am;cases R:gg p v' h' EM with
  |false=>
   have HS:=zH R;clear R;go_wp2_with (first|(go_at_call 247;refine a1.mono ?_;rintro e b5 ⟨u,rfl,E,B⟩;obtain⟨A3,c3,rfl,J,_,_⟩:=E.view;have H:=a2.trans (B.mono Ry);have U:=zH J;have HU:=zH E;have Eu:=zH B;have EK:=zH H;clear E B J H)|(go_at_call 68;refine(cS p v' h' A3 c3 EM _ (a7.ext EK) U.o a5 a6).mono ?_;rintro e b6 ⟨_,I,D⟩;obtain rfl:=I HS;clear I;obtain⟨ab,ac,ad,a9,ba,bb⟩:=dj (cp D (cp Eu (cp EE Z)));have ED:=zH D;clear D))
   exact Ze
  |true=>
   have HS:=zH R;clear R;go_wp2_with (first|(go_at_call 247;refine a1.mono ?_;rintro e b5 ⟨u,rfl,E,B⟩;obtain⟨A3,c3,rfl,J,_,_⟩:=E.view;have H:=a2.trans (B.mono Ry);have U:=zH J;have HU:=zH E;have Eu:=zH B;have EK:=zH H;clear E B J H)|(go_at_call 68;refine(cS p v' h' A3 c3 EM _ (a7.ext EK) U.o a5 a6).mono ?_;rintro e b6 ⟨I,_,D⟩;obtain rfl:=I HS;clear I;obtain⟨ab,ac,ad,a9,ba,bb⟩:=dj (cp D (cp Eu (cp EE Z)));have ED:=zH D;clear D))
   exact Zw
def tv(z:av)(w:aa):(method 347 143 (.agg #[z]) "loop.example/g01073/impl.can").run prog w=.ok (249,(.agg #[z])) w:=RU
def zb7(z:av)(w:aa):(nilAhead 347 143 (.agg #[z]) "loop.example/g01073/impl.can").run prog w=.ok (some false) w:=RU
def uL(z:av)(w:aa):(method 347 143 (.agg #[z]) "loop.example/g01073/impl.do").run prog w=.ok (250,(.agg #[z])) w:=RU
def zc9(z:av)(w:aa):(nilAhead 347 143 (.agg #[z]) "loop.example/g01073/impl.do").run prog w=.ok (some false) w:=RU
def qV(p v h v' h':Int)(A:aq)(cap:Nat)(rows EM:aC)(w:aa)(Q:Bool)(a b c:Int)(O:aq)(n T:Nat)(a8:∀W,ax 67 (cB (kq a b c O n T)) W fun e w'=>e=.returned (.tuple #[.iface 143 (.agg (bc b)),.bool true])/\aj W w')(ap:∀W,aj w W->ax 249 (eY (.agg (bc b)) p (ae v h A rows cap)) W (fp W Q))(a0:Q=true->∀W,aj w W->ax 250 (eY (.agg (bc b)) p (ae v h A rows cap)) W fun e w'=>∃u,e=.returned (.agg (dz v' h' u))/\aI w' W.heap.size u EM/\aj W w')(be:cU w)(bm:EM.length<=maxLen)(bo:∀r∈EM,r.length<=maxLen):ax 34 (dI p (ae v h A rows cap) (kq a b c O n T)) w fun e w'=>Made v' h' EM (Q&&gg p v' h' EM) w e w':=by
 obtain⟨b0,a3,a4,a7,a5,a6⟩:=lq a8 ap a0 be bm bo;clear a8 ap a0 be bm bo;have cb:=tv (zI b);have b3:=uL (zI b);go_enter mw,mx
 go_upto_region 2 with(go_at_call 67;refine(b0.o _).mono ?_;rintro e cc ⟨rfl,F⟩)
 have bd:=(below_alloc3 w (.cells (ae v h A rows cap) 26) (.cells (kq a b c O n T) 29) (.cells aQ 26));obtain⟨br,b4,bv⟩:=cv w (.cells (ae v h A rows cap) 26) (.cells (kq a b c O n T) 29) (.cells aQ 26);have ao:=cp F br;have bp:=cp F bv;have bi:=bd.trans (F.mono (B':=w.heap.size) Sn);have b2:=F.size;simp only[cx]at b2;obtain⟨b7,b8,b9,_,_,_⟩:=dj ao;obtain⟨HB,b1,Z⟩:=dD bi ao bp;clear br b4 bv ao bp bi F bd;cases Q with
 |false=>
  clear a4 b3;go_wp2_with (go_at_call 249;refine(a3.o _ HB.o).mono ?_;rintro e bz ⟨rfl,z⟩;obtain⟨ab,ac,ad,a9,ba,bb⟩:=dj (cp z Z);have EE:=zH z;clear z)
  exact Za
 |true=>
  go_upto_region 4 with(go_at_call 249;refine(a3.o _ HB.o).mono ?_;rintro e bz ⟨rfl,z⟩;obtain⟨ab,ac,ad,_,_,_⟩:=dj (cp z b1);have EE:=zH z;clear z)
  have am:=HB.trans (EE.mono Ry);have ca:=EE.size;obtain⟨a2,a1⟩:=bL am (a4 RD bz am);clear am;cases R:gg p v' h' EM with
  |false=>
   have HS:=zH R;clear R;go_wp2_with (first|(go_at_call 250;refine a1.mono ?_;rintro e b5 ⟨u,rfl,E,B⟩;obtain⟨A3,c3,rfl,J,_,_⟩:=E.view;have H:=a2.trans (B.mono Ry);have U:=zH J;have HU:=zH E;have Eu:=zH B;have EK:=zH H;clear E B J H)|(go_at_call 68;refine(cS p v' h' A3 c3 EM _ (a7.ext EK) U.o a5 a6).mono ?_;rintro e b6 ⟨_,I,D⟩;obtain rfl:=I HS;clear I;obtain⟨ab,ac,ad,a9,ba,bb⟩:=dj (cp D (cp Eu (cp EE Z)));have ED:=zH D;clear D))
   exact Ze
  |true=>
   have HS:=zH R;clear R;go_wp2_with (first|(go_at_call 250;refine a1.mono ?_;rintro e b5 ⟨u,rfl,E,B⟩;obtain⟨A3,c3,rfl,J,_,_⟩:=E.view;have H:=a2.trans (B.mono Ry);have U:=zH J;have HU:=zH E;have Eu:=zH B;have EK:=zH H;clear E B J H)|(go_at_call 68;refine(cS p v' h' A3 c3 EM _ (a7.ext EK) U.o a5 a6).mono ?_;rintro e b6 ⟨I,_,D⟩;obtain rfl:=I HS;clear I;obtain⟨ab,ac,ad,a9,ba,bb⟩:=dj (cp D (cp Eu (cp EE Z)));have ED:=zH D;clear D))
   exact Zw
end Go.Proofs.YtdpgblncijojiaaGreatDoor
