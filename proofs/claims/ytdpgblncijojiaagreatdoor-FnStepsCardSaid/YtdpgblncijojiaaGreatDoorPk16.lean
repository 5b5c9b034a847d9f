/- Parts of the walks. Conditions: as stated with each. -/
import Derived.Test.YtdpgblncijojiaaGreatDoorPk15
namespace Go.Proofs.YtdpgblncijojiaaGreatDoor
open Go.RowKit Tryz
set_option linter.all false
set_option maxHeartbeats 4000000
set_option maxRecDepth 20000
variable{A3:an}{D c3:Nat}{H R U:au}{Rw Y:aE}{T:dG}{W w w':aa}{e:Ending}{h':Int}
def cL{g:Nat}(h:aU W g #[H,R,U] T):ah W g 0 H/\ah W g 1 R/\ah W g 2 U/\W.frozen? ⟨g,0,none⟩=false/\W.frozen? ⟨g,1,none⟩=false/\W.frozen? ⟨g,2,none⟩=false:=⟨aW h 0,aW h 1,aW h 2,aP h 0,aP h 1,aP h 2⟩
def Made(v' h':Int)(D:aE)(ok:Bool)(w:aa)(e:Ending)(w':aa):Prop:=
 ∃(v2 z:Int) (A2:an) (n2 c2:Nat),e=.returned (.tuple (lP (dj v2 z A2 n2 c2) ok))/\(ok=true->v2=v'/\z=h'/\aJ w' w (.slice A2 n2 c2) D)/\(ok=false->v2=0/\z=0/\A2=none/\n2=0/\c2=0)/\ai w w'
def Made.no{v':Int}{ok:Bool}(h:ok=false)(D:e=.returned (.tuple (dy aQ)))(z:ai w w'):Made v' h' Y ok w e w':=by subst h;exact⟨0,0,none,0,0,D,fun h=>RZ,fun _=>⟨rfl,rfl,rfl,rfl,rfl⟩,z⟩
def Made.yes{v':Int}{ok:Bool}(h:ok=true)(E:e=.returned (.tuple (dN (dj v' h' A3 D c3))))(F:aJ w' w (.slice A3 D c3) Y)(z:ai w w'):Made v' h' Y ok w e w':=by subst h;exact⟨v',h',A3,D,c3,E,fun _=>⟨rfl,rfl,F⟩,fun h=>RZ,z⟩
def Made.none{v1 z v':Int}{ok1 ok:Bool}(m:Made v1 z Y ok1 w e w')(z:ok1=false)(h:ok=false):Made v' h' Rw ok w e w':=by subst z;subst h;obtain⟨v2,H,A2,n2,c2,E,_,F,D⟩:=m;obtain⟨rfl,rfl,rfl,rfl,rfl⟩:=F rfl;exact Made.no rfl E D
def Made.same{v':Int}{ok1 ok:Bool}(m:Made v' h' Y ok1 w e w')(h:ok1=ok):Made v' h' Y ok w e w':=h ▸ m
def uM(z:au)(D:au)(w:aa):(method 347 130 (.agg #[z,D]) "loop.example/g01073/impl.can").run prog w=.ok (206,(.agg #[z,D])) w:=Si
def zdW(z:au)(D:au)(w:aa):(nilAhead 347 130 (.agg #[z,D]) "loop.example/g01073/impl.can").run prog w=.ok (some false) w:=Si
def wu(z:au)(D:au)(w:aa):(method 347 130 (.agg #[z,D]) "loop.example/g01073/impl.do").run prog w=.ok (207,(.agg #[z,D])) w:=Si
def zem(z:au)(D:au)(w:aa):(nilAhead 347 130 (.agg #[z,D]) "loop.example/g01073/impl.do").run prog w=.ok (some false) w:=Si
def sW(p v h v' h':Int)(A:an)(cap:Nat)(rows EG:aE)(w:aa)(R:Bool)(a b c:Int)(Q:an)(n Y:Nat)(a9:∀W,aw 67 (cJ (j8 a b c Q n Y)) W fun e w'=>e=.returned (.tuple #[.iface 130 (.agg (bP a b)),.bool true])/\ai W w')(a0:∀W,ai w W->aw 206 (eZ (.agg (bP a b)) p (ae v h A rows cap)) W (fC W R))(a1:R=true->∀W,ai w W->aw 207 (eZ (.agg (bP a b)) p (ae v h A rows cap)) W fun e w'=>∃u,e=.returned (.agg (dE v' h' u))/\aJ w' W.heap.size u EG/\ai W w')(bi:dm w)(bo:EG.length<=maxLen)(bp:∀r∈EG,r.length<=maxLen):aw 34 (dR p (ae v h A rows cap) (j8 a b c Q n Y)) w fun e w'=>Made v' h' EG (R&&fZ p v' h' EG) w e w':=by
 obtain⟨b1,a4,a5,a8,a6,a7⟩:=mA a9 a0 a1 bi bo bp;clear a9 a0 a1 bi bo bp;have cc:=uM (zI a) (zI b);have b4:=wu (zI a) (zI b);go_enter lX,lY
 go_upto_region 2 with(go_at_call 67;refine(b1.o _).mono ?_;rintro e ce ⟨rfl,H⟩)
 have be:=(below_alloc3 w (.cells (ae v h A rows cap) 26) (.cells (j8 a b c Q n Y) 29) (.cells aQ 26));obtain⟨bv,b5,bz⟩:=cA w (.cells (ae v h A rows cap) 26) (.cells (j8 a b c Q n Y) 29) (.cells aQ 26);have ap:=cD H bv;have br:=cD H bz;have bm:=be.trans (H.mono (B':=w.heap.size) SJ);have b3:=H.size;simp only[cg]at b3;obtain⟨b8,b9,ca,_,_,_⟩:=cL ap;obtain⟨HB,b2,ab⟩:=d_ bm ap br;clear bv b5 bz ap br bm H be;cases R with
 |false=>
  clear a5 b4;go_wp2_with (go_at_call 206;refine(a4.o _ HB.o).mono ?_;rintro e b0 ⟨rfl,z⟩;obtain⟨ac,ad,am,ba,bb,bd⟩:=cL (cD z ab);have Ex:=zH z;clear z)
  exact Zh
 |true=>
  go_upto_region 4 with(go_at_call 206;refine(a4.o _ HB.o).mono ?_;rintro e b0 ⟨rfl,z⟩;obtain⟨ac,ad,am,_,_,_⟩:=cL (cD z b2);have Ex:=zH z;clear z)
  have ao:=HB.trans (Ex.mono RU);have cb:=Ex.size;obtain⟨a3,a2⟩:=bS ao (a5 RY b0 ao);clear ao;cases U:fZ p v' h' EG with
  |false=>
   have HS:=zH U;clear U;go_wp2_with (first|(go_at_call 207;refine a2.mono ?_;rintro e b6 ⟨u,rfl,F,D⟩;obtain⟨A3,c3,rfl,O,_,_⟩:=F.view;have I:=a3.trans (D.mono RU);have Z:=zH O;have HU:=zH F;have Er:=zH D;have EF:=zH I;clear F D O I)|(go_at_call 68;refine(cY p v' h' A3 c3 EG _ (a8.ext EF) Z.o a6 a7).mono ?_;rintro e b7 ⟨_,J,E⟩;obtain rfl:=J HS;clear J;obtain⟨ac,ad,am,ba,bb,bd⟩:=cL (cD E (cD Er (cD Ex ab)));have Ey:=zH E;clear E))
   exact Zj
  |true=>
   have HS:=zH U;clear U;go_wp2_with (first|(go_at_call 207;refine a2.mono ?_;rintro e b6 ⟨u,rfl,F,D⟩;obtain⟨A3,c3,rfl,O,_,_⟩:=F.view;have I:=a3.trans (D.mono RU);have Z:=zH O;have HU:=zH F;have Er:=zH D;have EF:=zH I;clear F D O I)|(go_at_call 68;refine(cY p v' h' A3 c3 EG _ (a8.ext EF) Z.o a6 a7).mono ?_;rintro e b7 ⟨J,_,E⟩;obtain rfl:=J HS;clear J;obtain⟨ac,ad,am,ba,bb,bd⟩:=cL (cD E (cD Er (cD Ex ab)));have Ey:=zH E;clear E))
   exact Zy
def tt(z:au)(D:au)(w:aa):(method 347 132 (.agg #[z,D]) "loop.example/g01073/impl.can").run prog w=.ok (210,(.agg #[z,D])) w:=Si
def zct(z:au)(D:au)(w:aa):(nilAhead 347 132 (.agg #[z,D]) "loop.example/g01073/impl.can").run prog w=.ok (some false) w:=Si
def uN(z:au)(D:au)(w:aa):(method 347 132 (.agg #[z,D]) "loop.example/g01073/impl.do").run prog w=.ok (211,(.agg #[z,D])) w:=Si
def zdX(z:au)(D:au)(w:aa):(nilAhead 347 132 (.agg #[z,D]) "loop.example/g01073/impl.do").run prog w=.ok (some false) w:=Si
def re(p v h v' h':Int)(A:an)(cap:Nat)(rows EG:aE)(w:aa)(R:Bool)(a b c:Int)(Q:an)(n Y:Nat)(a9:∀W,aw 67 (cJ (kd a b c Q n Y)) W fun e w'=>e=.returned (.tuple #[.iface 132 (.agg (bP a c)),.bool true])/\ai W w')(a0:∀W,ai w W->aw 210 (eZ (.agg (bP a c)) p (ae v h A rows cap)) W (fC W R))(a1:R=true->∀W,ai w W->aw 211 (eZ (.agg (bP a c)) p (ae v h A rows cap)) W fun e w'=>∃u,e=.returned (.agg (dE v' h' u))/\aJ w' W.heap.size u EG/\ai W w')(bi:dm w)(bo:EG.length<=maxLen)(bp:∀r∈EG,r.length<=maxLen):aw 34 #[p,.agg (ae v h A rows cap),.agg (kd a b c Q n Y)] w fun e w'=>Made v' h' EG (R&&fZ p v' h' EG) w e w':=by
 obtain⟨b1,a4,a5,a8,a6,a7⟩:=mA a9 a0 a1 bi bo bp;clear a9 a0 a1 bi bo bp;have cc:=tt (zI a) (zI c);have b4:=uN (zI a) (zI c);go_enter lX,lY
 go_upto_region 2 with(go_at_call 67;refine(b1.o _).mono ?_;rintro e ce ⟨rfl,H⟩)
 have be:=(below_alloc3 w (.cells (ae v h A rows cap) 26) (.cells (kd a b c Q n Y) 29) (.cells aQ 26));obtain⟨bv,b5,bz⟩:=cA w (.cells (ae v h A rows cap) 26) (.cells (kd a b c Q n Y) 29) (.cells aQ 26);have ap:=cD H bv;have br:=cD H bz;have bm:=be.trans (H.mono (B':=w.heap.size) SJ);have b3:=H.size;simp only[cg]at b3;obtain⟨b8,b9,ca,_,_,_⟩:=cL ap;obtain⟨HB,b2,ab⟩:=d_ bm ap br;clear bv b5 bz ap br bm H be;cases R with
 |false=>
  clear a5 b4;go_wp2_with (go_at_call 210;refine(a4.o _ HB.o).mono ?_;rintro e b0 ⟨rfl,z⟩;obtain⟨ac,ad,am,ba,bb,bd⟩:=cL (cD z ab);have Ex:=zH z;clear z)
  exact Zh
 |true=>
  go_upto_region 4 with(go_at_call 210;refine(a4.o _ HB.o).mono ?_;rintro e b0 ⟨rfl,z⟩;obtain⟨ac,ad,am,_,_,_⟩:=cL (cD z b2);have Ex:=zH z;clear z)
  have ao:=HB.trans (Ex.mono RU);have cb:=Ex.size;obtain⟨a3,a2⟩:=bS ao (a5 RY b0 ao);clear ao;cases U:fZ p v' h' EG with
  |false=>
   have HS:=zH U;clear U;go_wp2_with (first|(go_at_call 211;refine a2.mono ?_;rintro e b6 ⟨u,rfl,F,D⟩;obtain⟨A3,c3,rfl,O,_,_⟩:=F.view;have I:=a3.trans (D.mono RU);have Z:=zH O;have HU:=zH F;have Er:=zH D;have EF:=zH I;clear F D O I)|(go_at_call 68;refine(cY p v' h' A3 c3 EG _ (a8.ext EF) Z.o a6 a7).mono ?_;rintro e b7 ⟨_,J,E⟩;obtain rfl:=J HS;clear J;obtain⟨ac,ad,am,ba,bb,bd⟩:=cL (cD E (cD Er (cD Ex ab)));have Ey:=zH E;clear E))
   exact Zj
  |true=>
   have HS:=zH U;clear U;go_wp2_with (first|(go_at_call 211;refine a2.mono ?_;rintro e b6 ⟨u,rfl,F,D⟩;obtain⟨A3,c3,rfl,O,_,_⟩:=F.view;have I:=a3.trans (D.mono RU);have Z:=zH O;have HU:=zH F;have Er:=zH D;have EF:=zH I;clear F D O I)|(go_at_call 68;refine(cY p v' h' A3 c3 EG _ (a8.ext EF) Z.o a6 a7).mono ?_;rintro e b7 ⟨J,_,E⟩;obtain rfl:=J HS;clear J;obtain⟨ac,ad,am,ba,bb,bd⟩:=cL (cD E (cD Er (cD Ex ab)));have Ey:=zH E;clear E))
   exact Zy
def wv(z:au)(D:au)(E:au)(w:aa):(method 347 134 (.agg #[z,D,E]) "loop.example/g01073/impl.can").run prog w=.ok (213,(.agg #[z,D,E])) w:=Si
def zen(z:au)(D:au)(E:au)(w:aa):(nilAhead 347 134 (.agg #[z,D,E]) "loop.example/g01073/impl.can").run prog w=.ok (some false) w:=Si
def xn(z:au)(D:au)(E:au)(w:aa):(method 347 134 (.agg #[z,D,E]) "loop.example/g01073/impl.do").run prog w=.ok (214,(.agg #[z,D,E])) w:=Si
def zfV(z:au)(D:au)(E:au)(w:aa):(nilAhead 347 134 (.agg #[z,D,E]) "loop.example/g01073/impl.do").run prog w=.ok (some false) w:=Si
def uO(p v h v' h':Int)(A:an)(cap:Nat)(rows EG:aE)(w:aa)(R:Bool)(a b c:Int)(Q:an)(n Y:Nat)(a9:∀W,aw 67 (cJ (j7 a b c Q n Y)) W fun e w'=>e=.returned (.tuple #[.iface 134 (.agg (fB a b c)),.bool true])/\ai W w')(a0:∀W,ai w W->aw 213 (eZ (.agg (fB a b c)) p (ae v h A rows cap)) W (fC W R))(a1:R=true->∀W,ai w W->aw 214 (eZ (.agg (fB a b c)) p (ae v h A rows cap)) W fun e w'=>∃u,e=.returned (.agg (dE v' h' u))/\aJ w' W.heap.size u EG/\ai W w')(bi:dm w)(bo:EG.length<=maxLen)(bp:∀r∈EG,r.length<=maxLen):aw 34 (dR p (ae v h A rows cap) (j7 a b c Q n Y)) w fun e w'=>Made v' h' EG (R&&fZ p v' h' EG) w e w':=by
 obtain⟨b1,a4,a5,a8,a6,a7⟩:=mA a9 a0 a1 bi bo bp;clear a9 a0 a1 bi bo bp;have cc:=wv (zI a) (zI b) (zI c);have b4:=xn (zI a) (zI b) (zI c);go_enter lX,lY
 go_upto_region 2 with(go_at_call 67;refine(b1.o _).mono ?_;rintro e ce ⟨rfl,H⟩)
 have be:=(below_alloc3 w (.cells (ae v h A rows cap) 26) (.cells (j7 a b c Q n Y) 29) (.cells aQ 26));obtain⟨bv,b5,bz⟩:=cA w (.cells (ae v h A rows cap) 26) (.cells (j7 a b c Q n Y) 29) (.cells aQ 26);have ap:=cD H bv;have br:=cD H bz;have bm:=be.trans (H.mono (B':=w.heap.size) SJ);have b3:=H.size;simp only[cg]at b3;obtain⟨b8,b9,ca,_,_,_⟩:=cL ap;obtain⟨HB,b2,ab⟩:=d_ bm ap br;clear bv b5 bz ap br bm H be;cases R with
 |false=>
  clear a5 b4;go_wp2_with (go_at_call 213;refine(a4.o _ HB.o).mono ?_;rintro e b0 ⟨rfl,z⟩;obtain⟨ac,ad,am,ba,bb,bd⟩:=cL (cD z ab);have Ex:=zH z;clear z)
  exact Zh
 |true=>
  go_upto_region 4 with(go_at_call 213;refine(a4.o _ HB.o).mono ?_;rintro e b0 ⟨rfl,z⟩;obtain⟨ac,ad,am,_,_,_⟩:=cL (cD z b2);have Ex:=zH z;clear z)
  have ao:=HB.trans (Ex.mono RU);have cb:=Ex.size;obtain⟨a3,a2⟩:=bS ao (a5 RY b0 ao);clear ao;cases U:fZ p v' h' EG with
  |false=>
   have HS:=zH U;clear U;go_wp2_with (first|(go_at_call 214;refine a2.mono ?_;rintro e b6 ⟨u,rfl,F,D⟩;obtain⟨A3,c3,rfl,O,_,_⟩:=F.view;have I:=a3.trans (D.mono RU);have Z:=zH O;have HU:=zH F;have Er:=zH D;have EF:=zH I;clear F D O I)|(go_at_call 68;refine(cY p v' h' A3 c3 EG _ (a8.ext EF) Z.o a6 a7).mono ?_;rintro e b7 ⟨_,J,E⟩;obtain rfl:=J HS;clear J;obtain⟨ac,ad,am,ba,bb,bd⟩:=cL (cD E (cD Er (cD Ex ab)));have Ey:=zH E;clear E))
   exact Zj
  |true=>
   have HS:=zH U;clear U;go_wp2_with (first|(go_at_call 214;refine a2.mono ?_;rintro e b6 ⟨u,rfl,F,D⟩;obtain⟨A3,c3,rfl,O,_,_⟩:=F.view;have I:=a3.trans (D.mono RU);have Z:=zH O;have HU:=zH F;have Er:=zH D;have EF:=zH I;clear F D O I)|(go_at_call 68;refine(cY p v' h' A3 c3 EG _ (a8.ext EF) Z.o a6 a7).mono ?_;rintro e b7 ⟨J,_,E⟩;obtain rfl:=J HS;clear J;obtain⟨ac,ad,am,ba,bb,bd⟩:=cL (cD E (cD Er (cD Ex ab)));have Ey:=zH E;clear E))
   exact Zy
def uP(z:au)(w:aa):(method 347 136 (.agg #[z]) "loop.example/g01073/impl.can").run prog w=.ok (216,(.agg #[z])) w:=Si
def zdY(z:au)(w:aa):(nilAhead 347 136 (.agg #[z]) "loop.example/g01073/impl.can").run prog w=.ok (some false) w:=Si
def wA(z:au)(w:aa):(method 347 136 (.agg #[z]) "loop.example/g01073/impl.do").run prog w=.ok (217,(.agg #[z])) w:=Si
def zeo(z:au)(w:aa):(nilAhead 347 136 (.agg #[z]) "loop.example/g01073/impl.do").run prog w=.ok (some false) w:=Si
def sX(p v h v' h':Int)(A:an)(cap:Nat)(rows EG:aE)(w:aa)(R:Bool)(a b c:Int)(Q:an)(n Y:Nat)(a9:∀W,aw 67 (cJ (j9 a b c Q n Y)) W fun e w'=>e=.returned (.tuple #[.iface 136 (.agg (bg a)),.bool true])/\ai W w')(a0:∀W,ai w W->aw 216 (eZ (.agg (bg a)) p (ae v h A rows cap)) W (fC W R))(a1:R=true->∀W,ai w W->aw 217 (eZ (.agg (bg a)) p (ae v h A rows cap)) W fun e w'=>∃u,e=.returned (.agg (dE v' h' u))/\aJ w' W.heap.size u EG/\ai W w')(bi:dm w)(bo:EG.length<=maxLen)(bp:∀r∈EG,r.length<=maxLen):aw 34 (dR p (ae v h A rows cap) (j9 a b c Q n Y)) w fun e w'=>Made v' h' EG (R&&fZ p v' h' EG) w e w':=by
 obtain⟨b1,a4,a5,a8,a6,a7⟩:=mA a9 a0 a1 bi bo bp;clear a9 a0 a1 bi bo bp;have cc:=uP (zI a);have b4:=wA (zI a);go_enter lX,lY
 go_upto_region 2 with(go_at_call 67;refine(b1.o _).mono ?_;rintro e ce ⟨rfl,H⟩)
 have be:=(below_alloc3 w (.cells (ae v h A rows cap) 26) (.cells (j9 a b c Q n Y) 29) (.cells aQ 26));obtain⟨bv,b5,bz⟩:=cA w (.cells (ae v h A rows cap) 26) (.cells (j9 a b c Q n Y) 29) (.cells aQ 26);have ap:=cD H bv;have br:=cD H bz;have bm:=be.trans (H.mono (B':=w.heap.size) SJ);have b3:=H.size;simp only[cg]at b3;obtain⟨b8,b9,ca,_,_,_⟩:=cL ap;obtain⟨HB,b2,ab⟩:=d_ bm ap br;clear bv b5 bz ap br bm H be;cases R with
 |false=>
  clear a5 b4;go_wp2_with (go_at_call 216;refine(a4.o _ HB.o).mono ?_;rintro e b0 ⟨rfl,z⟩;obtain⟨ac,ad,am,ba,bb,bd⟩:=cL (cD z ab);have Ex:=zH z;clear z)
  exact Zh
 |true=>
  go_upto_region 4 with(go_at_call 216;refine(a4.o _ HB.o).mono ?_;rintro e b0 ⟨rfl,z⟩;obtain⟨ac,ad,am,_,_,_⟩:=cL (cD z b2);have Ex:=zH z;clear z)
  have ao:=HB.trans (Ex.mono RU);have cb:=Ex.size;obtain⟨a3,a2⟩:=bS ao (a5 RY b0 ao);clear ao;cases U:fZ p v' h' EG with
  |false=>
   have HS:=zH U;clear U;go_wp2_with (first|(go_at_call 217;refine a2.mono ?_;rintro e b6 ⟨u,rfl,F,D⟩;obtain⟨A3,c3,rfl,O,_,_⟩:=F.view;have I:=a3.trans (D.mono RU);have Z:=zH O;have HU:=zH F;have Er:=zH D;have EF:=zH I;clear F D O I)|(go_at_call 68;refine(cY p v' h' A3 c3 EG _ (a8.ext EF) Z.o a6 a7).mono ?_;rintro e b7 ⟨_,J,E⟩;obtain rfl:=J HS;clear J;obtain⟨ac,ad,am,ba,bb,bd⟩:=cL (cD E (cD Er (cD Ex ab)));have Ey:=zH E;clear E))
   exact Zj
  |true=>
   have HS:=zH U;clear U;go_wp2_with (first|(go_at_call 217;refine a2.mono ?_;rintro e b6 ⟨u,rfl,F,D⟩;obtain⟨A3,c3,rfl,O,_,_⟩:=F.view;have I:=a3.trans (D.mono RU);have Z:=zH O;have HU:=zH F;have Er:=zH D;have EF:=zH I;clear F D O I)|(go_at_call 68;refine(cY p v' h' A3 c3 EG _ (a8.ext EF) Z.o a6 a7).mono ?_;rintro e b7 ⟨J,_,E⟩;obtain rfl:=J HS;clear J;obtain⟨ac,ad,am,ba,bb,bd⟩:=cL (cD E (cD Er (cD Ex ab)));have Ey:=zH E;clear E))
   exact Zy
def wB(z:au)(w:aa):(method 347 137 (.agg #[z]) "loop.example/g01073/impl.can").run prog w=.ok (222,(.agg #[z])) w:=Si
def zep(z:au)(w:aa):(nilAhead 347 137 (.agg #[z]) "loop.example/g01073/impl.can").run prog w=.ok (some false) w:=Si
def xo(z:au)(w:aa):(method 347 137 (.agg #[z]) "loop.example/g01073/impl.do").run prog w=.ok (223,(.agg #[z])) w:=Si
def zfW(z:au)(w:aa):(nilAhead 347 137 (.agg #[z]) "loop.example/g01073/impl.do").run prog w=.ok (some false) w:=Si
def uQ(p v h v' h':Int)(A:an)(cap:Nat)(rows EG:aE)(w:aa)(R:Bool)(a b c:Int)(Q:an)(n Y:Nat)(a9:∀W,aw 67 (cJ (j_ a b c Q n Y)) W fun e w'=>e=.returned (.tuple #[.iface 137 (.agg (bg a)),.bool true])/\ai W w')(a0:∀W,ai w W->aw 222 (eZ (.agg (bg a)) p (ae v h A rows cap)) W (fC W R))(a1:R=true->∀W,ai w W->aw 223 (eZ (.agg (bg a)) p (ae v h A rows cap)) W fun e w'=>∃u,e=.returned (.agg (dE v' h' u))/\aJ w' W.heap.size u EG/\ai W w')(bi:dm w)(bo:EG.length<=maxLen)(bp:∀r∈EG,r.length<=maxLen):aw 34 (dR p (ae v h A rows cap) (j_ a b c Q n Y)) w fun e w'=>Made v' h' EG (R&&fZ p v' h' EG) w e w':=by
 obtain⟨b1,a4,a5,a8,a6,a7⟩:=mA a9 a0 a1 bi bo bp;clear a9 a0 a1 bi bo bp;have cc:=wB (zI a);have b4:=xo (zI a);go_enter lX,lY
 go_upto_region 2 with(go_at_call 67;refine(b1.o _).mono ?_;rintro e ce ⟨rfl,H⟩)
 have be:=(below_alloc3 w (.cells (ae v h A rows cap) 26) (.cells (j_ a b c Q n Y) 29) (.cells aQ 26));obtain⟨bv,b5,bz⟩:=cA w (.cells (ae v h A rows cap) 26) (.cells (j_ a b c Q n Y) 29) (.cells aQ 26);have ap:=cD H bv;have br:=cD H bz;have bm:=be.trans (H.mono (B':=w.heap.size) SJ);have b3:=H.size;simp only[cg]at b3;obtain⟨b8,b9,ca,_,_,_⟩:=cL ap;obtain⟨HB,b2,ab⟩:=d_ bm ap br;clear bv b5 bz ap br bm H be;cases R with
 |false=>
  clear a5 b4;go_wp2_with (go_at_call 222;refine(a4.o _ HB.o).mono ?_;rintro e b0 ⟨rfl,z⟩;obtain⟨ac,ad,am,ba,bb,bd⟩:=cL (cD z ab);have Ex:=zH z;clear z)
  exact Zh
 |true=>
  go_upto_region 4 with(go_at_call 222;refine(a4.o _ HB.o).mono ?_;rintro e b0 ⟨rfl,z⟩;obtain⟨ac,ad,am,_,_,_⟩:=cL (cD z b2);have Ex:=zH z;clear z)
  have ao:=HB.trans (Ex.mono RU);have cb:=Ex.size;obtain⟨a3,a2⟩:=bS ao (a5 RY b0 ao);clear ao;cases U:fZ p v' h' EG with
  |false=>
   have HS:=zH U;clear U;go_wp2_with (first|(go_at_call 223;refine a2.mono ?_;rintro e b6 ⟨u,rfl,F,D⟩;obtain⟨A3,c3,rfl,O,_,_⟩:=F.view;have I:=a3.trans (D.mono RU);have Z:=zH O;have HU:=zH F;have Er:=zH D;have EF:=zH I;clear F D O I)|(go_at_call 68;refine(cY p v' h' A3 c3 EG _ (a8.ext EF) Z.o a6 a7).mono ?_;rintro e b7 ⟨_,J,E⟩;obtain rfl:=J HS;clear J;obtain⟨ac,ad,am,ba,bb,bd⟩:=cL (cD E (cD Er (cD Ex ab)));have Ey:=zH E;clear E))
   exact Zj
  |true=>
   have HS:=zH U;clear U;go_wp2_with (first|(go_at_call 223;refine a2.mono ?_;rintro e b6 ⟨u,rfl,F,D⟩;obtain⟨A3,c3,rfl,O,_,_⟩:=F.view;have I:=a3.trans (D.mono RU);have Z:=zH O;have HU:=zH F;have Er:=zH D;have EF:=zH I;clear F D O I)|(go_at_call 68;refine(cY p v' h' A3 c3 EG _ (a8.ext EF) Z.o a6 a7).mono ?_;rintro e b7 ⟨J,_,E⟩;obtain rfl:=J HS;clear J;obtain⟨ac,ad,am,ba,bb,bd⟩:=cL (cD E (cD Er (cD Ex ab)));have Ey:=zH E;clear E))
   exact Zy
def tu(z:au)(D:au)(w:aa):(method 347 138 (.agg #[z,D]) "loop.example/g01073/impl.can").run prog w=.ok (230,(.agg #[z,D])) w:=Si
def zcu(z:au)(D:au)(w:aa):(nilAhead 347 138 (.agg #[z,D]) "loop.example/g01073/impl.can").run prog w=.ok (some false) w:=Si
def uS(z:au)(D:au)(w:aa):(method 347 138 (.agg #[z,D]) "loop.example/g01073/impl.do").run prog w=.ok (231,(.agg #[z,D])) w:=Si
def zdZ(z:au)(D:au)(w:aa):(nilAhead 347 138 (.agg #[z,D]) "loop.example/g01073/impl.do").run prog w=.ok (some false) w:=Si
def rf(p v h v' h':Int)(A:an)(cap:Nat)(rows EG:aE)(w:aa)(R:Bool)(a b c:Int)(Q:an)(n Y:Nat)(a9:∀W,aw 67 (cJ (iT a b c Q n Y)) W fun e w'=>e=.returned (.tuple #[.iface 138 (.agg (bP a b)),.bool true])/\ai W w')(a0:∀W,ai w W->aw 230 (eZ (.agg (bP a b)) p (ae v h A rows cap)) W (fC W R))(a1:R=true->∀W,ai w W->aw 231 (eZ (.agg (bP a b)) p (ae v h A rows cap)) W fun e w'=>∃u,e=.returned (.agg (dE v' h' u))/\aJ w' W.heap.size u EG/\ai W w')(bi:dm w)(bo:EG.length<=maxLen)(bp:∀r∈EG,r.length<=maxLen):aw 34 (eB p (ae v h A rows cap) (iT a b c Q n Y)) w fun e w'=>Made v' h' EG (R&&fZ p v' h' EG) w e w':=by
 obtain⟨b1,a4,a5,a8,a6,a7⟩:=mA a9 a0 a1 bi bo bp;clear a9 a0 a1 bi bo bp;have cc:=tu (zI a) (zI b);have b4:=uS (zI a) (zI b);go_enter lX,lY
 go_upto_region 2 with(go_at_call 67;refine(b1.o _).mono ?_;rintro e ce ⟨rfl,H⟩)
 have be:=(below_alloc3 w (.cells (ae v h A rows cap) 26) (.cells (iT a b c Q n Y) 29) (.cells aQ 26));obtain⟨bv,b5,bz⟩:=cA w (.cells (ae v h A rows cap) 26) (.cells (iT a b c Q n Y) 29) (.cells aQ 26);have ap:=cD H bv;have br:=cD H bz;have bm:=be.trans (H.mono (B':=w.heap.size) SJ);have b3:=H.size;simp only[cg]at b3;obtain⟨b8,b9,ca,_,_,_⟩:=cL ap;obtain⟨HB,b2,ab⟩:=d_ bm ap br;clear bv b5 bz ap br bm H be;cases R with
 |false=>
  clear a5 b4;go_wp2_with (go_at_call 230;refine(a4.o _ HB.o).mono ?_;rintro e b0 ⟨rfl,z⟩;obtain⟨ac,ad,am,ba,bb,bd⟩:=cL (cD z ab);have Ex:=zH z;clear z)
  exact Zh
 |true=>
  go_upto_region 4 with(go_at_call 230;refine(a4.o _ HB.o).mono ?_;rintro e b0 ⟨rfl,z⟩;obtain⟨ac,ad,am,_,_,_⟩:=cL (cD z b2);have Ex:=zH z;clear z)
  have ao:=HB.trans (Ex.mono RU);have cb:=Ex.size;obtain⟨a3,a2⟩:=bS ao (a5 RY b0 ao);clear ao;cases U:fZ p v' h' EG with
  |false=>
   have HS:=zH U;clear U;go_wp2_with (first|(go_at_call 231;refine a2.mono ?_;rintro e b6 ⟨u,rfl,F,D⟩;obtain⟨A3,c3,rfl,O,_,_⟩:=F.view;have I:=a3.trans (D.mono RU);have Z:=zH O;have HU:=zH F;have Er:=zH D;have EF:=zH I;clear F D O I)|(go_at_call 68;refine(cY p v' h' A3 c3 EG _ (a8.ext EF) Z.o a6 a7).mono ?_;rintro e b7 ⟨_,J,E⟩;obtain rfl:=J HS;clear J;obtain⟨ac,ad,am,ba,bb,bd⟩:=cL (cD E (cD Er (cD Ex ab)));have Ey:=zH E;clear E))
   exact Zj
  |true=>
   have HS:=zH U;clear U;go_wp2_with (first|(go_at_call 231;refine a2.mono ?_;rintro e b6 ⟨u,rfl,F,D⟩;obtain⟨A3,c3,rfl,O,_,_⟩:=F.view;have I:=a3.trans (D.mono RU);have Z:=zH O;have HU:=zH F;have Er:=zH D;have EF:=zH I;clear F D O I)|(go_at_call 68;refine(cY p v' h' A3 c3 EG _ (a8.ext EF) Z.o a6 a7).mono ?_;rintro e b7 ⟨J,_,E⟩;obtain rfl:=J HS;clear J;obtain⟨ac,ad,am,ba,bb,bd⟩:=cL (cD E (cD Er (cD Ex ab)));have Ey:=zH E;clear E))
   exact Zy
def tv(z:au)(D:au)(E:au)(w:aa):(method 347 140 (.agg #[z,D,E]) "loop.example/g01073/impl.can").run prog w=.ok (237,(.agg #[z,D,E])) w:=Si
def zcv(z:au)(D:au)(E:au)(w:aa):(nilAhead 347 140 (.agg #[z,D,E]) "loop.example/g01073/impl.can").run prog w=.ok (some false) w:=Si
def uT(z:au)(D:au)(E:au)(w:aa):(method 347 140 (.agg #[z,D,E]) "loop.example/g01073/impl.do").run prog w=.ok (238,(.agg #[z,D,E])) w:=Si
def zd0(z:au)(D:au)(E:au)(w:aa):(nilAhead 347 140 (.agg #[z,D,E]) "loop.example/g01073/impl.do").run prog w=.ok (some false) w:=Si
def rh(p v h v' h':Int)(A:an)(cap:Nat)(rows EG:aE)(w:aa)(U:Bool)(a b c:Int)(z:an)(n D:Nat)(a9:∀W,aw 67 (cJ (ka a b c z n D)) W fun e w'=>e=.returned (.tuple #[.iface 140 (.agg (dj a b z n D)),.bool true])/\ai W w')(a0:∀W,ai w W->aw 237 (eZ (.agg (dj a b z n D)) p (ae v h A rows cap)) W (fC W U))(a1:U=true->∀W,ai w W->aw 238 (eZ (.agg (dj a b z n D)) p (ae v h A rows cap)) W fun e w'=>∃u,e=.returned (.agg (dE v' h' u))/\aJ w' W.heap.size u EG/\ai W w')(bi:dm w)(bo:EG.length<=maxLen)(bp:∀r∈EG,r.length<=maxLen):aw 34 (dR p (ae v h A rows cap) (ka a b c z n D)) w fun e w'=>Made v' h' EG (U&&fZ p v' h' EG) w e w':=by
 obtain⟨b1,a4,a5,a8,a6,a7⟩:=mA a9 a0 a1 bi bo bp;clear a9 a0 a1 bi bo bp;have cc:=tv (zI a) (zI b) (.slice z n D);have b4:=uT (zI a) (zI b) (.slice z n D);go_enter lX,lY
 go_upto_region 2 with(go_at_call 67;refine(b1.o _).mono ?_;rintro e ce ⟨rfl,J⟩)
 have be:=(below_alloc3 w (.cells (ae v h A rows cap) 26) (.cells (ka a b c z n D) 29) (.cells aQ 26));obtain⟨bv,b5,bz⟩:=cA w (.cells (ae v h A rows cap) 26) (.cells (ka a b c z n D) 29) (.cells aQ 26);have ap:=cD J bv;have br:=cD J bz;have bm:=be.trans (J.mono (B':=w.heap.size) SJ);have b3:=J.size;simp only[cg]at b3;obtain⟨b8,b9,ca,_,_,_⟩:=cL ap;obtain⟨HB,b2,ab⟩:=d_ bm ap br;clear bv b5 bz ap br bm J be;cases U with
 |false=>
  clear a5 b4;go_wp2_with (go_at_call 237;refine(a4.o _ HB.o).mono ?_;rintro e b0 ⟨rfl,E⟩;obtain⟨ac,ad,am,ba,bb,bd⟩:=cL (cD E ab);have Ex:=zH E;clear E)
  exact Zh
 |true=>
  go_upto_region 4 with(go_at_call 237;refine(a4.o _ HB.o).mono ?_;rintro e b0 ⟨rfl,E⟩;obtain⟨ac,ad,am,_,_,_⟩:=cL (cD E b2);have Ex:=zH E;clear E)
  have ao:=HB.trans (Ex.mono RU);have cb:=Ex.size;obtain⟨a3,a2⟩:=bS ao (a5 RY b0 ao);clear ao;cases Y:fZ p v' h' EG with
  |false=>
   have HS:=zH Y;clear Y;go_wp2_with (first|(go_at_call 238;refine a2.mono ?_;rintro e b6 ⟨u,rfl,I,F⟩;obtain⟨A3,c3,rfl,R,_,_⟩:=I.view;have O:=a3.trans (F.mono RU);have Z:=zH R;have HU:=zH I;have Er:=zH F;have EF:=zH O;clear I F R O)|(go_at_call 68;refine(cY p v' h' A3 c3 EG _ (a8.ext EF) Z.o a6 a7).mono ?_;rintro e b7 ⟨_,Q,H⟩;obtain rfl:=Q HS;clear Q;obtain⟨ac,ad,am,ba,bb,bd⟩:=cL (cD H (cD Er (cD Ex ab)));have Ey:=zH H;clear H))
   exact Zj
  |true=>
   have HS:=zH Y;clear Y;go_wp2_with (first|(go_at_call 238;refine a2.mono ?_;rintro e b6 ⟨u,rfl,I,F⟩;obtain⟨A3,c3,rfl,R,_,_⟩:=I.view;have O:=a3.trans (F.mono RU);have Z:=zH R;have HU:=zH I;have Er:=zH F;have EF:=zH O;clear I F R O)|(go_at_call 68;refine(cY p v' h' A3 c3 EG _ (a8.ext EF) Z.o a6 a7).mono ?_;rintro e b7 ⟨Q,_,H⟩;obtain rfl:=Q HS;clear Q;obtain⟨ac,ad,am,ba,bb,bd⟩:=cL (cD H (cD Er (cD Ex ab)));have Ey:=zH H;clear H))
   exact Zy
def sE(z:au)(w:aa):(method 347 142 (.agg #[z]) "loop.example/g01073/impl.can").run prog w=.ok (246,(.agg #[z])) w:=Si
def zbx(z:au)(w:aa):(nilAhead 347 142 (.agg #[z]) "loop.example/g01073/impl.can").run prog w=.ok (some false) w:=Si
def tw(z:au)(w:aa):(method 347 142 (.agg #[z]) "loop.example/g01073/impl.do").run prog w=.ok (247,(.agg #[z])) w:=Si
def zcw(z:au)(w:aa):(nilAhead 347 142 (.agg #[z]) "loop.example/g01073/impl.do").run prog w=.ok (some false) w:=Si
def qu(p v h v' h':Int)(A:an)(cap:Nat)(rows EG:aE)(w:aa)(R:Bool)(a b c:Int)(Q:an)(n Y:Nat)(a9:∀W,aw 67 (cJ (j6 a b c Q n Y)) W fun e w'=>e=.returned (.tuple #[.iface 142 (.agg (bg b)),.bool true])/\ai W w')(a0:∀W,ai w W->aw 246 (eZ (.agg (bg b)) p (ae v h A rows cap)) W (fC W R))(a1:R=true->∀W,ai w W->aw 247 (eZ (.agg (bg b)) p (ae v h A rows cap)) W fun e w'=>∃u,e=.returned (.agg (dE v' h' u))/\aJ w' W.heap.size u EG/\ai W w')(bi:dm w)(bo:EG.length<=maxLen)(bp:∀r∈EG,r.length<=maxLen):aw 34 (dR p (ae v h A rows cap) (j6 a b c Q n Y)) w fun e w'=>Made v' h' EG (R&&fZ p v' h' EG) w e w':=by
 obtain⟨b1,a4,a5,a8,a6,a7⟩:=mA a9 a0 a1 bi bo bp;clear a9 a0 a1 bi bo bp;have cc:=sE (zI b);have b4:=tw (zI b);go_enter lX,lY
 go_upto_region 2 with(go_at_call 67;refine(b1.o _).mono ?_;rintro e ce ⟨rfl,H⟩)
 have be:=(below_alloc3 w (.cells (ae v h A rows cap) 26) (.cells (j6 a b c Q n Y) 29) (.cells aQ 26));obtain⟨bv,b5,bz⟩:=cA w (.cells (ae v h A rows cap) 26) (.cells (j6 a b c Q n Y) 29) (.cells aQ 26);have ap:=cD H bv;have br:=cD H bz;have bm:=be.trans (H.mono (B':=w.heap.size) SJ);have b3:=H.size;simp only[cg]at b3;obtain⟨b8,b9,ca,_,_,_⟩:=cL ap;obtain⟨HB,b2,ab⟩:=d_ bm ap br;clear bv b5 bz ap br bm H be;cases R with
 |false=>
  clear a5 b4;go_wp2_with (go_at_call 246;refine(a4.o _ HB.o).mono ?_;rintro e b0 ⟨rfl,z⟩;obtain⟨ac,ad,am,ba,bb,bd⟩:=cL (cD z ab);have Ex:=zH z;clear z)
  exact Zh
 |true=>
  go_upto_region 4 with(go_at_call 246;refine(a4.o _ HB.o).mono ?_;rintro e b0 ⟨rfl,z⟩;obtain⟨ac,ad,am,_,_,_⟩:=cL (cD z b2);have Ex:=zH z;clear z)
  have ao:=HB.trans (Ex.mono RU);have cb:=Ex.size;obtain⟨a3,a2⟩:=bS ao (a5 RY b0 ao);clear ao;cases U:fZ p v' h' EG with
  |false=>
   have HS:=zH U;clear U;go_wp2_with (first|(go_at_call 247;refine a2.mono ?_;rintro e b6 ⟨u,rfl,F,D⟩;obtain⟨A3,c3,rfl,O,_,_⟩:=F.view;have I:=a3.trans (D.mono RU);have Z:=zH O;have HU:=zH F;have Er:=zH D;have EF:=zH I;clear F D O I)|(go_at_call 68;refine(cY p v' h' A3 c3 EG _ (a8.ext EF) Z.o a6 a7).mono ?_;rintro e b7 ⟨_,J,E⟩;obtain rfl:=J HS;clear J;obtain⟨ac,ad,am,ba,bb,bd⟩:=cL (cD E (cD Er (cD Ex ab)));have Ey:=zH E;clear E))
   exact Zj
  |true=>
   have HS:=zH U;clear U;go_wp2_with (first|(go_at_call 247;refine a2.mono ?_;rintro e b6 ⟨u,rfl,F,D⟩;obtain⟨A3,c3,rfl,O,_,_⟩:=F.view;have I:=a3.trans (D.mono RU);have Z:=zH O;have HU:=zH F;have Er:=zH D;have EF:=zH I;clear F D O I)|(go_at_call 68;refine(cY p v' h' A3 c3 EG _ (a8.ext EF) Z.o a6 a7).mono ?_;rintro e b7 ⟨J,_,E⟩;obtain rfl:=J HS;clear J;obtain⟨ac,ad,am,ba,bb,bd⟩:=cL (cD E (cD Er (cD Ex ab)));have Ey:=zH E;clear E))
   exact Zy
def sF(z:au)(w:aa):(method 347 143 (.agg #[z]) "loop.example/g01073/impl.can").run prog w=.ok (249,(.agg #[z])) w:=Si
def zby(z:au)(w:aa):(nilAhead 347 143 (.agg #[z]) "loop.example/g01073/impl.can").run prog w=.ok (some false) w:=Si
def tx(z:au)(w:aa):(method 347 143 (.agg #[z]) "loop.example/g01073/impl.do").run prog w=.ok (250,(.agg #[z])) w:=Si
def zcx(z:au)(w:aa):(nilAhead 347 143 (.agg #[z]) "loop.example/g01073/impl.do").run prog w=.ok (some false) w:=Si
def qv(p v h v' h':Int)(A:an)(cap:Nat)(rows EG:aE)(w:aa)(R:Bool)(a b c:Int)(Q:an)(n Y:Nat)(a9:∀W,aw 67 (cJ (kb a b c Q n Y)) W fun e w'=>e=.returned (.tuple #[.iface 143 (.agg (bg b)),.bool true])/\ai W w')(a0:∀W,ai w W->aw 249 (eZ (.agg (bg b)) p (ae v h A rows cap)) W (fC W R))(a1:R=true->∀W,ai w W->aw 250 (eZ (.agg (bg b)) p (ae v h A rows cap)) W fun e w'=>∃u,e=.returned (.agg (dE v' h' u))/\aJ w' W.heap.size u EG/\ai W w')(bi:dm w)(bo:EG.length<=maxLen)(bp:∀r∈EG,r.length<=maxLen):aw 34 (dR p (ae v h A rows cap) (kb a b c Q n Y)) w fun e w'=>Made v' h' EG (R&&fZ p v' h' EG) w e w':=by
 obtain⟨b1,a4,a5,a8,a6,a7⟩:=mA a9 a0 a1 bi bo bp;clear a9 a0 a1 bi bo bp;have cc:=sF (zI b);have b4:=tx (zI b);go_enter lX,lY
 go_upto_region 2 with(go_at_call 67;refine(b1.o _).mono ?_;rintro e ce ⟨rfl,H⟩)
 have be:=(below_alloc3 w (.cells (ae v h A rows cap) 26) (.cells (kb a b c Q n Y) 29) (.cells aQ 26));obtain⟨bv,b5,bz⟩:=cA w (.cells (ae v h A rows cap) 26) (.cells (kb a b c Q n Y) 29) (.cells aQ 26);have ap:=cD H bv;have br:=cD H bz;have bm:=be.trans (H.mono (B':=w.heap.size) SJ);have b3:=H.size;simp only[cg]at b3;obtain⟨b8,b9,ca,_,_,_⟩:=cL ap;obtain⟨HB,b2,ab⟩:=d_ bm ap br;clear bv b5 bz ap br bm H be;cases R with
 |false=>
  clear a5 b4;go_wp2_with (go_at_call 249;refine(a4.o _ HB.o).mono ?_;rintro e b0 ⟨rfl,z⟩;obtain⟨ac,ad,am,ba,bb,bd⟩:=cL (cD z ab);have Ex:=zH z;clear z)
  exact Zh
 |true=>
  go_upto_region 4 with(go_at_call 249;refine(a4.o _ HB.o).mono ?_;rintro e b0 ⟨rfl,z⟩;obtain⟨ac,ad,am,_,_,_⟩:=cL (cD z b2);have Ex:=zH z;clear z)
  have ao:=HB.trans (Ex.mono RU);have cb:=Ex.size;obtain⟨a3,a2⟩:=bS ao (a5 RY b0 ao);clear ao;cases U:fZ p v' h' EG with
  |false=>
   have HS:=zH U;clear U;go_wp2_with (first|(go_at_call 250;refine a2.mono ?_;rintro e b6 ⟨u,rfl,F,D⟩;obtain⟨A3,c3,rfl,O,_,_⟩:=F.view;have I:=a3.trans (D.mono RU);have Z:=zH O;have HU:=zH F;have Er:=zH D;have EF:=zH I;clear F D O I)|(go_at_call 68;refine(cY p v' h' A3 c3 EG _ (a8.ext EF) Z.o a6 a7).mono ?_;rintro e b7 ⟨_,J,E⟩;obtain rfl:=J HS;clear J;obtain⟨ac,ad,am,ba,bb,bd⟩:=cL (cD E (cD Er (cD Ex ab)));have Ey:=zH E;clear E))
   exact Zj
  |true=>
   have HS:=zH U;clear U;go_wp2_with (first|(go_at_call 250;refine a2.mono ?_;rintro e b6 ⟨u,rfl,F,D⟩;obtain⟨A3,c3,rfl,O,_,_⟩:=F.view;have I:=a3.trans (D.mono RU);have Z:=zH O;have HU:=zH F;have Er:=zH D;have EF:=zH I;clear F D O I)|(go_at_call 68;refine(cY p v' h' A3 c3 EG _ (a8.ext EF) Z.o a6 a7).mono ?_;rintro e b7 ⟨J,_,E⟩;obtain rfl:=J HS;clear J;obtain⟨ac,ad,am,ba,bb,bd⟩:=cL (cD E (cD Er (cD Ex ab)));have Ey:=zH E;clear E))
   exact Zy
end Go.Proofs.YtdpgblncijojiaaGreatDoor
