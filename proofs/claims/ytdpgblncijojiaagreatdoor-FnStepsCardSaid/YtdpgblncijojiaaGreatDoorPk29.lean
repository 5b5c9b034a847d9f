/- Parts of the walks. Conditions: as stated with each. -/
import Derived.Test.YtdpgblncijojiaaGreatDoorPk23
import Derived.Test.YtdpgblncijojiaaGreatDoorPk27
namespace Go.Proofs.YtdpgblncijojiaaGreatDoor
open Go.RowKit Tryz
set_option linter.all false
set_option maxHeartbeats 4000000
set_option maxRecDepth 20000
variable{RB RK Ry Rz:Int}{e:Ending}{r':aG}{u:au}{w w':aa}
def uK(ok:Bool)(k:Int):Int:=if ok=true then(if k=4 then 5 else if k=5 then 4 else if k=6 then 7 else if k=7 then 6 else if k=8 then 9 else if k=9 then 8 else k) else 0
def uA(ok:Bool)(k a:Int):Int:=if ok=true then(if k=8∨k=9 then 0 else a) else 0
def uB(ok:Bool)(k b:Int):Int:=if ok=true then(if k=1∨k=3∨k=6∨k=7∨k=8∨k=9 then b else 0) else 0
def uC(ok:Bool)(p k c:Int):Int:=if ok=true then(if k=2 then fD p c else if k=3 then(p-c)%p else 0) else 0
def uR(ok:Bool)(rows:aE)(k a:Int):List Int:=if ok=true then(if k=6 then rows.getD a.toNat [] else[]) else[]
def fN(F z D E:Int)(r':aG)(ok:Bool)(w:aa)(e:Ending)(w':aa):Prop:=
 ∃u,e=.returned (.tuple (lP (kF F z D E u) ok))/\ar w' w u r'/\ai w w'
def fN.mk{ok:Bool}(D:e=.returned (.tuple (lP (kF RK RB Rz Ry u) ok)))(E:ar w' w u r')(z:ai w w'):fN RK RB Rz Ry r' ok w e w':=⟨u,D,E,z⟩
def zae(p v h k a b c:Int)(A:an)(cap:Nat)(rows:aE)(w:aa)(z:an)(n D:Nat)(v1 ad:Int)(a0:aE)(I:∀W,ai w W->aw 34 (eB p (ae v h A rows cap) (jt k a b c z n D)) W (Made v1 ad a0 false W)):aw 41 (eB p (ae v h A rows cap) (jt k a b c z n D)) w (fN 0 0 0 0 [] false w):=by
 have Z:=zH I;clear I;have J:=below_alloc3 w (.cells (ae v h A rows cap) 26) (.cells (jt k a b c z n D) 29) (.cells df 29);obtain⟨ao,ap,R⟩:=cA w (.cells (ae v h A rows cap) 26) (.cells (jt k a b c z n D) 29) (.cells df 29);obtain⟨H,ab⟩:=bS J R;clear J ao ap R;go_enter l6,l7
 go_upto_region 2 with(go_at_call 34;refine(Z.o _ H.o).mono ?_;rintro e U ⟨v2,a4,A2,n2,c2,rfl,_,Q,E⟩;obtain⟨rfl,rfl,rfl,rfl,rfl⟩:=Q rfl;clear Q)
 have am:=E.size;simp only[cg]at am;obtain⟨ac,En⟩:=aO (U.alloc (.cells aQ 26));rw[<-En];have O:ai U ac:=Wc;have F:=af E O;obtain⟨⟨a1,c1,a2,c3,a3⟩,f0,f1,f2,f3,f4⟩:=jk F ab;have Y:=zH (H.o.trans (F.mono (B':=w.heap.size) SJ));clear E O F En;go_wp2;refine ax (v:=.tuple (dy df)) UP rfl (fN.mk rfl (ar.nil _ _) ?_);exact ff Y.o RU _ _ _ _ _
def tz(z:au)(D:au)(w:aa):(method 347 130 (.agg #[z,D]) "loop.example/g01073/impl.undo").run prog w=.ok (208,(.agg #[z,D])) w:=Si
def zcD(z:au)(D:au)(w:aa):(nilAhead 347 130 (.agg #[z,D]) "loop.example/g01073/impl.undo").run prog w=.ok (some false) w:=Si
def uV(p v h a b c Y H I J:Int)(r':aG)(A:an)(cap:Nat)(rows:aE)(w:aa)(z:an)(n D:Nat)(v1 bo:Int)(bz:aE)(ac:∀W,ai w W->aw 34 (dR p (ae v h A rows cap) (j8 a b c z n D)) W (Made v1 bo bz true W))(ad:∀W,aw 67 (cJ (j8 a b c z n D)) W fun e w'=>e=.returned (.tuple #[.iface 130 (.agg (bP a b)),.bool true])/\ai W w')(am:∀W,ai w W->aw 208 (eZ (.agg (bP a b)) p (ae v h A rows cap)) W fun e w'=>∃u,e=.returned (.agg (kF Y H I J u))/\ar w' W.heap.size u r'/\ai W w'):aw 41 (dR p (ae v h A rows cap) (j8 a b c z n D)) w (fN Y H I J r' true w):=by
 obtain⟨a8,a9,ba⟩:=d_ ac ad am;clear ac ad am;have b6:=tz (zI a) (zI b);have ao:=below_alloc3 w (.cells (ae v h A rows cap) 26) (.cells (j8 a b c z n D) 29) (.cells df 29);obtain⟨a1,a2,a3⟩:=cA w (.cells (ae v h A rows cap) 26) (.cells (j8 a b c z n D) 29) (.cells df 29);obtain⟨Z,bb,bd,be⟩:=fU ao a1 a2 a3;clear ao a1 a2 a3;go_enter l6,l7
 go_upto_region 2 with(go_at_call 34;refine(a8.o _ Z.o).mono ?_;rintro e a4 ⟨v2,bp,A2,n2,c2,rfl,a0,_,O⟩;obtain⟨rfl,rfl,_⟩:=a0 rfl;clear a0)
 have bv:=O.size;simp only[cg]at bv;obtain⟨bi,En⟩:=aO (a4.alloc (.cells (dj v2 bp A2 n2 c2) 26));rw[<-En];have ap:ai a4 bi:=Wc;have E:=af O ap;obtain⟨⟨d0,d1,d2,d3,d4⟩,_⟩:=jk E bd;obtain⟨a6,a7⟩:=bS E (Z.o.trans (E.mono (B':=w.heap.size) SJ));clear O ap E En;go_upto_region 5 with(go_at_call 67;refine(a9.o _).mono ?_;rintro e b7 ⟨rfl,Q⟩;have F:=zH (af a6 Q);have ab:=zH (af a7 Q);clear Q)
 obtain⟨b3,b4,b5,_⟩:=kV F bb;clear d0 d1 d2 d3 d4;go_wp2_with (go_at_call 208;refine(ba.o _ ab.o).mono ?_;rintro e b8 ⟨u,rfl,U,R⟩;obtain⟨a5,bm,rfl,_⟩:=U.view;obtain⟨⟨b0,c1,b1,c3,b2⟩,f0,f1,f2,f3,f4⟩:=jk (af F R) be;have HU:=zH U;have H4:=zH (af ab R);clear U R)
 have br:=F.size;simp only[cg]at br;refine ax (v:=.tuple (dN (bB Y H I J a5 r' bm))) UP rfl (fN.mk rfl ?_ ?_)
 .exact Y8
 .exact WZ
def sG(z:au)(D:au)(w:aa):(method 347 132 (.agg #[z,D]) "loop.example/g01073/impl.undo").run prog w=.ok (212,(.agg #[z,D])) w:=Si
def zbC(z:au)(D:au)(w:aa):(nilAhead 347 132 (.agg #[z,D]) "loop.example/g01073/impl.undo").run prog w=.ok (some false) w:=Si
def tD(p v h a b c Y H I J:Int)(r':aG)(A:an)(cap:Nat)(rows:aE)(w:aa)(z:an)(n D:Nat)(v1 bo:Int)(bz:aE)(ac:∀W,ai w W->aw 34 #[p,.agg (ae v h A rows cap),.agg (kd a b c z n D)] W (Made v1 bo bz true W))(ad:∀W,aw 67 (cJ (kd a b c z n D)) W fun e w'=>e=.returned (.tuple #[.iface 132 (.agg (bP a c)),.bool true])/\ai W w')(am:∀W,ai w W->aw 212 (eZ (.agg (bP a c)) p (ae v h A rows cap)) W fun e w'=>∃u,e=.returned (.agg (kF Y H I J u))/\ar w' W.heap.size u r'/\ai W w'):aw 41 #[p,.agg (ae v h A rows cap),.agg (kd a b c z n D)] w (fN Y H I J r' true w):=by
 obtain⟨a8,a9,ba⟩:=d_ ac ad am;clear ac ad am;have b6:=sG (zI a) (zI c);have ao:=below_alloc3 w (.cells (ae v h A rows cap) 26) (.cells (kd a b c z n D) 29) (.cells df 29);obtain⟨a1,a2,a3⟩:=cA w (.cells (ae v h A rows cap) 26) (.cells (kd a b c z n D) 29) (.cells df 29);obtain⟨Z,bb,bd,be⟩:=fU ao a1 a2 a3;clear ao a1 a2 a3;go_enter l6,l7
 go_upto_region 2 with(go_at_call 34;refine(a8.o _ Z.o).mono ?_;rintro e a4 ⟨v2,bp,A2,n2,c2,rfl,a0,_,O⟩;obtain⟨rfl,rfl,_⟩:=a0 rfl;clear a0)
 have bv:=O.size;simp only[cg]at bv;obtain⟨bi,En⟩:=aO (a4.alloc (.cells (dj v2 bp A2 n2 c2) 26));rw[<-En];have ap:ai a4 bi:=Wc;have E:=af O ap;obtain⟨⟨d0,d1,d2,d3,d4⟩,_⟩:=jk E bd;obtain⟨a6,a7⟩:=bS E (Z.o.trans (E.mono (B':=w.heap.size) SJ));clear O ap E En;go_upto_region 5 with(go_at_call 67;refine(a9.o _).mono ?_;rintro e b7 ⟨rfl,Q⟩;have F:=zH (af a6 Q);have ab:=zH (af a7 Q);clear Q)
 obtain⟨b3,b4,b5,_⟩:=kV F bb;clear d0 d1 d2 d3 d4;go_wp2_with (go_at_call 212;refine(ba.o _ ab.o).mono ?_;rintro e b8 ⟨u,rfl,U,R⟩;obtain⟨a5,bm,rfl,_⟩:=U.view;obtain⟨⟨b0,c1,b1,c3,b2⟩,f0,f1,f2,f3,f4⟩:=jk (af F R) be;have HU:=zH U;have H4:=zH (af ab R);clear U R)
 have br:=F.size;simp only[cg]at br;refine ax (v:=.tuple (dN (bB Y H I J a5 r' bm))) UP rfl (fN.mk rfl ?_ ?_)
 .exact Y8
 .exact WZ
def uW(z:au)(D:au)(E:au)(w:aa):(method 347 134 (.agg #[z,D,E]) "loop.example/g01073/impl.undo").run prog w=.ok (215,(.agg #[z,D,E])) w:=Si
def zd3(z:au)(D:au)(E:au)(w:aa):(nilAhead 347 134 (.agg #[z,D,E]) "loop.example/g01073/impl.undo").run prog w=.ok (some false) w:=Si
def wD(p v h a b c Y H I J:Int)(r':aG)(A:an)(cap:Nat)(rows:aE)(w:aa)(z:an)(n D:Nat)(v1 bo:Int)(bz:aE)(ac:∀W,ai w W->aw 34 (dR p (ae v h A rows cap) (j7 a b c z n D)) W (Made v1 bo bz true W))(ad:∀W,aw 67 (cJ (j7 a b c z n D)) W fun e w'=>e=.returned (.tuple #[.iface 134 (.agg (fB a b c)),.bool true])/\ai W w')(am:∀W,ai w W->aw 215 (eZ (.agg (fB a b c)) p (ae v h A rows cap)) W fun e w'=>∃u,e=.returned (.agg (kF Y H I J u))/\ar w' W.heap.size u r'/\ai W w'):aw 41 (dR p (ae v h A rows cap) (j7 a b c z n D)) w (fN Y H I J r' true w):=by
 obtain⟨a8,a9,ba⟩:=d_ ac ad am;clear ac ad am;have b6:=uW (zI a) (zI b) (zI c);have ao:=below_alloc3 w (.cells (ae v h A rows cap) 26) (.cells (j7 a b c z n D) 29) (.cells df 29);obtain⟨a1,a2,a3⟩:=cA w (.cells (ae v h A rows cap) 26) (.cells (j7 a b c z n D) 29) (.cells df 29);obtain⟨Z,bb,bd,be⟩:=fU ao a1 a2 a3;clear ao a1 a2 a3;go_enter l6,l7
 go_upto_region 2 with(go_at_call 34;refine(a8.o _ Z.o).mono ?_;rintro e a4 ⟨v2,bp,A2,n2,c2,rfl,a0,_,O⟩;obtain⟨rfl,rfl,_⟩:=a0 rfl;clear a0)
 have bv:=O.size;simp only[cg]at bv;obtain⟨bi,En⟩:=aO (a4.alloc (.cells (dj v2 bp A2 n2 c2) 26));rw[<-En];have ap:ai a4 bi:=Wc;have E:=af O ap;obtain⟨⟨d0,d1,d2,d3,d4⟩,_⟩:=jk E bd;obtain⟨a6,a7⟩:=bS E (Z.o.trans (E.mono (B':=w.heap.size) SJ));clear O ap E En;go_upto_region 5 with(go_at_call 67;refine(a9.o _).mono ?_;rintro e b7 ⟨rfl,Q⟩;have F:=zH (af a6 Q);have ab:=zH (af a7 Q);clear Q)
 obtain⟨b3,b4,b5,_⟩:=kV F bb;clear d0 d1 d2 d3 d4;go_wp2_with (go_at_call 215;refine(ba.o _ ab.o).mono ?_;rintro e b8 ⟨u,rfl,U,R⟩;obtain⟨a5,bm,rfl,_⟩:=U.view;obtain⟨⟨b0,c1,b1,c3,b2⟩,f0,f1,f2,f3,f4⟩:=jk (af F R) be;have HU:=zH U;have H4:=zH (af ab R);clear U R)
 have br:=F.size;simp only[cg]at br;refine ax (v:=.tuple (dN (bB Y H I J a5 r' bm))) UP rfl (fN.mk rfl ?_ ?_)
 .exact Y8
 .exact WZ
def tE(z:au)(w:aa):(method 347 136 (.agg #[z]) "loop.example/g01073/impl.undo").run prog w=.ok (218,(.agg #[z])) w:=Si
def zcE(z:au)(w:aa):(nilAhead 347 136 (.agg #[z]) "loop.example/g01073/impl.undo").run prog w=.ok (some false) w:=Si
def uX(p v h a b c Y H I J:Int)(r':aG)(A:an)(cap:Nat)(rows:aE)(w:aa)(z:an)(n D:Nat)(v1 bo:Int)(bz:aE)(ac:∀W,ai w W->aw 34 (dR p (ae v h A rows cap) (j9 a b c z n D)) W (Made v1 bo bz true W))(ad:∀W,aw 67 (cJ (j9 a b c z n D)) W fun e w'=>e=.returned (.tuple #[.iface 136 (.agg (bg a)),.bool true])/\ai W w')(am:∀W,ai w W->aw 218 (eZ (.agg (bg a)) p (ae v h A rows cap)) W fun e w'=>∃u,e=.returned (.agg (kF Y H I J u))/\ar w' W.heap.size u r'/\ai W w'):aw 41 (dR p (ae v h A rows cap) (j9 a b c z n D)) w (fN Y H I J r' true w):=by
 obtain⟨a8,a9,ba⟩:=d_ ac ad am;clear ac ad am;have b6:=tE (zI a);have ao:=below_alloc3 w (.cells (ae v h A rows cap) 26) (.cells (j9 a b c z n D) 29) (.cells df 29);obtain⟨a1,a2,a3⟩:=cA w (.cells (ae v h A rows cap) 26) (.cells (j9 a b c z n D) 29) (.cells df 29);obtain⟨Z,bb,bd,be⟩:=fU ao a1 a2 a3;clear ao a1 a2 a3;go_enter l6,l7
 go_upto_region 2 with(go_at_call 34;refine(a8.o _ Z.o).mono ?_;rintro e a4 ⟨v2,bp,A2,n2,c2,rfl,a0,_,O⟩;obtain⟨rfl,rfl,_⟩:=a0 rfl;clear a0)
 have bv:=O.size;simp only[cg]at bv;obtain⟨bi,En⟩:=aO (a4.alloc (.cells (dj v2 bp A2 n2 c2) 26));rw[<-En];have ap:ai a4 bi:=Wc;have E:=af O ap;obtain⟨⟨d0,d1,d2,d3,d4⟩,_⟩:=jk E bd;obtain⟨a6,a7⟩:=bS E (Z.o.trans (E.mono (B':=w.heap.size) SJ));clear O ap E En;go_upto_region 5 with(go_at_call 67;refine(a9.o _).mono ?_;rintro e b7 ⟨rfl,Q⟩;have F:=zH (af a6 Q);have ab:=zH (af a7 Q);clear Q)
 obtain⟨b3,b4,b5,_⟩:=kV F bb;clear d0 d1 d2 d3 d4;go_wp2_with (go_at_call 218;refine(ba.o _ ab.o).mono ?_;rintro e b8 ⟨u,rfl,U,R⟩;obtain⟨a5,bm,rfl,_⟩:=U.view;obtain⟨⟨b0,c1,b1,c3,b2⟩,f0,f1,f2,f3,f4⟩:=jk (af F R) be;have HU:=zH U;have H4:=zH (af ab R);clear U R)
 have br:=F.size;simp only[cg]at br;refine ax (v:=.tuple (dN (bB Y H I J a5 r' bm))) UP rfl (fN.mk rfl ?_ ?_)
 .exact Y8
 .exact WZ
def uY(z:au)(w:aa):(method 347 137 (.agg #[z]) "loop.example/g01073/impl.undo").run prog w=.ok (224,(.agg #[z])) w:=Si
def zd4(z:au)(w:aa):(nilAhead 347 137 (.agg #[z]) "loop.example/g01073/impl.undo").run prog w=.ok (some false) w:=Si
def wE(p v h a b c Y H I J:Int)(r':aG)(A:an)(cap:Nat)(rows:aE)(w:aa)(z:an)(n D:Nat)(v1 bo:Int)(bz:aE)(ac:∀W,ai w W->aw 34 (dR p (ae v h A rows cap) (j_ a b c z n D)) W (Made v1 bo bz true W))(ad:∀W,aw 67 (cJ (j_ a b c z n D)) W fun e w'=>e=.returned (.tuple #[.iface 137 (.agg (bg a)),.bool true])/\ai W w')(am:∀W,ai w W->aw 224 (eZ (.agg (bg a)) p (ae v h A rows cap)) W fun e w'=>∃u,e=.returned (.agg (kF Y H I J u))/\ar w' W.heap.size u r'/\ai W w'):aw 41 (dR p (ae v h A rows cap) (j_ a b c z n D)) w (fN Y H I J r' true w):=by
 obtain⟨a8,a9,ba⟩:=d_ ac ad am;clear ac ad am;have b6:=uY (zI a);have ao:=below_alloc3 w (.cells (ae v h A rows cap) 26) (.cells (j_ a b c z n D) 29) (.cells df 29);obtain⟨a1,a2,a3⟩:=cA w (.cells (ae v h A rows cap) 26) (.cells (j_ a b c z n D) 29) (.cells df 29);obtain⟨Z,bb,bd,be⟩:=fU ao a1 a2 a3;clear ao a1 a2 a3;go_enter l6,l7
 go_upto_region 2 with(go_at_call 34;refine(a8.o _ Z.o).mono ?_;rintro e a4 ⟨v2,bp,A2,n2,c2,rfl,a0,_,O⟩;obtain⟨rfl,rfl,_⟩:=a0 rfl;clear a0)
 have bv:=O.size;simp only[cg]at bv;obtain⟨bi,En⟩:=aO (a4.alloc (.cells (dj v2 bp A2 n2 c2) 26));rw[<-En];have ap:ai a4 bi:=Wc;have E:=af O ap;obtain⟨⟨d0,d1,d2,d3,d4⟩,_⟩:=jk E bd;obtain⟨a6,a7⟩:=bS E (Z.o.trans (E.mono (B':=w.heap.size) SJ));clear O ap E En;go_upto_region 5 with(go_at_call 67;refine(a9.o _).mono ?_;rintro e b7 ⟨rfl,Q⟩;have F:=zH (af a6 Q);have ab:=zH (af a7 Q);clear Q)
 obtain⟨b3,b4,b5,_⟩:=kV F bb;clear d0 d1 d2 d3 d4;go_wp2_with (go_at_call 224;refine(ba.o _ ab.o).mono ?_;rintro e b8 ⟨u,rfl,U,R⟩;obtain⟨a5,bm,rfl,_⟩:=U.view;obtain⟨⟨b0,c1,b1,c3,b2⟩,f0,f1,f2,f3,f4⟩:=jk (af F R) be;have HU:=zH U;have H4:=zH (af ab R);clear U R)
 have br:=F.size;simp only[cg]at br;refine ax (v:=.tuple (dN (bB Y H I J a5 r' bm))) UP rfl (fN.mk rfl ?_ ?_)
 .exact Y8
 .exact WZ
def sH(z:au)(D:au)(w:aa):(method 347 138 (.agg #[z,D]) "loop.example/g01073/impl.undo").run prog w=.ok (232,(.agg #[z,D])) w:=Si
def zbD(z:au)(D:au)(w:aa):(nilAhead 347 138 (.agg #[z,D]) "loop.example/g01073/impl.undo").run prog w=.ok (some false) w:=Si
def tF(p v h a b c Y H I J:Int)(r':aG)(A:an)(cap:Nat)(rows:aE)(w:aa)(z:an)(n D:Nat)(v1 bo:Int)(bz:aE)(ac:∀W,ai w W->aw 34 (eB p (ae v h A rows cap) (iT a b c z n D)) W (Made v1 bo bz true W))(ad:∀W,aw 67 (cJ (iT a b c z n D)) W fun e w'=>e=.returned (.tuple #[.iface 138 (.agg (bP a b)),.bool true])/\ai W w')(am:∀W,ai w W->aw 232 (eZ (.agg (bP a b)) p (ae v h A rows cap)) W fun e w'=>∃u,e=.returned (.agg (kF Y H I J u))/\ar w' W.heap.size u r'/\ai W w'):aw 41 (eB p (ae v h A rows cap) (iT a b c z n D)) w (fN Y H I J r' true w):=by
 obtain⟨a8,a9,ba⟩:=d_ ac ad am;clear ac ad am;have b6:=sH (zI a) (zI b);have ao:=below_alloc3 w (.cells (ae v h A rows cap) 26) (.cells (iT a b c z n D) 29) (.cells df 29);obtain⟨a1,a2,a3⟩:=cA w (.cells (ae v h A rows cap) 26) (.cells (iT a b c z n D) 29) (.cells df 29);obtain⟨Z,bb,bd,be⟩:=fU ao a1 a2 a3;clear ao a1 a2 a3;go_enter l6,l7
 go_upto_region 2 with(go_at_call 34;refine(a8.o _ Z.o).mono ?_;rintro e a4 ⟨v2,bp,A2,n2,c2,rfl,a0,_,O⟩;obtain⟨rfl,rfl,_⟩:=a0 rfl;clear a0)
 have bv:=O.size;simp only[cg]at bv;obtain⟨bi,En⟩:=aO (a4.alloc (.cells (dj v2 bp A2 n2 c2) 26));rw[<-En];have ap:ai a4 bi:=Wc;have E:=af O ap;obtain⟨⟨d0,d1,d2,d3,d4⟩,_⟩:=jk E bd;obtain⟨a6,a7⟩:=bS E (Z.o.trans (E.mono (B':=w.heap.size) SJ));clear O ap E En;go_upto_region 5 with(go_at_call 67;refine(a9.o _).mono ?_;rintro e b7 ⟨rfl,Q⟩;have F:=zH (af a6 Q);have ab:=zH (af a7 Q);clear Q)
 obtain⟨b3,b4,b5,_⟩:=kV F bb;clear d0 d1 d2 d3 d4;go_wp2_with (go_at_call 232;refine(ba.o _ ab.o).mono ?_;rintro e b8 ⟨u,rfl,U,R⟩;obtain⟨a5,bm,rfl,_⟩:=U.view;obtain⟨⟨b0,c1,b1,c3,b2⟩,f0,f1,f2,f3,f4⟩:=jk (af F R) be;have HU:=zH U;have H4:=zH (af ab R);clear U R)
 have br:=F.size;simp only[cg]at br;refine ax (v:=.tuple (dN (bB Y H I J a5 r' bm))) UP rfl (fN.mk rfl ?_ ?_)
 .exact Y8
 .exact WZ
def sI(z:au)(D:au)(E:au)(w:aa):(method 347 140 (.agg #[z,D,E]) "loop.example/g01073/impl.undo").run prog w=.ok (239,(.agg #[z,D,E])) w:=Si
def zbE(z:au)(D:au)(E:au)(w:aa):(nilAhead 347 140 (.agg #[z,D,E]) "loop.example/g01073/impl.undo").run prog w=.ok (some false) w:=Si
def tG(p v h a b c Y H I J:Int)(r':aG)(A:an)(cap:Nat)(rows:aE)(w:aa)(z:an)(n D:Nat)(v1 bo:Int)(bz:aE)(ac:∀W,ai w W->aw 34 (dR p (ae v h A rows cap) (ka a b c z n D)) W (Made v1 bo bz true W))(ad:∀W,aw 67 (cJ (ka a b c z n D)) W fun e w'=>e=.returned (.tuple #[.iface 140 (.agg (dj a b z n D)),.bool true])/\ai W w')(am:∀W,ai w W->aw 239 (eZ (.agg (dj a b z n D)) p (ae v h A rows cap)) W fun e w'=>∃u,e=.returned (.agg (kF Y H I J u))/\ar w' W.heap.size u r'/\ai W w'):aw 41 (dR p (ae v h A rows cap) (ka a b c z n D)) w (fN Y H I J r' true w):=by
 obtain⟨a8,a9,ba⟩:=d_ ac ad am;clear ac ad am;have b6:=sI (zI a) (zI b) (.slice z n D);have ao:=below_alloc3 w (.cells (ae v h A rows cap) 26) (.cells (ka a b c z n D) 29) (.cells df 29);obtain⟨a1,a2,a3⟩:=cA w (.cells (ae v h A rows cap) 26) (.cells (ka a b c z n D) 29) (.cells df 29);obtain⟨Z,bb,bd,be⟩:=fU ao a1 a2 a3;clear ao a1 a2 a3;go_enter l6,l7
 go_upto_region 2 with(go_at_call 34;refine(a8.o _ Z.o).mono ?_;rintro e a4 ⟨v2,bp,A2,n2,c2,rfl,a0,_,O⟩;obtain⟨rfl,rfl,_⟩:=a0 rfl;clear a0)
 have bv:=O.size;simp only[cg]at bv;obtain⟨bi,En⟩:=aO (a4.alloc (.cells (dj v2 bp A2 n2 c2) 26));rw[<-En];have ap:ai a4 bi:=Wc;have E:=af O ap;obtain⟨⟨d0,d1,d2,d3,d4⟩,_⟩:=jk E bd;obtain⟨a6,a7⟩:=bS E (Z.o.trans (E.mono (B':=w.heap.size) SJ));clear O ap E En;go_upto_region 5 with(go_at_call 67;refine(a9.o _).mono ?_;rintro e b7 ⟨rfl,Q⟩;have F:=zH (af a6 Q);have ab:=zH (af a7 Q);clear Q)
 obtain⟨b3,b4,b5,_⟩:=kV F bb;clear d0 d1 d2 d3 d4;go_wp2_with (go_at_call 239;refine(ba.o _ ab.o).mono ?_;rintro e b8 ⟨u,rfl,U,R⟩;obtain⟨a5,bm,rfl,_⟩:=U.view;obtain⟨⟨b0,c1,b1,c3,b2⟩,f0,f1,f2,f3,f4⟩:=jk (af F R) be;have HU:=zH U;have H4:=zH (af ab R);clear U R)
 have br:=F.size;simp only[cg]at br;refine ax (v:=.tuple (dN (bB Y H I J a5 r' bm))) UP rfl (fN.mk rfl ?_ ?_)
 .exact Y8
 .exact WZ
def rp(z:au)(w:aa):(method 347 142 (.agg #[z]) "loop.example/g01073/impl.undo").run prog w=.ok (248,(.agg #[z])) w:=Si
def zaw(z:au)(w:aa):(nilAhead 347 142 (.agg #[z]) "loop.example/g01073/impl.undo").run prog w=.ok (some false) w:=Si
def sJ(p v h a b c Y H I J:Int)(r':aG)(A:an)(cap:Nat)(rows:aE)(w:aa)(z:an)(n D:Nat)(v1 bo:Int)(bz:aE)(ac:∀W,ai w W->aw 34 (dR p (ae v h A rows cap) (j6 a b c z n D)) W (Made v1 bo bz true W))(ad:∀W,aw 67 (cJ (j6 a b c z n D)) W fun e w'=>e=.returned (.tuple #[.iface 142 (.agg (bg b)),.bool true])/\ai W w')(am:∀W,ai w W->aw 248 (eZ (.agg (bg b)) p (ae v h A rows cap)) W fun e w'=>∃u,e=.returned (.agg (kF Y H I J u))/\ar w' W.heap.size u r'/\ai W w'):aw 41 (dR p (ae v h A rows cap) (j6 a b c z n D)) w (fN Y H I J r' true w):=by
 obtain⟨a8,a9,ba⟩:=d_ ac ad am;clear ac ad am;have b6:=rp (zI b);have ao:=below_alloc3 w (.cells (ae v h A rows cap) 26) (.cells (j6 a b c z n D) 29) (.cells df 29);obtain⟨a1,a2,a3⟩:=cA w (.cells (ae v h A rows cap) 26) (.cells (j6 a b c z n D) 29) (.cells df 29);obtain⟨Z,bb,bd,be⟩:=fU ao a1 a2 a3;clear ao a1 a2 a3;go_enter l6,l7
 go_upto_region 2 with(go_at_call 34;refine(a8.o _ Z.o).mono ?_;rintro e a4 ⟨v2,bp,A2,n2,c2,rfl,a0,_,O⟩;obtain⟨rfl,rfl,_⟩:=a0 rfl;clear a0)
 have bv:=O.size;simp only[cg]at bv;obtain⟨bi,En⟩:=aO (a4.alloc (.cells (dj v2 bp A2 n2 c2) 26));rw[<-En];have ap:ai a4 bi:=Wc;have E:=af O ap;obtain⟨⟨d0,d1,d2,d3,d4⟩,_⟩:=jk E bd;obtain⟨a6,a7⟩:=bS E (Z.o.trans (E.mono (B':=w.heap.size) SJ));clear O ap E En;go_upto_region 5 with(go_at_call 67;refine(a9.o _).mono ?_;rintro e b7 ⟨rfl,Q⟩;have F:=zH (af a6 Q);have ab:=zH (af a7 Q);clear Q)
 obtain⟨b3,b4,b5,_⟩:=kV F bb;clear d0 d1 d2 d3 d4;go_wp2_with (go_at_call 248;refine(ba.o _ ab.o).mono ?_;rintro e b8 ⟨u,rfl,U,R⟩;obtain⟨a5,bm,rfl,_⟩:=U.view;obtain⟨⟨b0,c1,b1,c3,b2⟩,f0,f1,f2,f3,f4⟩:=jk (af F R) be;have HU:=zH U;have H4:=zH (af ab R);clear U R)
 have br:=F.size;simp only[cg]at br;refine ax (v:=.tuple (dN (bB Y H I J a5 r' bm))) UP rfl (fN.mk rfl ?_ ?_)
 .exact Y8
 .exact WZ
def rq(z:au)(w:aa):(method 347 143 (.agg #[z]) "loop.example/g01073/impl.undo").run prog w=.ok (251,(.agg #[z])) w:=Si
def zax(z:au)(w:aa):(nilAhead 347 143 (.agg #[z]) "loop.example/g01073/impl.undo").run prog w=.ok (some false) w:=Si
def sK(p v h a b c Y H I J:Int)(r':aG)(A:an)(cap:Nat)(rows:aE)(w:aa)(z:an)(n D:Nat)(v1 bo:Int)(bz:aE)(ac:∀W,ai w W->aw 34 (dR p (ae v h A rows cap) (kb a b c z n D)) W (Made v1 bo bz true W))(ad:∀W,aw 67 (cJ (kb a b c z n D)) W fun e w'=>e=.returned (.tuple #[.iface 143 (.agg (bg b)),.bool true])/\ai W w')(am:∀W,ai w W->aw 251 (eZ (.agg (bg b)) p (ae v h A rows cap)) W fun e w'=>∃u,e=.returned (.agg (kF Y H I J u))/\ar w' W.heap.size u r'/\ai W w'):aw 41 (dR p (ae v h A rows cap) (kb a b c z n D)) w (fN Y H I J r' true w):=by
 obtain⟨a8,a9,ba⟩:=d_ ac ad am;clear ac ad am;have b6:=rq (zI b);have ao:=below_alloc3 w (.cells (ae v h A rows cap) 26) (.cells (kb a b c z n D) 29) (.cells df 29);obtain⟨a1,a2,a3⟩:=cA w (.cells (ae v h A rows cap) 26) (.cells (kb a b c z n D) 29) (.cells df 29);obtain⟨Z,bb,bd,be⟩:=fU ao a1 a2 a3;clear ao a1 a2 a3;go_enter l6,l7
 go_upto_region 2 with(go_at_call 34;refine(a8.o _ Z.o).mono ?_;rintro e a4 ⟨v2,bp,A2,n2,c2,rfl,a0,_,O⟩;obtain⟨rfl,rfl,_⟩:=a0 rfl;clear a0)
 have bv:=O.size;simp only[cg]at bv;obtain⟨bi,En⟩:=aO (a4.alloc (.cells (dj v2 bp A2 n2 c2) 26));rw[<-En];have ap:ai a4 bi:=Wc;have E:=af O ap;obtain⟨⟨d0,d1,d2,d3,d4⟩,_⟩:=jk E bd;obtain⟨a6,a7⟩:=bS E (Z.o.trans (E.mono (B':=w.heap.size) SJ));clear O ap E En;go_upto_region 5 with(go_at_call 67;refine(a9.o _).mono ?_;rintro e b7 ⟨rfl,Q⟩;have F:=zH (af a6 Q);have ab:=zH (af a7 Q);clear Q)
 obtain⟨b3,b4,b5,_⟩:=kV F bb;clear d0 d1 d2 d3 d4;go_wp2_with (go_at_call 251;refine(ba.o _ ab.o).mono ?_;rintro e b8 ⟨u,rfl,U,R⟩;obtain⟨a5,bm,rfl,_⟩:=U.view;obtain⟨⟨b0,c1,b1,c3,b2⟩,f0,f1,f2,f3,f4⟩:=jk (af F R) be;have HU:=zH U;have H4:=zH (af ab R);clear U R)
 have br:=F.size;simp only[cg]at br;refine ax (v:=.tuple (dN (bB Y H I J a5 r' bm))) UP rfl (fN.mk rfl ?_ ?_)
 .exact Y8
 .exact WZ
def pI(p v h k a b c:Int)(A:an)(cap:Nat)(rows:aE)(w:aa)(D:an)(row:aG)(E:Nat)(a1:dm w)(U:aX w A rows)(a2:aT w D row)(J:row.length<=1048576)(s:Sys p v h rows)(ok:Bool)(Q:ja p v h rows k a b c row=ok):aw 41 (eB p (ae v h A rows cap) (bB k a b c D row E)) w (fN (uK ok k) (uA ok k a) (uB ok k b) (uC ok p k c) (uR ok rows k a) ok w):=by
 have I:∀W,ai w W->aw 34 (eB p (ae v h A rows cap) (bB k a b c D row E)) W (Made v (dO k h) (bE p v rows k a b c row (v+h).toNat) ok W):=
  fun W H=>(yU p v h k a b c A cap rows W D row E (a1.ext H) (U.ext H) (a2.ext H) J s).mono fun e w' m=>m.same Q
 cases ok with
 |false=>exact zae p v h k a b c A cap rows w D row E _ _ _ I
 |true=>
  have F:iY k a b c row=true:=by unfold ja at Q;rw[bC]at Q;exact Q.1
  have R:=Q;unfold ja at R;rw[bC]at R;have O:=R.2;clear R;by_cases Y:k=1
  .subst Y;rw[show iY 1 a b c row=((c==0)&&((row.length==0))) by simp[iY]]at F;have z:=fun W=>qn a b c D row E W J
   rw[F]at z;simp[bk]at O;rw[show uK true 1=1 by simp[uK],show uA true 1 a=a by simp[uA],show uB true 1 b=b by simp[uB],show uC true p 1 c=0 by simp[uC],show uR true rows 1 a=[] by simp[uR]];exact uV p v h a b c _ _ _ _ _ A cap rows w D row E _ _ _ I z (fun W H=>ze9 a b p v h A cap rows W)
  by_cases Z:k=2
  .subst Z;rw[show iY 2 a b c row=((b==0)&&((row.length==0))) by simp[iY]]at F;have z:=fun W=>pd a b c D row E W J
   rw[F]at z;simp[bk]at O;rw[show uK true 2=2 by simp[uK],show uA true 2 a=a by simp[uA],show uB true 2 b=0 by simp[uB],show uC true p 2 c=(fD p c) by simp[uC],show uR true rows 2 a=[] by simp[uR]];exact tD p v h a b c _ _ _ _ _ A cap rows w D row E _ _ _ I z (fun W H=>zdk a c p v h A cap rows W s.f RU RU)
  by_cases ab:k=3
  .subst ab;rw[show iY 3 a b c row=((row.length==0)) by simp[iY]]at F;have z:=fun W=>qV a b c D row E W J
   rw[F]at z;simp[bk]at O;rw[show uK true 3=3 by simp[uK],show uA true 3 a=a by simp[uA],show uB true 3 b=b by simp[uB],show uC true p 3 c=((p-c)%p) by simp[uC],show uR true rows 3 a=[] by simp[uR]];exact wD p v h a b c _ _ _ _ _ A cap rows w D row E _ _ _ I z (fun W H=>zgL a b c p v h A cap rows W s.p2 s.p97 RU RU)
  by_cases ac:k=4
  .subst ac;rw[show iY 4 a b c row=((b==0)&&((c==0)&&((row.length==0)))) by simp[iY]]at F;have z:=fun W=>qo a b c D row E W J
   rw[F]at z;simp[bk]at O;rw[show uK true 4=5 by simp[uK],show uA true 4 a=a by simp[uA],show uB true 4 b=0 by simp[uB],show uC true p 4 c=0 by simp[uC],show uR true rows 4 a=[] by simp[uR]];exact uX p v h a b c _ _ _ _ _ A cap rows w D row E _ _ _ I z (fun W H=>ze_ a p v h A cap rows W)
  by_cases ad:k=5
  .subst ad;rw[show iY 5 a b c row=((b==0)&&((c==0)&&((row.length==0)))) by simp[iY]]at F;have z:=fun W=>qW a b c D row E W J
   rw[F]at z;simp[bk]at O;rw[show uK true 5=4 by simp[uK],show uA true 5 a=a by simp[uA],show uB true 5 b=0 by simp[uB],show uC true p 5 c=0 by simp[uC],show uR true rows 5 a=[] by simp[uR]];exact wE p v h a b c _ _ _ _ _ A cap rows w D row E _ _ _ I z (fun W H=>zgK a p v h A cap rows W)
  by_cases am:k=6
  .subst am;rw[show iY 6 a b c row=((c==0)&&((row.length==0))) by simp[iY]]at F;have z:=fun W=>pe a b c D row E W J
   rw[F]at z;simp[bk]at O;rw[show uK true 6=7 by simp[uK],show uA true 6 a=a by simp[uA],show uB true 6 b=b by simp[uB],show uC true p 6 c=0 by simp[uC],show uR true rows 6 a=(rows.getD a.toNat []) by simp[uR]];exact tF p v h a b c _ _ _ _ _ A cap rows w D row E _ _ _ I z (fun W H=>zdl a b p v h A cap rows W (U.ext H) RU RU (fun r hr=>WG))
  by_cases ao:k=7
  .subst ao;rw[show iY 7 a b c row=((c==0)) by simp[iY]]at F;have z:=fun W=>pf a b c D row E W J
   rw[F]at z;simp[bk]at O;rw[show uK true 7=6 by simp[uK],show uA true 7 a=a by simp[uA],show uB true 7 b=b by simp[uB],show uC true p 7 c=0 by simp[uC],show uR true rows 7 a=[] by simp[uR]];exact tG p v h a b c _ _ _ _ _ A cap rows w D row E _ _ _ I z (fun W H=>zdj a b p v h A cap rows W D row E)
  by_cases ap:k=8
  .subst ap;rw[show iY 8 a b c row=((a==0)&&((c==0)&&((row.length==0)))) by simp[iY]]at F;have z:=fun W=>oc a b c D row E W J
   rw[F]at z;simp[bk]at O;rw[show uK true 8=9 by simp[uK],show uA true 8 a=0 by simp[uA],show uB true 8 b=b by simp[uB],show uC true p 8 c=0 by simp[uC],show uR true rows 8 a=[] by simp[uR]];exact sJ p v h a b c _ _ _ _ _ A cap rows w D row E _ _ _ I z (fun W H=>za8 b p v h A cap rows W)
  by_cases a0:k=9
  .subst a0;rw[show iY 9 a b c row=((a==0)&&((c==0)&&((row.length==0)))) by simp[iY]]at F;have z:=fun W=>od a b c D row E W J
   rw[F]at z;simp[bk]at O;rw[show uK true 9=8 by simp[uK],show uA true 9 a=0 by simp[uA],show uB true 9 b=b by simp[uB],show uC true p 9 c=0 by simp[uC],show uR true rows 9 a=[] by simp[uR]];exact sK p v h a b c _ _ _ _ _ A cap rows w D row E _ _ _ I z (fun W H=>za9 b p v h A cap rows W)
  simp[*]at O
def CI(p v h k a b c:Int)(A:an)(cap:Nat)(rows:aE)(w:aa)(F:an)(row:aG)(O:Nat)(Q:dm w)(R:aX w A rows)(ad:aT w F row)(am:rows.length<=maxLen)(ao:∀r∈rows,r.length<=maxLen)(ap:row.length<=1048576)(ok:Bool)(H:(fZ p v h rows&&ja p v h rows k a b c row)=ok):aw 13 (eB p (ae v h A rows cap) (bB k a b c F row O)) w (fN (uK ok k) (uA ok k a) (uB ok k b) (uC ok p k c) (uR ok rows k a) ok w):=by
 obtain⟨a5,a6,ba⟩:=d_ am ao ap;clear am ao ap;have ac:=below_alloc3 w (.cells (ae v h A rows cap) 26) (.cells (bB k a b c F row O) 29) (.cells df 29);obtain⟨a0,a1,a2⟩:=cA w (.cells (ae v h A rows cap) 26) (.cells (bB k a b c F row O) 29) (.cells df 29);obtain⟨I,be,bi,ab⟩:=fU ac a0 a1 a2;clear ac a0 a1 a2;obtain⟨J,a8,a9,bd⟩:=fU (jV p v h A cap rows _ (Q.ext I) (R.ext I) a5 a6) Q R ad;clear Q R ad;cases D:fZ p v h rows with
 |false=>
  rw[D,ic]at H;subst H;rw[D]at J;clear D;go_enter func13,ntmps13
  go_wp2_with (go_at_call 33;refine J.o.mono ?_;rintro e bz ⟨rfl,z⟩;obtain⟨⟨bm,c1,bo,c3,bp⟩,f0,f1,f2,f3,f4⟩:=jk z ab;have E:=zH (I.trans (z.mono (B':=w.heap.size) SJ));clear z)
  refine ax (v:=.tuple (dy df)) Vt rfl (fN.mk rfl (ar.nil _ _) ?_);exact ff E.o RU _ _ _ _ _
 |true=>
  rw[D,qc]at H;rw[D]at J;obtain⟨bb,a7⟩:=bS (jI.1 D) H;clear D H;go_enter func13,ntmps13
  go_wp2_with (first|(go_at_call 33;refine J.o.mono ?_;rintro e bz ⟨rfl,z⟩;obtain⟨b0,b1,b2,_⟩:=kV z be;obtain⟨⟨d0,d1,d2,d3,d4⟩,_⟩:=jk z bi;have Z:=zH z;have E:=zH (I.trans (z.mono (B':=w.heap.size) SJ));clear z)|(go_at_call 41;refine(pI p v h k a b c A cap rows _ F row O (a8.ext E.o) (a9.ext E.o) (bd.ext E.o) ba bb ok a7).mono ?_;rintro e b3 ⟨u,rfl,Y,U⟩;obtain⟨a3,br,rfl,_⟩:=Y.view;clear d0 d1 d2 d3 d4;obtain⟨⟨bm,c1,bo,c3,bp⟩,f0,f1,f2,f3,f4⟩:=jk (af Z.o U) ab;have HU:=zH Y;have a4:=zH (af E.o U);clear Y U))
  have bv:=Z.o.size;simp only[cg]at bv;refine ax (v:=.tuple (lP (jt (uK ok k) (uA ok k a) (uB ok k b) (uC ok p k c) a3 (uR ok rows k a) br) ok)) Vt rfl (fN.mk rfl ?_ ?_)
  .exact Y8
  .exact ff a4 RU _ _ _ _ _
end Go.Proofs.YtdpgblncijojiaaGreatDoor
