/- Parts of the walks. Conditions: as stated with each. -/
import Derived.Test.YtdpgblncijojiaaGreatDoorPk19
namespace Go.Proofs.YtdpgblncijojiaaGreatDoor
open Go.RowKit Tryz
set_option linter.all false
set_option maxHeartbeats 4000000
set_option maxRecDepth 20000
variable{Rg:Int}{e:Ending}{r':aH}{u:av}{w w':aa}
def uK(ok:Bool)(k:Int):Int:=if ok=true then(if k=4 then 5 else if k=5 then 4 else if k=6 then 7 else if k=7 then 6 else if k=8 then 9 else if k=9 then 8 else k) else 0
def uA(ok:Bool)(k a:Int):Int:=if ok=true then(if k=8∨k=9 then 0 else a) else 0
def uB(ok:Bool)(k b:Int):Int:=if ok=true then(if k=1∨k=3∨k=6∨k=7∨k=8∨k=9 then b else 0) else 0
def uC(ok:Bool)(p k c:Int):Int:=if ok=true then(if k=2 then ec p c else if k=3 then(p-c)%p else 0) else 0
def uR(ok:Bool)(rows:aC)(k a:Int):List Int:=if ok=true then(if k=6 then rows.getD a.toNat [] else[]) else[]
def gM(E z B D:Int)(r':aH)(ok:Bool)(w:aa)(e:Ending)(w':aa):Prop:=
 ∃u,e=.returned (.tuple #[.agg (kV E z B D u),.bool ok])/\au w' w u r'/\aj w w'
def gM.mk{z B D:Int}{ok:Bool}(F:e=.returned (.tuple #[.agg (kV Rg z B D u),.bool ok]))(H:au w' w u r')(E:aj w w'):gM Rg z B D r' ok w e w':=⟨u,F,H,E⟩
def zaR(p v h k a b c:Int)(A:aq)(cap:Nat)(rows:aC)(w:aa)(z:aq)(n B:Nat)(v1 ac:Int)(ap:aC)(H:∀W,aj w W->ax 34 #[p,.agg (ae v h A rows cap),.agg (ks k a b c z n B)] W (Made v1 ac ap false W)):ax 41 #[p,.agg (ae v h A rows cap),.agg (ks k a b c z n B)] w (gM 0 0 0 0 [] false w):=by
 have U:=zH H;clear H;have I:=below_alloc3 w (.cells (ae v h A rows cap) 26) (.cells (ks k a b c z n B) 29) (.cells dH 29);obtain⟨am,ao,Q⟩:=cv w (.cells (ae v h A rows cap) 26) (.cells (ks k a b c z n B) 29) (.cells dH 29);obtain⟨F,Z⟩:=bL I Q;clear I am ao Q;go_enter mB,mC
 go_upto_region 2 with(go_at_call 34;refine(U.o _ F.o).mono ?_;rintro e R ⟨v2,a3,A2,n2,c2,rfl,_,O,D⟩;obtain⟨rfl,rfl,rfl,rfl,rfl⟩:=O rfl;clear O)
 have ad:=D.size;simp only[cx]at ad;obtain⟨ab,Er⟩:=aK (R.alloc (.cells aQ 26));rw[<-Er];have J:aj R ab:=VH;have E:=an D J;obtain⟨⟨a0,c1,a1,c3,a2⟩,f0,f1,f2,f3,f4⟩:=m6 E Z;have T:=zH (F.trans (E.mono (B':=w.heap.size) Sn));clear D J E Er;go_wp2;refine az (v:=.tuple (dP dH)) Uu rfl (gM.mk rfl (au.nil _ _) ?_);exact gN T Ry _ _ _ _ _
def uM(z:av)(B:av)(w:aa):(method 347 130 (.agg #[z,B]) "loop.example/g01073/impl.undo").run prog w=.ok (208,(.agg #[z,B])) w:=RU
def zdd(z:av)(B:av)(w:aa):(nilAhead 347 130 (.agg #[z,B]) "loop.example/g01073/impl.undo").run prog w=.ok (some false) w:=RU
def vP(p v h a b c T F H I:Int)(r':aH)(A:aq)(cap:Nat)(rows:aC)(w:aa)(z:aq)(n B:Nat)(v1 bm:Int)(bv:aC)(ab:∀W,aj w W->ax 34 (dI p (ae v h A rows cap) (km a b c z n B)) W (Made v1 bm bv true W))(ac:∀W,ax 67 (cB (km a b c z n B)) W fun e w'=>e=.returned (.tuple #[.iface 130 (.agg (bI a b)),.bool true])/\aj W w')(ad:∀W,aj w W->ax 208 (eY (.agg (bI a b)) p (ae v h A rows cap)) W fun e w'=>∃u,e=.returned (.agg (kV T F H I u))/\au w' W.heap.size u r'/\aj W w'):ax 41 (dI p (ae v h A rows cap) (km a b c z n B)) w (gM T F H I r' true w):=by
 obtain⟨a7,a8,a9⟩:=dD ab ac ad;clear ab ac ad;have b5:=uM (zI a) (zI b);have am:=below_alloc3 w (.cells (ae v h A rows cap) 26) (.cells (km a b c z n B) 29) (.cells dH 29);obtain⟨a0,a1,a2⟩:=cv w (.cells (ae v h A rows cap) 26) (.cells (km a b c z n B) 29) (.cells dH 29);obtain⟨U,ba,bb,bd⟩:=fS am a0 a1 a2;clear am a0 a1 a2;go_enter mB,mC
 go_upto_region 2 with(go_at_call 34;refine(a7.o _ U.o).mono ?_;rintro e a3 ⟨v2,bo,A2,n2,c2,rfl,ap,_,J⟩;obtain⟨rfl,rfl,_⟩:=ap rfl;clear ap)
 have br:=J.size;simp only[cx]at br;obtain⟨be,Er⟩:=aK (a3.alloc (.cells (dp v2 bo A2 n2 c2) 26));rw[<-Er];have ao:aj a3 be:=VH;have D:=an J ao;obtain⟨⟨d0,d1,d2,d3,d4⟩,_⟩:=m6 D bb;obtain⟨a5,a6⟩:=bL D (U.o.trans (D.mono (B':=w.heap.size) Sn));clear J ao D Er;go_upto_region 5 with(go_at_call 67;refine(a8.o _).mono ?_;rintro e b6 ⟨rfl,O⟩;have E:=zH (an a5 O);have Z:=zH (an a6 O);clear O)
 obtain⟨b2,b3,b4,_⟩:=xf E.o ba;clear d0 d1 d2 d3 d4;go_wp2_with (go_at_call 208;refine(a9.o _ Z.o).mono ?_;rintro e b7 ⟨u,rfl,R,Q⟩;obtain⟨a4,bi,rfl,_⟩:=R.view;obtain⟨⟨bz,c1,b0,c3,b1⟩,f0,f1,f2,f3,f4⟩:=m6 (an E.o Q) bd;have HU:=zH R;have H4:=zH (an Z Q);clear R Q)
 have bp:=E.o.size;simp only[cx]at bp;refine az (v:=.tuple (eh (dk T F H I a4 r' bi))) Uu rfl (gM.mk rfl ?_ ?_)
 .exact YZ
 .exact WH
def tw(z:av)(B:av)(w:aa):(method 347 132 (.agg #[z,B]) "loop.example/g01073/impl.undo").run prog w=.ok (212,(.agg #[z,B])) w:=RU
def zcd(z:av)(B:av)(w:aa):(nilAhead 347 132 (.agg #[z,B]) "loop.example/g01073/impl.undo").run prog w=.ok (some false) w:=RU
def uN(p v h a b c T F H I:Int)(r':aH)(A:aq)(cap:Nat)(rows:aC)(w:aa)(z:aq)(n B:Nat)(v1 bm:Int)(bv:aC)(ab:∀W,aj w W->ax 34 (dI p (ae v h A rows cap) (kr a b c z n B)) W (Made v1 bm bv true W))(ac:∀W,ax 67 (cB (kr a b c z n B)) W fun e w'=>e=.returned (.tuple #[.iface 132 (.agg (bI a c)),.bool true])/\aj W w')(ad:∀W,aj w W->ax 212 (eY (.agg (bI a c)) p (ae v h A rows cap)) W fun e w'=>∃u,e=.returned (.agg (kV T F H I u))/\au w' W.heap.size u r'/\aj W w'):ax 41 (dI p (ae v h A rows cap) (kr a b c z n B)) w (gM T F H I r' true w):=by
 obtain⟨a7,a8,a9⟩:=dD ab ac ad;clear ab ac ad;have b5:=tw (zI a) (zI c);have am:=below_alloc3 w (.cells (ae v h A rows cap) 26) (.cells (kr a b c z n B) 29) (.cells dH 29);obtain⟨a0,a1,a2⟩:=cv w (.cells (ae v h A rows cap) 26) (.cells (kr a b c z n B) 29) (.cells dH 29);obtain⟨U,ba,bb,bd⟩:=fS am a0 a1 a2;clear am a0 a1 a2;go_enter mB,mC
 go_upto_region 2 with(go_at_call 34;refine(a7.o _ U.o).mono ?_;rintro e a3 ⟨v2,bo,A2,n2,c2,rfl,ap,_,J⟩;obtain⟨rfl,rfl,_⟩:=ap rfl;clear ap)
 have br:=J.size;simp only[cx]at br;obtain⟨be,Er⟩:=aK (a3.alloc (.cells (dp v2 bo A2 n2 c2) 26));rw[<-Er];have ao:aj a3 be:=VH;have D:=an J ao;obtain⟨⟨d0,d1,d2,d3,d4⟩,_⟩:=m6 D bb;obtain⟨a5,a6⟩:=bL D (U.o.trans (D.mono (B':=w.heap.size) Sn));clear J ao D Er;go_upto_region 5 with(go_at_call 67;refine(a8.o _).mono ?_;rintro e b6 ⟨rfl,O⟩;have E:=zH (an a5 O);have Z:=zH (an a6 O);clear O)
 obtain⟨b2,b3,b4,_⟩:=xf E.o ba;clear d0 d1 d2 d3 d4;go_wp2_with (go_at_call 212;refine(a9.o _ Z.o).mono ?_;rintro e b7 ⟨u,rfl,R,Q⟩;obtain⟨a4,bi,rfl,_⟩:=R.view;obtain⟨⟨bz,c1,b0,c3,b1⟩,f0,f1,f2,f3,f4⟩:=m6 (an E.o Q) bd;have HU:=zH R;have H4:=zH (an Z Q);clear R Q)
 have bp:=E.o.size;simp only[cx]at bp;refine az (v:=.tuple (eh (dk T F H I a4 r' bi))) Uu rfl (gM.mk rfl ?_ ?_)
 .exact YZ
 .exact WH
def vQ(z:av)(B:av)(D:av)(w:aa):(method 347 134 (.agg #[z,B,D]) "loop.example/g01073/impl.undo").run prog w=.ok (215,(.agg #[z,B,D])) w:=RU
def zeF(z:av)(B:av)(D:av)(w:aa):(nilAhead 347 134 (.agg #[z,B,D]) "loop.example/g01073/impl.undo").run prog w=.ok (some false) w:=RU
def xK(p v h a b c T F H I:Int)(r':aH)(A:aq)(cap:Nat)(rows:aC)(w:aa)(z:aq)(n B:Nat)(v1 bm:Int)(bv:aC)(ab:∀W,aj w W->ax 34 (dI p (ae v h A rows cap) (kj a b c z n B)) W (Made v1 bm bv true W))(ac:∀W,ax 67 (cB (kj a b c z n B)) W fun e w'=>e=.returned (.tuple #[.iface 134 (.agg (fe a b c)),.bool true])/\aj W w')(ad:∀W,aj w W->ax 215 (eY (.agg (fe a b c)) p (ae v h A rows cap)) W fun e w'=>∃u,e=.returned (.agg (kV T F H I u))/\au w' W.heap.size u r'/\aj W w'):ax 41 (dI p (ae v h A rows cap) (kj a b c z n B)) w (gM T F H I r' true w):=by
 obtain⟨a7,a8,a9⟩:=dD ab ac ad;clear ab ac ad;have b5:=vQ (zI a) (zI b) (zI c);have am:=below_alloc3 w (.cells (ae v h A rows cap) 26) (.cells (kj a b c z n B) 29) (.cells dH 29);obtain⟨a0,a1,a2⟩:=cv w (.cells (ae v h A rows cap) 26) (.cells (kj a b c z n B) 29) (.cells dH 29);obtain⟨U,ba,bb,bd⟩:=fS am a0 a1 a2;clear am a0 a1 a2;go_enter mB,mC
 go_upto_region 2 with(go_at_call 34;refine(a7.o _ U.o).mono ?_;rintro e a3 ⟨v2,bo,A2,n2,c2,rfl,ap,_,J⟩;obtain⟨rfl,rfl,_⟩:=ap rfl;clear ap)
 have br:=J.size;simp only[cx]at br;obtain⟨be,Er⟩:=aK (a3.alloc (.cells (dp v2 bo A2 n2 c2) 26));rw[<-Er];have ao:aj a3 be:=VH;have D:=an J ao;obtain⟨⟨d0,d1,d2,d3,d4⟩,_⟩:=m6 D bb;obtain⟨a5,a6⟩:=bL D (U.o.trans (D.mono (B':=w.heap.size) Sn));clear J ao D Er;go_upto_region 5 with(go_at_call 67;refine(a8.o _).mono ?_;rintro e b6 ⟨rfl,O⟩;have E:=zH (an a5 O);have Z:=zH (an a6 O);clear O)
 obtain⟨b2,b3,b4,_⟩:=xf E.o ba;clear d0 d1 d2 d3 d4;go_wp2_with (go_at_call 215;refine(a9.o _ Z.o).mono ?_;rintro e b7 ⟨u,rfl,R,Q⟩;obtain⟨a4,bi,rfl,_⟩:=R.view;obtain⟨⟨bz,c1,b0,c3,b1⟩,f0,f1,f2,f3,f4⟩:=m6 (an E.o Q) bd;have HU:=zH R;have H4:=zH (an Z Q);clear R Q)
 have bp:=E.o.size;simp only[cx]at bp;refine az (v:=.tuple (eh (dk T F H I a4 r' bi))) Uu rfl (gM.mk rfl ?_ ?_)
 .exact YZ
 .exact WH
def uO(z:av)(w:aa):(method 347 136 (.agg #[z]) "loop.example/g01073/impl.undo").run prog w=.ok (218,(.agg #[z])) w:=RU
def zde(z:av)(w:aa):(nilAhead 347 136 (.agg #[z]) "loop.example/g01073/impl.undo").run prog w=.ok (some false) w:=RU
def vR(p v h a b c T F H I:Int)(r':aH)(A:aq)(cap:Nat)(rows:aC)(w:aa)(z:aq)(n B:Nat)(v1 bm:Int)(bv:aC)(ab:∀W,aj w W->ax 34 (dI p (ae v h A rows cap) (kn a b c z n B)) W (Made v1 bm bv true W))(ac:∀W,ax 67 (cB (kn a b c z n B)) W fun e w'=>e=.returned (.tuple #[.iface 136 (.agg (bc a)),.bool true])/\aj W w')(ad:∀W,aj w W->ax 218 (eY (.agg (bc a)) p (ae v h A rows cap)) W fun e w'=>∃u,e=.returned (.agg (kV T F H I u))/\au w' W.heap.size u r'/\aj W w'):ax 41 (dI p (ae v h A rows cap) (kn a b c z n B)) w (gM T F H I r' true w):=by
 obtain⟨a7,a8,a9⟩:=dD ab ac ad;clear ab ac ad;have b5:=uO (zI a);have am:=below_alloc3 w (.cells (ae v h A rows cap) 26) (.cells (kn a b c z n B) 29) (.cells dH 29);obtain⟨a0,a1,a2⟩:=cv w (.cells (ae v h A rows cap) 26) (.cells (kn a b c z n B) 29) (.cells dH 29);obtain⟨U,ba,bb,bd⟩:=fS am a0 a1 a2;clear am a0 a1 a2;go_enter mB,mC
 go_upto_region 2 with(go_at_call 34;refine(a7.o _ U.o).mono ?_;rintro e a3 ⟨v2,bo,A2,n2,c2,rfl,ap,_,J⟩;obtain⟨rfl,rfl,_⟩:=ap rfl;clear ap)
 have br:=J.size;simp only[cx]at br;obtain⟨be,Er⟩:=aK (a3.alloc (.cells (dp v2 bo A2 n2 c2) 26));rw[<-Er];have ao:aj a3 be:=VH;have D:=an J ao;obtain⟨⟨d0,d1,d2,d3,d4⟩,_⟩:=m6 D bb;obtain⟨a5,a6⟩:=bL D (U.o.trans (D.mono (B':=w.heap.size) Sn));clear J ao D Er;go_upto_region 5 with(go_at_call 67;refine(a8.o _).mono ?_;rintro e b6 ⟨rfl,O⟩;have E:=zH (an a5 O);have Z:=zH (an a6 O);clear O)
 obtain⟨b2,b3,b4,_⟩:=xf E.o ba;clear d0 d1 d2 d3 d4;go_wp2_with (go_at_call 218;refine(a9.o _ Z.o).mono ?_;rintro e b7 ⟨u,rfl,R,Q⟩;obtain⟨a4,bi,rfl,_⟩:=R.view;obtain⟨⟨bz,c1,b0,c3,b1⟩,f0,f1,f2,f3,f4⟩:=m6 (an E.o Q) bd;have HU:=zH R;have H4:=zH (an Z Q);clear R Q)
 have bp:=E.o.size;simp only[cx]at bp;refine az (v:=.tuple (eh (dk T F H I a4 r' bi))) Uu rfl (gM.mk rfl ?_ ?_)
 .exact YZ
 .exact WH
def vS(z:av)(w:aa):(method 347 137 (.agg #[z]) "loop.example/g01073/impl.undo").run prog w=.ok (224,(.agg #[z])) w:=RU
def zeG(z:av)(w:aa):(nilAhead 347 137 (.agg #[z]) "loop.example/g01073/impl.undo").run prog w=.ok (some false) w:=RU
def xL(p v h a b c T F H I:Int)(r':aH)(A:aq)(cap:Nat)(rows:aC)(w:aa)(z:aq)(n B:Nat)(v1 bm:Int)(bv:aC)(ab:∀W,aj w W->ax 34 (dI p (ae v h A rows cap) (ko a b c z n B)) W (Made v1 bm bv true W))(ac:∀W,ax 67 (cB (ko a b c z n B)) W fun e w'=>e=.returned (.tuple #[.iface 137 (.agg (bc a)),.bool true])/\aj W w')(ad:∀W,aj w W->ax 224 (eY (.agg (bc a)) p (ae v h A rows cap)) W fun e w'=>∃u,e=.returned (.agg (kV T F H I u))/\au w' W.heap.size u r'/\aj W w'):ax 41 (dI p (ae v h A rows cap) (ko a b c z n B)) w (gM T F H I r' true w):=by
 obtain⟨a7,a8,a9⟩:=dD ab ac ad;clear ab ac ad;have b5:=vS (zI a);have am:=below_alloc3 w (.cells (ae v h A rows cap) 26) (.cells (ko a b c z n B) 29) (.cells dH 29);obtain⟨a0,a1,a2⟩:=cv w (.cells (ae v h A rows cap) 26) (.cells (ko a b c z n B) 29) (.cells dH 29);obtain⟨U,ba,bb,bd⟩:=fS am a0 a1 a2;clear am a0 a1 a2;go_enter mB,mC
 go_upto_region 2 with(go_at_call 34;refine(a7.o _ U.o).mono ?_;rintro e a3 ⟨v2,bo,A2,n2,c2,rfl,ap,_,J⟩;obtain⟨rfl,rfl,_⟩:=ap rfl;clear ap)
 have br:=J.size;simp only[cx]at br;obtain⟨be,Er⟩:=aK (a3.alloc (.cells (dp v2 bo A2 n2 c2) 26));rw[<-Er];have ao:aj a3 be:=VH;have D:=an J ao;obtain⟨⟨d0,d1,d2,d3,d4⟩,_⟩:=m6 D bb;obtain⟨a5,a6⟩:=bL D (U.o.trans (D.mono (B':=w.heap.size) Sn));clear J ao D Er;go_upto_region 5 with(go_at_call 67;refine(a8.o _).mono ?_;rintro e b6 ⟨rfl,O⟩;have E:=zH (an a5 O);have Z:=zH (an a6 O);clear O)
 obtain⟨b2,b3,b4,_⟩:=xf E.o ba;clear d0 d1 d2 d3 d4;go_wp2_with (go_at_call 224;refine(a9.o _ Z.o).mono ?_;rintro e b7 ⟨u,rfl,R,Q⟩;obtain⟨a4,bi,rfl,_⟩:=R.view;obtain⟨⟨bz,c1,b0,c3,b1⟩,f0,f1,f2,f3,f4⟩:=m6 (an E.o Q) bd;have HU:=zH R;have H4:=zH (an Z Q);clear R Q)
 have bp:=E.o.size;simp only[cx]at bp;refine az (v:=.tuple (eh (dk T F H I a4 r' bi))) Uu rfl (gM.mk rfl ?_ ?_)
 .exact YZ
 .exact WH
def tx(z:av)(B:av)(w:aa):(method 347 138 (.agg #[z,B]) "loop.example/g01073/impl.undo").run prog w=.ok (232,(.agg #[z,B])) w:=RU
def zce(z:av)(B:av)(w:aa):(nilAhead 347 138 (.agg #[z,B]) "loop.example/g01073/impl.undo").run prog w=.ok (some false) w:=RU
def uP(p v h a b c T F H I:Int)(r':aH)(A:aq)(cap:Nat)(rows:aC)(w:aa)(z:aq)(n B:Nat)(v1 bm:Int)(bv:aC)(ab:∀W,aj w W->ax 34 (ew p (ae v h A rows cap) (iT a b c z n B)) W (Made v1 bm bv true W))(ac:∀W,ax 67 (cB (iT a b c z n B)) W fun e w'=>e=.returned (.tuple #[.iface 138 (.agg (bI a b)),.bool true])/\aj W w')(ad:∀W,aj w W->ax 232 (eY (.agg (bI a b)) p (ae v h A rows cap)) W fun e w'=>∃u,e=.returned (.agg (kV T F H I u))/\au w' W.heap.size u r'/\aj W w'):ax 41 (ew p (ae v h A rows cap) (iT a b c z n B)) w (gM T F H I r' true w):=by
 obtain⟨a7,a8,a9⟩:=dD ab ac ad;clear ab ac ad;have b5:=tx (zI a) (zI b);have am:=below_alloc3 w (.cells (ae v h A rows cap) 26) (.cells (iT a b c z n B) 29) (.cells dH 29);obtain⟨a0,a1,a2⟩:=cv w (.cells (ae v h A rows cap) 26) (.cells (iT a b c z n B) 29) (.cells dH 29);obtain⟨U,ba,bb,bd⟩:=fS am a0 a1 a2;clear am a0 a1 a2;go_enter mB,mC
 go_upto_region 2 with(go_at_call 34;refine(a7.o _ U.o).mono ?_;rintro e a3 ⟨v2,bo,A2,n2,c2,rfl,ap,_,J⟩;obtain⟨rfl,rfl,_⟩:=ap rfl;clear ap)
 have br:=J.size;simp only[cx]at br;obtain⟨be,Er⟩:=aK (a3.alloc (.cells (dp v2 bo A2 n2 c2) 26));rw[<-Er];have ao:aj a3 be:=VH;have D:=an J ao;obtain⟨⟨d0,d1,d2,d3,d4⟩,_⟩:=m6 D bb;obtain⟨a5,a6⟩:=bL D (U.o.trans (D.mono (B':=w.heap.size) Sn));clear J ao D Er;go_upto_region 5 with(go_at_call 67;refine(a8.o _).mono ?_;rintro e b6 ⟨rfl,O⟩;have E:=zH (an a5 O);have Z:=zH (an a6 O);clear O)
 obtain⟨b2,b3,b4,_⟩:=xf E.o ba;clear d0 d1 d2 d3 d4;go_wp2_with (go_at_call 232;refine(a9.o _ Z.o).mono ?_;rintro e b7 ⟨u,rfl,R,Q⟩;obtain⟨a4,bi,rfl,_⟩:=R.view;obtain⟨⟨bz,c1,b0,c3,b1⟩,f0,f1,f2,f3,f4⟩:=m6 (an E.o Q) bd;have HU:=zH R;have H4:=zH (an Z Q);clear R Q)
 have bp:=E.o.size;simp only[cx]at bp;refine az (v:=.tuple (eh (dk T F H I a4 r' bi))) Uu rfl (gM.mk rfl ?_ ?_)
 .exact YZ
 .exact WH
def tz(z:av)(B:av)(D:av)(w:aa):(method 347 140 (.agg #[z,B,D]) "loop.example/g01073/impl.undo").run prog w=.ok (239,(.agg #[z,B,D])) w:=RU
def zcf(z:av)(B:av)(D:av)(w:aa):(nilAhead 347 140 (.agg #[z,B,D]) "loop.example/g01073/impl.undo").run prog w=.ok (some false) w:=RU
def uQ(p v h a b c T F H I:Int)(r':aH)(A:aq)(cap:Nat)(rows:aC)(w:aa)(z:aq)(n B:Nat)(v1 bm:Int)(bv:aC)(ab:∀W,aj w W->ax 34 (dI p (ae v h A rows cap) (kp a b c z n B)) W (Made v1 bm bv true W))(ac:∀W,ax 67 (cB (kp a b c z n B)) W fun e w'=>e=.returned (.tuple #[.iface 140 (.agg (dp a b z n B)),.bool true])/\aj W w')(ad:∀W,aj w W->ax 239 (eY (.agg (dp a b z n B)) p (ae v h A rows cap)) W fun e w'=>∃u,e=.returned (.agg (kV T F H I u))/\au w' W.heap.size u r'/\aj W w'):ax 41 (dI p (ae v h A rows cap) (kp a b c z n B)) w (gM T F H I r' true w):=by
 obtain⟨a7,a8,a9⟩:=dD ab ac ad;clear ab ac ad;have b5:=tz (zI a) (zI b) (.slice z n B);have am:=below_alloc3 w (.cells (ae v h A rows cap) 26) (.cells (kp a b c z n B) 29) (.cells dH 29);obtain⟨a0,a1,a2⟩:=cv w (.cells (ae v h A rows cap) 26) (.cells (kp a b c z n B) 29) (.cells dH 29);obtain⟨U,ba,bb,bd⟩:=fS am a0 a1 a2;clear am a0 a1 a2;go_enter mB,mC
 go_upto_region 2 with(go_at_call 34;refine(a7.o _ U.o).mono ?_;rintro e a3 ⟨v2,bo,A2,n2,c2,rfl,ap,_,J⟩;obtain⟨rfl,rfl,_⟩:=ap rfl;clear ap)
 have br:=J.size;simp only[cx]at br;obtain⟨be,Er⟩:=aK (a3.alloc (.cells (dp v2 bo A2 n2 c2) 26));rw[<-Er];have ao:aj a3 be:=VH;have D:=an J ao;obtain⟨⟨d0,d1,d2,d3,d4⟩,_⟩:=m6 D bb;obtain⟨a5,a6⟩:=bL D (U.o.trans (D.mono (B':=w.heap.size) Sn));clear J ao D Er;go_upto_region 5 with(go_at_call 67;refine(a8.o _).mono ?_;rintro e b6 ⟨rfl,O⟩;have E:=zH (an a5 O);have Z:=zH (an a6 O);clear O)
 obtain⟨b2,b3,b4,_⟩:=xf E.o ba;clear d0 d1 d2 d3 d4;go_wp2_with (go_at_call 239;refine(a9.o _ Z.o).mono ?_;rintro e b7 ⟨u,rfl,R,Q⟩;obtain⟨a4,bi,rfl,_⟩:=R.view;obtain⟨⟨bz,c1,b0,c3,b1⟩,f0,f1,f2,f3,f4⟩:=m6 (an E.o Q) bd;have HU:=zH R;have H4:=zH (an Z Q);clear R Q)
 have bp:=E.o.size;simp only[cx]at bp;refine az (v:=.tuple (eh (dk T F H I a4 r' bi))) Uu rfl (gM.mk rfl ?_ ?_)
 .exact YZ
 .exact WH
def rZ(z:av)(w:aa):(method 347 142 (.agg #[z]) "loop.example/g01073/impl.undo").run prog w=.ok (248,(.agg #[z])) w:=RU
def za8(z:av)(w:aa):(nilAhead 347 142 (.agg #[z]) "loop.example/g01073/impl.undo").run prog w=.ok (some false) w:=RU
def tD(p v h a b c T F H I:Int)(r':aH)(A:aq)(cap:Nat)(rows:aC)(w:aa)(z:aq)(n B:Nat)(v1 bm:Int)(bv:aC)(ab:∀W,aj w W->ax 34 (ew p (ae v h A rows cap) (ki a b c z n B)) W (Made v1 bm bv true W))(ac:∀W,ax 67 (cB (ki a b c z n B)) W fun e w'=>e=.returned (.tuple #[.iface 142 (.agg (bc b)),.bool true])/\aj W w')(ad:∀W,aj w W->ax 248 (eY (.agg (bc b)) p (ae v h A rows cap)) W fun e w'=>∃u,e=.returned (.agg (kV T F H I u))/\au w' W.heap.size u r'/\aj W w'):ax 41 (ew p (ae v h A rows cap) (ki a b c z n B)) w (gM T F H I r' true w):=by
 obtain⟨a7,a8,a9⟩:=dD ab ac ad;clear ab ac ad;have b5:=rZ (zI b);have am:=below_alloc3 w (.cells (ae v h A rows cap) 26) (.cells (ki a b c z n B) 29) (.cells dH 29);obtain⟨a0,a1,a2⟩:=cv w (.cells (ae v h A rows cap) 26) (.cells (ki a b c z n B) 29) (.cells dH 29);obtain⟨U,ba,bb,bd⟩:=fS am a0 a1 a2;clear am a0 a1 a2;go_enter mB,mC
 go_upto_region 2 with(go_at_call 34;refine(a7.o _ U.o).mono ?_;rintro e a3 ⟨v2,bo,A2,n2,c2,rfl,ap,_,J⟩;obtain⟨rfl,rfl,_⟩:=ap rfl;clear ap)
 have br:=J.size;simp only[cx]at br;obtain⟨be,Er⟩:=aK (a3.alloc (.cells (dp v2 bo A2 n2 c2) 26));rw[<-Er];have ao:aj a3 be:=VH;have D:=an J ao;obtain⟨⟨d0,d1,d2,d3,d4⟩,_⟩:=m6 D bb;obtain⟨a5,a6⟩:=bL D (U.o.trans (D.mono (B':=w.heap.size) Sn));clear J ao D Er;go_upto_region 5 with(go_at_call 67;refine(a8.o _).mono ?_;rintro e b6 ⟨rfl,O⟩;have E:=zH (an a5 O);have Z:=zH (an a6 O);clear O)
 obtain⟨b2,b3,b4,_⟩:=xf E.o ba;clear d0 d1 d2 d3 d4;go_wp2_with (go_at_call 248;refine(a9.o _ Z.o).mono ?_;rintro e b7 ⟨u,rfl,R,Q⟩;obtain⟨a4,bi,rfl,_⟩:=R.view;obtain⟨⟨bz,c1,b0,c3,b1⟩,f0,f1,f2,f3,f4⟩:=m6 (an E.o Q) bd;have HU:=zH R;have H4:=zH (an Z Q);clear R Q)
 have bp:=E.o.size;simp only[cx]at bp;refine az (v:=.tuple (eh (dk T F H I a4 r' bi))) Uu rfl (gM.mk rfl ?_ ?_)
 .exact YZ
 .exact WH
def r5(z:av)(w:aa):(method 347 143 (.agg #[z]) "loop.example/g01073/impl.undo").run prog w=.ok (251,(.agg #[z])) w:=RU
def za9(z:av)(w:aa):(nilAhead 347 143 (.agg #[z]) "loop.example/g01073/impl.undo").run prog w=.ok (some false) w:=RU
def tE(p v h a b c T F H I:Int)(r':aH)(A:aq)(cap:Nat)(rows:aC)(w:aa)(z:aq)(n B:Nat)(v1 bm:Int)(bv:aC)(ab:∀W,aj w W->ax 34 (dI p (ae v h A rows cap) (kq a b c z n B)) W (Made v1 bm bv true W))(ac:∀W,ax 67 (cB (kq a b c z n B)) W fun e w'=>e=.returned (.tuple #[.iface 143 (.agg (bc b)),.bool true])/\aj W w')(ad:∀W,aj w W->ax 251 (eY (.agg (bc b)) p (ae v h A rows cap)) W fun e w'=>∃u,e=.returned (.agg (kV T F H I u))/\au w' W.heap.size u r'/\aj W w'):ax 41 (dI p (ae v h A rows cap) (kq a b c z n B)) w (gM T F H I r' true w):=by
 obtain⟨a7,a8,a9⟩:=dD ab ac ad;clear ab ac ad;have b5:=r5 (zI b);have am:=below_alloc3 w (.cells (ae v h A rows cap) 26) (.cells (kq a b c z n B) 29) (.cells dH 29);obtain⟨a0,a1,a2⟩:=cv w (.cells (ae v h A rows cap) 26) (.cells (kq a b c z n B) 29) (.cells dH 29);obtain⟨U,ba,bb,bd⟩:=fS am a0 a1 a2;clear am a0 a1 a2;go_enter mB,mC
 go_upto_region 2 with(go_at_call 34;refine(a7.o _ U.o).mono ?_;rintro e a3 ⟨v2,bo,A2,n2,c2,rfl,ap,_,J⟩;obtain⟨rfl,rfl,_⟩:=ap rfl;clear ap)
 have br:=J.size;simp only[cx]at br;obtain⟨be,Er⟩:=aK (a3.alloc (.cells (dp v2 bo A2 n2 c2) 26));rw[<-Er];have ao:aj a3 be:=VH;have D:=an J ao;obtain⟨⟨d0,d1,d2,d3,d4⟩,_⟩:=m6 D bb;obtain⟨a5,a6⟩:=bL D (U.o.trans (D.mono (B':=w.heap.size) Sn));clear J ao D Er;go_upto_region 5 with(go_at_call 67;refine(a8.o _).mono ?_;rintro e b6 ⟨rfl,O⟩;have E:=zH (an a5 O);have Z:=zH (an a6 O);clear O)
 obtain⟨b2,b3,b4,_⟩:=xf E.o ba;clear d0 d1 d2 d3 d4;go_wp2_with (go_at_call 251;refine(a9.o _ Z.o).mono ?_;rintro e b7 ⟨u,rfl,R,Q⟩;obtain⟨a4,bi,rfl,_⟩:=R.view;obtain⟨⟨bz,c1,b0,c3,b1⟩,f0,f1,f2,f3,f4⟩:=m6 (an E.o Q) bd;have HU:=zH R;have H4:=zH (an Z Q);clear R Q)
 have bp:=E.o.size;simp only[cx]at bp;refine az (v:=.tuple (eh (dk T F H I a4 r' bi))) Uu rfl (gM.mk rfl ?_ ?_)
 .exact YZ
 .exact WH
def vT(p v h k a b c:Int)(A:aq)(cap:Nat)(rows:aC)(w:aa)(B:aq)(row:aH)(D:Nat)(a0:cU w)(R:aL w A rows)(a1:aU w B row)(I:row.length<=1048576)(s:Sys p v h rows)(ok:Bool)(O:jO p v h rows k a b c row=ok):ax 41 (ew p (ae v h A rows cap) (dk k a b c B row D)) w (gM (uK ok k) (uA ok k a) (uB ok k b) (uC ok p k c) (uR ok rows k a) ok w):=by
 have H:∀W,aj w W->ax 34 (ew p (ae v h A rows cap) (dk k a b c B row D)) W (Made v (dK k h) (bH p v rows k a b c row (v+h).toNat) ok W):=
  fun W F=>(zbG p v h k a b c A cap rows W B row D (a0.ext F) (R.ext F) (a1.ext F) I s).mono fun e w' m=>m.same O
 cases ok with
 |false=>exact zaR p v h k a b c A cap rows w B row D _ _ _ H
 |true=>
  have E:jb k a b c row=true:=by unfold jO at O;rw[bn]at O;exact O.1
  have Q:=O;unfold jO at Q;rw[bn]at Q;have J:=Q.2;clear Q;by_cases T:k=1
  .subst T;rw[show jb 1 a b c row=((c==0)&&((row.length==0))) by simp[jb]]at E;have z:=fun W=>qR a b c B row D W I
   rw[E]at z;simp[bh]at J;rw[show uK true 1=1 by simp[uK],show uA true 1 a=a by simp[uA],show uB true 1 b=b by simp[uB],show uC true p 1 c=0 by simp[uC],show uR true rows 1 a=[] by simp[uR]];exact vP p v h a b c _ _ _ _ _ A cap rows w B row D _ _ _ H z (fun W F=>zfC a b p v h A cap rows W)
  by_cases U:k=2
  .subst U;rw[show jb 2 a b c row=((b==0)&&((row.length==0))) by simp[jb]]at E;have z:=fun W=>pM a b c B row D W I
   rw[E]at z;simp[bh]at J;rw[show uK true 2=2 by simp[uK],show uA true 2 a=a by simp[uA],show uB true 2 b=0 by simp[uB],show uC true p 2 c=(ec p c) by simp[uC],show uR true rows 2 a=[] by simp[uR]];exact uN p v h a b c _ _ _ _ _ A cap rows w B row D _ _ _ H z (fun W F=>zdU a c p v h A cap rows W s.f Ry Ry)
  by_cases Z:k=3
  .subst Z;rw[show jb 3 a b c row=((row.length==0)) by simp[jb]]at E;have z:=fun W=>rJ a b c B row D W I
   rw[E]at z;simp[bh]at J;rw[show uK true 3=3 by simp[uK],show uA true 3 a=a by simp[uA],show uB true 3 b=b by simp[uB],show uC true p 3 c=((p-c)%p) by simp[uC],show uR true rows 3 a=[] by simp[uR]];exact xK p v h a b c _ _ _ _ _ A cap rows w B row D _ _ _ H z (fun W F=>zg_ a b c p v h A cap rows W s.p2 s.p97 Ry Ry)
  by_cases ab:k=4
  .subst ab;rw[show jb 4 a b c row=((b==0)&&((c==0)&&((row.length==0)))) by simp[jb]]at E;have z:=fun W=>qS a b c B row D W I
   rw[E]at z;simp[bh]at J;rw[show uK true 4=5 by simp[uK],show uA true 4 a=a by simp[uA],show uB true 4 b=0 by simp[uB],show uC true p 4 c=0 by simp[uC],show uR true rows 4 a=[] by simp[uR]];exact vR p v h a b c _ _ _ _ _ A cap rows w B row D _ _ _ H z (fun W F=>zfD a p v h A cap rows W)
  by_cases ac:k=5
  .subst ac;rw[show jb 5 a b c row=((b==0)&&((c==0)&&((row.length==0)))) by simp[jb]]at E;have z:=fun W=>rL a b c B row D W I
   rw[E]at z;simp[bh]at J;rw[show uK true 5=4 by simp[uK],show uA true 5 a=a by simp[uA],show uB true 5 b=0 by simp[uB],show uC true p 5 c=0 by simp[uC],show uR true rows 5 a=[] by simp[uR]];exact xL p v h a b c _ _ _ _ _ A cap rows w B row D _ _ _ H z (fun W F=>zg9 a p v h A cap rows W)
  by_cases ad:k=6
  .subst ad;rw[show jb 6 a b c row=((c==0)&&((row.length==0))) by simp[jb]]at E;have z:=fun W=>pN a b c B row D W I
   rw[E]at z;simp[bh]at J;rw[show uK true 6=7 by simp[uK],show uA true 6 a=a by simp[uA],show uB true 6 b=b by simp[uB],show uC true p 6 c=0 by simp[uC],show uR true rows 6 a=(rows.getD a.toNat []) by simp[uR]];exact uP p v h a b c _ _ _ _ _ A cap rows w B row D _ _ _ H z (fun W F=>zdV a b p v h A cap rows W (R.ext F) Ry Ry (fun r hr=>Wp))
  by_cases am:k=7
  .subst am;rw[show jb 7 a b c row=((c==0)) by simp[jb]]at E;have z:=fun W=>pO a b c B row D W I
   rw[E]at z;simp[bh]at J;rw[show uK true 7=6 by simp[uK],show uA true 7 a=a by simp[uA],show uB true 7 b=b by simp[uB],show uC true p 7 c=0 by simp[uC],show uR true rows 7 a=[] by simp[uR]];exact uQ p v h a b c _ _ _ _ _ A cap rows w B row D _ _ _ H z (fun W F=>zdT a b p v h A cap rows W B row D)
  by_cases ao:k=8
  .subst ao;rw[show jb 8 a b c row=((a==0)&&((c==0)&&((row.length==0)))) by simp[jb]]at E;have z:=fun W=>oM a b c B row D W I
   rw[E]at z;simp[bh]at J;rw[show uK true 8=9 by simp[uK],show uA true 8 a=0 by simp[uA],show uB true 8 b=b by simp[uB],show uC true p 8 c=0 by simp[uC],show uR true rows 8 a=[] by simp[uR]];exact tD p v h a b c _ _ _ _ _ A cap rows w B row D _ _ _ H z (fun W F=>zbD b p v h A cap rows W)
  by_cases ap:k=9
  .subst ap;rw[show jb 9 a b c row=((a==0)&&((c==0)&&((row.length==0)))) by simp[jb]]at E;have z:=fun W=>oN a b c B row D W I
   rw[E]at z;simp[bh]at J;rw[show uK true 9=8 by simp[uK],show uA true 9 a=0 by simp[uA],show uB true 9 b=b by simp[uB],show uC true p 9 c=0 by simp[uC],show uR true rows 9 a=[] by simp[uR]];exact tE p v h a b c _ _ _ _ _ A cap rows w B row D _ _ _ H z (fun W F=>zbE b p v h A cap rows W)
  simp[*]at J
end Go.Proofs.YtdpgblncijojiaaGreatDoor
