/- Parts of the walks. Conditions: as stated with each. -/
import Derived.Test.YtpieilkmmiopfaaGreatDoorPk24
import Derived.Test.YtpieilkmmiopfaaGreatDoorPk26
import Derived.Test.YtpieilkmmiopfaaGreatDoorPk27
import Derived.Test.YtpieilkmmiopfaaGreatDoorPk28
namespace Go.Proofs.YtpieilkmmiopfaaGreatDoor
open Go.RowKit Tryz
set_option linter.all false
set_option maxHeartbeats 8000000
set_option maxRecDepth 100000
variable{B hi hi' lo lo':Nat}{L:List eE}{v:aG}{w w':aa}
def zcL x w:az 56 (iV (re x) (re x)) w (dt w true):=by
 have h:=zH (((al w w).alloc Qt (.cells (re x) 95)).alloc Qt (.cells (re x) 95));obtain⟨k,v,s⟩:=x;dsimp only at h ⊢;go_enter func56,ntmps56
 go_wp2;go_ret
 exact⟨rfl,h⟩
def zbm A G ε O L w(I:bR 3 jK w A L)(J:bR 3 jK w G L)(ac:L.length<=1048576):az 31 (mv A L ε G L O) w (dt w true):=by
 go_enter func31,ntmps31
 go_wp2;go_loopw [5] (fun i wr=>∃k:Nat,k<=L.length/\i=.int .i64 k/\ag w wr) (fun i _=>L.length-(intOf i).toNat)
 case atStart=>exact⟨0,aW _,rfl,al _ _⟩
 case round=>
  obtain⟨k,ab,rfl,FW⟩:=hrel;by_cases T:k<L.length
  .have⟨x,D⟩:=aq T;obtain⟨b,o,rfl,H,c1,c2⟩:=iF (bQ I FW) D;obtain⟨h,F,rfl,d0,d1,d2⟩:=iF (bQ J FW) D;have U:∀W:κ wr,af W.W b (o+k*3) (zI x.k):=fun W=>W.cell H
   have Y:∀W:κ wr,af W.W b (o+k*3+1) (zI x.v):=fun W=>W.cell c1
   have Z:∀W:κ wr,af W.W b (o+k*3+2) (.string x.s):=fun W=>W.cell c2
   have f0:∀W:κ wr,af W.W h (F+k*3) (zI x.k):=fun W=>W.cell d0
   have f1:∀W:κ wr,af W.W h (F+k*3+1) (zI x.v):=fun W=>W.cell d1
   have f2:∀W:κ wr,af W.W h (F+k*3+2) (.string x.s):=fun W=>W.cell d2
   clear D I J H c1 c2 d0 d1 d2;go_wp2;refine bU QT QT ?_
   repeat (go_big_quiet_step ((go_at_call 56;exact Calls.fh (zcL _ _))))
   exact YI
  .go_wp2;go_ret
   exact⟨rfl,FW⟩
def qT A D ε F L w(G:bR 3 jK w A L)(H:bR 3 jK w D L)(Y:L.length<=1048576):az 12 (iV (aV A L ε) (aV D L F)) w (dt w true):=by
 have h:=((al w w).alloc Qt (.cells (aV A L ε) 35)).alloc Qt (.cells (aV D L F) 35);have J:=zH h;have T:=bQ G h;have U:=bQ H h;clear h G H;go_enter func12,ntmps12
 go_wp2_with ((go_at_call 31;refine(zbm _ _ _ _ _ _ T U Y).x ?_;rintro e w' ⟨rfl,I⟩;have O:=zH I;clear I))
 go_ret
 exact⟨rfl,J.o.t (O.x Rs)⟩
def c1(n:Int):ByteArray:=ByteArray.empty.push (UInt8.ofNat n.toNat)
structure AY(w:aa)(lo hi:Nat)(v:aG)(L:List eE):Prop where
 μ:ed w lo v L
 up:∀b,v.ownBlock=some b->b<hi
def AY.of(h:ed w B v L):AY w B w v L:=⟨h,fun b D=>(bS h b D).2⟩
def AY.ext(h:AY w lo hi v L)(D:ag w w'):AY w' lo hi v L:=⟨h.μ.ext D,h.up⟩
def AY.u(h:AY w lo hi v L)(I:b_ lo' hi' w w')(J:hi<=lo'∨hi'<=lo):AY w' lo hi v L:=⟨⟨h.μ.1,h.μ.2.E id fun⟨g,ε,H,a1,F,D,G⟩=>⟨g,ε,H,a1,F,(I.block g (bk.1 D).1 UL).t D,G⟩⟩,h.up⟩
def mn p v G k a b c A ε(rows:aP)w h n F(H:∀W,az 146 (cY (rJ k a b c h n F)) W fun e w'=>e=.returned (.tuple gh)/\ag W w'):az 101 (j9 p (aA v G A rows ε) (rJ k a b c h n F)) w fun e w'=>e=.returned (.tuple (dz bx))/\ag w w':=by
 have Y:=zH H;clear H;go_enter oI,oJ
 go_upto_region 2 with(go_at_call 146;refine(Y.o _).x ?_;rintro e av ⟨rfl,D⟩)
 have I:=(ζ w (.cells (aA v G A rows ε) 57) (.cells (rJ k a b c h n F) 97) (.cells bx 57));have⟨ab,ac,T⟩:=cD w (.cells (aA v G A rows ε) 57) (.cells (rJ k a b c h n F) 97) (.cells bx 57);have O:=dg D T;have J:=I.t (D.x (B':=w.heap.size) Rs);have Z:=D.size;simp only[dV]at Z;have⟨ad,ah,am,an,ao,ap⟩:=dS O;have U:=zH J;clear ab ac T O J D I;go_wp2;refine aI (v:=.tuple (dz bx)) (by simp[results,fM,go_sem, *]) rfl ⟨rfl,?_⟩;exact((U.setCell Rs _).setCell Rs _).setCell Rs _
def zkE(p v h a b c:Int)A ε rows w D row F(O:dZ w)(ab:bt w A rows)(ao:aO w D row)(ah:row.length<=1048576)(s:Δ p v h rows):az 101 #[p,.agg (aA v h A rows ε),.agg #[.int .i64 1,a,b,c,.slice D row F]] w (ο v (fO 1 h) (cG p v rows 1 a b c row (v+h).toNat) (nR p v h rows 1 a b c row) w):=by
 refine Ql fun GV GK Gh GO GM GR GS GU GQ=>?_
 have T:pB 1 a b c row=((c==0)&&((row.length==0))):=QI;have GN:me p v h rows 1 a b c row=(eU a 0 ((rows:Int)-1)&&(eU b 0 ((rows:Int)-1)&&(a !=b))):=QH;have ad:cG p v rows 1 a b c row (v+h).toNat=(rows.set a.toNat (rows.getD b.toNat [])).set b.toNat (rows.getD a.toNat []):=QG;have GP:fO 1 h=h:=QF;rw[sy s];have GL:=fun W=>Cp a b c D row F W ah
 cases he:pB 1 a b c row with
 |false=>
  rw[T]at he;refine(mn p v h 1 a b c A ε rows w D row F (fun W=>?_)).x fun e w' ⟨I,J⟩=>ο.no Qt I J
  exact Wi
 |true=>
  rw[T]at he;have G:=GL;rw[he]at G;cases hc:me p v h rows 1 a b c row with
  |false=>
   refine(xJ p v h 0 0 A ε rows [] w false a b c D row F G (fun W H=>?_) (fun h=>Qy) O (aW _) (fun r hr=>QB)).x fun e w' m=>m.none Qt Qt
   exact WR
  |true=>
   have hg:=iJ s hc;have Z:∀r∈cG p v rows 1 a b c row (v+h).toNat,r.length<=maxLen:=by intro r hr;have I:=(hg.1 r hr).1;have J:fO 1 h<=h+1:=Rx;unfold maxLen;omega
   refine(xJ p v h v (fO 1 h) A ε rows (cG p v rows 1 a b c row (v+h).toNat) w true a b c D row F G (fun W H=>?_) (fun _ W H=>?_) O Ul Z).x fun e w' m=>m.y Qt
   .exact WR
   .rw[GN]at hc;rw[ad,GP];simp[dx,iG,il]at hc;obtain⟨⟨U,am⟩,⟨Y,an⟩,ac⟩:=hc;exact zes a b p v h A ε rows W (ab.ext H) s.n GS U Qu Y Qu ac
def zjf(p v h a b c:Int)A ε rows w D row F(O:dZ w)(Z:bt w A rows)(ah:aO w D row)(ac:row.length<=1048576)(s:Δ p v h rows):az 101 #[p,.agg (aA v h A rows ε),.agg #[.int .i64 2,a,b,c,.slice D row F]] w (ο v (fO 2 h) (cG p v rows 2 a b c row (v+h).toNat) (nR p v h rows 2 a b c row) w):=by
 refine Ql fun GV GK Gh GO GM GR GS GU GQ=>?_
 have T:pB 2 a b c row=((b==0)&&((row.length==0))):=QI;have GN:me p v h rows 2 a b c row=(eU a 0 ((rows:Int)-1)&&(jY p c&&(c !=0))):=QH;have ab:cG p v rows 2 a b c row (v+h).toNat=rows.set a.toNat (kq p c (rows.getD a.toNat [])):=QG;have GP:fO 2 h=h:=QF;rw[sy s];have GL:=fun W=>Bn a b c D row F W ac
 cases he:pB 2 a b c row with
 |false=>
  rw[T]at he;refine(mn p v h 2 a b c A ε rows w D row F (fun W=>?_)).x fun e w' ⟨I,J⟩=>ο.no Qt I J
  exact Wi
 |true=>
  rw[T]at he;have G:=GL;rw[he]at G;cases hc:me p v h rows 2 a b c row with
  |false=>
   refine(vE p v h 0 0 A ε rows [] w false a b c D row F G (fun W H=>?_) (fun h=>Qy) O (aW _) (fun r hr=>QB)).x fun e w' m=>m.none Qt Qt
   exact WQ
  |true=>
   have hg:=iJ s hc;have Y:∀r∈cG p v rows 2 a b c row (v+h).toNat,r.length<=maxLen:=by intro r hr;have I:=(hg.1 r hr).1;have J:fO 2 h<=h+1:=Rx;unfold maxLen;omega
   refine(vE p v h v (fO 2 h) A ε rows (cG p v rows 2 a b c row (v+h).toNat) w true a b c D row F G (fun W H=>?_) (fun _ W H=>?_) O Ul Y).x fun e w' m=>m.y Qt
   .exact WQ
   .rw[GN]at hc;rw[ab,GP];simp[dx,iG,il]at hc;obtain⟨⟨U,ad⟩,⟨c1,c2⟩,_⟩:=hc;exact zdF a c p v h A ε rows W (Z.ext H) s.n GS Qu Qu U Qu c1 Qu GQ
def zlH(p v h a b c:Int)A ε rows w D row F(U:dZ w)(Y:bt w A rows)(ao:aO w D row)(ah:row.length<=1048576)(s:Δ p v h rows):az 101 #[p,.agg (aA v h A rows ε),.agg #[.int .i64 3,a,b,c,.slice D row F]] w (ο v (fO 3 h) (cG p v rows 3 a b c row (v+h).toNat) (nR p v h rows 3 a b c row) w):=by
 refine Ql fun GV GK Gh GO GM GR GS GU GQ=>?_
 have ab:pB 3 a b c row=((row.length==0)):=QI;have GN:me p v h rows 3 a b c row=(eU a 0 ((rows:Int)-1)&&(eU b 0 ((rows:Int)-1)&&((a !=b)&&jY p c))):=QH;have ad:cG p v rows 3 a b c row (v+h).toNat=rows.set b.toNat (dw p c (rows.getD b.toNat []) (rows.getD a.toNat [])):=QG;have GP:fO 3 h=h:=QF;rw[sy s];have GL:=fun W=>Er a b c D row F W ah
 cases he:pB 3 a b c row with
 |false=>
  rw[ab]at he;refine(mn p v h 3 a b c A ε rows w D row F (fun W=>?_)).x fun e w' ⟨O,T⟩=>ο.no Qt O T
  exact Wi
 |true=>
  rw[ab]at he;have H:=GL;rw[he]at H;cases hc:me p v h rows 3 a b c row with
  |false=>
   refine(zu p v h 0 0 A ε rows [] w false a b c D row F H (fun W G=>?_) (fun h=>Qy) U (aW _) (fun r hr=>QB)).x fun e w' m=>m.none Qt Qt
   exact WZ
  |true=>
   have hg:=iJ s hc;have ac:∀r∈cG p v rows 3 a b c row (v+h).toNat,r.length<=maxLen:=by intro r hr;have O:=(hg.1 r hr).1;have T:fO 3 h<=h+1:=Rx;unfold maxLen;omega
   refine(zu p v h v (fO 3 h) A ε rows (cG p v rows 3 a b c row (v+h).toNat) w true a b c D row F H (fun W G=>?_) (fun _ W G=>?_) U Ul ac).x fun e w' m=>m.y Qt
   .exact WZ
   .rw[GN]at hc;rw[ad,GP];simp[dx,iG,il]at hc;obtain⟨⟨I,am⟩,⟨J,an⟩,Z,c1,c2⟩:=hc;by_cases ap:v+h=0
    .exact zgz a b c p v h A ε rows W (Y.ext G) s.n GS Qu Qu I Qu J Qu Z c1 Qu GQ (fun r hr=>Ty)
    .exact zhQ a b c p v h (v+h).toNat A ε rows W (Y.ext G) s.n GS Qu Qu I Qu J Qu Z c1 Qu GQ (by have:=s.v0;have:=s.h0;omega) (fun r hr=>Ty)
def zkF(p v h a b c:Int)A ε rows w D row F(J:dZ w)(hR:bt w A rows)(ac:aO w D row)(Z:row.length<=1048576)(s:Δ p v h rows):az 101 #[p,.agg (aA v h A rows ε),.agg #[.int .i64 4,a,b,c,.slice D row F]] w (ο v (fO 4 h) (cG p v rows 4 a b c row (v+h).toNat) (nR p v h rows 4 a b c row) w):=by
 refine Ql fun GV GK Gh GO GM GR GS GU GQ=>?_
 have O:pB 4 a b c row=((b==0)&&((c==0)&&((row.length==0)))):=QI;have GN:me p v h rows 4 a b c row=(eU a 0 ((rows:Int)-1)&&uX (rows.getD a.toNat [])):=QH;have Y:cG p v rows 4 a b c row (v+h).toNat=rows.eraseIdx a.toNat:=QG;have GP:fO 4 h=h:=QF;rw[sy s];have GL:=fun W=>Cq a b c D row F W Z
 cases he:pB 4 a b c row with
 |false=>
  rw[O]at he;refine(mn p v h 4 a b c A ε rows w D row F (fun W=>?_)).x fun e w' ⟨H,I⟩=>ο.no Qt H I
  exact Wi
 |true=>
  rw[O]at he;have G:=GL;rw[he]at G;cases hc:me p v h rows 4 a b c row with
  |false=>
   refine(xK p v h 0 0 A ε rows [] w false a b c D row F G (fun W hW=>?_) (fun h=>Qy) J (aW _) (fun r hr=>QB)).x fun e w' m=>m.none Qt Qt
   exact Xt
  |true=>
   have hg:=iJ s hc;have U:∀r∈cG p v rows 4 a b c row (v+h).toNat,r.length<=maxLen:=by intro r hr;have H:=(hg.1 r hr).1;have I:fO 4 h<=h+1:=Rx;unfold maxLen;omega
   refine(xK p v h v (fO 4 h) A ε rows (cG p v rows 4 a b c row (v+h).toNat) w true a b c D row F G (fun W hW=>?_) (fun _ W hW=>?_) J Ul U).x fun e w' m=>m.y Qt
   .exact Xt
   .rw[GN]at hc;rw[Y,GP];simp[dx,iG,il]at hc;obtain⟨⟨T,ab⟩,_⟩:=hc;exact zfj a p v h A ε rows W (hR.ext hW) s.n GS T Qu
def zlI(p v h a b c:Int)A ε rows w D row F(O:dZ w)(Z:bt w A rows)(ah:aO w D row)(ac:row.length<=1048576)(s:Δ p v h rows):az 101 #[p,.agg (aA v h A rows ε),.agg #[.int .i64 5,a,b,c,.slice D row F]] w (ο v (fO 5 h) (cG p v rows 5 a b c row (v+h).toNat) (nR p v h rows 5 a b c row) w):=by
 refine Ql fun GV GK Gh GO GM GR GS GU GQ=>?_
 have T:pB 5 a b c row=((b==0)&&((c==0)&&((row.length==0)))):=QI;have GN:me p v h rows 5 a b c row=(eU a 0 (rows:Int)):=QH;have ab:cG p v rows 5 a b c row (v+h).toNat=cT rows a.toNat (List.replicate (v+h).toNat 0):=QG;have GP:fO 5 h=h:=QF;rw[sy s];have GL:=fun W=>Es a b c D row F W ac
 cases he:pB 5 a b c row with
 |false=>
  rw[T]at he;refine(mn p v h 5 a b c A ε rows w D row F (fun W=>?_)).x fun e w' ⟨I,J⟩=>ο.no Qt I J
  exact Wi
 |true=>
  rw[T]at he;have G:=GL;rw[he]at G;cases hc:me p v h rows 5 a b c row with
  |false=>
   refine(zw p v h 0 0 A ε rows [] w false a b c D row F G (fun W H=>?_) (fun h=>Qy) O (aW _) (fun r hr=>QB)).x fun e w' m=>m.none Qt Qt
   exact WN
  |true=>
   have hg:=iJ s hc;have Y:∀r∈cG p v rows 5 a b c row (v+h).toNat,r.length<=maxLen:=by intro r hr;have I:=(hg.1 r hr).1;have J:fO 5 h<=h+1:=Rx;unfold maxLen;omega
   refine(zw p v h v (fO 5 h) A ε rows (cG p v rows 5 a b c row (v+h).toNat) w true a b c D row F G (fun W H=>?_) (fun _ W H=>?_) O Ul Y).x fun e w' m=>m.y Qt
   .exact WN
   .rw[GN]at hc;rw[ab,GP];simp[dx,iG,il]at hc;obtain⟨U,ad⟩:=hc;exact zg6 a p v h A ε rows W (Z.ext H) s.n GS U Qu s.v0 Qu s.h0 Qu
def zjg(p v h a b c:Int)A ε rows w D row F(J:dZ w)(hR:bt w A rows)(ah:aO w D row)(ab:row.length<=1048576)(s:Δ p v h rows):az 101 #[p,.agg (aA v h A rows ε),.agg #[.int .i64 6,a,b,c,.slice D row F]] w (ο v (fO 6 h) (cG p v rows 6 a b c row (v+h).toNat) (nR p v h rows 6 a b c row) w):=by
 refine Ql fun GV GK Gh GO GM GR GS GU GQ=>?_
 have O:pB 6 a b c row=((c==0)&&((row.length==0))):=QI;have GN:me p v h rows 6 a b c row=(eU a 0 ((rows:Int)-1)&&(eU b 0 (h-1)&&(((rows.getD a.toNat []).getD (v+b).toNat 0 !=0)&&te rows (v+b).toNat a))):=QH;have Z:cG p v rows 6 a b c row (v+h).toNat=(rows.map (fun r=>r.eraseIdx (v+b).toNat)).eraseIdx a.toNat:=QG;have GP:fO 6 h=h-1:=QF;rw[sy s];have GL:=fun W=>Bo a b c D row F W ab
 cases he:pB 6 a b c row with
 |false=>
  rw[O]at he;refine(mn p v h 6 a b c A ε rows w D row F (fun W=>?_)).x fun e w' ⟨H,I⟩=>ο.no Qt H I
  exact Wi
 |true=>
  rw[O]at he;have G:=GL;rw[he]at G;cases hc:me p v h rows 6 a b c row with
  |false=>
   refine(vF p v h 0 0 A ε rows [] w false a b c D row F G (fun W hW=>?_) (fun h=>Qy) J (aW _) (fun r hr=>QB)).x fun e w' m=>m.none Qt Qt
   exact Ya
  |true=>
   have hg:=iJ s hc;have Y:∀r∈cG p v rows 6 a b c row (v+h).toNat,r.length<=maxLen:=by intro r hr;have H:=(hg.1 r hr).1;have I:fO 6 h<=h+1:=Rx;unfold maxLen;omega
   refine(vF p v h v (fO 6 h) A ε rows (cG p v rows 6 a b c row (v+h).toNat) w true a b c D row F G (fun W hW=>?_) (fun _ W hW=>?_) J Ul Y).x fun e w' m=>m.y Qt
   .exact Ya
   .rw[GN]at hc;rw[Z,GP];simp[dx,iG,il]at hc;obtain⟨⟨T,ac⟩,⟨U,ad⟩,_⟩:=hc;exact zdf a b p v h A ε rows W (hR.ext hW) s.n GS T Qu s.v0 Qu U Qu Qu Qu (fun r hr=>Ty)
def zjh(p v h a b c:Int)A ε rows w XA row xcap(H:dZ w)(U:bt w A rows)(hX:aO w XA row)(Z:row.length<=1048576)(s:Δ p v h rows):az 101 #[p,.agg (aA v h A rows ε),.agg #[.int .i64 7,a,b,c,.slice XA row xcap]] w (ο v (fO 7 h) (cG p v rows 7 a b c row (v+h).toNat) (nR p v h rows 7 a b c row) w):=by
 refine Ql fun GV GK Gh GO GM GR GS GU GQ=>?_
 have I:pB 7 a b c row=((c==0)):=QI;have GN:me p v h rows 7 a b c row=(eU a 0 (rows:Int)&&(eU b 0 h&&(jX p row (v+h+1)&&(row.getD (v+b).toNat 0 !=0)))):=QH;have Y:cG p v rows 7 a b c row (v+h).toNat=cT (rows.map (fun r=>cT r (v+b).toNat 0)) a.toNat row:=QG;have GP:fO 7 h=h+1:=QF;rw[sy s];have GL:=fun W=>Bp a b c XA row xcap W Z
 cases he:pB 7 a b c row with
 |false=>
  rw[I]at he;refine(mn p v h 7 a b c A ε rows w XA row xcap (fun W=>?_)).x fun e w' ⟨F,G⟩=>ο.no Qt F G
  exact Wi
 |true=>
  rw[I]at he;have D:=GL;rw[he]at D;cases hc:me p v h rows 7 a b c row with
  |false=>
   refine(vG p v h 0 0 A ε rows [] w false a b c XA row xcap D (fun W hW=>?_) (fun h=>Qy) H (aW _) (fun r hr=>QB)).x fun e w' m=>m.none Qt Qt
   exact YD
  |true=>
   have hg:=iJ s hc;have T:∀r∈cG p v rows 7 a b c row (v+h).toNat,r.length<=maxLen:=by intro r hr;have F:=(hg.1 r hr).1;have G:fO 7 h<=h+1:=Rx;unfold maxLen;omega
   refine(vG p v h v (fO 7 h) A ε rows (cG p v rows 7 a b c row (v+h).toNat) w true a b c XA row xcap D (fun W hW=>?_) (fun _ W hW=>?_) H Ul T).x fun e w' m=>m.y Qt
   .exact YD
   .rw[GN]at hc;rw[Y,GP];simp[dx,iG,il]at hc;obtain⟨⟨J,ab⟩,⟨O,ac⟩,⟨ad,_⟩,_⟩:=hc;exact zd1 a b p v h A XA ε xcap row rows W (U.ext hW) s.n GS (hX.ext hW) Qu J Qu s.v0 Qu O Qu s.h0 Qu (fun r hr=>Ty)
def zhu(p v h a b c:Int)A ε rows w D row F(J:dZ w)(hR:bt w A rows)(ac:aO w D row)(Z:row.length<=1048576)(s:Δ p v h rows):az 101 #[p,.agg (aA v h A rows ε),.agg #[.int .i64 8,a,b,c,.slice D row F]] w (ο v (fO 8 h) (cG p v rows 8 a b c row (v+h).toNat) (nR p v h rows 8 a b c row) w):=by
 refine Ql fun GV GK Gh GO GM GR GS GU GQ=>?_
 have O:pB 8 a b c row=((a==0)&&((c==0)&&((row.length==0)))):=QI;have GN:me p v h rows 8 a b c row=(eU b 0 (h-1)&&te rows (v+b).toNat (-1)):=QH;have Y:cG p v rows 8 a b c row (v+h).toNat=rows.map (fun r=>r.eraseIdx (v+b).toNat):=QG;have GP:fO 8 h=h-1:=QF;rw[sy s];have GL:=fun W=>zo a b c D row F W Z
 cases he:pB 8 a b c row with
 |false=>
  rw[O]at he;refine(mn p v h 8 a b c A ε rows w D row F (fun W=>?_)).x fun e w' ⟨H,I⟩=>ο.no Qt H I
  exact Wi
 |true=>
  rw[O]at he;have G:=GL;rw[he]at G;cases hc:me p v h rows 8 a b c row with
  |false=>
   refine(uU p v h 0 0 A ε rows [] w false a b c D row F G (fun W hW=>?_) (fun h=>Qy) J (aW _) (fun r hr=>QB)).x fun e w' m=>m.none Qt Qt
   exact X8
  |true=>
   have hg:=iJ s hc;have U:∀r∈cG p v rows 8 a b c row (v+h).toNat,r.length<=maxLen:=by intro r hr;have H:=(hg.1 r hr).1;have I:fO 8 h<=h+1:=Rx;unfold maxLen;omega
   refine(uU p v h v (fO 8 h) A ε rows (cG p v rows 8 a b c row (v+h).toNat) w true a b c D row F G (fun W hW=>?_) (fun _ W hW=>?_) J Ul U).x fun e w' m=>m.y Qt
   .exact X8
   .rw[GN]at hc;rw[Y,GP];simp[dx,iG,il]at hc;obtain⟨⟨T,ab⟩,_⟩:=hc;exact zbs b p v h A ε rows W (hR.ext hW) s.n GS s.v0 Qu T Qu Qu Qu (fun r hr=>Ty)
def zhv(p v h a b c:Int)A ε rows w D row F(O:dZ w)(Z:bt w A rows)(ah:aO w D row)(ac:row.length<=1048576)(s:Δ p v h rows):az 101 #[p,.agg (aA v h A rows ε),.agg #[.int .i64 9,a,b,c,.slice D row F]] w (ο v (fO 9 h) (cG p v rows 9 a b c row (v+h).toNat) (nR p v h rows 9 a b c row) w):=by
 refine Ql fun GV GK Gh GO GM GR GS GU GQ=>?_
 have T:pB 9 a b c row=((a==0)&&((c==0)&&((row.length==0)))):=QI;have GN:me p v h rows 9 a b c row=(eU b 0 h):=QH;have ab:cG p v rows 9 a b c row (v+h).toNat=rows.map (fun r=>cT r (v+b).toNat 0):=QG;have GP:fO 9 h=h+1:=QF;rw[sy s];have GL:=fun W=>zp a b c D row F W ac
 cases he:pB 9 a b c row with
 |false=>
  rw[T]at he;refine(mn p v h 9 a b c A ε rows w D row F (fun W=>?_)).x fun e w' ⟨I,J⟩=>ο.no Qt I J
  exact Wi
 |true=>
  rw[T]at he;have G:=GL;rw[he]at G;cases hc:me p v h rows 9 a b c row with
  |false=>
   refine(uV p v h 0 0 A ε rows [] w false a b c D row F G (fun W H=>?_) (fun h=>Qy) O (aW _) (fun r hr=>QB)).x fun e w' m=>m.none Qt Qt
   exact WM
  |true=>
   have hg:=iJ s hc;have Y:∀r∈cG p v rows 9 a b c row (v+h).toNat,r.length<=maxLen:=by intro r hr;have I:=(hg.1 r hr).1;have J:fO 9 h<=h+1:=Rx;unfold maxLen;omega
   refine(uV p v h v (fO 9 h) A ε rows (cG p v rows 9 a b c row (v+h).toNat) w true a b c D row F G (fun W H=>?_) (fun _ W H=>?_) O Ul Y).x fun e w' m=>m.y Qt
   .exact WM
   .rw[GN]at hc;rw[ab,GP];simp[dx,iG,il]at hc;obtain⟨U,ad⟩:=hc;exact zbt b p v h A ε rows W (Z.ext H) s.n GS s.v0 Qu U Qu s.h0 Qu (fun r hr=>Ty)
def zji p v h k a b c A ε rows w D row F(H:dZ w)(I:bt w A rows)(J:aO w D row)(G:row.length<=1048576)(s:Δ p v h rows):az 101 (j9 p (aA v h A rows ε) (jP k a b c D row F)) w (ο v (fO k h) (cG p v rows k a b c row (v+h).toNat) (nR p v h rows k a b c row) w):=by
 by_cases O:k=1
 .subst O;exact zkE p v h a b c A ε rows w D row F H I J G s
 by_cases T:k=2
 .subst T;exact zjf p v h a b c A ε rows w D row F H I J G s
 by_cases U:k=3
 .subst U;exact zlH p v h a b c A ε rows w D row F H I J G s
 by_cases Y:k=4
 .subst Y;exact zkF p v h a b c A ε rows w D row F H I J G s
 by_cases Z:k=5
 .subst Z;exact zlI p v h a b c A ε rows w D row F H I J G s
 by_cases ab:k=6
 .subst ab;exact zjg p v h a b c A ε rows w D row F H I J G s
 by_cases ac:k=7
 .subst ac;exact zjh p v h a b c A ε rows w D row F H I J G s
 by_cases ad:k=8
 .subst ad;exact zhu p v h a b c A ε rows w D row F H I J G s
 by_cases ah:k=9
 .subst ah;exact zhv p v h a b c A ε rows w D row F H I J G s
 refine(mn p v h k a b c A ε rows w D row F (fun W=>zbA k a b c D row F W G O T U Y Z ab ac ad ah)).x fun e w' ⟨am,an⟩=>ο.no (by simp[nR, *]) am an
def zfB p v h k a b c A ε rows w F row G(I:bt w A rows)(an:aO w F row)(s:Δ p v h rows)(ap:nR p v h rows k a b c row=true):az 96 (j9 p (aA v h A rows ε) (jP k a b c F row G)) w fun e w'=>∃u,e=.returned (.agg (en v (fO k h) u))/\aY w' w u (cG p v rows k a b c row (v+h).toNat)/\ag w w':=by
 have av:=s.p2;have a0:=s.p97;have a1:=s.v0;have a2:=s.Â;have a3:=s.h0;have a4:=s.χ;have H:=s.n;have J:∀r∈rows,r.length<=1000:=fun r hr=>Ty
 have O:∀r∈rows,∀x∈r,0<=x/\x<=1000:=fun r hr x hx=>TR
 have ao:∀r∈rows,r.length=(v+h).toNat:=fun r hr=>Ty
 have D:=ap;unfold nR at D;rw[bN]at D
 replace D:=D.2
 by_cases T:k=1
 .subst T;simp[dx]at D;rw[show fO 1 h=h by simp[fO],show cG p v rows 1 a b c row (v+h).toNat=((rows.set a.toNat (rows.getD b.toNat [])).set b.toNat (rows.getD a.toNat [])) by simp[cG]];exact zkP p v h a b c A ε rows w F row G I H J Qu Qu Qu Qu Qu
 by_cases U:k=2
 .subst U;simp[dx]at D;rw[show fO 2 h=h by simp[fO],show cG p v rows 2 a b c row (v+h).toNat=(rows.set a.toNat (kq p c (rows.getD a.toNat []))) by simp[cG]];exact zjS p v h a b c A ε rows w F row G I H J Qu Qu Qu Qu Qu Qu O
 by_cases Y:k=3
 .subst Y;simp[dx]at D;rw[show fO 3 h=h by simp[fO],show cG p v rows 3 a b c row (v+h).toNat=(rows.set b.toNat (dw p c (rows.getD b.toNat []) (rows.getD a.toNat []))) by simp[cG]];exact zlm p v h a b c A ε rows w F row G I H J Qu Qu Qu Qu Qu Qu Qu Qu Qu O (v+h).toNat ao
 by_cases Z:k=4
 .subst Z;simp[dx]at D;rw[show fO 4 h=h by simp[fO],show cG p v rows 4 a b c row (v+h).toNat=(rows.eraseIdx a.toNat) by simp[cG]];exact zkQ p v h a b c A ε rows w F row G I H J Qu Qu
 by_cases ab:k=5
 .subst ab;simp[dx]at D;rw[show fO 5 h=h by simp[fO],show cG p v rows 5 a b c row (v+h).toNat=(cT rows a.toNat (List.replicate (v+h).toNat 0)) by simp[cG]];exact zl1 p v h a b c A ε rows w F row G I H J Qu Qu Qu Qu Qu Qu
 by_cases ac:k=6
 .subst ac;simp[dx]at D;rw[show fO 6 h=h-1 by simp[fO],show cG p v rows 6 a b c row (v+h).toNat=((rows.map (fun r=>r.eraseIdx (v+b).toNat)).eraseIdx a.toNat) by simp[cG]];exact ziO p v h a b c A ε rows w F row G I H J Qu Qu Qu Qu Qu Qu Qu Qu (fun r hr=>Ty)
 by_cases ad:k=7
 .subst ad;simp[dx]at D;rw[show fO 7 h=h+1 by simp[fO],show cG p v rows 7 a b c row (v+h).toNat=(cT (rows.map (fun r=>cT r (v+b).toNat 0)) a.toNat row) by simp[cG]];exact zjA p v h a b c A ε rows w F row G I H J Qu Qu Qu Qu Qu Qu (fun r hr=>Ty) Qu Qu row an rfl Qu
 by_cases ah:k=8
 .subst ah;simp[dx]at D;rw[show fO 8 h=h-1 by simp[fO],show cG p v rows 8 a b c row (v+h).toNat=(rows.map (fun r=>r.eraseIdx (v+b).toNat)) by simp[cG]];exact zgU p v h a b c A ε rows w F row G I H J Qu Qu Qu Qu Qu Qu (fun r hr=>Ty)
 by_cases am:k=9
 .subst am;simp[dx]at D;rw[show fO 9 h=h+1 by simp[fO],show cG p v rows 9 a b c row (v+h).toNat=(rows.map (fun r=>cT r (v+b).toNat 0)) by simp[cG]];exact zhO p v h a b c A ε rows w F row G I H J Qu Qu Qu Qu Qu Qu (fun r hr=>Ty)
 simp[*]at D
def zho p n M c ao A b5 ε w(b8:2<=p)(cr:p<=97)(a1:bt w ao M)(a0:aO w A c)(cj:M.length<=1048576)(cq:n<=1048576)(a2:c.length=M)(OT:∀r∈M,r.length=n/\∀x∈r,0<=x/\x<p)(a5:∀x∈c,0<=x/\x<p):az 159 #[p,(n:Nat),.slice ao M b5,.slice A c ε] w fun e w'=>∃g,e=.returned (.slice (bH g) n n)/\aE w' w (.slice (bH g) n n) (fY p c M n M)/\ag w w':=by
 have⟨ca,hi,bg,bh,FU⟩:=dp gD;have am:∀i,i<M.length->(M.getD i []).length=n:=fun i hi=>WW
 have ac:=zH (kN (p:=p) (c:=c) am);have br:=zH (show ∀k,k<=M.length->∀x∈fY p c M n k,0<=x/\x<p from fun k T x I=>by obtain⟨d,a9⟩:=eH.1 I;have ba:=(bG.1 a9).1;rw[ac.o k T]at ba;have:=(qU (c:=c) b8 am ba k T).2;rw[getD_some a9]at this;exact this)
 have⟨bz,bq,b1,bp,ad⟩:=pD a1 a0 OT a5 a2;clear a1 a0 OT a5 am a2;go_enter func159,ntmps159
 go_upto_region 2 with((at_make;refine jg _ rfl _ _ 26 rfl w.heap.size 3 ca (zI 0) 1 dR hi bg bh .i64 .i64 n n n rfl rfl rfl rfl RF SL (ae _) ?_;intro bi D bb;rw[jn]at D;have H:=zH D;have F:=zH (cy bb);clear D bb))
 have⟨av,ap⟩:=bJ (show bi.ownsRow w 3 1 (.slice (bH w) n n) n ((fY p c M n 0).map (Value.int .i64)) from H.o) (show ag w bi from F.o);clear H F bg bh FU hi;go_wp2;go_loopw [18] (fun i wr=>∃k:Nat,k<=M.length/\i=.int .i64 k/\wr.ownsRow w 3 1 (.slice (bH w) n n) n ((fY p c M n k).map (Value.int .i64))/\ag w wr) (fun i _=>M.length-(intOf i).toNat)
 case atStart=>exact⟨0,aW _,rfl,av,ap⟩
 case round=>
  obtain⟨k,T,rfl,D,G⟩:=hrel;clear av ap;by_cases U:k<M.length
  .have⟨r,hr⟩:=aq U;obtain⟨ch,o,rfl,a6⟩:=bz.θ U;obtain⟨cc,ci,a8,bc⟩:=a6 k r hr;have a7:=ar G a8;obtain⟨ah,bd⟩:=b1 r (aU hr);rw[ah]at a7;have⟨x,I⟩:=aq (by rw[ad.o];exact U:k<c.length);obtain⟨b4,cb,rfl,a3⟩:=bq.θ (by rw[ad.o];exact U:k<c.length);obtain⟨b9,ct⟩:=bp x (aU I);have⟨J,O⟩:=aR (fY p c M n k);have⟨b3,ab,bo⟩:=er (show fY p c M n (k+1)=dw p x J r by rw[O];show dw p (c.getD k 0) _ (M.getD k [])=_;rw[getD_some I,getD_some hr]) (by rw[O];exact ac k T:J.length=n) (show ∀y∈J,0<=y/\y<p by rw[O];exact br k T);rw[<-O]at D;have⟨H,F,bv,b0,Im,bu⟩:=ny D G bc bd ah (a3 k x I);have⟨cF,be⟩:=aR wr;rw[<-be]at H F a7 ⊢;clear D G bc a8 a6 a3 I hr bd ah O be;go_wp2;go_loopw [25] (fun i wr=>∃j:Nat,j<=n/\i=.int .i64 j/\wr.ownsRow w 3 1 (.slice (bH w) n n) n ((l_ p x J r j).map (Value.int .i64))/\ag w wr) (fun i _=>n-(intOf i).toNat)
   case atStart=>exact⟨0,aW _,rfl,by rw[tG];exact H,F⟩
   case round=>
    obtain⟨j,co,rfl,D,G⟩:=hrel;clear H F;by_cases JT:j<n
    .have⟨y,Y⟩:=aq (by rw[ab.o];exact JT:j<J.length);have⟨z,Z⟩:=aq (SR:j<r.length);obtain⟨ce,cA,rfl,a4⟩:=(bv.ext G).θ (SR:j<r.length);have ck:=a4 j z Z;have b6:=ar G bu;have b7:af wr w j (zI y):=by rw[D.C j Qu,bI,wC _ _ _ _ _ SR (by rw[ab.o,Im.o]),Y];rfl
     have cn:=D.g j;obtain⟨cI,cK⟩:=bo y (aU Y);obtain⟨bn,z2⟩:=b0 z (aU Z);have cu:0<=x*z:=rS b9 bn;have cz:x*z<=97*97:=uB Qu Qu bn Qu;have cB:¬p=0:=Qu;have cp:k<c.length:=by have:=ad.o;omega
     have an:=(D.j j (zI ((y+x*z)%p))).1;rw[<-eW,wD _ _ _ _ _ _ _ Y Z]at an;have⟨b2,F⟩:=bJ an ((G.setCell (p:=⟨w,j,none⟩) (ae _) (zI ((y+x*z)%p))));clear an D G a4 Y Z;go_wp2;refine cU (S:=fun V=>af V w j (zI y)/\af V b4 (cb+k) (zI x)) 16 QT ⟨b7,b6⟩ (fun hHeld=>?_);refine Qj ?_;refine OU ?_;refine aM 14 ?_;refine aM 15 ?_;refine cm 16 fun K hK=>?_
     go_simp;refine Qn ?_;clear K hK;refine gM QT ?_ _;go_wp2;go_roundw
     case rel=>exact⟨j+1,Qu,Qx,b2,F.drew⟩
     case measure=>simp[intOf];omega
    .obtain rfl:j=n:=Qu;rw[wB _ _ _ _ (by rw[ab.o,Im.o]) _ (by rw[Im.o];exact ae _),<-b3.o]at D;have⟨H,F⟩:=bJ D G;clear D G;go_wp2;go_roundw
     case rel=>exact⟨k+1,Qu,Qx,H,F⟩
     case measure=>simp[intOf];omega
  .obtain rfl:k=M.length:=Qu;have⟨H,F⟩:=bJ D G;clear D G;go_wp2;go_ret
   exact⟨w,rfl,by unfold aE;rw[ac.o _ (ae _)];exact H,F⟩
def ziA p l r N M A ε w(am:bV p=true)(O:bt w A M)(s:eV p N (l+r) M)(ad:N<=1048576)(an:l+r<=1048576):az 117 (wT p l r A N ε) w (lJ (vc p l r M) w):=by
 have⟨T,U⟩:=bM w (.cells bx 67);have I:=zH (show ∀V,ag w V->az 158 (eO p ((l:Int)+(r:Int)) A N ε) V (Ct (j5 p (l+r) M) V) from fun V ah=>by have:=tz p M A ε N (l+r) V am (O.ext ah) s ad an;rw[show(((l+r:Nat)):Int)=(l:Int)+(r:Int) from C3 l r]at this;exact this)
 have ao:IntKind.i64.wrap ((l:Int)+(r:Int))=(l:Int)+(r:Int):=Rt;have⟨G,HQ⟩:=bJ T U;have⟨Z,H⟩:=aR (j5 p (l+r) M);have J:=zH H;rw[<-H]at I;clear T U O s H;go_enter func117,ntmps117
 go_upto_region 1 with(fail)
 generalize w.alloc _=W at G HQ ⊢;go_wp2_with (go_at_call 158;refine(I.o _ G.o).x ?_;rintro e w2 ⟨D,d,rfl,Y,F⟩;have h:=ai HQ F;have⟨ap,av,a0⟩:=aD h;have f0:=aK h 0;have f1:=aK h 1;have f2:=aK h 2;have HZ:=zH h;have ac:=zH (Y.frC F.size);have ab:=zH (aT G F);clear h Y F)
 refine MQ fun y1 y2 y3 u0 u1 u2 Ge=>?_
 refine aI (v:=.agg (dh l r D Z d)) (by simp[results,results117,go_sem, *]) rfl ⟨D,d,by rw[J.o];rfl,?_,((ab.setCell (p:=⟨w,0,none⟩) (ae _) _).setCell (p:=⟨w,1,none⟩) (ae _) _).setCell (p:=⟨w,2,none⟩) (ae _) _⟩;rw[show(vc p l r M).b=Z from J.o.q];exact(ac.y (w':=((w2.setCell ⟨w,0,none⟩ (zI (l:Nat))).setCell ⟨w,1,none⟩ (zI (r:Nat))).setCell ⟨w,2,none⟩ (.slice D Z d)) fun q a _=>(a_ _ _ _ _ (by show q≠w.heap.size;omega)).t ((a_ _ _ _ _ (by show q≠w.heap.size;omega)).t (a_ _ _ _ _ (by show q≠w.heap.size;omega)))).to Qu Qt
def zen p M a6 cn N n w(am:bV p=true)(cp:bt w a6 M)(s:eV p N n M)(d9:N<=1048576)(cV:n<=1048576):az 157 (eO p n a6 N cn) w (Ct (xN p n M) w):=by
 have⟨c8,hi,c6,c7,FU⟩:=dp gD;have⟨p2,ek⟩:=cv am;have⟨em,e8,e3,ab,ck,_⟩:=kM am p2 s;have bh:=zH (tz p M a6 cn N n w am cp s d9 cV);have b3:xN p n M=j5 p n (qB p n (j5 p n M)):=rfl;have a1:=zH (CM ab ck);have⟨R,cq⟩:=aR (j5 p n M);rw[<-cq]at ab a1 bh b3;have ej:=ab.1;obtain rfl:R.length=em:=ej;have⟨bd,dT,cb⟩:=er ab am b3;have e4:R.length<=1048576:=Qu;clear ab ck cq s am cp b3;go_enter func157,ntmps157
 go_wp2_with fail
 refine bh.x ?_;rintro e D ⟨A1,c1,rfl,cW,cr⟩;have⟨ch,b6⟩:=bJ cW.at cr;clear cW cr bh;go_wp2_with ((at_make;refine jg _ rfl _ _ 26 rfl D.heap.size 3 c8 (zI 0) 1 dR hi c6 c7 .i64 .i64 n n n rfl rfl rfl rfl RF SL (ae _) ?_;intro eo FT cK))
 have b7:=zH (cy cK);rw[jn]at FT;have cc:=zH (by rw[iP,fA];exact FT:eo.ownsRow D 3 1 (.slice (bH D) n n) n ((eF (List.replicate n (-1)) 0 0).map (Value.int .i64)));clear FT cK;go_loopw [25] (fun i wr=>∃k:Nat,k<=n/\i=.int .i64 k/\wr.ownsRow D 3 1 (.slice (bH D) n n) n ((eF (List.replicate n (-1:Int)) 0 k).map (Value.int .i64))/\ag D wr) (fun i _=>n-(intOf i).toNat)
 case atStart=>exact⟨0,aW _,rfl,cc,b7⟩
 case round=>
  obtain⟨k,an,rfl,FT,G⟩:=hrel;clear cc b7;by_cases bz:k<n
  .have cz:af wr D k (zI 0):=by rw[FT.C k Qu,bI,lD _ _ _ (by rw[fA];exact bz)];rfl
   have cI:=FT.g k;have GW:=(FT.j k (zI (-1))).1;rw[<-eW,jq _ _ _ _ (by rw[fI,ak bz]:(List.replicate n (-1:Int))[k]?=some (-1))]at GW;have⟨HS,HB⟩:=bJ GW (G.setCell (p:=⟨D,k,none⟩) (ae _) (zI (-1)));exact Yr
  .rw[jo _ _ _ (by rw[fA];omega)]at FT;have⟨ce,b8⟩:=bJ FT G;clear FT G;go_wp2;go_loopw [34] (fun i wr=>∃k:Nat,k<=R.length/\i=.int .i64 k/\wr.ownsRow D 3 1 (.slice (bH D) n n) n ((Ô n R k).map (Value.int .i64))/\ag D wr) (fun i _=>R.length-(intOf i).toNat)
   case atStart=>exact⟨0,aW _,rfl,ce,b8⟩
   case round=>
    obtain⟨F,e1,rfl,FT,G⟩:=hrel;clear ce b8 bz an;by_cases b0:F<R.length
    .have⟨I,J⟩:=aq b0;obtain⟨bi,o,rfl,ad⟩:=(ch.ext G).θ b0;obtain⟨a5,Y,ah,Z⟩:=ad F I J;have U:=bd.row I (aU J);have ao:nw R F=ew I:=by unfold nw;rw[getD_some J]
     have bv:=a1.ln F b0;have bg:=zH (fun W (bo:ag wr W)=>(by
      have:=yw I a5 Y W (Z.ext bo) Qu;rw[<-ao,U]at this;exact this:az 201 (bZ a5 n Y) W fun e w'=>e=.returned (zI (nw R F))/\ag W w'))
     rw[U]at ah;obtain⟨bc,a8,ba⟩:=er FT G (show(Ô n R F).set (nw R F) F=Ô n R (F+1) from rfl);clear J ad Z U ao FT G;go_wp2_with ((go_at_call 201;refine(bg.o _ (al _ _)).x ?_;rintro e w' ⟨rfl,H⟩;have Lu:=jA bc (row:=none) ⟨H.os,H.tape,H.output,H.size,fun k an _=>H.block k an⟩ SY;have av:=ba.o;obtain⟨d,hd⟩:=aq (by rw[zbi];exact bv:nw R F < (Ô n R F).length);have cz:af w' D (nw R F) (zI d):=U0;have cI:=Lu.g (nw R F);have GW:=(Lu.j (nw R F) (zI F)).1;rw[<-eW,av]at GW;have HS:=zH GW;have HB:=zH ((aT a8 H).setCell (p:=⟨D,nw R F,none⟩) (ae _) (zI F));clear GW Lu av hd H))
     go_roundw
     case rel=>exact⟨F+1,Qu,Qx,HS,HB⟩
     case measure=>simp[intOf];omega
    .have bu:F=R.length:=Qu;subst bu;have⟨bb,a7⟩:=bJ FT G;have⟨c9,c4⟩:=aR wr;rw[<-c4]at bb a7 ⊢;clear FT G c4;go_wp2;have eB:(D:Nat)<c9:=(bS bb.o D rfl).2;go_loopw [12,13] (fun u12 u13 wr=>∃j:Nat,j<=n/\u13=.int .i64 j/\aY wr ((D:Nat)+1) u12 ((Ö n R j).map (j7 p n R))/\Below ((D:Nat)+1) c9 wr) (fun _ u _=>n-(intOf u).toNat)
     case atStart=>exact⟨0,aW _,rfl,aY.empty (rT _ _ _ _),al _ _⟩
     case round=>
      obtain⟨j,e0,rfl,FT,G⟩:=hrel;obtain⟨h,rfl⟩:∃h,h=wr:=⟨wr,rfl⟩;have⟨be,ca⟩:=bJ FT G;have e5:=G.size;clear FT;have d5:=zH (ch.ext ((a7.t (G.x Qu))));by_cases b1:j<n
      .obtain⟨x,b5⟩:=aq (by rw[zbi];exact b1:j < (Ô n R R).length);have⟨a3,e6,e7⟩:=zfI b5;have ee:af h D j (zI x):=(G.cell (p:=⟨D,j,none⟩) Qt).t (by rw[bb.o.C j Qu,bI,b5];rfl);clear b5 G;by_cases c5:0<=x
       .have a9:=zH (zlj (n:=n) (a3.1 c5));clear a3;go_wp2;go_roundw
        case rel=>exact⟨j+1,Qu,Qx,by rw[a9.o];exact be,ca⟩
        case measure=>simp[intOf];omega
       .have br:mK (nw R) R j:=fun i hi e=>c5 (a3.2 ⟨i,hi,e⟩)
        have⟨a9,d0⟩:=bJ (zkb (n:=n) br) (zli p2 rfl a1.o b1 br);clear a3 br;go_wp2_with ((at_make;refine jg _ rfl _ _ 26 rfl h.heap.size 3 c8 (zI 0) 1 dR hi c6 c7 .i64 .i64 n n n rfl rfl rfl rfl RF SL (ae _) ?_;intro db ap cO;have ct:=cy cO;rw[jn]at ap;have eb:af db h j (zI 0):=(by rw[ap.C j Qu,bI,fI,ak b1];rfl);have eg:=ap.g j;have b4:=(ap.j j (zI 1)).1;rw[<-eW]at b4;have ci:=zH (show(db.setCell ⟨h,j,none⟩ (zI 1)).ownsRow h 3 1 (.slice (bH h) n n) n ((Ì p n R j 0).map (Value.int .i64)) from b4);have b9:=zH (ct.setCell (p:=⟨h,j,none⟩) (ae _) (zI 1));clear b4 ap cO ct))
        clear eb eg;go_loopw [62] (fun u dc=>∃k:Nat,k<=R.length/\u=.int .i64 k/\dc.ownsRow h 3 1 (.slice (bH h) n n) n ((Ì p n R j k).map (Value.int .i64))/\ag h dc) (fun u _=>R.length-(intOf u).toNat)
        case atStart=>exact⟨0,aW _,rfl,ci,b9⟩
        case round=>
         obtain⟨k,e2,rfl,a2,T⟩:=hrel;clear ci b9 ee;by_cases b2:k<R.length
         .have⟨I,J⟩:=aq b2;obtain⟨bi,o,rfl,ad⟩:=d5.θ b2;obtain⟨a5,Y,bq,Z⟩:=ad k I J;have ez:bi < (h:Nat):=ju bq;have ah:=ar T bq;have U:=bd.row I (aU J);have ao:nw R k=ew I:=by unfold nw;rw[getD_some J]
          have bv:=a1.ln k b2;have⟨y,a0⟩:=aq (Qu:j<I.length);obtain⟨ac,a4,rfl,bp⟩:=Z.θ (Qu:j<I.length);have ey:ac < (h:Nat):=ju (bp _ _ a0);have cA:=ar T (bp _ _ a0);have cB:eM R k j=y:=by unfold eM;rw[getD_some J,getD_some a0]
          obtain⟨es,ev⟩:=bd.el I (aU J) y (aU a0);have bg:=zH (fun W (bo:ag wr W)=>(by
           have:=yw I (some ⟨ac,a4,none⟩) Y W ((Z.ext T).ext bo) Qu;rw[<-ao,U]at this;exact this:az 201 (bZ (some ⟨ac,a4,none⟩) n Y) W fun e w'=>e=.returned (zI (nw R k))/\ag W w'))
          rw[U]at ah;obtain⟨bc,a8,ba⟩:=er a2 T (by rw[<-cB,<-zcy];rfl:(Ì p n R j k).set (nw R k) (-y%p)=Ì p n R j (k+1));clear J ad Z bq U ao a2 T bp a0 cB;go_wp2_with fail
          go_region_held3 (fun W=>af W bi (o+k) (.slice (some ⟨ac,a4,none⟩) n Y)/\af W ac (a4+j) (zI y))
           (first|exact bn|exact⟨ah,cA⟩|(refine⟨?_,?_⟩<;>(first|(refine(cE Rs).t ?_;first|exact bn.1|exact bn.2)|trace_state)))
           ((first|(go_at_call 201;refine(bg.o _ (al _ _).drew).x ?_;rintro e w' ⟨rfl,H⟩;have bn:=aQ (ar H ah) (ar H cA);have O:=(al wr wr).drew.t H;have Lu:=jA bc (row:=none) ⟨O.os,O.tape,O.output,O.size,fun k an _=>O.block k an⟩ SY;have av:=ba.o;obtain⟨d,hd⟩:=aq (by rw[CD];exact bv:nw R k < (Ì p n R j k).length);have cz:af w' h (nw R k) (zI d):=U0;have cI:=Lu.g (nw R k);have GW:=(Lu.j (nw R k) (zI (-y%p))).1;rw[<-eW,av]at GW;have HS:=zH GW;have HB:=zH ((aT a8 O).setCell (p:=⟨h,nw R k,none⟩) (ae _) (zI (-y%p)));clear GW Lu av hd H O)|(go_at_call 156;refine(zah p y _ p2 ek es ev).x ?_;rintro e fa ⟨rfl,rfl⟩)))
          all_goals go_wp2
          all_goals go_roundw
          all_goals try (case rel=>exact⟨k+1,Qu,Qx,HS,HB⟩)
          all_goals (try (simp[intOf];omega))
         .have bu:k=R.length:=Qu;subst bu;have d3:=zH (show aE wr h (.slice (bH h) n n) (j7 p n R j) by have co:=a2;rw[d0.o]at co;unfold aE;rw[show(j7 p n R j).length=n by simp[j7]];exact co)
          obtain⟨dO,d1,d2⟩:=er T (show((Ö n R j).map (j7 p n R)).length+1<=1073741824 by rw[bs];have:=zfK n R j;omega) (by rw[a9.o,kA];rfl:(Ö n R (j+1)).map (j7 p n R)=(Ö n R j).map (j7 p n R)++[j7 p n R j]);clear a2 T;go_wp2_with ((at_builtin;refine m7 rfl _ _ rfl ((D:Nat)+1) h _ _ _ _ _ be dO.o d3.o d1.o Qu rfl rfl ?_;intro e9 fb ei ea))
          go_roundw
          case rel=>exact⟨j+1,Qu,Qx,by rw[d2.o];exact ei,ca.t ea⟩
          case measure=>simp[intOf];omega
      .have cR:j=n:=Qu;have FT:=be.o;rw[cR,zka]at FT;have cF:(xM n R).map (j7 p n R)=qB p n R:=rfl;rw[cF]at FT;obtain⟨dl,d7,rfl,c0,_⟩:=FT.p;have eA:(qB p n R).length<=n:=by unfold qB;rw[bs];exact zfK n R n
       obtain⟨d6,cj⟩:=bJ (tz p (qB p n R) dl d7 (qB p n R) n h dT c0 (by rw[wE p2 |>.1];exact wE p2) Qu cV) (b6.t ((a7.t (G.x Qu)).x b6.size));clear FT c0 cF cR G;go_wp2_with fail
       refine d6.x ?_;rintro e fc ⟨dq,d8,rfl,c3,cu⟩;have⟨d4,dr⟩:=bJ c3 cu;clear c3 cu;go_wp2;go_ret
       exact⟨dq,d8,by rw[cb.o];rfl,by rw[cb.o];exact d4.x cj.size,aT cj dr⟩
end Go.Proofs.YtpieilkmmiopfaaGreatDoor
