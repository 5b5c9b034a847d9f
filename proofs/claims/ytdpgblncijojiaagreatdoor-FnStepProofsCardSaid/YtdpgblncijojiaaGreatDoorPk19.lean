/- Parts of the walks. Conditions: as stated with each. -/
import Derived.Test.YtdpgblncijojiaaGreatDoorPk16
import Derived.Test.YtdpgblncijojiaaGreatDoorPk17
import Derived.Test.YtdpgblncijojiaaGreatDoorPk18
namespace Go.Proofs.YtdpgblncijojiaaGreatDoor
open Go.RowKit Tryz
set_option linter.all false
set_option maxHeartbeats 2000000
variable{D J k n:Nat}{Rv:dE}{us:bN}{v v0 v1 v2 v3:av}{w:aa}
def bP.ed{B:Type}{s:Nat}{z:World->B->List Value->Prop}{xs:List B}(h:bP Rv s z w D v xs)(E:J<D):bP Rv s z (Go.Proofs.YtdpgblncijojiaaGreatDoor.ed w J v0 v1 v2 v3) D v xs:=h.same (fun k F _=>j6 Ry) (lQ eu.symm)
def bG.cells{g cap:Nat}{xs:List cZ}(J:n=xs.length)(h:bG w D (.slice (aX g) n cap) xs us)(I:k<n):∃x u,xs[k]?=some x/\us[k]?=some u/\au w D u x.row/\(af w g (k*5) (zI x.k)/\af w g (k*5+1) (zI x.a)/\af w g (k*5+2) (zI x.b)/\af w g (k*5+3) (zI x.c)/\af w g (k*5+4) u)/\(w.frozen? ⟨g,k*5,none⟩=false/\w.frozen? ⟨g,k*5+1,none⟩=false/\w.frozen? ⟨g,k*5+2,none⟩=false/\w.frozen? ⟨g,k*5+3,none⟩=false/\w.frozen? ⟨g,k*5+4,none⟩=false):=by
 subst J;obtain⟨x,E⟩:=aw I;obtain⟨u,F,O⟩:=h.get E;have B:∀j,j<5->w.cell? ⟨g,k*5+j,none⟩=(dx x u)[j]?:=fun j H=>by rw[h.outer.cellAt _ Ry,pB H E F]
 have z:=h.outer.frozenAt;exact⟨x,u,E,F,O,⟨B 0 RC,B 1 RC,B 2 RC,B 3 RC,B 4 RC⟩,⟨z _,z _,z _,z _,z _⟩⟩
def kO(p v h k a b c:Int)(A:aq)(cap:Nat)(rows:aC)(w:aa)(z:aq)(n D:Nat)(E:∀W,ax 67 (cB (ks k a b c z n D)) W fun e w'=>e=.returned (.tuple ff)/\aj W w'):ax 34 #[p,.agg (ae v h A rows cap),.agg (ks k a b c z n D)] w fun e w'=>e=.returned (.tuple (dP aQ))/\aj w w':=by
 have Q:=zH E;clear E;go_enter mw,mx
 go_upto_region 2 with(go_at_call 67;refine(Q.o _).mono ?_;rintro e ap ⟨rfl,B⟩)
 have F:=(below_alloc3 w (.cells (ae v h A rows cap) 26) (.cells (ks k a b c z n D) 29) (.cells aQ 26));obtain⟨T,U,J⟩:=cv w (.cells (ae v h A rows cap) 26) (.cells (ks k a b c z n D) 29) (.cells aQ 26);have I:=cp B J;have H:=F.trans (B.mono (B':=w.heap.size) Sn);have R:=B.size;simp only[cx]at R;obtain⟨Z,ab,ac,ad,am,ao⟩:=dj I;have O:=zH H;clear T U J I H B F;go_wp2;refine az (v:=.tuple (dP aQ)) (by simp[results,eS,go_sem, *]) rfl ⟨rfl,?_⟩;exact((O.setCell Sn _).setCell Sn _).setCell Sn _
def zhb(p v h a b c:Int)(A:aq)(cap:Nat)(rows:aC)(w:aa)(z:aq)(row:aH)(B:Nat)(I:cU w)(T:aL w A rows)(ap:aU w z row)(ab:row.length<=1048576)(s:Sys p v h rows):ax 34 #[p,.agg (ae v h A rows cap),.agg #[.int .i64 1,a,b,c,.slice z row B]] w (Made v (dK 1 h) (bH p v rows 1 a b c row (v+h).toNat) (jO p v h rows 1 a b c row) w):=by
 have a2:=s.p2;have a3:=s.p97;have a4:=s.v24;have a0:=s.h100;have a1:=s.n;have EN:rows.length<=maxLen:=TB;have EP:∀r∈rows,r.length<=1000:=fun r hr=>Ub
 have ao:∀r∈rows,r.length<=maxLen:=fun r hr=>VA
 have am:∀r∈rows,∀x∈r,0<=x/\x<=1000:=fun r hr x hx=>Ux
 have J:jb 1 a b c row=((c==0)&&((row.length==0))):=RM;have ER:kF p v h rows 1 a b c row=(eW a 0 ((rows:Int)-1)&&(eW b 0 ((rows:Int)-1)&&(a !=b))):=RL;have Z:bH p v rows 1 a b c row (v+h).toNat=(rows.set a.toNat (rows.getD b.toNat [])).set b.toNat (rows.getD a.toNat []):=RK;have ES:dK 1 h=h:=RO;rw[pt s];have EO:=fun W=>qR a b c z row B W ab
 cases he:jb 1 a b c row with
 |false=>
  rw[J]at he;refine(kO p v h 1 a b c A cap rows w z row B (fun W=>?_)).mono fun e w' ⟨F,H⟩=>Made.no Rx F H
  exact WK
 |true=>
  rw[J]at he;have D:=EO;rw[he]at D;cases hc:kF p v h rows 1 a b c row with
  |false=>
   refine(tQ p v h 0 0 A cap rows [] w false a b c z row B D (fun W E=>?_) (fun h=>RE) I (aT _) (fun r hr=>RF)).mono fun e w' m=>m.none Rx Rx
   exact Xn
  |true=>
   have hg:=gu s hc;have R:∀r∈bH p v rows 1 a b c row (v+h).toNat,r.length<=maxLen:=by intro r hr;have F:=(hg.1 r hr).1;have H:dK 1 h<=h+1:=Sw;unfold maxLen;omega
   refine(tQ p v h v (dK 1 h) A cap rows (bH p v rows 1 a b c row (v+h).toNat) w true a b c z row B D (fun W E=>?_) (fun _ W E=>?_) I Vh R).mono fun e w' m=>m.same Rx
   .exact Xn
   .rw[ER]at hc;rw[Z,ES];simp[bh,fC,jQ]at hc;obtain⟨⟨O,ac⟩,⟨Q,ad⟩,U⟩:=hc;exact zb9 a b p v h A cap rows W (T.ext E) s.n EP O Ry Q Ry U
def zfI(p v h a b c:Int)(A:aq)(cap:Nat)(rows:aC)(w:aa)(z:aq)(row:aH)(B:Nat)(I:cU w)(T:aL w A rows)(ad:aU w z row)(Z:row.length<=1048576)(s:Sys p v h rows):ax 34 #[p,.agg (ae v h A rows cap),.agg #[.int .i64 2,a,b,c,.slice z row B]] w (Made v (dK 2 h) (bH p v rows 2 a b c row (v+h).toNat) (jO p v h rows 2 a b c row) w):=by
 have ap:=s.p2;have a0:=s.p97;have a1:=s.v24;have am:=s.h100;have ao:=s.n;have EN:rows.length<=maxLen:=TB;have EP:∀r∈rows,r.length<=1000:=fun r hr=>Ub
 have ac:∀r∈rows,r.length<=maxLen:=fun r hr=>VA
 have Q:∀r∈rows,∀x∈r,0<=x/\x<=1000:=fun r hr x hx=>Ux
 have J:jb 2 a b c row=((b==0)&&((row.length==0))):=RM;have ER:kF p v h rows 2 a b c row=(eW a 0 ((rows:Int)-1)&&(jD p c&&(c !=0))):=RL;have U:bH p v rows 2 a b c row (v+h).toNat=rows.set a.toNat (fU p c (rows.getD a.toNat [])):=RK;have ES:dK 2 h=h:=RO;rw[pt s];have EO:=fun W=>pM a b c z row B W Z
 cases he:jb 2 a b c row with
 |false=>
  rw[J]at he;refine(kO p v h 2 a b c A cap rows w z row B (fun W=>?_)).mono fun e w' ⟨F,H⟩=>Made.no Rx F H
  exact WK
 |true=>
  rw[J]at he;have D:=EO;rw[he]at D;cases hc:kF p v h rows 2 a b c row with
  |false=>
   refine(rU p v h 0 0 A cap rows [] w false a b c z row B D (fun W E=>?_) (fun h=>RE) I (aT _) (fun r hr=>RF)).mono fun e w' m=>m.none Rx Rx
   exact Xm
  |true=>
   have hg:=gu s hc;have R:∀r∈bH p v rows 2 a b c row (v+h).toNat,r.length<=maxLen:=by intro r hr;have F:=(hg.1 r hr).1;have H:dK 2 h<=h+1:=Sw;unfold maxLen;omega
   refine(rU p v h v (dK 2 h) A cap rows (bH p v rows 2 a b c row (v+h).toNat) w true a b c z row B D (fun W E=>?_) (fun _ W E=>?_) I Vh R).mono fun e w' m=>m.same Rx
   .exact Xm
   .rw[ER]at hc;rw[U,ES];simp[bh,fC,jQ]at hc;obtain⟨⟨O,ab⟩,⟨c1,c2⟩,_⟩:=hc;exact zab a c p v h A cap rows W (T.ext E) s.n EP Ry Ry O Ry c1 Ry Q
def zih(p v h a b c:Int)(A:aq)(cap:Nat)(rows:aC)(w:aa)(z:aq)(row:aH)(B:Nat)(Q:cU w)(R:aL w A rows)(ap:aU w z row)(ac:row.length<=1048576)(s:Sys p v h rows):ax 34 #[p,.agg (ae v h A rows cap),.agg #[.int .i64 3,a,b,c,.slice z row B]] w (Made v (dK 3 h) (bH p v rows 3 a b c row (v+h).toNat) (jO p v h rows 3 a b c row) w):=by
 have a2:=s.p2;have a3:=s.p97;have a4:=s.v24;have a0:=s.h100;have a1:=s.n;have EN:rows.length<=maxLen:=TB;have EP:∀r∈rows,r.length<=1000:=fun r hr=>Ub
 have ao:∀r∈rows,r.length<=maxLen:=fun r hr=>VA
 have O:∀r∈rows,∀x∈r,0<=x/\x<=1000:=fun r hr x hx=>Ux
 have U:jb 3 a b c row=((row.length==0)):=RM;have ER:kF p v h rows 3 a b c row=(eW a 0 ((rows:Int)-1)&&(eW b 0 ((rows:Int)-1)&&((a !=b)&&jD p c))):=RL;have ab:bH p v rows 3 a b c row (v+h).toNat=rows.set b.toNat (cV p c (rows.getD b.toNat []) (rows.getD a.toNat [])):=RK;have ES:dK 3 h=h:=RO;rw[pt s];have EO:=fun W=>rJ a b c z row B W ac
 cases he:jb 3 a b c row with
 |false=>
  rw[U]at he;refine(kO p v h 3 a b c A cap rows w z row B (fun W=>?_)).mono fun e w' ⟨I,J⟩=>Made.no Rx I J
  exact WK
 |true=>
  rw[U]at he;have E:=EO;rw[he]at E;cases hc:kF p v h rows 3 a b c row with
  |false=>
   refine(vK p v h 0 0 A cap rows [] w false a b c z row B E (fun W D=>?_) (fun h=>RE) Q (aT _) (fun r hr=>RF)).mono fun e w' m=>m.none Rx Rx
   exact Xs
  |true=>
   have hg:=gu s hc;have Z:∀r∈bH p v rows 3 a b c row (v+h).toNat,r.length<=maxLen:=by intro r hr;have I:=(hg.1 r hr).1;have J:dK 3 h<=h+1:=Sw;unfold maxLen;omega
   refine(vK p v h v (dK 3 h) A cap rows (bH p v rows 3 a b c row (v+h).toNat) w true a b c z row B E (fun W D=>?_) (fun _ W D=>?_) Q Vh Z).mono fun e w' m=>m.same Rx
   .exact Xs
   .rw[ER]at hc;rw[ab,ES];simp[bh,fC,jQ]at hc;obtain⟨⟨F,ad⟩,⟨H,am⟩,T,c1,c2⟩:=hc;by_cases a5:v+h=0
    .exact zeb a b c p v h A cap rows W (R.ext D) s.n EP Ry Ry F Ry H Ry T c1 Ry O (fun r hr=>Ub)
    .exact zdX a b c p v h (v+h).toNat A cap rows W (R.ext D) s.n EP Ry Ry F Ry H Ry T c1 Ry O (by have:=s.v0;have:=s.h0;omega) (fun r hr=>Ub)
def zhc(p v h a b c:Int)(A:aq)(cap:Nat)(rows:aC)(w:aa)(z:aq)(row:aH)(B:Nat)(H:cU w)(hR:aL w A rows)(Z:aU w z row)(R:row.length<=1048576)(s:Sys p v h rows):ax 34 #[p,.agg (ae v h A rows cap),.agg #[.int .i64 4,a,b,c,.slice z row B]] w (Made v (dK 4 h) (bH p v rows 4 a b c row (v+h).toNat) (jO p v h rows 4 a b c row) w):=by
 have ad:=s.p2;have am:=s.p97;have ao:=s.v24;have ab:=s.h100;have ac:=s.n;have EN:rows.length<=maxLen:=TB;have EP:∀r∈rows,r.length<=1000:=fun r hr=>Ub
 have K4:∀r∈rows,r.length<=maxLen:=fun r hr=>VA
 have U:∀r∈rows,∀x∈r,0<=x/\x<=1000:=fun r hr x hx=>Ux
 have I:jb 4 a b c row=((b==0)&&((c==0)&&((row.length==0)))):=RM;have ER:kF p v h rows 4 a b c row=(eW a 0 ((rows:Int)-1)&&x_ (rows.getD a.toNat [])):=RL;have Q:bH p v rows 4 a b c row (v+h).toNat=rows.eraseIdx a.toNat:=RK;have ES:dK 4 h=h:=RO;rw[pt s];have EO:=fun W=>qS a b c z row B W R
 cases he:jb 4 a b c row with
 |false=>
  rw[I]at he;refine(kO p v h 4 a b c A cap rows w z row B (fun W=>?_)).mono fun e w' ⟨E,F⟩=>Made.no Rx E F
  exact WK
 |true=>
  rw[I]at he;have D:=EO;rw[he]at D;cases hc:kF p v h rows 4 a b c row with
  |false=>
   refine(tR p v h 0 0 A cap rows [] w false a b c z row B D (fun W hW=>?_) (fun h=>RE) H (aT _) (fun r hr=>RF)).mono fun e w' m=>m.none Rx Rx
   exact XH
  |true=>
   have hg:=gu s hc;have O:∀r∈bH p v rows 4 a b c row (v+h).toNat,r.length<=maxLen:=by intro r hr;have E:=(hg.1 r hr).1;have F:dK 4 h<=h+1:=Sw;unfold maxLen;omega
   refine(tR p v h v (dK 4 h) A cap rows (bH p v rows 4 a b c row (v+h).toNat) w true a b c z row B D (fun W hW=>?_) (fun _ W hW=>?_) H Vh O).mono fun e w' m=>m.same Rx
   .exact XH
   .rw[ER]at hc;rw[Q,ES];simp[bh,fC,jQ]at hc;obtain⟨⟨J,T⟩,_⟩:=hc;exact zb4 a p v h A cap rows W (hR.ext hW) s.n EP J Ry
def zii(p v h a b c:Int)(A:aq)(cap:Nat)(rows:aC)(w:aa)(z:aq)(row:aH)(B:Nat)(I:cU w)(R:aL w A rows)(ad:aU w z row)(U:row.length<=1048576)(s:Sys p v h rows):ax 34 #[p,.agg (ae v h A rows cap),.agg #[.int .i64 5,a,b,c,.slice z row B]] w (Made v (dK 5 h) (bH p v rows 5 a b c row (v+h).toNat) (jO p v h rows 5 a b c row) w):=by
 have ap:=s.p2;have a0:=s.p97;have a1:=s.v24;have am:=s.h100;have ao:=s.n;have EN:rows.length<=maxLen:=TB;have EP:∀r∈rows,r.length<=1000:=fun r hr=>Ub
 have ac:∀r∈rows,r.length<=maxLen:=fun r hr=>VA
 have ab:∀r∈rows,∀x∈r,0<=x/\x<=1000:=fun r hr x hx=>Ux
 have J:jb 5 a b c row=((b==0)&&((c==0)&&((row.length==0)))):=RM;have ER:kF p v h rows 5 a b c row=(eW a 0 (rows:Int)):=RL;have T:bH p v rows 5 a b c row (v+h).toNat=bK rows a.toNat (List.replicate (v+h).toNat 0):=RK;have ES:dK 5 h=h:=RO;rw[pt s];have EO:=fun W=>rL a b c z row B W U
 cases he:jb 5 a b c row with
 |false=>
  rw[J]at he;refine(kO p v h 5 a b c A cap rows w z row B (fun W=>?_)).mono fun e w' ⟨F,H⟩=>Made.no Rx F H
  exact WK
 |true=>
  rw[J]at he;have D:=EO;rw[he]at D;cases hc:kF p v h rows 5 a b c row with
  |false=>
   refine(vM p v h 0 0 A cap rows [] w false a b c z row B D (fun W E=>?_) (fun h=>RE) I (aT _) (fun r hr=>RF)).mono fun e w' m=>m.none Rx Rx
   exact Xh
  |true=>
   have hg:=gu s hc;have Q:∀r∈bH p v rows 5 a b c row (v+h).toNat,r.length<=maxLen:=by intro r hr;have F:=(hg.1 r hr).1;have H:dK 5 h<=h+1:=Sw;unfold maxLen;omega
   refine(vM p v h v (dK 5 h) A cap rows (bH p v rows 5 a b c row (v+h).toNat) w true a b c z row B D (fun W E=>?_) (fun _ W E=>?_) I Vh Q).mono fun e w' m=>m.same Rx
   .exact Xh
   .rw[ER]at hc;rw[T,ES];simp[bh,fC,jQ]at hc;obtain⟨O,Z⟩:=hc;exact zeE a p v h A cap rows W (R.ext E) s.n EP O Ry s.v0 Ry s.h0 Ry
def zfJ(p v h a b c:Int)(A:aq)(cap:Nat)(rows:aC)(w:aa)(z:aq)(row:aH)(B:Nat)(H:cU w)(hR:aL w A rows)(ad:aU w z row)(T:row.length<=1048576)(s:Sys p v h rows):ax 34 #[p,.agg (ae v h A rows cap),.agg #[.int .i64 6,a,b,c,.slice z row B]] w (Made v (dK 6 h) (bH p v rows 6 a b c row (v+h).toNat) (jO p v h rows 6 a b c row) w):=by
 have ap:=s.p2;have a0:=s.p97;have a1:=s.v24;have am:=s.h100;have ao:=s.n;have EN:rows.length<=maxLen:=TB;have EP:∀r∈rows,r.length<=1000:=fun r hr=>Ub
 have ac:∀r∈rows,r.length<=maxLen:=fun r hr=>VA
 have ab:∀r∈rows,∀x∈r,0<=x/\x<=1000:=fun r hr x hx=>Ux
 have I:jb 6 a b c row=((c==0)&&((row.length==0))):=RM;have ER:kF p v h rows 6 a b c row=(eW a 0 ((rows:Int)-1)&&(eW b 0 (h-1)&&(((rows.getD a.toNat []).getD (v+b).toNat 0 !=0)&&pF rows (v+b).toNat a))):=RL;have R:bH p v rows 6 a b c row (v+h).toNat=(rows.map (fun r=>r.eraseIdx (v+b).toNat)).eraseIdx a.toNat:=RK;have ES:dK 6 h=h-1:=RO;rw[pt s];have EO:=fun W=>pN a b c z row B W T
 cases he:jb 6 a b c row with
 |false=>
  rw[I]at he;refine(kO p v h 6 a b c A cap rows w z row B (fun W=>?_)).mono fun e w' ⟨E,F⟩=>Made.no Rx E F
  exact WK
 |true=>
  rw[I]at he;have D:=EO;rw[he]at D;cases hc:kF p v h rows 6 a b c row with
  |false=>
   refine(rV p v h 0 0 A cap rows [] w false a b c z row B D (fun W hW=>?_) (fun h=>RE) H (aT _) (fun r hr=>RF)).mono fun e w' m=>m.none Rx Rx
   exact Yj
  |true=>
   have hg:=gu s hc;have Q:∀r∈bH p v rows 6 a b c row (v+h).toNat,r.length<=maxLen:=by intro r hr;have E:=(hg.1 r hr).1;have F:dK 6 h<=h+1:=Sw;unfold maxLen;omega
   refine(rV p v h v (dK 6 h) A cap rows (bH p v rows 6 a b c row (v+h).toNat) w true a b c z row B D (fun W hW=>?_) (fun _ W hW=>?_) H Vh Q).mono fun e w' m=>m.same Rx
   .exact Yj
   .rw[ER]at hc;rw[R,ES];simp[bh,fC,jQ]at hc;obtain⟨⟨J,U⟩,⟨O,Z⟩,_⟩:=hc;exact zah a b p v h A cap rows W (hR.ext hW) s.n EP J Ry s.v0 Ry O Ry Ry Ry (fun r hr=>Ub)
def zfK(p v h a b c:Int)(A:aq)(cap:Nat)(rows:aC)(w:aa)(XA:aq)(row:aH)(KQ:Nat)(E:cU w)(O:aL w A rows)(hX:aU w XA row)(R:row.length<=1048576)(s:Sys p v h rows):ax 34 #[p,.agg (ae v h A rows cap),.agg #[.int .i64 7,a,b,c,.slice XA row KQ]] w (Made v (dK 7 h) (bH p v rows 7 a b c row (v+h).toNat) (jO p v h rows 7 a b c row) w):=by
 have am:=s.p2;have ao:=s.p97;have ap:=s.v24;have ac:=s.h100;have ad:=s.n;have EN:rows.length<=maxLen:=TB;have EP:∀r∈rows,r.length<=1000:=fun r hr=>Ub
 have ab:∀r∈rows,r.length<=maxLen:=fun r hr=>VA
 have Z:∀r∈rows,∀x∈r,0<=x/\x<=1000:=fun r hr x hx=>Ux
 have F:jb 7 a b c row=((c==0)):=RM;have ER:kF p v h rows 7 a b c row=(eW a 0 (rows:Int)&&(eW b 0 h&&(pE p row (v+h+1)&&(row.getD (v+b).toNat 0 !=0)))):=RL;have Q:bH p v rows 7 a b c row (v+h).toNat=bK (rows.map (fun r=>bK r (v+b).toNat 0)) a.toNat row:=RK;have ES:dK 7 h=h+1:=RO;rw[pt s];have EO:=fun W=>pO a b c XA row KQ W R
 cases he:jb 7 a b c row with
 |false=>
  rw[F]at he;refine(kO p v h 7 a b c A cap rows w XA row KQ (fun W=>?_)).mono fun e w' ⟨B,D⟩=>Made.no Rx B D
  exact WK
 |true=>
  rw[F]at he;have z:=EO;rw[he]at z;cases hc:kF p v h rows 7 a b c row with
  |false=>
   refine(rW p v h 0 0 A cap rows [] w false a b c XA row KQ z (fun W hW=>?_) (fun h=>RE) E (aT _) (fun r hr=>RF)).mono fun e w' m=>m.none Rx Rx
   exact YH
  |true=>
   have hg:=gu s hc;have J:∀r∈bH p v rows 7 a b c row (v+h).toNat,r.length<=maxLen:=by intro r hr;have B:=(hg.1 r hr).1;have D:dK 7 h<=h+1:=Sw;unfold maxLen;omega
   refine(rW p v h v (dK 7 h) A cap rows (bH p v rows 7 a b c row (v+h).toNat) w true a b c XA row KQ z (fun W hW=>?_) (fun _ W hW=>?_) E Vh J).mono fun e w' m=>m.same Rx
   .exact YH
   .rw[ER]at hc;rw[Q,ES];simp[bh,fC,jQ]at hc;obtain⟨⟨H,T⟩,⟨I,U⟩,⟨a0,_⟩,_⟩:=hc;exact DV a b p v h A XA cap KQ row rows W (O.ext hW) s.n EP (hX.ext hW) Ry H Ry s.v0 Ry I Ry s.h0 Ry (fun r hr=>Ub)
def zdZ(p v h a b c:Int)(A:aq)(cap:Nat)(rows:aC)(w:aa)(z:aq)(row:aH)(B:Nat)(H:cU w)(hR:aL w A rows)(ab:aU w z row)(R:row.length<=1048576)(s:Sys p v h rows):ax 34 #[p,.agg (ae v h A rows cap),.agg #[.int .i64 8,a,b,c,.slice z row B]] w (Made v (dK 8 h) (bH p v rows 8 a b c row (v+h).toNat) (jO p v h rows 8 a b c row) w):=by
 have am:=s.p2;have ao:=s.p97;have ap:=s.v24;have ac:=s.h100;have ad:=s.n;have EN:rows.length<=maxLen:=TB;have EP:∀r∈rows,r.length<=1000:=fun r hr=>Ub
 have Z:∀r∈rows,r.length<=maxLen:=fun r hr=>VA
 have U:∀r∈rows,∀x∈r,0<=x/\x<=1000:=fun r hr x hx=>Ux
 have I:jb 8 a b c row=((a==0)&&((c==0)&&((row.length==0)))):=RM;have ER:kF p v h rows 8 a b c row=(eW b 0 (h-1)&&pF rows (v+b).toNat (-1)):=RL;have Q:bH p v rows 8 a b c row (v+h).toNat=rows.map (fun r=>r.eraseIdx (v+b).toNat):=RK;have ES:dK 8 h=h-1:=RO;rw[pt s];have EO:=fun W=>oM a b c z row B W R
 cases he:jb 8 a b c row with
 |false=>
  rw[I]at he;refine(kO p v h 8 a b c A cap rows w z row B (fun W=>?_)).mono fun e w' ⟨E,F⟩=>Made.no Rx E F
  exact WK
 |true=>
  rw[I]at he;have D:=EO;rw[he]at D;cases hc:kF p v h rows 8 a b c row with
  |false=>
   refine(qU p v h 0 0 A cap rows [] w false a b c z row B D (fun W hW=>?_) (fun h=>RE) H (aT _) (fun r hr=>RF)).mono fun e w' m=>m.none Rx Rx
   exact Yh
  |true=>
   have hg:=gu s hc;have O:∀r∈bH p v rows 8 a b c row (v+h).toNat,r.length<=maxLen:=by intro r hr;have E:=(hg.1 r hr).1;have F:dK 8 h<=h+1:=Sw;unfold maxLen;omega
   refine(qU p v h v (dK 8 h) A cap rows (bH p v rows 8 a b c row (v+h).toNat) w true a b c z row B D (fun W hW=>?_) (fun _ W hW=>?_) H Vh O).mono fun e w' m=>m.same Rx
   .exact Yh
   .rw[ER]at hc;rw[Q,ES];simp[bh,fC,jQ]at hc;obtain⟨⟨J,T⟩,_⟩:=hc;exact C4 b p v h A cap rows W (hR.ext hW) s.n EP s.v0 Ry J Ry Ry Ry (fun r hr=>Ub)
def zd0(p v h a b c:Int)(A:aq)(cap:Nat)(rows:aC)(w:aa)(z:aq)(row:aH)(B:Nat)(I:cU w)(R:aL w A rows)(ad:aU w z row)(U:row.length<=1048576)(s:Sys p v h rows):ax 34 #[p,.agg (ae v h A rows cap),.agg #[.int .i64 9,a,b,c,.slice z row B]] w (Made v (dK 9 h) (bH p v rows 9 a b c row (v+h).toNat) (jO p v h rows 9 a b c row) w):=by
 have ap:=s.p2;have a0:=s.p97;have a1:=s.v24;have am:=s.h100;have ao:=s.n;have EN:rows.length<=maxLen:=TB;have EP:∀r∈rows,r.length<=1000:=fun r hr=>Ub
 have ac:∀r∈rows,r.length<=maxLen:=fun r hr=>VA
 have ab:∀r∈rows,∀x∈r,0<=x/\x<=1000:=fun r hr x hx=>Ux
 have J:jb 9 a b c row=((a==0)&&((c==0)&&((row.length==0)))):=RM;have ER:kF p v h rows 9 a b c row=(eW b 0 h):=RL;have T:bH p v rows 9 a b c row (v+h).toNat=rows.map (fun r=>bK r (v+b).toNat 0):=RK;have ES:dK 9 h=h+1:=RO;rw[pt s];have EO:=fun W=>oN a b c z row B W U
 cases he:jb 9 a b c row with
 |false=>
  rw[J]at he;refine(kO p v h 9 a b c A cap rows w z row B (fun W=>?_)).mono fun e w' ⟨F,H⟩=>Made.no Rx F H
  exact WK
 |true=>
  rw[J]at he;have D:=EO;rw[he]at D;cases hc:kF p v h rows 9 a b c row with
  |false=>
   refine(qV p v h 0 0 A cap rows [] w false a b c z row B D (fun W E=>?_) (fun h=>RE) I (aT _) (fun r hr=>RF)).mono fun e w' m=>m.none Rx Rx
   exact Xg
  |true=>
   have hg:=gu s hc;have Q:∀r∈bH p v rows 9 a b c row (v+h).toNat,r.length<=maxLen:=by intro r hr;have F:=(hg.1 r hr).1;have H:dK 9 h<=h+1:=Sw;unfold maxLen;omega
   refine(qV p v h v (dK 9 h) A cap rows (bH p v rows 9 a b c row (v+h).toNat) w true a b c z row B D (fun W E=>?_) (fun _ W E=>?_) I Vh Q).mono fun e w' m=>m.same Rx
   .exact Xg
   .rw[ER]at hc;rw[T,ES];simp[bh,fC,jQ]at hc;obtain⟨O,Z⟩:=hc;exact C5 b p v h A cap rows W (R.ext E) s.n EP s.v0 Ry O Ry s.h0 Ry (fun r hr=>Ub)
def zbG(p v h k a b c:Int)(A:aq)(cap:Nat)(rows:aC)(w:aa)(z:aq)(row:aH)(B:Nat)(E:cU w)(F:aL w A rows)(H:aU w z row)(D:row.length<=1048576)(s:Sys p v h rows):ax 34 (ew p (ae v h A rows cap) (dk k a b c z row B)) w (Made v (dK k h) (bH p v rows k a b c row (v+h).toNat) (jO p v h rows k a b c row) w):=by
 by_cases I:k=1
 .subst I;exact zhb p v h a b c A cap rows w z row B E F H D s
 by_cases J:k=2
 .subst J;exact zfI p v h a b c A cap rows w z row B E F H D s
 by_cases O:k=3
 .subst O;exact zih p v h a b c A cap rows w z row B E F H D s
 by_cases Q:k=4
 .subst Q;exact zhc p v h a b c A cap rows w z row B E F H D s
 by_cases R:k=5
 .subst R;exact zii p v h a b c A cap rows w z row B E F H D s
 by_cases T:k=6
 .subst T;exact zfJ p v h a b c A cap rows w z row B E F H D s
 by_cases U:k=7
 .subst U;exact zfK p v h a b c A cap rows w z row B E F H D s
 by_cases Z:k=8
 .subst Z;exact zdZ p v h a b c A cap rows w z row B E F H D s
 by_cases ab:k=9
 .subst ab;exact zd0 p v h a b c A cap rows w z row B E F H D s
 refine(kO p v h k a b c A cap rows w z row B (fun W=>Dn k a b c z row B W D I J O Q R T U Z ab)).mono fun e w' ⟨ac,ad⟩=>Made.no (by simp[jO, *]) ac ad
end Go.Proofs.YtdpgblncijojiaaGreatDoor
