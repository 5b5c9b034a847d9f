/- Parts of the walks and laws (Mk, SMC). Conditions: as stated with each. -/
import Derived.Test.YtpieilkmmiopfaaGreatDoorPk21
namespace Go.Proofs.YtpieilkmmiopfaaGreatDoor
open Go.RowKit Tryz
set_option linter.all false
set_option maxHeartbeats 8000000
set_option maxRecDepth 100000
theorem zgd(p v h a b c:Int)(A:aq)(cap:Nat)(rows:aN)(w:aa)(D:aq)(row:aH)(F:Nat)(N:eB w)(V:bk w A rows)(ap:aJ w D row)(ab:row.length<=1048576)(s:Sys p v h rows):aw 101 #[p,.agg (ar v h A rows cap),.agg #[.int .i64 1,a,b,c,.slice D row.length F]] w (Made v (eS 1 h) (bT p v rows 1 a b c row (v+h).toNat) (lC p v h rows 1 a b c row) w):=by
 have a2:=s.p2;have a3:=s.p97;have a4:=s.v24;have a0:=s.h100;have a1:=s.n;have E5:rows.length<=maxLen:=TD;have E4:∀r∈rows,r.length<=1000:=fun r hr=>Ui
 have ao:∀r∈rows,r.length<=maxLen:=fun r hr=>Vb
 have am:∀r∈rows,∀x∈r,0<=x/\x<=1000:=fun r hr x hx=>Uv
 have O:mu 1 a b c row.length=((c==0)&&((row.length==0))):=RG;have E0:j4 p v h rows 1 a b c row=(et a 0 ((rows.length:Int)-1)&&(et b 0 ((rows.length:Int)-1)&&(a !=b))):=RF;have Z:bT p v rows 1 a b c row (v+h).toNat=(rows.set a.toNat (rows.getD b.toNat [])).set b.toNat (rows.getD a.toNat []):=RE;have E7:eS 1 h=h:=RD;rw[pb s];have E6:=fun W=>yt a b c D row.length F W ab
 cases he:mu 1 a b c row.length with
 |false=>
  rw[O]at he;refine(ka p v h 1 a b c A cap rows w D row.length F (fun W=>?_)).mono fun e w' ⟨I,J⟩=>Made.no Rq I J
  exact Wr
 |true=>
  rw[O]at he;have G:=E6;rw[he]at G;cases hc:j4 p v h rows 1 a b c row with
  |false=>
   refine(td p v h 0 0 A cap rows [] w false a b c D row.length F G (fun W H=>?_) (fun h=>Ru) N (aX _) (fun r hr=>Rx)).mono fun e w' m=>m.none Rq Rq
   exact W8
  |true=>
   have hg:=gk s hc;have U:∀r∈bT p v rows 1 a b c row (v+h).toNat,r.length<=maxLen:=by intro r hr;have I:=(hg.1 r hr).1;have J:eS 1 h<=h+1:=St;unfold maxLen;omega
   refine(td p v h v (eS 1 h) A cap rows (bT p v rows 1 a b c row (v+h).toNat) w true a b c D row.length F G (fun W H=>?_) (fun _ W H=>?_) N UT U).mono fun e w' m=>m.same Rq
   .exact W8
   .rw[E0]at hc;rw[Z,E7];simp[cX,gh,jO]at hc;obtain⟨⟨R,ac⟩,⟨T,ad⟩,Y⟩:=hc;exact zbh a b p v h A cap rows W (V.ext H) s.n E4 R Rr T Rr Y
theorem ze_(p v h a b c:Int)(A:aq)(cap:Nat)(rows:aN)(w:aa)(D:aq)(row:aH)(F:Nat)(N:eB w)(V:bk w A rows)(ad:aJ w D row)(Z:row.length<=1048576)(s:Sys p v h rows):aw 101 #[p,.agg (ar v h A rows cap),.agg #[.int .i64 2,a,b,c,.slice D row.length F]] w (Made v (eS 2 h) (bT p v rows 2 a b c row (v+h).toNat) (lC p v h rows 2 a b c row) w):=by
 have ap:=s.p2;have a0:=s.p97;have a1:=s.v24;have am:=s.h100;have ao:=s.n;have E5:rows.length<=maxLen:=TD;have E4:∀r∈rows,r.length<=1000:=fun r hr=>Ui
 have ac:∀r∈rows,r.length<=maxLen:=fun r hr=>Vb
 have T:∀r∈rows,∀x∈r,0<=x/\x<=1000:=fun r hr x hx=>Uv
 have O:mu 2 a b c row.length=((b==0)&&((row.length==0))):=RG;have E0:j4 p v h rows 2 a b c row=(et a 0 ((rows.length:Int)-1)&&(jX p c&&(c !=0))):=RF;have Y:bT p v rows 2 a b c row (v+h).toNat=rows.set a.toNat (iZ p c (rows.getD a.toNat [])):=RE;have E7:eS 2 h=h:=RD;rw[pb s];have E6:=fun W=>xk a b c D row.length F W Z
 cases he:mu 2 a b c row.length with
 |false=>
  rw[O]at he;refine(ka p v h 2 a b c A cap rows w D row.length F (fun W=>?_)).mono fun e w' ⟨I,J⟩=>Made.no Rq I J
  exact Wr
 |true=>
  rw[O]at he;have G:=E6;rw[he]at G;cases hc:j4 p v h rows 2 a b c row with
  |false=>
   refine(rF p v h 0 0 A cap rows [] w false a b c D row.length F G (fun W H=>?_) (fun h=>Ru) N (aX _) (fun r hr=>Rx)).mono fun e w' m=>m.none Rq Rq
   exact WZ
  |true=>
   have hg:=gk s hc;have U:∀r∈bT p v rows 2 a b c row (v+h).toNat,r.length<=maxLen:=by intro r hr;have I:=(hg.1 r hr).1;have J:eS 2 h<=h+1:=St;unfold maxLen;omega
   refine(rF p v h v (eS 2 h) A cap rows (bT p v rows 2 a b c row (v+h).toNat) w true a b c D row.length F G (fun W H=>?_) (fun _ W H=>?_) N UT U).mono fun e w' m=>m.same Rq
   .exact WZ
   .rw[E0]at hc;rw[Y,E7];simp[cX,gh,jO]at hc;obtain⟨⟨R,ab⟩,⟨c1,c2⟩,_⟩:=hc;exact zaH a c p v h A cap rows W (V.ext H) s.n E4 Rr Rr R Rr c1 Rr T
theorem zhk(p v h a b c:Int)(A:aq)(cap:Nat)(rows:aN)(w:aa)(D:aq)(row:aH)(F:Nat)(T:eB w)(U:bk w A rows)(ap:aJ w D row)(ac:row.length<=1048576)(s:Sys p v h rows):aw 101 #[p,.agg (ar v h A rows cap),.agg #[.int .i64 3,a,b,c,.slice D row.length F]] w (Made v (eS 3 h) (bT p v rows 3 a b c row (v+h).toNat) (lC p v h rows 3 a b c row) w):=by
 have a2:=s.p2;have a3:=s.p97;have a4:=s.v24;have a0:=s.h100;have a1:=s.n;have E5:rows.length<=maxLen:=TD;have E4:∀r∈rows,r.length<=1000:=fun r hr=>Ui
 have ao:∀r∈rows,r.length<=maxLen:=fun r hr=>Vb
 have R:∀r∈rows,∀x∈r,0<=x/\x<=1000:=fun r hr x hx=>Uv
 have Y:mu 3 a b c row.length=((row.length==0)):=RG;have E0:j4 p v h rows 3 a b c row=(et a 0 ((rows.length:Int)-1)&&(et b 0 ((rows.length:Int)-1)&&((a !=b)&&jX p c))):=RF;have ab:bT p v rows 3 a b c row (v+h).toNat=rows.set b.toNat (dD p c (rows.getD b.toNat []) (rows.getD a.toNat [])):=RE;have E7:eS 3 h=h:=RD;rw[pb s];have E6:=fun W=>Al a b c D row.length F W ac
 cases he:mu 3 a b c row.length with
 |false=>
  rw[Y]at he;refine(ka p v h 3 a b c A cap rows w D row.length F (fun W=>?_)).mono fun e w' ⟨N,O⟩=>Made.no Rq N O
  exact Wr
 |true=>
  rw[Y]at he;have H:=E6;rw[he]at H;cases hc:j4 p v h rows 3 a b c row with
  |false=>
   refine(vf p v h 0 0 A cap rows [] w false a b c D row.length F H (fun W G=>?_) (fun h=>Ru) T (aX _) (fun r hr=>Rx)).mono fun e w' m=>m.none Rq Rq
   exact Xe
  |true=>
   have hg:=gk s hc;have Z:∀r∈bT p v rows 3 a b c row (v+h).toNat,r.length<=maxLen:=by intro r hr;have N:=(hg.1 r hr).1;have O:eS 3 h<=h+1:=St;unfold maxLen;omega
   refine(vf p v h v (eS 3 h) A cap rows (bT p v rows 3 a b c row (v+h).toNat) w true a b c D row.length F H (fun W G=>?_) (fun _ W G=>?_) T UT Z).mono fun e w' m=>m.same Rq
   .exact Xe
   .rw[E0]at hc;rw[ab,E7];simp[cX,gh,jO]at hc;obtain⟨⟨I,ad⟩,⟨J,am⟩,V,c1,c2⟩:=hc;by_cases a5:v+h=0
    .exact zcX a b c p v h A cap rows W (U.ext G) s.n E4 Rr Rr I Rr J Rr V c1 Rr R (fun r hr=>Ui)
    .exact zd2 a b c p v h (v+h).toNat A cap rows W (U.ext G) s.n E4 Rr Rr I Rr J Rr V c1 Rr R (by have:=s.v0;have:=s.h0;omega) (fun r hr=>Ui)
theorem zge(p v h a b c:Int)(A:aq)(cap:Nat)(rows:aN)(w:aa)(D:aq)(row:aH)(F:Nat)(J:eB w)(hR:bk w A rows)(Z:aJ w D row)(U:row.length<=1048576)(s:Sys p v h rows):aw 101 #[p,.agg (ar v h A rows cap),.agg #[.int .i64 4,a,b,c,.slice D row.length F]] w (Made v (eS 4 h) (bT p v rows 4 a b c row (v+h).toNat) (lC p v h rows 4 a b c row) w):=by
 have ad:=s.p2;have am:=s.p97;have ao:=s.v24;have ab:=s.h100;have ac:=s.n;have E5:rows.length<=maxLen:=TD;have E4:∀r∈rows,r.length<=1000:=fun r hr=>Ui
 have LQ:∀r∈rows,r.length<=maxLen:=fun r hr=>Vb
 have Y:∀r∈rows,∀x∈r,0<=x/\x<=1000:=fun r hr x hx=>Uv
 have N:mu 4 a b c row.length=((b==0)&&((c==0)&&((row.length==0)))):=RG;have E0:j4 p v h rows 4 a b c row=(et a 0 ((rows.length:Int)-1)&&yj (rows.getD a.toNat [])):=RF;have T:bT p v rows 4 a b c row (v+h).toNat=rows.eraseIdx a.toNat:=RE;have E7:eS 4 h=h:=RD;rw[pb s];have E6:=fun W=>yv a b c D row.length F W U
 cases he:mu 4 a b c row.length with
 |false=>
  rw[N]at he;refine(ka p v h 4 a b c A cap rows w D row.length F (fun W=>?_)).mono fun e w' ⟨H,I⟩=>Made.no Rq H I
  exact Wr
 |true=>
  rw[N]at he;have G:=E6;rw[he]at G;cases hc:j4 p v h rows 4 a b c row with
  |false=>
   refine(te p v h 0 0 A cap rows [] w false a b c D row.length F G (fun W hW=>?_) (fun h=>Ru) J (aX _) (fun r hr=>Rx)).mono fun e w' m=>m.none Rq Rq
   exact Xw
  |true=>
   have hg:=gk s hc;have R:∀r∈bT p v rows 4 a b c row (v+h).toNat,r.length<=maxLen:=by intro r hr;have H:=(hg.1 r hr).1;have I:eS 4 h<=h+1:=St;unfold maxLen;omega
   refine(te p v h v (eS 4 h) A cap rows (bT p v rows 4 a b c row (v+h).toNat) w true a b c D row.length F G (fun W hW=>?_) (fun _ W hW=>?_) J UT R).mono fun e w' m=>m.same Rq
   .exact Xw
   .rw[E0]at hc;rw[T,E7];simp[cX,gh,jO]at hc;obtain⟨⟨O,V⟩,_⟩:=hc;exact zb2 a p v h A cap rows W (hR.ext hW) s.n E4 O Rr
theorem zhl(p v h a b c:Int)(A:aq)(cap:Nat)(rows:aN)(w:aa)(D:aq)(row:aH)(F:Nat)(N:eB w)(U:bk w A rows)(ad:aJ w D row)(Y:row.length<=1048576)(s:Sys p v h rows):aw 101 #[p,.agg (ar v h A rows cap),.agg #[.int .i64 5,a,b,c,.slice D row.length F]] w (Made v (eS 5 h) (bT p v rows 5 a b c row (v+h).toNat) (lC p v h rows 5 a b c row) w):=by
 have ap:=s.p2;have a0:=s.p97;have a1:=s.v24;have am:=s.h100;have ao:=s.n;have E5:rows.length<=maxLen:=TD;have E4:∀r∈rows,r.length<=1000:=fun r hr=>Ui
 have ac:∀r∈rows,r.length<=maxLen:=fun r hr=>Vb
 have ab:∀r∈rows,∀x∈r,0<=x/\x<=1000:=fun r hr x hx=>Uv
 have O:mu 5 a b c row.length=((b==0)&&((c==0)&&((row.length==0)))):=RG;have E0:j4 p v h rows 5 a b c row=(et a 0 (rows.length:Int)):=RF;have V:bT p v rows 5 a b c row (v+h).toNat=cf rows a.toNat (List.replicate (v+h).toNat 0):=RE;have E7:eS 5 h=h:=RD;rw[pb s];have E6:=fun W=>Am a b c D row.length F W Y
 cases he:mu 5 a b c row.length with
 |false=>
  rw[O]at he;refine(ka p v h 5 a b c A cap rows w D row.length F (fun W=>?_)).mono fun e w' ⟨I,J⟩=>Made.no Rq I J
  exact Wr
 |true=>
  rw[O]at he;have G:=E6;rw[he]at G;cases hc:j4 p v h rows 5 a b c row with
  |false=>
   refine(vh p v h 0 0 A cap rows [] w false a b c D row.length F G (fun W H=>?_) (fun h=>Ru) N (aX _) (fun r hr=>Rx)).mono fun e w' m=>m.none Rq Rq
   exact WX
  |true=>
   have hg:=gk s hc;have T:∀r∈bT p v rows 5 a b c row (v+h).toNat,r.length<=maxLen:=by intro r hr;have I:=(hg.1 r hr).1;have J:eS 5 h<=h+1:=St;unfold maxLen;omega
   refine(vh p v h v (eS 5 h) A cap rows (bT p v rows 5 a b c row (v+h).toNat) w true a b c D row.length F G (fun W H=>?_) (fun _ W H=>?_) N UT T).mono fun e w' m=>m.same Rq
   .exact WX
   .rw[E0]at hc;rw[V,E7];simp[cX,gh,jO]at hc;obtain⟨R,Z⟩:=hc;exact zdm a p v h A cap rows W (U.ext H) s.n E4 R Rr s.v0 Rr s.h0 Rr
theorem zfa(p v h a b c:Int)(A:aq)(cap:Nat)(rows:aN)(w:aa)(D:aq)(row:aH)(F:Nat)(J:eB w)(hR:bk w A rows)(ad:aJ w D row)(V:row.length<=1048576)(s:Sys p v h rows):aw 101 #[p,.agg (ar v h A rows cap),.agg #[.int .i64 6,a,b,c,.slice D row.length F]] w (Made v (eS 6 h) (bT p v rows 6 a b c row (v+h).toNat) (lC p v h rows 6 a b c row) w):=by
 have ap:=s.p2;have a0:=s.p97;have a1:=s.v24;have am:=s.h100;have ao:=s.n;have E5:rows.length<=maxLen:=TD;have E4:∀r∈rows,r.length<=1000:=fun r hr=>Ui
 have ac:∀r∈rows,r.length<=maxLen:=fun r hr=>Vb
 have ab:∀r∈rows,∀x∈r,0<=x/\x<=1000:=fun r hr x hx=>Uv
 have N:mu 6 a b c row.length=((c==0)&&((row.length==0))):=RG;have E0:j4 p v h rows 6 a b c row=(et a 0 ((rows.length:Int)-1)&&(et b 0 (h-1)&&(((rows.getD a.toNat []).getD (v+b).toNat 0 !=0)&&pB rows (v+b).toNat a))):=RF;have U:bT p v rows 6 a b c row (v+h).toNat=(rows.map (fun r=>r.eraseIdx (v+b).toNat)).eraseIdx a.toNat:=RE;have E7:eS 6 h=h-1:=RD;rw[pb s];have E6:=fun W=>xl a b c D row.length F W V
 cases he:mu 6 a b c row.length with
 |false=>
  rw[N]at he;refine(ka p v h 6 a b c A cap rows w D row.length F (fun W=>?_)).mono fun e w' ⟨H,I⟩=>Made.no Rq H I
  exact Wr
 |true=>
  rw[N]at he;have G:=E6;rw[he]at G;cases hc:j4 p v h rows 6 a b c row with
  |false=>
   refine(rG p v h 0 0 A cap rows [] w false a b c D row.length F G (fun W hW=>?_) (fun h=>Ru) J (aX _) (fun r hr=>Rx)).mono fun e w' m=>m.none Rq Rq
   exact Yd
  |true=>
   have hg:=gk s hc;have T:∀r∈bT p v rows 6 a b c row (v+h).toNat,r.length<=maxLen:=by intro r hr;have H:=(hg.1 r hr).1;have I:eS 6 h<=h+1:=St;unfold maxLen;omega
   refine(rG p v h v (eS 6 h) A cap rows (bT p v rows 6 a b c row (v+h).toNat) w true a b c D row.length F G (fun W hW=>?_) (fun _ W hW=>?_) J UT T).mono fun e w' m=>m.same Rq
   .exact Yd
   .rw[E0]at hc;rw[U,E7];simp[cX,gh,jO]at hc;obtain⟨⟨O,Y⟩,⟨R,Z⟩,_⟩:=hc;exact zam a b p v h A cap rows W (hR.ext hW) s.n E4 O Rr s.v0 Rr R Rr Rr Rr (fun r hr=>Ui)
theorem zfb(p v h a b c:Int)(A:aq)(cap:Nat)(rows:aN)(w:aa)(XA:aq)(row:aH)(LB:Nat)(H:eB w)(R:bk w A rows)(hX:aJ w XA row)(U:row.length<=1048576)(s:Sys p v h rows):aw 101 #[p,.agg (ar v h A rows cap),.agg #[.int .i64 7,a,b,c,.slice XA row.length LB]] w (Made v (eS 7 h) (bT p v rows 7 a b c row (v+h).toNat) (lC p v h rows 7 a b c row) w):=by
 have am:=s.p2;have ao:=s.p97;have ap:=s.v24;have ac:=s.h100;have ad:=s.n;have E5:rows.length<=maxLen:=TD;have E4:∀r∈rows,r.length<=1000:=fun r hr=>Ui
 have ab:∀r∈rows,r.length<=maxLen:=fun r hr=>Vb
 have Z:∀r∈rows,∀x∈r,0<=x/\x<=1000:=fun r hr x hx=>Uv
 have I:mu 7 a b c row.length=((c==0)):=RG;have E0:j4 p v h rows 7 a b c row=(et a 0 (rows.length:Int)&&(et b 0 h&&(rI p row (v+h+1)&&(row.getD (v+b).toNat 0 !=0)))):=RF;have T:bT p v rows 7 a b c row (v+h).toNat=cf (rows.map (fun r=>cf r (v+b).toNat 0)) a.toNat row:=RE;have E7:eS 7 h=h+1:=RD;rw[pb s];have E6:=fun W=>xm a b c XA row.length LB W U
 cases he:mu 7 a b c row.length with
 |false=>
  rw[I]at he;refine(ka p v h 7 a b c A cap rows w XA row.length LB (fun W=>?_)).mono fun e w' ⟨F,G⟩=>Made.no Rq F G
  exact Wr
 |true=>
  rw[I]at he;have D:=E6;rw[he]at D;cases hc:j4 p v h rows 7 a b c row with
  |false=>
   refine(rH p v h 0 0 A cap rows [] w false a b c XA row.length LB D (fun W hW=>?_) (fun h=>Ru) H (aX _) (fun r hr=>Rx)).mono fun e w' m=>m.none Rq Rq
   exact YE
  |true=>
   have hg:=gk s hc;have O:∀r∈bT p v rows 7 a b c row (v+h).toNat,r.length<=maxLen:=by intro r hr;have F:=(hg.1 r hr).1;have G:eS 7 h<=h+1:=St;unfold maxLen;omega
   refine(rH p v h v (eS 7 h) A cap rows (bT p v rows 7 a b c row (v+h).toNat) w true a b c XA row.length LB D (fun W hW=>?_) (fun _ W hW=>?_) H UT O).mono fun e w' m=>m.same Rq
   .exact YE
   .rw[E0]at hc;rw[T,E7];simp[cX,gh,jO]at hc;obtain⟨⟨J,V⟩,⟨N,Y⟩,⟨a0,_⟩,_⟩:=hc;exact za1 a b p v h A XA cap LB row rows W (R.ext hW) s.n E4 (hX.ext hW) Rr J Rr s.v0 Rr N Rr s.h0 Rr (fun r hr=>Ui)
theorem zdF(p v h a b c:Int)(A:aq)(cap:Nat)(rows:aN)(w:aa)(D:aq)(row:aH)(F:Nat)(J:eB w)(hR:bk w A rows)(ab:aJ w D row)(U:row.length<=1048576)(s:Sys p v h rows):aw 101 #[p,.agg (ar v h A rows cap),.agg #[.int .i64 8,a,b,c,.slice D row.length F]] w (Made v (eS 8 h) (bT p v rows 8 a b c row (v+h).toNat) (lC p v h rows 8 a b c row) w):=by
 have am:=s.p2;have ao:=s.p97;have ap:=s.v24;have ac:=s.h100;have ad:=s.n;have E5:rows.length<=maxLen:=TD;have E4:∀r∈rows,r.length<=1000:=fun r hr=>Ui
 have Z:∀r∈rows,r.length<=maxLen:=fun r hr=>Vb
 have Y:∀r∈rows,∀x∈r,0<=x/\x<=1000:=fun r hr x hx=>Uv
 have N:mu 8 a b c row.length=((a==0)&&((c==0)&&((row.length==0)))):=RG;have E0:j4 p v h rows 8 a b c row=(et b 0 (h-1)&&pB rows (v+b).toNat (-1)):=RF;have T:bT p v rows 8 a b c row (v+h).toNat=rows.map (fun r=>r.eraseIdx (v+b).toNat):=RE;have E7:eS 8 h=h-1:=RD;rw[pb s];have E6:=fun W=>uX a b c D row.length F W U
 cases he:mu 8 a b c row.length with
 |false=>
  rw[N]at he;refine(ka p v h 8 a b c A cap rows w D row.length F (fun W=>?_)).mono fun e w' ⟨H,I⟩=>Made.no Rq H I
  exact Wr
 |true=>
  rw[N]at he;have G:=E6;rw[he]at G;cases hc:j4 p v h rows 8 a b c row with
  |false=>
   refine(qH p v h 0 0 A cap rows [] w false a b c D row.length F G (fun W hW=>?_) (fun h=>Ru) J (aX _) (fun r hr=>Rx)).mono fun e w' m=>m.none Rq Rq
   exact Ya
  |true=>
   have hg:=gk s hc;have R:∀r∈bT p v rows 8 a b c row (v+h).toNat,r.length<=maxLen:=by intro r hr;have H:=(hg.1 r hr).1;have I:eS 8 h<=h+1:=St;unfold maxLen;omega
   refine(qH p v h v (eS 8 h) A cap rows (bT p v rows 8 a b c row (v+h).toNat) w true a b c D row.length F G (fun W hW=>?_) (fun _ W hW=>?_) J UT R).mono fun e w' m=>m.same Rq
   .exact Ya
   .rw[E0]at hc;rw[T,E7];simp[cX,gh,jO]at hc;obtain⟨⟨O,V⟩,_⟩:=hc;exact Dd b p v h A cap rows W (hR.ext hW) s.n E4 s.v0 Rr O Rr Rr Rr (fun r hr=>Ui)
theorem zdG(p v h a b c:Int)(A:aq)(cap:Nat)(rows:aN)(w:aa)(D:aq)(row:aH)(F:Nat)(N:eB w)(U:bk w A rows)(ad:aJ w D row)(Y:row.length<=1048576)(s:Sys p v h rows):aw 101 #[p,.agg (ar v h A rows cap),.agg #[.int .i64 9,a,b,c,.slice D row.length F]] w (Made v (eS 9 h) (bT p v rows 9 a b c row (v+h).toNat) (lC p v h rows 9 a b c row) w):=by
 have ap:=s.p2;have a0:=s.p97;have a1:=s.v24;have am:=s.h100;have ao:=s.n;have E5:rows.length<=maxLen:=TD;have E4:∀r∈rows,r.length<=1000:=fun r hr=>Ui
 have ac:∀r∈rows,r.length<=maxLen:=fun r hr=>Vb
 have ab:∀r∈rows,∀x∈r,0<=x/\x<=1000:=fun r hr x hx=>Uv
 have O:mu 9 a b c row.length=((a==0)&&((c==0)&&((row.length==0)))):=RG;have E0:j4 p v h rows 9 a b c row=(et b 0 h):=RF;have V:bT p v rows 9 a b c row (v+h).toNat=rows.map (fun r=>cf r (v+b).toNat 0):=RE;have E7:eS 9 h=h+1:=RD;rw[pb s];have E6:=fun W=>uY a b c D row.length F W Y
 cases he:mu 9 a b c row.length with
 |false=>
  rw[O]at he;refine(ka p v h 9 a b c A cap rows w D row.length F (fun W=>?_)).mono fun e w' ⟨I,J⟩=>Made.no Rq I J
  exact Wr
 |true=>
  rw[O]at he;have G:=E6;rw[he]at G;cases hc:j4 p v h rows 9 a b c row with
  |false=>
   refine(qI p v h 0 0 A cap rows [] w false a b c D row.length F G (fun W H=>?_) (fun h=>Ru) N (aX _) (fun r hr=>Rx)).mono fun e w' m=>m.none Rq Rq
   exact WV
  |true=>
   have hg:=gk s hc;have T:∀r∈bT p v rows 9 a b c row (v+h).toNat,r.length<=maxLen:=by intro r hr;have I:=(hg.1 r hr).1;have J:eS 9 h<=h+1:=St;unfold maxLen;omega
   refine(qI p v h v (eS 9 h) A cap rows (bT p v rows 9 a b c row (v+h).toNat) w true a b c D row.length F G (fun W H=>?_) (fun _ W H=>?_) N UT T).mono fun e w' m=>m.same Rq
   .exact WV
   .rw[E0]at hc;rw[V,E7];simp[cX,gh,jO]at hc;obtain⟨R,Z⟩:=hc;exact De b p v h A cap rows W (U.ext H) s.n E4 s.v0 Rr R Rr s.h0 Rr (fun r hr=>Ui)
theorem zfc(p v h k a b c:Int)(A:aq)(cap:Nat)(rows:aN)(w:aa)(D:aq)(row:aH)(F:Nat)(H:eB w)(I:bk w A rows)(J:aJ w D row)(G:row.length<=1048576)(s:Sys p v h rows):aw 101 (iK p (ar v h A rows cap) (fO k a b c D row.length F)) w (Made v (eS k h) (bT p v rows k a b c row (v+h).toNat) (lC p v h rows k a b c row) w):=by
 by_cases N:k=1
 .subst N;exact zgd p v h a b c A cap rows w D row F H I J G s
 by_cases O:k=2
 .subst O;exact ze_ p v h a b c A cap rows w D row F H I J G s
 by_cases R:k=3
 .subst R;exact zhk p v h a b c A cap rows w D row F H I J G s
 by_cases T:k=4
 .subst T;exact zge p v h a b c A cap rows w D row F H I J G s
 by_cases U:k=5
 .subst U;exact zhl p v h a b c A cap rows w D row F H I J G s
 by_cases V:k=6
 .subst V;exact zfa p v h a b c A cap rows w D row F H I J G s
 by_cases Y:k=7
 .subst Y;exact zfb p v h a b c A cap rows w D row F H I J G s
 by_cases Z:k=8
 .subst Z;exact zdF p v h a b c A cap rows w D row F H I J G s
 by_cases ab:k=9
 .subst ab;exact zdG p v h a b c A cap rows w D row F H I J G s
 refine(ka p v h k a b c A cap rows w D row.length F (fun W=>Dl k a b c D row.length F W G N O R T U V Y Z ab)).mono fun e w' ⟨ac,ad⟩=>Made.no (by simp[lC, *]) ac ad
theorem EA(W:aa)(B g cap j:Nat)(xs:aH)(I:aD W B (.slice (some ⟨g,0,none⟩) xs.length cap) xs)(Z:j<xs.length):∃(D:dk) (h:bU) (H:aa),Hd (H=W.setCells g (0+j*1) h)/\(if cap=j+1 then some (⟨g,0,none⟩:dk) else some ⟨g,j+1,none⟩)=some D/\Hd (∀t u,h[t]?=some u->W.cell? (D.add t)=some u)/\Hd (h.length=(xs.length-(j+1))*1)/\Hd (∀u∈h,u.oneCell'=true)/\Hd (∀t,t<h.length->(W.cell? ⟨g,0+j*1+t,none⟩).isSome=true/\W.frozen? ⟨g,0+j*1+t,none⟩=false)/\Hd (W.grownBy H (some g))/\Hd (aD H B (.slice (some ⟨g,0,none⟩) (xs.length-1) cap) (xs.eraseIdx j))/\xs.length<=cap:=by
 obtain⟨us,J⟩:=aM (xs.map (Value.int .i64));have h1:∀u∈us,u.oneCell'=true:=by rw[J];intro u hu;simp at hu;obtain⟨x,_,rfl⟩:=hu;rfl
 unfold aD at I;rw[<-J]at I;obtain⟨h,FG⟩:=aM (us.drop (j+1));obtain⟨GW,⟨ad,_⟩|⟨ao,am,N,ac,U,F,ab,Y,GU,GS⟩⟩:=I
 .cases ad
 cases ac
 simp only[eG]at GW GU GS;have ES:h.length=xs.length-(j+1):=TY;have V:∀t,t<xs.length->N.toList[t]?=us[t]?:=fun t ht=>Uc
 have G:∀t u,h[t]?=some u->t<xs.length-(j+1):=fun t u hu=>by have:=(bG.1 hu).1;rwa[ES]at this
 obtain⟨D,T,G⟩:∃D:dk,(if cap=j+1 then some (⟨g,0,none⟩:dk) else some ⟨g,j+1,none⟩)=some D/\(∀t u,h[t]?=some u->W.cell? (D.add t)=some u):=by
  by_cases R:cap=j+1
  .refine⟨⟨g,0,none⟩,by simp[R],fun t u hu=>?_⟩;have:=G t u hu;omega
  .refine⟨⟨g,j+1,none⟩,by simp[R],fun t u hu=>?_⟩;have ht:=G t u hu;rw[dj];rw[a_ F,V _ Rr,<-hu,FG,eX]
 have O:=dA g 3 h (0+j*1) W N F SF;refine⟨D,h,_,zH rfl,T,zH G,zH Ti,zH ?_,zH ?_,zH O.2,zH ?_,ab⟩
 .exact Wv
 .intro t ht;rw[ES]at ht;refine⟨?_,aK F _⟩;rw[a_ F,dL RS];rfl
 .unfold aD;rw[<-xe,<-J,wC Z];refine⟨TR,an ⟨g,cap,_,rfl,U,O.1,Rr,Y,?_,?_⟩⟩
  .exact WM
  .simp only[eG,iO];rw[show xs.length-1=j+h.length by omega,iy _ _ _ RS,FG,zg,<-GS,lk,gR Rr]
theorem zeR(p v h a b c:Int)(A:aq)(cap:Nat)(rows:aN)(w:aa)(ck:aq)(n c9:Nat)(ct:bk w A rows)(gf:rows.length<=160)(EM:∀r∈rows,r.length<=1000)(ei:0<=a)(fo:a<rows.length)(g0:0<=v)(g1:v<=1000)(hb:0<=b)(fs:b<=1000)(f8:1<=h)(f9:h<=1000)(ES:∀r∈rows,v+b<r.length):aw 96 (iL p (ar v h A rows cap) (qd a b c ck n c9)) w fun e w'=>∃u,e=.returned (.agg (dK v (h-1) u))/\aU w' w.heap.size u ((rows.map (fun r=>r.eraseIdx (v+b).toNat)).eraseIdx a.toNat)/\ag w w':=by
 obtain⟨q,gn⟩:=fY (Rr:0<=v+b);have e0:(v+b).toNat=q:=Rr;rw[e0];have bz:=zH (show ∀r∈rows.eraseIdx a.toNat,(q:Int)<r.length/\r.length<=1000 from fun r hr=>⟨by have:=ES r (wD hr);omega,EM r (wD hr)⟩);clear ES;have g4:IntKind.i64.wrap (v+b)=(q:Int):=Sq;have g2:IntKind.i64.wrap (h-1)=h-1:=Sq;obtain⟨dr,dT⟩:=bD (Rr:rows.length<=1048576) (show ∀r∈rows,r.length<=1048576 from fun r hr=>T3);go_enter func96,m6
 go_wp2_with fail
 refine(jl _ _ _ _ _ _ (ct.ext (((aj _ _).alloc Rq _ |>.alloc Rq _).alloc Sp _)) dr.o dT.o).mono ?_;rintro e w1 ⟨u,rfl,⟨us,hu⟩,bg⟩;obtain⟨G,Ff,rfl,_,_,_⟩:=aU.view ⟨us,hu⟩;obtain⟨c4,c5,c6⟩:=cm w (.cells (ar v h A rows cap) 57) (.cells (qd a b c ck n c9) 97) (.cells bj 57);have e1:=bg.size;simp only[dt]at e1;go_upto_region 2 with(fail)
 obtain⟨W2,EJ⟩:=aM (w1.alloc (.cells (ar v h G rows Ff) 57));rw[<-EJ];have b4:ag w1 W2:=Vj;have gB:W2.heap.size=w1.heap.size+1:=So;have a0:=bg.trans (b4.mono bg.size);have H:aW W2 w1.heap.size (ar v h G rows Ff) 57:=Uo;have Y:=cH a0 c4;have O:=cH a0 c5;have a4:=cH a0 c6;have a2:bC W2 (w.heap.size+3) (.slice G rows.length Ff) rows us:=(hu.ext b4).mono Rq;have cF:∀g',G=some ⟨g',0,none⟩->g'<w1.heap.size:=fun g' e=>U8
 have ek:∀(k:Nat) (x:ax),us[k]?=some x->∀b,x.ownBlock=some b->b<w1.heap.size:=fun k x hx b hb=>VA
 have cu:ag w W2:=(below_alloc3 w _ _ _).trans (a0.mono Sp);clear hu bg b4 a0 ct EM c4 c5 c6 EJ;obtain⟨j,rfl⟩:=fY ei;obtain⟨g,ej,f3,f4⟩:∃g,G=some ⟨g,0,none⟩/\w.heap.size+3<=g/\g<W2.heap.size:=j5 a2 Rr;subst ej;have f7:=cF g rfl;obtain⟨ce,b8,e5,cc,e6⟩:=de jV;obtain⟨Gb,FG⟩:=aM (us.drop (j+1));obtain⟨GW,⟨e4,_⟩|⟨g',fb,Fm,e3,cq,Jv,ev,cz,GU,GS⟩⟩:=a2.outer
 .cases e4
 cases e3
 simp only[eG]at GW GU GS;have ES:Gb.length=rows.length-(j+1):=TY;have Fe:∀t,t<rows.length->Fm.toList[t]?=us[t]?:=fun t ht=>Uc
 obtain⟨U,cp,br⟩:∃U:dk,(if Ff=j+1 then some (⟨g,0,none⟩:dk) else some ⟨g,j+1,none⟩)=some U/\Hd (∀t u,Gb[t]?=some u->W2.drew.cell? (U.add t)=some u):=Zr;have R:Hd (Gb.length=(rows.length-(j+1))*1):=Ti;have T:Hd (∀u∈Gb,u.oneCell'=true):=by intro u hu;rw[FG]at hu;exact oA a2 u (ko hu)
 have bu:Hd (∀t,t<Gb.length->(W2.drew.cell? ⟨g,0+j*1+t,none⟩).isSome=true/\W2.drew.frozen? ⟨g,0+j*1+t,none⟩=false):=Ys;obtain⟨W5,b3⟩:=aM (W2.drew.setCells g (0+j*1) Gb);have bi:=dA g 26 Gb (0+j*1) W2.drew Fm Jv SF;rw[<-b3]at bi;have F:=zH (show W2.grownBy W5 (some g) from bN (dP W2 (some g)) bi.2);have ci:=zH (show W5.ownsRow (w.heap.size+3) 26 1 (.slice (some ⟨g,0,none⟩) (rows.length-1) Ff) (rows.length-1) (us.eraseIdx j) by
  refine⟨TR,an ⟨g,Ff,_,rfl,cq,bi.1,Rr,cz,?_,?_⟩⟩
  .exact WM
  .simp only[eG,iO];rw[show rows.length-1=j+Gb.length by omega,iy _ _ _ RS,FG,zg,<-GS,lk,gR Rr])
 have b0:=zH b3;have ga:j<=Ff:=Rr;have gb:j+1<=Ff:=Rr;have gc:j+1<=rows.length:=Rr;have g3:IntKind.i64.wrap ((j:Int)+1)=(j:Int)+1:=Sq;have e2:((j:Int)+1).toNat=j+1:=Rr;have em:(0:Int)<=(j:Int)+1:=Rr;have eo:(j:Int)+1<=(rows.length:Int):=Rr;clear GW GU GS Jv FG ES b3 bi Fe cq ev cz;obtain⟨Z,ab,I,ac,ad⟩:=ez O;obtain⟨a5,a6,a7⟩:=aG H;obtain⟨a9,a8,ba,ao,bb,ap⟩:=kE a2 cu Y O a4 H;clear a2 cu cF ek Y O a4 H;go_upto_region 22 with(fail)
 refine cR (S:=fun W=>ae W (w.heap.size+1) 1 (.int .i64 j)/\ae W w1.heap.size 2 (.slice (some ⟨g,0,none⟩) rows.length Ff)) 13 RP Rz (fun hHeld=>?_);refine aP 0 ?_;simp only[Act.put,zA];refine aP 1 ?_;simp only[Act.put,zA];refine aP 2 ?_;simp only[Act.put,zA];refine aP 3 ?_;simp only[Act.put,zA];refine aP 4 ?_;simp only[Act.put,zA];refine aP 5 ?_;simp only[Act.put,zA];refine aP 6 ?_;simp only[Act.put,zA];refine aP 7 ?_;simp only[Act.put,zA];refine aP 8 ?_;simp only[Act.put,zA];refine aP 9 ?_;simp only[Act.put,zA];refine aP 10 ?_;simp only[Act.put,zA];refine cw 11 fun K hK=>?_
 refine sD rfl (.tmp 140) (.tmp 146) 55 rfl 26 ce 1 gF b8 cc g 0 j Ff rfl U (rows.length-(j+1)) (Ff-(j+1)) Gb rfl R.o br.o T.o Rr bu.o ?_;rw[<-b0.o,show j+(rows.length-(j+1))=rows.length-1 by omega];have bc:W5.heap[w1.heap.size]?=_:=(F.o.block _ Rr Sp).trans ap.o;have a3:W5.heap[w.heap.size+1]?=_:=(F.o.block _ Rr Sp).trans ao.o;have bv:=zH bc;have f2:=aK bc 2;obtain⟨am,e9,z2⟩:=aG bc;obtain⟨t0,t1,t2,t3,t4⟩:=ez a3;clear bc a3 Z ab I ac ad a5 a6 a7;refine hK.out _ _ (fun _=>⟨t1,z2⟩) (fun hHeld=>?_);clear hK K;try simp only[Act.put,zA]
 have hHeld:=hHeld Rs;refine cw 12 fun K hK=>?_
 go_simp;refine hK.out _ _ (fun _=>⟨t1,z2⟩) (fun hHeld=>?_);clear hK K;try simp only[Act.put,zA]
 have hHeld:=hHeld Rs;refine cw 13 fun K hK=>?_
 go_simp;refine hK.out _ _ (fun h=>absurd h Rs) (fun _=>?_);clear hK K;try simp only[Act.put,zA]
 refine gN RP ?_ _;clear am e9 z2 t0 t1 t2 t3 t4 f2 R T bu cp br;obtain⟨D,a1⟩:=aM (rows.eraseIdx j);have b9:rows.length-1=D.length:=by rw[a1,wC Rr]
 have bd:=a9.o.erase Rr ci.o F.o;rw[<-a1,b9]at bd;simp only[Int.toNat_natCast]at bz ⊢;rw[b9];rw[<-a1]at bz;have d1:=zH a1;clear a1;obtain⟨V,J⟩:=aM (W5.setCell ⟨w1.heap.size,2,none⟩ (.slice (some ⟨g,0,none⟩) D.length Ff));rw[<-J];obtain⟨e8,cO⟩:=aM (us.eraseIdx j);rw[<-cO]at bd;have cb:=bd.kR bv.o (j:=2) (u:=.slice (some ⟨g,0,none⟩) D.length Ff);rw[<-J]at cb;have H:=bm W5 w1.heap.size 2 _ _ (.slice (some ⟨g,0,none⟩) D.length Ff) bv.o;simp only[zA]at H;rw[<-J]at H;have bq:∀j,j≠w1.heap.size->V.heap[j]?=W5.heap[j]?:=fun j hj=>by rw[J];exact aZ _ _ _ _ hj
 have Y:=(bq w.heap.size Rr).trans ((F.o.block _ Rr Sp).trans ba.o);have O:=(bq (w.heap.size+1) Rr).trans ((F.o.block _ Rr Sp).trans ao.o);have a4:=(bq (w.heap.size+1+1) Rr).trans ((F.o.block _ Rr Sp).trans bb.o);have b6:=(a8.o.grown F.o Rr fun b hb=>Sx).setCell (p:=⟨w1.heap.size,2,none⟩) Sp (.slice (some ⟨g,0,none⟩) D.length Ff);rw[<-J]at b6;have gL:w1.heap.size<V.heap.size:=by have:=F.o.size;rw[J];simp;omega
 clear a9 a8 ba ao bb ap bv ci F bq bd J cO;obtain⟨Z,ab,I,ac,ad⟩:=ez O;obtain⟨a5,a6,a7⟩:=aG H;obtain⟨c7,R,T⟩:=aG Y;have f1:=aK H 1;obtain⟨a9,a8,ba,ao,bb,ap⟩:=kE cb b6 Y O a4 H;clear cb b6 Y O a4 H;go_upto_region 26 with(fail)
 obtain⟨b2,FN⟩:=aM (V.setCell ⟨w1.heap.size,1,none⟩ (.int .i64 (h-1)));rw[<-FN];have bo:=bm V w1.heap.size 1 _ _ (.int .i64 (h-1)) ap.o;simp only[zA]at bo;rw[<-FN]at bo;have bp:∀j,j≠w1.heap.size->b2.heap[j]?=V.heap[j]?:=fun j hj=>Uz
 obtain⟨b1,d4,cj,d5⟩:=fU bo ((bp _ Rr).trans ba.o) ((bp _ Rr).trans ao.o) ((bp _ Rr).trans bb.o);have ca:=a9.o.kR ap.o (j:=1) (u:=.int .i64 (h-1));rw[<-FN]at ca;have b5:=a8.o.setCell (p:=⟨w1.heap.size,1,none⟩) Sp (.int .i64 (h-1));rw[<-FN]at b5;have gC:b2.heap.size=V.heap.size:=by rw[FN];simp
 obtain⟨FL,dq⟩:=bD ca b5;obtain⟨e7,cI⟩:=aM e8;rw[<-cI]at FL;clear bo bp ca b5 FN cI;clear Z ab I ac ad a5 a6 a7 c7 R T f1;obtain⟨G,b7⟩:∃G:aq,G=some ⟨g,0,none⟩:=⟨_,rfl⟩;rw[<-b7]at FL b1;simp only[<-b7];clear b7;obtain⟨Z,ab,I,ac,ad⟩:=ez cj.o;obtain⟨a5,a6,a7⟩:=aG b1.o;go_wp2;go_loopw [169] (fun i wr=>∃k:Nat,k<=D.length/\i=.int .i64 k/\(∃c8,bC wr (w.heap.size+3) (.slice G D.length Ff) (jM (fun r=>r.eraseIdx q) D k) c8)/\
   aW wr w1.heap.size (ar v (h-1) G D Ff) 57/\Below (w.heap.size+3) b2 wr)
  (fun i _=>D.length-(intOf i).toNat)
 case atStart=>exact⟨0,aX _,rfl,⟨e7,Tv⟩,b1.o,aj _ _⟩
 case round=>
  obtain⟨k,hk,rfl,⟨c8,EF⟩,Fs,N⟩:=hrel;clear Z ab I ac ad a5 a6 a7;by_cases cA:k<D.length
  .obtain⟨r,hr⟩:=aB cA;have cB:(jM (fun r=>r.eraseIdx q) D k)[k]?=some r:=(nk _ _ _ cA).trans hr;obtain⟨g6,Fu,GV⟩:=EF.get cB;obtain⟨b9,gd⟩:=bz.o r (aY hr);obtain⟨fa,cr,rfl,_⟩:=GV.view;obtain⟨gr,rfl,f5,f6⟩:=kh GV Rr;obtain⟨g,rfl,Gv,fz⟩:=j5 EF TX;have Ft:=EF.outer;rw[dU _ _ _ hk]at Ft;have am:ae wr g k (.slice (some ⟨gr,0,none⟩) r.length cr):=UM;have I:ae wr w1.heap.size 2 (.slice (some ⟨g,0,none⟩) D.length Ff):=a_ Fs 2;have gg:gr≠w1.heap.size:=fun e=>Xy
   have gi:g≠w1.heap.size:=fun e=>XL
   have f0:=Ft.frozenAt k;have ey:g≠gr:=XD;obtain⟨HO,HW,Fv,d3,d2⟩:=mD EF N Fs Fu hr;obtain⟨ce,b8,e5,cc,e6⟩:=de fT;obtain⟨U,Gb,W5,b0,cp,br,R,T,bu,F,d0,fx⟩:=EA wr.drew (w.heap.size+3) gr cr q r (wE GV) Rr;clear Ft EF N Fs cB Fu hr GV;have g5:IntKind.i64.wrap ((q:Int)+1)=(q:Int)+1:=Sq;have e2:((q:Int)+1).toNat=q+1:=Rr;have gs:q<=cr:=Rr;have gw:q+1<=cr:=Rr;have gA:q+1<=r.length:=Rr;have em:(0:Int)<=(q:Int)+1:=Rr;have eo:(q:Int)+1<=(r.length:Int):=Rr;have db:ae W5 w1.heap.size 2 (.slice (some ⟨g,0,none⟩) D.length Ff):=F.o.cell (w:=wr.drew) I Sp;have dc:ae W5 g k (.slice (some ⟨gr,0,none⟩) r.length cr):=F.o.cell (w:=wr.drew) am Sp;have co:W5.frozen? ⟨g,k,none⟩=false:=frz (w:=wr.drew) F.o f0 am ey;obtain⟨d6,dl,cn⟩:=dO dc co db;clear dc co db;go_wp2_with fail
   refine cR (S:=fun W=>ae W w1.heap.size 2 (.slice (some ⟨g,0,none⟩) D.length Ff)) 12 RP I (fun hHeld=>?_);refine aP 0 ?_;simp only[Act.put,zA];refine aP 1 ?_;simp only[Act.put,zA];refine aP 2 ?_;simp only[Act.put,zA];refine aP 3 ?_;simp only[Act.put,zA];refine aP 4 ?_;simp only[Act.put,zA];refine aP 5 ?_;simp only[Act.put,zA];refine aP 6 ?_;simp only[Act.put,zA];refine aP 7 ?_;simp only[Act.put,zA];refine aP 8 ?_;simp only[Act.put,zA];refine aP 9 ?_;simp only[Act.put,zA];refine cw 10 fun K hK=>?_
   refine sD rfl (.tmp 179) (.tmp 183) 26 rfl 3 ce 1 dY b8 cc gr 0 q cr rfl U (r.length-(q+1)) (cr-(q+1)) Gb rfl R.o br.o T.o Rr bu.o ?_;rw[<-b0.o,show q+(r.length-(q+1))=r.length-1 by omega];refine hK.out _ _ (fun _=>cn.o) (fun hHeld=>?_);clear hK K am f0 I;have am:=d6.o;have f0:=dl.o;try simp only[Act.put,zA]
   have hHeld:=hHeld Rs;refine cw 11 fun K hK=>?_
   go_simp;refine hK.out _ _ (fun _=>cn.o) (fun hHeld=>?_);clear hK K;try simp only[Act.put,zA]
   have hHeld:=hHeld Rs;refine cw 12 fun K hK=>?_
   go_simp;refine hK.out _ _ (fun h=>absurd h Rs) (fun _=>?_);clear hK K;try simp only[Act.put,zA]
   refine gN RP ?_ _;have Ju:=bN (dP wr (some gr)) F.o;have Jw:aD W5 (w.heap.size+3) (.slice (some ⟨gr,0,none⟩) (r.length-1) cr) (r.eraseIdx q):=d0.o;have FM:=HO.o.put (dU _ _ _ hk).symm d3.o Ju Jw (fun b hb=>au hb);rw[ix (fun r=>r.eraseIdx q) D k r d2.o]at FM;exact ZF
  .have es:k=D.length:=Rr;subst es;rw[nj _ _ _ (af _)]at EF;have c3:=Fs;have c0:=(N.block _ Rr).trans d4.o;have a3:=(N.block _ Rr).trans cj.o;have ch:=(N.block _ Rr).trans d5.o;obtain⟨HO,HE⟩:=bD (by(rw[xe,<-d1.o]);exact⟨_,EF⟩:aU wr (w.heap.size+3) (.slice G D.length Ff) ((rows.map (fun r=>r.eraseIdx q)).eraseIdx j)) (dq.o.trans (N.mono Rr));clear EF N Fs;obtain⟨Z,ab,I,ac,ad⟩:=ez a3;obtain⟨c7,R,T⟩:=aG c0;clear c0 a3;obtain⟨d7,d8,d9⟩:=bS c3;obtain⟨ea,eb,eg⟩:=bS ch;obtain⟨fd,fl,fn⟩:=bR ch;simp only[cZ,cP]at d7 d8 d9 ea eb eg;clear c3 ch;go_wp2;refine aE (v:=.agg (ar v (h-1) G D Ff)) Uy rfl ⟨_,rfl,?_,?_⟩
   .exact Yp
   .exact X_
theorem zdd(p v h a b c:Int)(A:aq)(cap:Nat)(rows:aN)(w:aa)(bb:aq)(n b6:Nat)(bg:bk w A rows)(ev:rows.length<=160)(EM:∀r∈rows,r.length<=1000)(e7:0<=v)(e8:v<=1000)(hb:0<=b)(d7:b<=1000)(ei:1<=h)(ej:h<=1000)(ES:∀r∈rows,v+b<r.length):aw 96 (iL p (ar v h A rows cap) (qe a b c bb n b6)) w fun e w'=>∃u,e=.returned (.agg (dK v (h-1) u))/\aU w' w.heap.size u (rows.map (fun r=>r.eraseIdx (v+b).toNat))/\ag w w':=by
 obtain⟨q,e1⟩:=fY (Rr:0<=v+b);have c9:(v+b).toNat=q:=Rr;rw[c9];have ce:=zH (show ∀r∈rows,(q:Int)<r.length/\r.length<=1000 from fun r hr=>⟨Ub,EM r hr⟩);clear ES;have fa:IntKind.i64.wrap (v+b)=(q:Int):=Sq;have e9:IntKind.i64.wrap (h-1)=h-1:=Sq;obtain⟨ch,ci⟩:=bD (Rr:rows.length<=1048576) (show ∀r∈rows,r.length<=1048576 from fun r hr=>T3);go_enter func96,m6
 go_wp2_with fail
 refine(jl _ _ _ _ _ _ (bg.ext (((aj _ _).alloc Rq _ |>.alloc Rq _).alloc Sp _)) ch.o ci.o).mono ?_;rintro e w1 ⟨u,rfl,⟨us,hu⟩,O⟩;obtain⟨G,D,rfl,_,_,_⟩:=aU.view ⟨us,hu⟩;obtain⟨b1,b2,b3⟩:=cm w (.cells (ar v h A rows cap) 57) (.cells (qe a b c bb n b6) 97) (.cells bj 57);have dc:=O.size;simp only[dt]at dc;go_upto_region 2 with(fail)
 obtain⟨F,EJ⟩:=aM (w1.alloc (.cells (ar v h G rows D) 57));rw[<-EJ];have ap:ag w1 F:=Vj;have Gk:F.heap.size=w1.heap.size+1:=So;have J:=O.trans (ap.mono O.size);have U:aW F w1.heap.size (ar v h G rows D) 57:=Uo;have a2:=cH J b1;have a3:=cH J b2;have bz:=cH J b3;have bq:bC F (w.heap.size+3) (.slice G rows.length D) rows us:=(hu.ext ap).mono Rq;have dl:∀g',G=some ⟨g',0,none⟩->g'<w1.heap.size:=fun g' e=>U8
 have c6:∀(k:Nat) (x:ax),us[k]?=some x->∀b,x.ownBlock=some b->b<w1.heap.size:=fun k x hx b hb=>VA
 have bi:ag w F:=(below_alloc3 w _ _ _).trans (J.mono Sp);clear hu O ap J bg EM b1 b2 b3 EJ;obtain⟨Z,ab,H,ac,ad⟩:=ez a3;obtain⟨a5,a6,a7⟩:=aG U;obtain⟨b4,V,Y⟩:=aG a2;have f1:=aK U 1;obtain⟨cn,cb,cq,cu,cz,a9⟩:=kE bq bi a2 a3 bz U;clear bq bi dl c6 a2 a3 bz U;go_upto_region 26 with(fail)
 obtain⟨ao,FN⟩:=aM (F.setCell ⟨w1.heap.size,1,none⟩ (.int .i64 (h-1)));rw[<-FN];have R:=bm F w1.heap.size 1 _ _ (.int .i64 (h-1)) a9.o;simp only[zA]at R;rw[<-FN]at R;have T:∀j,j≠w1.heap.size->ao.heap[j]?=F.heap[j]?:=fun j hj=>Uz
 obtain⟨ba,ct,a8,cA⟩:=fU R ((T _ Rr).trans cq.o) ((T _ Rr).trans cu.o) ((T _ Rr).trans cz.o);have a1:=cn.o.kR a9.o (j:=1) (u:=.int .i64 (h-1));rw[<-FN]at a1;have a0:=cb.o.setCell (p:=⟨w1.heap.size,1,none⟩) Sp (.int .i64 (h-1));rw[<-FN]at a0;have e5:ao.heap.size=w1.heap.size+1:=Un;obtain⟨FL,cc⟩:=bD a1 a0;obtain⟨d1,br⟩:=aM us;rw[<-br]at FL;clear R T a1 a0 FN br;clear Z ab H ac ad a5 a6 a7 b4 V Y f1;obtain⟨Z,ab,H,ac,ad⟩:=ez a8.o;obtain⟨a5,a6,a7⟩:=aG ba.o;go_wp2;go_loopw [169] (fun i wr=>∃k:Nat,k<=rows.length/\i=.int .i64 k/\(∃b5,bC wr (w.heap.size+3) (.slice G rows.length D) (jM (fun r=>r.eraseIdx q) rows k) b5)/\
   aW wr w1.heap.size (ar v (h-1) G rows D) 57/\Below (w.heap.size+3) ao wr)
  (fun i _=>rows.length-(intOf i).toNat)
 case atStart=>exact⟨0,aX _,rfl,⟨d1,Tv⟩,ba.o,aj _ _⟩
 case round=>
  obtain⟨k,hk,rfl,⟨b5,EF⟩,Fs,I⟩:=hrel;clear Z ab H ac ad a5 a6 a7;by_cases bo:k<rows.length
  .obtain⟨r,hr⟩:=aB bo;have bp:(jM (fun r=>r.eraseIdx q) rows k)[k]?=some r:=(nk _ _ _ bo).trans hr;obtain⟨fn,Fu,GV⟩:=EF.get bp;obtain⟨eo,es⟩:=ce.o r (aY hr);obtain⟨d2,cr,rfl,_⟩:=GV.view;obtain⟨gr,rfl,eb,eg⟩:=kh GV Rr;obtain⟨g,rfl,d9,ea⟩:=j5 EF TX;have Ft:=EF.outer;rw[dU _ _ _ hk]at Ft;have am:ae wr g k (.slice (some ⟨gr,0,none⟩) r.length cr):=UM;have H:ae wr w1.heap.size 2 (.slice (some ⟨g,0,none⟩) rows.length D):=a_ Fs 2;have ey:gr≠w1.heap.size:=fun e=>Xy
   have e0:g≠w1.heap.size:=fun e=>XL
   have f0:=Ft.frozenAt k;have c8:g≠gr:=XD;obtain⟨HO,HW,Fv,co,ck⟩:=mD EF I Fs Fu hr;obtain⟨dr,c5,fd,dq,fl⟩:=de fT;obtain⟨b9,dT,W5,cp,d6,db,V,Y,d0,N,cj,d8⟩:=EA wr.drew (w.heap.size+3) gr cr q r (wE GV) Rr;clear Ft EF I Fs bp Fu hr GV;have fb:IntKind.i64.wrap ((q:Int)+1)=(q:Int)+1:=Sq;have e6:((q:Int)+1).toNat=q+1:=Rr;have e2:q<=cr:=Rr;have e3:q+1<=cr:=Rr;have e4:q+1<=r.length:=Rr;have ek:(0:Int)<=(q:Int)+1:=Rr;have em:(q:Int)+1<=(r.length:Int):=Rr;have b7:ae W5 w1.heap.size 2 (.slice (some ⟨g,0,none⟩) rows.length D):=N.o.cell (w:=wr.drew) H Sp;have b8:ae W5 g k (.slice (some ⟨gr,0,none⟩) r.length cr):=N.o.cell (w:=wr.drew) am Sp;have bd:W5.frozen? ⟨g,k,none⟩=false:=frz (w:=wr.drew) N.o f0 am c8;obtain⟨cB,ca,bc⟩:=dO b8 bd b7;clear b8 bd b7;go_wp2_with fail
   refine cR (S:=fun W=>ae W w1.heap.size 2 (.slice (some ⟨g,0,none⟩) rows.length D)) 12 RP H (fun hHeld=>?_);refine aP 0 ?_;simp only[Act.put,zA];refine aP 1 ?_;simp only[Act.put,zA];refine aP 2 ?_;simp only[Act.put,zA];refine aP 3 ?_;simp only[Act.put,zA];refine aP 4 ?_;simp only[Act.put,zA];refine aP 5 ?_;simp only[Act.put,zA];refine aP 6 ?_;simp only[Act.put,zA];refine aP 7 ?_;simp only[Act.put,zA];refine aP 8 ?_;simp only[Act.put,zA];refine aP 9 ?_;simp only[Act.put,zA];refine cw 10 fun K hK=>?_
   refine sD rfl (.tmp 179) (.tmp 183) 26 rfl 3 dr 1 dY c5 dq gr 0 q cr rfl b9 (r.length-(q+1)) (cr-(q+1)) dT rfl V.o db.o Y.o Rr d0.o ?_;rw[<-cp.o,show q+(r.length-(q+1))=r.length-1 by omega];refine hK.out _ _ (fun _=>bc.o) (fun hHeld=>?_);clear hK K am f0 H;have am:=cB.o;have f0:=ca.o;try simp only[Act.put,zA]
   have hHeld:=hHeld Rs;refine cw 11 fun K hK=>?_
   go_simp;refine hK.out _ _ (fun _=>bc.o) (fun hHeld=>?_);clear hK K;try simp only[Act.put,zA]
   have hHeld:=hHeld Rs;refine cw 12 fun K hK=>?_
   go_simp;refine hK.out _ _ (fun h=>absurd h Rs) (fun _=>?_);clear hK K;try simp only[Act.put,zA]
   refine gN RP ?_ _;have Ju:=bN (dP wr (some gr)) N.o;have Jw:aD W5 (w.heap.size+3) (.slice (some ⟨gr,0,none⟩) (r.length-1) cr) (r.eraseIdx q):=cj.o;have FM:=HO.o.put (dU _ _ _ hk).symm co.o Ju Jw (fun b hb=>au hb);rw[ix (fun r=>r.eraseIdx q) rows k r ck.o]at FM;exact ZF
  .have c7:k=rows.length:=Rr;subst c7;rw[nj _ _ _ (af _)]at EF;have b0:=Fs;have bu:=(I.block _ Rr).trans ct.o;have bv:=(I.block _ Rr).trans a8.o;have a4:=(I.block _ Rr).trans cA.o;obtain⟨HO,HE⟩:=bD (by skip;exact⟨_,EF⟩:aU wr (w.heap.size+3) (.slice G rows.length D) (rows.map (fun r=>r.eraseIdx q))) (cc.o.trans (I.mono Rr));clear EF I Fs;obtain⟨Z,ab,H,ac,ad⟩:=ez bv;obtain⟨b4,V,Y⟩:=aG bu;clear bu bv;obtain⟨cF,cI,cO⟩:=bS b0;obtain⟨c0,c3,c4⟩:=bS a4;obtain⟨d3,d4,d5⟩:=bR a4;simp only[cZ,cP]at cF cI cO c0 c3 c4;clear b0 a4;go_wp2;refine aE (v:=.agg (ar v (h-1) G rows D)) Uy rfl ⟨_,rfl,?_,?_⟩
   .exact Yp
   .exact X_
end Go.Proofs.YtpieilkmmiopfaaGreatDoor
