/- Parts of the walks. Conditions: as stated with each. -/
import Derived.Test.YtdpgblncijojiaaGreatDoorPk16
import Derived.Test.YtdpgblncijojiaaGreatDoorPk22
namespace Go.Proofs.YtdpgblncijojiaaGreatDoor
open Go.RowKit Tryz
set_option linter.all false
set_option maxHeartbeats 4000000
set_option maxRecDepth 100000
variable{B b k m n r:Nat}{C:Code}{E RL V W w w' wr:aa}{p:Int}{v:au}{xs:aG}
def kz(p v h k a b c:Int)(A:an)(cap:Nat)(rows:aE)(w:aa)(z:an)(n E:Nat)(F:∀W,aw 67 (cJ (jt k a b c z n E)) W fun e w'=>e=.returned (.tuple fk)/\ai W w'):aw 34 (eB p (ae v h A rows cap) (jt k a b c z n E)) w fun e w'=>e=.returned (.tuple (dy aQ))/\ai w w':=by
 have R:=zH F;clear F;go_enter lX,lY
 go_upto_region 2 with(go_at_call 67;refine(R.o _).mono ?_;rintro e a0 ⟨rfl,D⟩)
 have H:=(below_alloc3 w (.cells (ae v h A rows cap) 26) (.cells (jt k a b c z n E) 29) (.cells aQ 26));obtain⟨Y,Z,O⟩:=cA w (.cells (ae v h A rows cap) 26) (.cells (jt k a b c z n E) 29) (.cells aQ 26);have J:=cD D O;have I:=H.trans (D.mono (B':=w.heap.size) SJ);have U:=D.size;simp only[cg]at U;obtain⟨ab,ac,ad,am,ao,ap⟩:=cL J;have Q:=zH I;clear Y Z O J I D H;go_wp2;refine ax (v:=.tuple (dy aQ)) (by simp[results,eU,go_sem, *]) rfl ⟨rfl,?_⟩;exact((Q.o.setCell SJ _).setCell SJ _).setCell SJ _
def zgN(p v h a b c:Int)(A:an)(cap:Nat)(rows:aE)(w:aa)(z:an)(row:aG)(D:Nat)(J:dm w)(Y:aX w A rows)(a0:aT w z row)(ac:row.length<=1048576)(s:Sys p v h rows):aw 34 #[p,.agg (ae v h A rows cap),.agg #[.int .i64 1,a,b,c,.slice z row D]] w (Made v (dO 1 h) (bE p v rows 1 a b c row (v+h).toNat) (ja p v h rows 1 a b c row) w):=by
 have a3:=s.p2;have a4:=s.p97;have a5:=s.v24;have a1:=s.h100;have a2:=s.n;have EH:rows.length<=maxLen:=TS;have EM:∀r∈rows,r.length<=1000:=fun r hr=>Ur
 have ap:∀r∈rows,r.length<=maxLen:=fun r hr=>VU
 have ao:∀r∈rows,∀x∈r,0<=x/\x<=1000:=fun r hr x hx=>US
 have O:iY 1 a b c row=((c==0)&&((row.length==0))):=R9;have EK:kq p v h rows 1 a b c row=(eX a 0 ((rows:Int)-1)&&(eX b 0 ((rows:Int)-1)&&(a !=b))):=R7;have ab:bE p v rows 1 a b c row (v+h).toNat=(rows.set a.toNat (rows.getD b.toNat [])).set b.toNat (rows.getD a.toNat []):=R6;have EN:dO 1 h=h:=Sa;rw[oO s];have EJ:=fun W=>qn a b c z row D W ac
 cases he:iY 1 a b c row with
 |false=>
  rw[O]at he;refine(kz p v h 1 a b c A cap rows w z row D (fun W=>?_)).mono fun e w' ⟨H,I⟩=>Made.no RS H I
  exact Xa
 |true=>
  rw[O]at he;have E:=EJ;rw[he]at E;cases hc:kq p v h rows 1 a b c row with
  |false=>
   refine(sW p v h 0 0 A cap rows [] w false a b c z row D E (fun W F=>?_) (fun h=>RZ) J (bf _) (fun r hr=>R5)).mono fun e w' m=>m.none RS RS
   exact XD
  |true=>
   have hg:=gj s hc;have U:∀r∈bE p v rows 1 a b c row (v+h).toNat,r.length<=maxLen:=by intro r hr;have H:=(hg.1 r hr).1;have I:dO 1 h<=h+1:=SR;unfold maxLen;omega
   refine(sW p v h v (dO 1 h) A cap rows (bE p v rows 1 a b c row (v+h).toNat) w true a b c z row D E (fun W F=>?_) (fun _ W F=>?_) J Vz U).mono fun e w' m=>m.same RS
   .exact XD
   .rw[EK]at hc;rw[ab,EN];simp[bk,fE,jH]at hc;obtain⟨⟨Q,ad⟩,⟨R,am⟩,Z⟩:=hc;exact zbA a b p v h A cap rows W (Y.ext F) s.n EM Q RU R RU Z
def zff(p v h a b c:Int)(A:an)(cap:Nat)(rows:aE)(w:aa)(z:an)(row:aG)(D:Nat)(J:dm w)(Y:aX w A rows)(am:aT w z row)(ab:row.length<=1048576)(s:Sys p v h rows):aw 34 #[p,.agg (ae v h A rows cap),.agg #[.int .i64 2,a,b,c,.slice z row D]] w (Made v (dO 2 h) (bE p v rows 2 a b c row (v+h).toNat) (ja p v h rows 2 a b c row) w):=by
 have a0:=s.p2;have a1:=s.p97;have a2:=s.v24;have ao:=s.h100;have ap:=s.n;have EH:rows.length<=maxLen:=TS;have EM:∀r∈rows,r.length<=1000:=fun r hr=>Ur
 have ad:∀r∈rows,r.length<=maxLen:=fun r hr=>VU
 have R:∀r∈rows,∀x∈r,0<=x/\x<=1000:=fun r hr x hx=>US
 have O:iY 2 a b c row=((b==0)&&((row.length==0))):=R9;have EK:kq p v h rows 2 a b c row=(eX a 0 ((rows:Int)-1)&&(jr p c&&(c !=0))):=R7;have Z:bE p v rows 2 a b c row (v+h).toNat=rows.set a.toNat (gz p c (rows.getD a.toNat [])):=R6;have EN:dO 2 h=h:=Sa;rw[oO s];have EJ:=fun W=>pd a b c z row D W ab
 cases he:iY 2 a b c row with
 |false=>
  rw[O]at he;refine(kz p v h 2 a b c A cap rows w z row D (fun W=>?_)).mono fun e w' ⟨H,I⟩=>Made.no RS H I
  exact Xa
 |true=>
  rw[O]at he;have E:=EJ;rw[he]at E;cases hc:kq p v h rows 2 a b c row with
  |false=>
   refine(re p v h 0 0 A cap rows [] w false a b c z row D E (fun W F=>?_) (fun h=>RZ) J (bf _) (fun r hr=>R5)).mono fun e w' m=>m.none RS RS
   exact XB
  |true=>
   have hg:=gj s hc;have U:∀r∈bE p v rows 2 a b c row (v+h).toNat,r.length<=maxLen:=by intro r hr;have H:=(hg.1 r hr).1;have I:dO 2 h<=h+1:=SR;unfold maxLen;omega
   refine(re p v h v (dO 2 h) A cap rows (bE p v rows 2 a b c row (v+h).toNat) w true a b c z row D E (fun W F=>?_) (fun _ W F=>?_) J Vz U).mono fun e w' m=>m.same RS
   .exact XB
   .rw[EK]at hc;rw[Z,EN];simp[bk,fE,jH]at hc;obtain⟨⟨Q,ac⟩,⟨c1,c2⟩,_⟩:=hc;exact DL a c p v h A cap rows W (Y.ext F) s.n EM RU RU Q RU c1 RU R
def zh0(p v h a b c:Int)(A:an)(cap:Nat)(rows:aE)(w:aa)(z:an)(row:aG)(D:Nat)(R:dm w)(U:aX w A rows)(a0:aT w z row)(ad:row.length<=1048576)(s:Sys p v h rows):aw 34 #[p,.agg (ae v h A rows cap),.agg #[.int .i64 3,a,b,c,.slice z row D]] w (Made v (dO 3 h) (bE p v rows 3 a b c row (v+h).toNat) (ja p v h rows 3 a b c row) w):=by
 have a3:=s.p2;have a4:=s.p97;have a5:=s.v24;have a1:=s.h100;have a2:=s.n;have EH:rows.length<=maxLen:=TS;have EM:∀r∈rows,r.length<=1000:=fun r hr=>Ur
 have ap:∀r∈rows,r.length<=maxLen:=fun r hr=>VU
 have Q:∀r∈rows,∀x∈r,0<=x/\x<=1000:=fun r hr x hx=>US
 have Z:iY 3 a b c row=((row.length==0)):=R9;have EK:kq p v h rows 3 a b c row=(eX a 0 ((rows:Int)-1)&&(eX b 0 ((rows:Int)-1)&&((a !=b)&&jr p c))):=R7;have ac:bE p v rows 3 a b c row (v+h).toNat=rows.set b.toNat (dw p c (rows.getD b.toNat []) (rows.getD a.toNat [])):=R6;have EN:dO 3 h=h:=Sa;rw[oO s];have EJ:=fun W=>qV a b c z row D W ad
 cases he:iY 3 a b c row with
 |false=>
  rw[Z]at he;refine(kz p v h 3 a b c A cap rows w z row D (fun W=>?_)).mono fun e w' ⟨J,O⟩=>Made.no RS J O
  exact Xa
 |true=>
  rw[Z]at he;have F:=EJ;rw[he]at F;cases hc:kq p v h rows 3 a b c row with
  |false=>
   refine(uO p v h 0 0 A cap rows [] w false a b c z row D F (fun W E=>?_) (fun h=>RZ) R (bf _) (fun r hr=>R5)).mono fun e w' m=>m.none RS RS
   exact XI
  |true=>
   have hg:=gj s hc;have ab:∀r∈bE p v rows 3 a b c row (v+h).toNat,r.length<=maxLen:=by intro r hr;have J:=(hg.1 r hr).1;have O:dO 3 h<=h+1:=SR;unfold maxLen;omega
   refine(uO p v h v (dO 3 h) A cap rows (bE p v rows 3 a b c row (v+h).toNat) w true a b c z row D F (fun W E=>?_) (fun _ W E=>?_) R Vz ab).mono fun e w' m=>m.same RS
   .exact XI
   .rw[EK]at hc;rw[ac,EN];simp[bk,fE,jH]at hc;obtain⟨⟨H,am⟩,⟨I,ao⟩,Y,c1,c2⟩:=hc;by_cases a6:v+h=0
    .exact zdz a b c p v h A cap rows W (U.ext E) s.n EM RU RU H RU I RU Y c1 RU Q (fun r hr=>Ur)
    .exact zdm a b c p v h (v+h).toNat A cap rows W (U.ext E) s.n EM RU RU H RU I RU Y c1 RU Q (by have:=s.v0;have:=s.h0;omega) (fun r hr=>Ur)
def zgO(p v h a b c:Int)(A:an)(cap:Nat)(rows:aE)(w:aa)(z:an)(row:aG)(D:Nat)(I:dm w)(hR:aX w A rows)(ab:aT w z row)(U:row.length<=1048576)(s:Sys p v h rows):aw 34 #[p,.agg (ae v h A rows cap),.agg #[.int .i64 4,a,b,c,.slice z row D]] w (Made v (dO 4 h) (bE p v rows 4 a b c row (v+h).toNat) (ja p v h rows 4 a b c row) w):=by
 have am:=s.p2;have ao:=s.p97;have ap:=s.v24;have ac:=s.h100;have ad:=s.n;have EH:rows.length<=maxLen:=TS;have EM:∀r∈rows,r.length<=1000:=fun r hr=>Ur
 have KH:∀r∈rows,r.length<=maxLen:=fun r hr=>VU
 have Z:∀r∈rows,∀x∈r,0<=x/\x<=1000:=fun r hr x hx=>US
 have J:iY 4 a b c row=((b==0)&&((c==0)&&((row.length==0)))):=R9;have EK:kq p v h rows 4 a b c row=(eX a 0 ((rows:Int)-1)&&wU (rows.getD a.toNat [])):=R7;have R:bE p v rows 4 a b c row (v+h).toNat=rows.eraseIdx a.toNat:=R6;have EN:dO 4 h=h:=Sa;rw[oO s];have EJ:=fun W=>qo a b c z row D W U
 cases he:iY 4 a b c row with
 |false=>
  rw[J]at he;refine(kz p v h 4 a b c A cap rows w z row D (fun W=>?_)).mono fun e w' ⟨F,H⟩=>Made.no RS F H
  exact Xa
 |true=>
  rw[J]at he;have E:=EJ;rw[he]at E;cases hc:kq p v h rows 4 a b c row with
  |false=>
   refine(sX p v h 0 0 A cap rows [] w false a b c z row D E (fun W hW=>?_) (fun h=>RZ) I (bf _) (fun r hr=>R5)).mono fun e w' m=>m.none RS RS
   exact XW
  |true=>
   have hg:=gj s hc;have Q:∀r∈bE p v rows 4 a b c row (v+h).toNat,r.length<=maxLen:=by intro r hr;have F:=(hg.1 r hr).1;have H:dO 4 h<=h+1:=SR;unfold maxLen;omega
   refine(sX p v h v (dO 4 h) A cap rows (bE p v rows 4 a b c row (v+h).toNat) w true a b c z row D E (fun W hW=>?_) (fun _ W hW=>?_) I Vz Q).mono fun e w' m=>m.same RS
   .exact XW
   .rw[EK]at hc;rw[R,EN];simp[bk,fE,jH]at hc;obtain⟨⟨O,Y⟩,_⟩:=hc;exact zbv a p v h A cap rows W (hR.ext hW) s.n EM O RU
def zh1(p v h a b c:Int)(A:an)(cap:Nat)(rows:aE)(w:aa)(z:an)(row:aG)(D:Nat)(J:dm w)(U:aX w A rows)(am:aT w z row)(Z:row.length<=1048576)(s:Sys p v h rows):aw 34 #[p,.agg (ae v h A rows cap),.agg #[.int .i64 5,a,b,c,.slice z row D]] w (Made v (dO 5 h) (bE p v rows 5 a b c row (v+h).toNat) (ja p v h rows 5 a b c row) w):=by
 have a0:=s.p2;have a1:=s.p97;have a2:=s.v24;have ao:=s.h100;have ap:=s.n;have EH:rows.length<=maxLen:=TS;have EM:∀r∈rows,r.length<=1000:=fun r hr=>Ur
 have ad:∀r∈rows,r.length<=maxLen:=fun r hr=>VU
 have ac:∀r∈rows,∀x∈r,0<=x/\x<=1000:=fun r hr x hx=>US
 have O:iY 5 a b c row=((b==0)&&((c==0)&&((row.length==0)))):=R9;have EK:kq p v h rows 5 a b c row=(eX a 0 (rows:Int)):=R7;have Y:bE p v rows 5 a b c row (v+h).toNat=bK rows a.toNat (List.replicate (v+h).toNat 0):=R6;have EN:dO 5 h=h:=Sa;rw[oO s];have EJ:=fun W=>qW a b c z row D W Z
 cases he:iY 5 a b c row with
 |false=>
  rw[O]at he;refine(kz p v h 5 a b c A cap rows w z row D (fun W=>?_)).mono fun e w' ⟨H,I⟩=>Made.no RS H I
  exact Xa
 |true=>
  rw[O]at he;have E:=EJ;rw[he]at E;cases hc:kq p v h rows 5 a b c row with
  |false=>
   refine(uQ p v h 0 0 A cap rows [] w false a b c z row D E (fun W F=>?_) (fun h=>RZ) J (bf _) (fun r hr=>R5)).mono fun e w' m=>m.none RS RS
   exact Xw
  |true=>
   have hg:=gj s hc;have R:∀r∈bE p v rows 5 a b c row (v+h).toNat,r.length<=maxLen:=by intro r hr;have H:=(hg.1 r hr).1;have I:dO 5 h<=h+1:=SR;unfold maxLen;omega
   refine(uQ p v h v (dO 5 h) A cap rows (bE p v rows 5 a b c row (v+h).toNat) w true a b c z row D E (fun W F=>?_) (fun _ W F=>?_) J Vz R).mono fun e w' m=>m.same RS
   .exact Xw
   .rw[EK]at hc;rw[Y,EN];simp[bk,fE,jH]at hc;obtain⟨Q,ab⟩:=hc;exact zd2 a p v h A cap rows W (U.ext F) s.n EM Q RU s.v0 RU s.h0 RU
def zfg(p v h a b c:Int)(A:an)(cap:Nat)(rows:aE)(w:aa)(z:an)(row:aG)(D:Nat)(I:dm w)(hR:aX w A rows)(am:aT w z row)(Y:row.length<=1048576)(s:Sys p v h rows):aw 34 #[p,.agg (ae v h A rows cap),.agg #[.int .i64 6,a,b,c,.slice z row D]] w (Made v (dO 6 h) (bE p v rows 6 a b c row (v+h).toNat) (ja p v h rows 6 a b c row) w):=by
 have a0:=s.p2;have a1:=s.p97;have a2:=s.v24;have ao:=s.h100;have ap:=s.n;have EH:rows.length<=maxLen:=TS;have EM:∀r∈rows,r.length<=1000:=fun r hr=>Ur
 have ad:∀r∈rows,r.length<=maxLen:=fun r hr=>VU
 have ac:∀r∈rows,∀x∈r,0<=x/\x<=1000:=fun r hr x hx=>US
 have J:iY 6 a b c row=((c==0)&&((row.length==0))):=R9;have EK:kq p v h rows 6 a b c row=(eX a 0 ((rows:Int)-1)&&(eX b 0 (h-1)&&(((rows.getD a.toNat []).getD (v+b).toNat 0 !=0)&&oZ rows (v+b).toNat a))):=R7;have U:bE p v rows 6 a b c row (v+h).toNat=(rows.map (fun r=>r.eraseIdx (v+b).toNat)).eraseIdx a.toNat:=R6;have EN:dO 6 h=h-1:=Sa;rw[oO s];have EJ:=fun W=>pe a b c z row D W Y
 cases he:iY 6 a b c row with
 |false=>
  rw[J]at he;refine(kz p v h 6 a b c A cap rows w z row D (fun W=>?_)).mono fun e w' ⟨F,H⟩=>Made.no RS F H
  exact Xa
 |true=>
  rw[J]at he;have E:=EJ;rw[he]at E;cases hc:kq p v h rows 6 a b c row with
  |false=>
   refine(rf p v h 0 0 A cap rows [] w false a b c z row D E (fun W hW=>?_) (fun h=>RZ) I (bf _) (fun r hr=>R5)).mono fun e w' m=>m.none RS RS
   exact Yu
  |true=>
   have hg:=gj s hc;have R:∀r∈bE p v rows 6 a b c row (v+h).toNat,r.length<=maxLen:=by intro r hr;have F:=(hg.1 r hr).1;have H:dO 6 h<=h+1:=SR;unfold maxLen;omega
   refine(rf p v h v (dO 6 h) A cap rows (bE p v rows 6 a b c row (v+h).toNat) w true a b c z row D E (fun W hW=>?_) (fun _ W hW=>?_) I Vz R).mono fun e w' m=>m.same RS
   .exact Yu
   .rw[EK]at hc;rw[U,EN];simp[bk,fE,jH]at hc;obtain⟨⟨O,Z⟩,⟨Q,ab⟩,_⟩:=hc;exact DN a b p v h A cap rows W (hR.ext hW) s.n EM O RU s.v0 RU Q RU RU RU (fun r hr=>Ur)
def zfh(p v h a b c:Int)(A:an)(cap:Nat)(rows:aE)(w:aa)(XA:an)(row:aG)(Ku:Nat)(F:dm w)(Q:aX w A rows)(hX:aT w XA row)(U:row.length<=1048576)(s:Sys p v h rows):aw 34 #[p,.agg (ae v h A rows cap),.agg #[.int .i64 7,a,b,c,.slice XA row Ku]] w (Made v (dO 7 h) (bE p v rows 7 a b c row (v+h).toNat) (ja p v h rows 7 a b c row) w):=by
 have ao:=s.p2;have ap:=s.p97;have a0:=s.v24;have ad:=s.h100;have am:=s.n;have EH:rows.length<=maxLen:=TS;have EM:∀r∈rows,r.length<=1000:=fun r hr=>Ur
 have ac:∀r∈rows,r.length<=maxLen:=fun r hr=>VU
 have ab:∀r∈rows,∀x∈r,0<=x/\x<=1000:=fun r hr x hx=>US
 have H:iY 7 a b c row=((c==0)):=R9;have EK:kq p v h rows 7 a b c row=(eX a 0 (rows:Int)&&(eX b 0 h&&(oX p row (v+h+1)&&(row.getD (v+b).toNat 0 !=0)))):=R7;have R:bE p v rows 7 a b c row (v+h).toNat=bK (rows.map (fun r=>bK r (v+b).toNat 0)) a.toNat row:=R6;have EN:dO 7 h=h+1:=Sa;rw[oO s];have EJ:=fun W=>pf a b c XA row Ku W U
 cases he:iY 7 a b c row with
 |false=>
  rw[H]at he;refine(kz p v h 7 a b c A cap rows w XA row Ku (fun W=>?_)).mono fun e w' ⟨D,E⟩=>Made.no RS D E
  exact Xa
 |true=>
  rw[H]at he;have z:=EJ;rw[he]at z;cases hc:kq p v h rows 7 a b c row with
  |false=>
   refine(rh p v h 0 0 A cap rows [] w false a b c XA row Ku z (fun W hW=>?_) (fun h=>RZ) F (bf _) (fun r hr=>R5)).mono fun e w' m=>m.none RS RS
   exact YR
  |true=>
   have hg:=gj s hc;have O:∀r∈bE p v rows 7 a b c row (v+h).toNat,r.length<=maxLen:=by intro r hr;have D:=(hg.1 r hr).1;have E:dO 7 h<=h+1:=SR;unfold maxLen;omega
   refine(rh p v h v (dO 7 h) A cap rows (bE p v rows 7 a b c row (v+h).toNat) w true a b c XA row Ku z (fun W hW=>?_) (fun _ W hW=>?_) F Vz O).mono fun e w' m=>m.same RS
   .exact YR
   .rw[EK]at hc;rw[R,EN];simp[bk,fE,jH]at hc;obtain⟨⟨I,Y⟩,⟨J,Z⟩,⟨a1,_⟩,_⟩:=hc;exact C_ a b p v h A XA cap Ku row rows W (Q.ext hW) s.n EM (hX.ext hW) RU I RU s.v0 RU J RU s.h0 RU (fun r hr=>Ur)
def zdo(p v h a b c:Int)(A:an)(cap:Nat)(rows:aE)(w:aa)(z:an)(row:aG)(D:Nat)(I:dm w)(hR:aX w A rows)(ac:aT w z row)(U:row.length<=1048576)(s:Sys p v h rows):aw 34 #[p,.agg (ae v h A rows cap),.agg #[.int .i64 8,a,b,c,.slice z row D]] w (Made v (dO 8 h) (bE p v rows 8 a b c row (v+h).toNat) (ja p v h rows 8 a b c row) w):=by
 have ao:=s.p2;have ap:=s.p97;have a0:=s.v24;have ad:=s.h100;have am:=s.n;have EH:rows.length<=maxLen:=TS;have EM:∀r∈rows,r.length<=1000:=fun r hr=>Ur
 have ab:∀r∈rows,r.length<=maxLen:=fun r hr=>VU
 have Z:∀r∈rows,∀x∈r,0<=x/\x<=1000:=fun r hr x hx=>US
 have J:iY 8 a b c row=((a==0)&&((c==0)&&((row.length==0)))):=R9;have EK:kq p v h rows 8 a b c row=(eX b 0 (h-1)&&oZ rows (v+b).toNat (-1)):=R7;have R:bE p v rows 8 a b c row (v+h).toNat=rows.map (fun r=>r.eraseIdx (v+b).toNat):=R6;have EN:dO 8 h=h-1:=Sa;rw[oO s];have EJ:=fun W=>oc a b c z row D W U
 cases he:iY 8 a b c row with
 |false=>
  rw[J]at he;refine(kz p v h 8 a b c A cap rows w z row D (fun W=>?_)).mono fun e w' ⟨F,H⟩=>Made.no RS F H
  exact Xa
 |true=>
  rw[J]at he;have E:=EJ;rw[he]at E;cases hc:kq p v h rows 8 a b c row with
  |false=>
   refine(qu p v h 0 0 A cap rows [] w false a b c z row D E (fun W hW=>?_) (fun h=>RZ) I (bf _) (fun r hr=>R5)).mono fun e w' m=>m.none RS RS
   exact Ys
  |true=>
   have hg:=gj s hc;have Q:∀r∈bE p v rows 8 a b c row (v+h).toNat,r.length<=maxLen:=by intro r hr;have F:=(hg.1 r hr).1;have H:dO 8 h<=h+1:=SR;unfold maxLen;omega
   refine(qu p v h v (dO 8 h) A cap rows (bE p v rows 8 a b c row (v+h).toNat) w true a b c z row D E (fun W hW=>?_) (fun _ W hW=>?_) I Vz Q).mono fun e w' m=>m.same RS
   .exact Ys
   .rw[EK]at hc;rw[R,EN];simp[bk,fE,jH]at hc;obtain⟨⟨O,Y⟩,_⟩:=hc;exact Cm b p v h A cap rows W (hR.ext hW) s.n EM s.v0 RU O RU RU RU (fun r hr=>Ur)
def zdp(p v h a b c:Int)(A:an)(cap:Nat)(rows:aE)(w:aa)(z:an)(row:aG)(D:Nat)(J:dm w)(U:aX w A rows)(am:aT w z row)(Z:row.length<=1048576)(s:Sys p v h rows):aw 34 #[p,.agg (ae v h A rows cap),.agg #[.int .i64 9,a,b,c,.slice z row D]] w (Made v (dO 9 h) (bE p v rows 9 a b c row (v+h).toNat) (ja p v h rows 9 a b c row) w):=by
 have a0:=s.p2;have a1:=s.p97;have a2:=s.v24;have ao:=s.h100;have ap:=s.n;have EH:rows.length<=maxLen:=TS;have EM:∀r∈rows,r.length<=1000:=fun r hr=>Ur
 have ad:∀r∈rows,r.length<=maxLen:=fun r hr=>VU
 have ac:∀r∈rows,∀x∈r,0<=x/\x<=1000:=fun r hr x hx=>US
 have O:iY 9 a b c row=((a==0)&&((c==0)&&((row.length==0)))):=R9;have EK:kq p v h rows 9 a b c row=(eX b 0 h):=R7;have Y:bE p v rows 9 a b c row (v+h).toNat=rows.map (fun r=>bK r (v+b).toNat 0):=R6;have EN:dO 9 h=h+1:=Sa;rw[oO s];have EJ:=fun W=>od a b c z row D W Z
 cases he:iY 9 a b c row with
 |false=>
  rw[O]at he;refine(kz p v h 9 a b c A cap rows w z row D (fun W=>?_)).mono fun e w' ⟨H,I⟩=>Made.no RS H I
  exact Xa
 |true=>
  rw[O]at he;have E:=EJ;rw[he]at E;cases hc:kq p v h rows 9 a b c row with
  |false=>
   refine(qv p v h 0 0 A cap rows [] w false a b c z row D E (fun W F=>?_) (fun h=>RZ) J (bf _) (fun r hr=>R5)).mono fun e w' m=>m.none RS RS
   exact Xv
  |true=>
   have hg:=gj s hc;have R:∀r∈bE p v rows 9 a b c row (v+h).toNat,r.length<=maxLen:=by intro r hr;have H:=(hg.1 r hr).1;have I:dO 9 h<=h+1:=SR;unfold maxLen;omega
   refine(qv p v h v (dO 9 h) A cap rows (bE p v rows 9 a b c row (v+h).toNat) w true a b c z row D E (fun W F=>?_) (fun _ W F=>?_) J Vz R).mono fun e w' m=>m.same RS
   .exact Xv
   .rw[EK]at hc;rw[Y,EN];simp[bk,fE,jH]at hc;obtain⟨Q,ab⟩:=hc;exact Cn b p v h A cap rows W (U.ext F) s.n EM s.v0 RU Q RU s.h0 RU (fun r hr=>Ur)
def yU(p v h k a b c:Int)(A:an)(cap:Nat)(rows:aE)(w:aa)(z:an)(row:aG)(D:Nat)(F:dm w)(H:aX w A rows)(I:aT w z row)(E:row.length<=1048576)(s:Sys p v h rows):aw 34 (eB p (ae v h A rows cap) (bB k a b c z row D)) w (Made v (dO k h) (bE p v rows k a b c row (v+h).toNat) (ja p v h rows k a b c row) w):=by
 by_cases J:k=1
 .subst J;exact zgN p v h a b c A cap rows w z row D F H I E s
 by_cases O:k=2
 .subst O;exact zff p v h a b c A cap rows w z row D F H I E s
 by_cases Q:k=3
 .subst Q;exact zh0 p v h a b c A cap rows w z row D F H I E s
 by_cases R:k=4
 .subst R;exact zgO p v h a b c A cap rows w z row D F H I E s
 by_cases U:k=5
 .subst U;exact zh1 p v h a b c A cap rows w z row D F H I E s
 by_cases Y:k=6
 .subst Y;exact zfg p v h a b c A cap rows w z row D F H I E s
 by_cases Z:k=7
 .subst Z;exact zfh p v h a b c A cap rows w z row D F H I E s
 by_cases ab:k=8
 .subst ab;exact zdo p v h a b c A cap rows w z row D F H I E s
 by_cases ac:k=9
 .subst ac;exact zdp p v h a b c A cap rows w z row D F H I E s
 refine(kz p v h k a b c A cap rows w z row D (fun W=>CD k a b c z row D W E J O Q R U Y Z ab ac)).mono fun e w' ⟨ad,am⟩=>Made.no (by simp[ja, *]) ad am
def wm(D:E.grownBy W (some b)):∃z:aa,(z:Nat)=E/\ai z W/\∀k,k≠b->z.heap[k]?=E.heap[k]?:=by
 have J:=D.size;have e:∀k,(W.heap.extract 0 E)[k]?=if k < (E:Nat) then W.heap[k]? else none:=fun k=>by
  by_cases h:k < (E:Nat)
  .rw[ay h,Array.getElem?_extract];simp;omega
  .rw[al h,oK Sk]
 have H:(W.heap.extract 0 E).size=(E:Nat):=by rw[Array.size_extract];omega
 refine⟨{W with heap:=W.heap.extract 0 E},H,⟨rfl,rfl,rfl,by show _<=W.heap.size;rw[H];exact J,fun k F=>?_⟩,fun k I=>?_⟩
 .replace F:k < (W.heap.extract 0 E).size:=F
  show W.heap[k]?=(W.heap.extract 0 E)[k]?
  rw[e,ay RU]
 .show(W.heap.extract 0 E)[k]?=_
  rw[e];split
  .rename_i h;exact D.block k h fun e=>I (eH e)
  .rw[oK RU]
def aJ.zho{rows:aE}(h:aJ E B v rows)(z:∀k,k≠b->RL.heap[k]?=E.heap[k]?)(D:b<B):aJ RL B v rows:=h.same fun k F=>z k RU
def zdN(D:w.grownBy wr (some b))(z:ai E wr)(I:(w:Nat)<=E):w.grownBy E (some b):=⟨z.os.symm.trans D.os,z.tape.symm.trans D.tape,z.output.symm.trans D.output,I,fun k F H=>(z.block k RU).symm.trans (D.block k F H)⟩
def cH.cut(h:cH C b m wr)(z:ai E wr)(F:b < (E:Nat)):cH C b m E:=h.nR fun k D=>(z.block k RU).symm
def aJ.drawn{rows:aE}(h:aJ w B v rows)(F:w.grownBy w' (some b))(E:b<B):aJ w' B v rows:=by obtain⟨H,-,z,D⟩:=wm F;exact(h.zho D E).ext z
structure xA(B n g:Nat)(xs:aG)(V:aa):Prop where
 own:V.ownsRow B 3 1 (.slice (aY g) n n) n (xs.map (Value.int .i64))
 len:xs.length=n
def xA.at{g:Nat}(h:xA B n g xs V)(hk:k<n):V.frozen? ⟨g,k,none⟩=false/\∃y,xs[k]?=some y/\ah V g k (zI y):=by obtain⟨y,z⟩:=aB (TI:k<xs.length);exact⟨h.own.frozenAt k,y,z,by rw[h.own.cellAt k RU,cp,z];rfl⟩
def xA.put{g:Nat}(h:xA B n g xs V)(k:Nat)(y:Int):xA B n g (xs.set k y) (V.setCell ⟨g,k,none⟩ (zI y)):=⟨by have:=(h.own.stored k (zI y)).1;rwa[<-h_]at this,Tw⟩
def xA.ints{g:Nat}(h:xA B n g xs V):ar V B (.slice (aY g) n n) xs:=by unfold ar;rw[h.len];exact h.own
def xA.lo{g:Nat}(h:xA B n g xs V):B<=g/\g < (V:Nat):=bZ h.own g rfl
def xA.drawn{g:Nat}(h:xA B n g xs V)(z:V.grownBy E (some b))(D:b<B):xA B n g xs E:=⟨hJ h.own z (aA fun e=>by have:=h.lo.1;have e:g=b:=eH e;omega),h.len⟩
def uI.set(h:uI p xs)(D:(r:Int)<p∨r=0):uI p (xs.set k (r:Int)):=fun x z=>by
 rcases vD z with z|rfl
 .exact h x z
 .omega
def uI.ziO(p:Int)(n:Nat):uI p (List.replicate n 0):=fun x z=>by rw[(xX.1 z).2];omega
def CC(p:Int)(n:Nat)(rows:aE):Prop:=∀r∈rows,r.length=n/\uI p r
def CC.snoc{rows:aE}{r:aG}(h:CC p n rows)(D:r.length=n)(E:uI p r):CC p n (rows++[r]):=fun x z=>by
 rcases fc.1 z with z|z
 .exact h x z
 .rw[gp.1 z];exact⟨D,E⟩
def zfK(C:Code)(b m:Nat)(w:aa)(p:Int)(size n:Nat)(ab:cH C b m w)(c0:m<=274877906944)(c6:size<=1024)(c4:n<=1024):aw 89 (xL (aY b) p size n) w (kM C b (m+4194400) (fun w' v=>∃rows,rows.length<=n/\CC p size rows/\aJ w' w v rows) w):=by
 obtain⟨cr,hi,cn,co,Es⟩:=cU fI;obtain⟨a1,b9⟩:=bS ab.lt (dg C b m w ((n:Int)+1) ab RU);have br:IntKind.i64.wrap ((n:Int)+1)=(n:Int)+1:=SQ;clear ab;go_enter func89,ntmps89
 go_wp2_with (go_at_call 88;(with_reducible refine b9.o.mono ?_);rintro e c7 ⟨v,rfl,⟨H,rfl,cj,-⟩,bb,bi⟩;have FP:=zH (RU:H<=n);have b1:=zH bb;have b5:=zH bi;clear bb bi cj)
 clear br;go_loopw [9,10] (fun u i wr=>∃(j:Nat) (rows:aE),j<=H/\i=.int .i64 j/\Hd (j+rows.length=H)/\Hd (CC p size rows)/\Hd (aJ wr w u rows)/\Hd (cH C b (m+2+rows.length*4096) wr)/\Hd (w.grownBy wr (some b))) (fun _ i _=>(intOf i).toNat)
 case atStart=>exact⟨H,[],ag _,rfl,zH rfl,zH (fun x ck=>by cases ck),zH ⟨[],m_ _ _ _ _,fun k u r h=>Sf,fun i j u ct b h=>Sf⟩,zH (b1.mono RS),b5⟩
 case round=>
  obtain⟨j,rows,cI,rfl,HJ,a5,a8,J,O⟩:=hrel;by_cases ba:j=0
  .subst ba;go_wp2;go_ret
   exact⟨_,rfl,⟨rows,Ve,a5,a8⟩,J.o.mono Ve,O⟩
  .have cO:0 < (j:Int):=RU;have br:IntKind.i64.wrap ((j:Int)-1)=((j:Int)-1):=by have:=FP.o;rw[aZ];omega
   have Gb:=zH (show rows.length<1024 by have:=HJ.o;have:=FP.o;omega);obtain⟨z,rfl⟩:∃z,z=wr:=⟨wr,rfl⟩;clear ba;go_upto_region 6 with((at_make;refine jg _ rfl _ _ 27 rfl z.heap.size 3 cr (zI 0) 1 dS hi cn co .i64 .i64 size size size rfl rfl rfl rfl SW TS (ag _) ?_;intro bv ao am))
   rw[ig]at ao;obtain⟨ap,a2,a6⟩:=d_ (show xA z size z (List.replicate size 0) bv from⟨ao,kj⟩) (J.o.ext (cd am)) (show z.grownBy bv (some b) from aN (cd am));clear ao am;go_wp2;go_loopw [25] (fun i wr=>∃(k:Nat) (xs:aG),k<=size/\i=.int .i64 k/\Hd (xA z size z xs wr)/\Hd (uI p xs)/\Hd (cH C b (m+2+rows.length*4096+k*4) wr)/\Hd (z.grownBy wr (some b))) (fun i _=>size-(intOf i).toNat)
   case atStart=>exact⟨0,_,bf _,rfl,ap,zH (uI.ziO p size),zH (a2.mono RU),a6⟩
   case round=>
    obtain⟨k,xs,cR,rfl,I,R,a3,Q⟩:=hrel;clear ap a2 a6;have D:=zH (show b < (z:Nat) from J.o.lt);by_cases ci:k<size
    .have HM:=zH (show m+2+rows.length*4096+k*4<=549755813000 by have:=Gb.o;omega);have ca:=zH (gX C b _ wr 2 a3 To);go_wp2_with (first
      |(go_at_call 46;(with_reducible refine ca.o.mono ?_);rintro e cu ⟨v,rfl,⟨y,rfl⟩,bd,ac⟩;have a0:=zH (I.drawn ac D.o);have a4:=zH bd;have a7:=zH (Q.o.trans ac);clear bd ac)
      |(go_at_call 104;(with_reducible refine(kx C b _ cu p a4.o To).mono ?_);rintro e cy ⟨v,rfl,⟨r,rfl,bp,-⟩,be,ad⟩;have ce:=zH bp;have Y:=a0.drawn ad D.o;obtain⟨cF,c9,-,cz⟩:=Y.at ci;have bz:=zH Y;have b2:=zH be;have b6:=zH (a7.trans ad);clear be ad bp Y))
     all_goals go_roundw
     all_goals first
      |exact⟨k+1,_,RU,RW,zH (bz.put k (r:Int)),zH (R.o.set ce),zH ((b2.nR fun q c5=>bw _ _ _ _ (by show q≠z.heap.size;have:=D.o;omega)).mono RU),zH (je b6 ((aj z cy).setCell (p:=⟨z,k,none⟩) (ag _) _))⟩
      |exact⟨k+1,xs,RU,RW,a0,R,zH (a4.mono RU),a7⟩
      |(simp[intOf];omega)
    .obtain rfl:size=k:=RU;obtain⟨U,F,E,bm⟩:=wm Q.o;obtain⟨b0,ch,cb,a9⟩:=fU E (by rw[F];exact I.ints:ar wr U (.slice (aY z) size size) xs) (a8.zho bm a1) (by rw[F];exact O.size:(w:Nat)<=U);obtain⟨b8,b4⟩:=bS (zdN (O.trans Q.o) E a9) (a3.cut E (by rw[F];exact D.o));clear F E bm;go_wp2_with ((at_builtin;refine mL rfl _ _ rfl w U wr _ _ _ xs cb.o b0.o ch.o Tx a9.o rfl rfl ?_;intro ct c8 bo Z;have cc:=zH bo;have b3:=zH (b4.below Z a1);have b7:=zH (je b8 Z);clear bo Z))
     go_roundw
     case rel=>exact⟨j-1,rows++[xs],RU,RW,zH (by have:=HJ.o;simp;omega),zH (a5.snoc I.len R.o),cc,zH (b3.mono Sk),b7⟩
     case measure=>simp[intOf];omega
def yw(v:aG)(A:an)(cap:Nat)(GU:aG)(A2:an)(H:Nat)(w:aa)(D:aT w A v)(z:aT w A2 GU)(J:v.length<=1048576)(I:GU.length<=1048576)(E:∀i∈GU,0<=i/\i<v.length):aw 171 (rV A2 GU H A v cap) w fun e w'=>∃u,e=.returned u/\ar w' w u (ml v GU)/\ai w w':=by
 obtain⟨HV,HA,HL⟩:=d_ D z E;clear D z E;go_enter func171,ntmps171
 go_wp2;go_loopw [5,7,10] (fun u _ i wr=>∃k:Nat,k<=GU.length/\i=.int .i64 k/\ar wr w u ((ml v GU).take k)/\ai w wr)
  (fun _ _ i _=>GU.length-(intOf i).toNat)
 case atStart=>exact⟨0,bf _,rfl,by simpa using ar.nil _ _,aj _ _⟩
 case round=>
  obtain⟨k,hk,rfl,F,EO⟩:=hrel;have GS:=zH F;clear F;exact ZV
end Go.Proofs.YtdpgblncijojiaaGreatDoor
