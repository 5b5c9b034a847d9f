/- Parts of the walks. Conditions: as stated with each. -/
import Derived.Test.YtdpgblncijojiaaGreatDoorPk6
namespace Go.Proofs.YtdpgblncijojiaaGreatDoor
open Go.RowKit Tryz
set_option linter.all false
set_option maxHeartbeats 8000000
set_option maxRecDepth 100000
variable{E w:aa}{H Ro Ru Rw v:av}{args:gq}{n:Nat}
def tT(n:Nat):((n:Int)==0)=(n==0):=by rw[nl];simp
def cW(k a b c:Int)(A:aq)(n cap:Nat)(w:aa)(I:n<=1048576):ax 71 (cB (ks k a b c A n cap)) w (fp w (jb k a b c n)):=by
 by_cases z:k=1
 .subst z;exact X_
 by_cases h2:k=2
 .subst h2;exact X_
 by_cases h3:k=3
 .subst h3;exact X_
 by_cases h4:k=4
 .subst h4;exact X_
 by_cases h5:k=5
 .subst h5;exact X_
 by_cases B:k=6
 .subst B;exact X_
 by_cases h7:k=7
 .subst h7;exact X_
 by_cases h8:k=8
 .subst h8;exact X_
 by_cases h9:k=9
 .subst h9;exact X_
 have E:(k==2)=false:=Sm;have F:(k==3)=false:=Sk;have H:(k==7)=false:=Sh;have Q:(k !=8)=true:=Sg;have R:(k !=9)=true:=Sf;have n2:(k !=2)=true:=Sm;have J:(k !=4)=true:=Sj;have O:(k !=5)=true:=Si;have D:=zH (aY h2 (aY h3 (aY h7 (aY h8 (aY h9 (aY h4 h5))))));clear z h2 h3 h4 h5 B h7 h8 h9;go_enter mE,mF
 go_wp2
 all_goals
  go_ret
  obtain⟨h2,h3,h7,h8,h9,h4,h5⟩:=D.o;exact⟨aO (by simp[jb,tT, *]),(ai _ _).alloc (ah _) _⟩
def bA{P:lk}{f:FuncId}(h:Calls P f args (w.drewN n) fun e w'=>e=.returned v/\w.drewN n=w'):Calls P f args (w.drewN n) fun e D=>e=.returned v/\∃m,D=w.drewN m:=h.mono fun _ _ ⟨z,B⟩=>⟨z,n,B.symm⟩
def cg{P:lk}{f:FuncId}{a:Nat}(h:Calls P f args (w.drewN (a+n)) fun e w'=>e=.returned v/\w.drewN (a+n)=w'):Calls P f args (w.drewN (a+n)) fun e D=>e=.returned v/\∃m,D=w.drewN (a+m):=h.mono fun _ _ ⟨z,B⟩=>⟨z,n,B.symm⟩
def ep{z B D F:av}{t1 t2:dE}(ad:Below (((w.alloc (.cells #[H,Rw,Ru] t1)).alloc (.cells #[Ro,z,B,D,F] t2)).drewN n) (((w.alloc (.cells #[H,Rw,Ru] t1)).alloc (.cells #[Ro,z,B,D,F] t2)).drewN n) E):aj w E/\(af E w 0 H/\af E w 1 Rw/\af E w 2 Ru)/\(af E ((w:Nat)+1) 0 Ro/\af E ((w:Nat)+1) 1 z/\af E ((w:Nat)+1) 2 B/\af E ((w:Nat)+1) 3 D/\af E ((w:Nat)+1) 4 F):=by have ac:=re ((w.alloc (.cells #[H,Rw,Ru] t1)).alloc (.cells #[Ro,z,B,D,F] t2)) n;have I:=bQ ac ad;have am:((w.alloc (.cells #[H,Rw,Ru] t1)).alloc (.cells #[Ro,z,B,D,F] t2)).heap[w.heap.size]?=some (.cells #[H,Rw,Ru] t1 (0,0)):=(bZ _ _ Rx).trans (aD _ _ rfl);have ao:((w.alloc (.cells #[H,Rw,Ru] t1)).alloc (.cells #[Ro,z,B,D,F] t2)).heap[(w:Nat)+1]?=some (.cells #[Ro,z,B,D,F] t2 (0,0)):=aD _ _ Rx;obtain⟨J,O,Q,_⟩:=xf I am;obtain⟨⟨R,T,U,Z,ab⟩,_⟩:=m6 I ao;exact⟨(((ai w w).alloc Rx _).alloc Rx _).trans (I.mono Sn),⟨J,O,Q⟩,⟨R,T,U,Z,ab⟩⟩
def gO(n:Nat):decide ((n:Int)<160)=decide (n<160):=by rw[nl];simp;omega
def zbn(p v h a b c:Int)(A:aq)(cap:Nat)(rows:aC)(w:aa)(z:aq)(row:aH)(F:Nat)(D:aL w A rows)(E:aU w z row)(B:row.length<=1048576)(s:Sys p v h rows):ax 36 #[p,.agg (ae v h A rows cap),.agg #[.int .i64 1,a,b,c,.slice z row F]] w (fp w (jO p v h rows 1 a b c row)):=by
 have J:=s.n;have H:=s.h0;have I:=s.h100;have EG:=zH B;clear s D E B;cases he:jb 1 a b c row with
 |false=>
  exact ZI
 |true=>
  exact ZJ
def Eb(p v h a b c:Int)(A:aq)(cap:Nat)(rows:aC)(w:aa)(z:aq)(row:aH)(F:Nat)(D:aL w A rows)(E:aU w z row)(B:row.length<=1048576)(s:Sys p v h rows):ax 36 #[p,.agg (ae v h A rows cap),.agg #[.int .i64 2,a,b,c,.slice z row F]] w (fp w (jO p v h rows 2 a b c row)):=by
 have J:=s.n;have O:=s.p2;have Q:=s.p97;have H:=s.h0;have I:=s.h100;have EG:=zH B;clear s D E B;cases he:jb 2 a b c row with
 |false=>
  exact ZI
 |true=>
  exact ZJ
def zdF(p v h a b c:Int)(A:aq)(cap:Nat)(rows:aC)(w:aa)(z:aq)(row:aH)(F:Nat)(D:aL w A rows)(E:aU w z row)(B:row.length<=1048576)(s:Sys p v h rows):ax 36 #[p,.agg (ae v h A rows cap),.agg #[.int .i64 3,a,b,c,.slice z row F]] w (fp w (jO p v h rows 3 a b c row)):=by
 have J:=s.n;have O:=s.p2;have Q:=s.p97;have H:=s.h0;have I:=s.h100;have EG:=zH B;clear s D E B;cases he:jb 3 a b c row with
 |false=>
  exact ZI
 |true=>
  exact ZJ
def zbo(p v h a b c:Int)(A:aq)(cap:Nat)(rows:aC)(w:aa)(z:aq)(row:aH)(ab:Nat)(B:aL w A rows)(Z:aU w z row)(H:row.length<=1048576)(s:Sys p v h rows):ax 36 #[p,.agg (ae v h A rows cap),.agg #[.int .i64 4,a,b,c,.slice z row ab]] w (fp w (jO p v h rows 4 a b c row)):=by
 have a2:=s.n;have a3:=s.v0;have a4:=s.v24;have a0:=s.h0;have a1:=s.h100;obtain⟨S,T,EG⟩:=dD s B H;clear s B Z H;cases he:jb 4 a b c row with
 |false=>
  exact ZI
 |true=>
  have HE:=zH he;clear he;cases U:eW a 0 ((rows:Int)-1)
  .skip
   exact ZF
  .obtain⟨ad,am⟩:=bh.1 U;obtain⟨r,hr⟩:=aw (Ry:a.toNat<rows.length);obtain⟨ao,o,rfl,D⟩:=T.here (Ry:a.toNat<rows.length);obtain⟨ac,ap,E,F⟩:=D _ r hr;obtain⟨J,R,I,Q⟩:=fS (To:rows.getD a.toNat []=r) (show r.length<=maxLen by have:=S.o.len r (aR hr);unfold maxLen;omega) E F;clear D E F hr;go_enter fi,fj
   go_wp2;go_quiet ((go_at_call 69;exact bA (aM _ _ _ _)))
   go_wp2;go_quiet ((go_at_call 69;first|exact bA (aM _ _ _ _)|exact cg (aM _ _ _ _)))
   go_wp2_with (first|(go_at_call 69;refine(aM _ _ _ _).mono ?_;rintro e w' ⟨rfl,rfl⟩)|(go_at_call 71;refine(Calls.bj (cW _ _ _ _ _ _ _ _ EG.o) HE).mono ?_;rintro e w1 ⟨rfl,Et⟩;obtain⟨EF,⟨c0,c1,c2⟩,⟨d0,d1,d2,d3,d4⟩⟩:=ep Et;have ck:=ag EF I;have O:=zH (Q.o.ext EF);have EA:=zH EF;clear EF Et)|(go_at_call 72;refine(kg _ _ _ _ _ _ O R.o).mono ?_;rintro e w' ⟨rfl,rfl⟩))
   all_goals
    go_ret
    exact⟨aO (by rw[jO,HE.o,J.o];simp[*]),EA⟩
def zdG(p v h a b c:Int)(A:aq)(cap:Nat)(rows:aC)(w:aa)(z:aq)(row:aH)(F:Nat)(D:aL w A rows)(E:aU w z row)(B:row.length<=1048576)(s:Sys p v h rows):ax 36 #[p,.agg (ae v h A rows cap),.agg #[.int .i64 5,a,b,c,.slice z row F]] w (fp w (jO p v h rows 5 a b c row)):=by
 have J:=s.n;have H:=s.h0;have I:=s.h100;have EG:=zH B;clear s D E B;cases he:jb 5 a b c row with
 |false=>
  exact ZI
 |true=>
  exact ZJ
def Ec(p v h a b c:Int)(A:aq)(cap:Nat)(rows:aC)(w:aa)(B:aq)(row:aH)(ad:Nat)(E:aL w A rows)(U:aU w B row)(F:row.length<=1048576)(s:Sys p v h rows):ax 36 #[p,.agg (ae v h A rows cap),.agg #[.int .i64 6,a,b,c,.slice B row ad]] w (fp w (jO p v h rows 6 a b c row)):=by
 have a1:=s.n;have ab:=s.v0;have ac:=s.v24;have a0:=s.h0;have Z:=s.h100;obtain⟨S,O,EG,J⟩:=fS s E F (TB:rows.length<=maxLen);clear s E U F;cases he:jb 6 a b c row with
 |false=>
  exact ZI
 |true=>
  have HE:=zH he;clear he;cases ap:eW a 0 ((rows:Int)-1)
  .skip
   exact ZK
  .cases T:eW b 0 (h-1)
   .skip
    exact ZK
   .obtain⟨R,am⟩:=bh.1 T;go_enter fi,fj
    go_wp2;go_quiet ((go_at_call 69;exact bA (aM _ _ _ _)))
    go_wp2;go_quiet ((go_at_call 69;first|exact bA (aM _ _ _ _)|exact cg (aM _ _ _ _)))
    go_wp2_with (first|(go_at_call 69;refine(aM _ _ _ _).mono ?_;rintro e w' ⟨rfl,rfl⟩)|(go_at_call 71;refine(Calls.bj (cW _ _ _ _ _ _ _ _ EG.o) HE).mono ?_;rintro e w1 ⟨rfl,Et⟩;obtain⟨EF,⟨c0,c1,c2⟩,⟨d0,d1,d2,d3,d4⟩⟩:=ep Et;have Q:=zH (O.ext EF);have EA:=zH EF;clear EF Et))
    all_goals
     go_region_held3 (fun w'=>af w' w 0 (zI v)/\af w' w 1 (zI h)/\af w' w 2 (.slice A rows cap)/\af w' ((w:Nat)+1) 1 (zI a)/\af w' ((w:Nat)+1) 2 (zI b)) (first|exact⟨c0,c1,c2,d1,d2⟩|exact⟨ag z c0,ag z c1,ag z c2,ag z d1,ag z d2⟩)
      (first|(go_at_call 74;refine(pZ _ _ _ _ _ _ _ (Q.o.ext ?_) Ry ab ac Z R Ry S.o.len).mono ?_;exact(ai _ _).drew;rintro e a2 ⟨u,rfl,H,z⟩;obtain⟨A2,ao,rfl,D,_,_⟩:=H.view)|(go_at_call 73;refine(ya _ _ _ _ _ D (by simp[fD];exact J.o)).mono ?_;rintro e w' ⟨rfl,rfl⟩))
     have I:=zH (an EA ((ai _ _).drew.trans z));clear z H D;go_wp2
    all_goals
     go_ret
     exact⟨aO (by simp[jO,HE.o,gO, *]),I⟩
def Ee(p v h a b c:Int)(A:aq)(cap:Nat)(rows:aC)(w:aa)(J:aq)(row:aH)(am:Nat)(ad:aL w A rows)(O:aU w J row)(U:row.length<=1048576)(s:Sys p v h rows):ax 36 #[p,.agg (ae v h A rows cap),.agg #[.int .i64 7,a,b,c,.slice J row am]] w (fp w (jO p v h rows 7 a b c row)):=by
 have a4:=s.n;have H:=s.p2;have I:=s.p97;have a5:=s.v0;have a6:=s.v24;have a1:=s.h0;have a2:=s.h100;obtain⟨E,EG,F⟩:=dD O U (TB:row.length<=maxLen);clear s ad O U;cases he:jb 7 a b c row with
 |false=>
  exact ZI
 |true=>
  have HE:=zH he;clear he;by_cases z:(row:Int)=v+h+1
  .cases ac:eW b 0 h
   .have R:((row:Int)==v+h+1)=true:=by simp[z]
    have D:=zH z;clear z;go_enter fi,fj
    go_wp2;go_quiet ((go_at_call 69;exact bA (aM _ _ _ _)))
    go_wp2;go_quiet ((go_at_call 69;first|exact bA (aM _ _ _ _)|exact cg (aM _ _ _ _)))
    go_wp2_with (first|(go_at_call 69;refine(aM _ _ _ _).mono ?_;rintro e w' ⟨rfl,rfl⟩)|(go_at_call 71;refine(Calls.bj (cW _ _ _ _ _ _ _ _ EG.o) HE).mono ?_;rintro e w1 ⟨rfl,Et⟩;obtain⟨EF,⟨c0,c1,c2⟩,⟨d0,d1,d2,d3,d4⟩⟩:=ep Et;have B:=zH (E.o.ext EF);have EA:=zH EF;clear EF Et)|(go_at_call 75;refine(rY _ _ _ _ _ B F H I).mono ?_;rintro e w' ⟨rfl,rfl⟩))
    all_goals
     go_ret
     exact⟨aO (by simp[jO,HE.o,gO, *]),EA⟩
   .obtain⟨ao,ap⟩:=bh.1 ac;have T:(v+b).toNat<row.length:=Ry;have a3:v+b<row.length:=Ry;obtain⟨x,hx⟩:=aw T;obtain⟨a0,o,rfl,Q⟩:=E.o.here T;obtain⟨Z,ab⟩:=bL (Q _ _ hx) (Tn:row.getD (v+b).toNat 0=x);have R:((row:Int)==v+h+1)=true:=by simp[z]
    have D:=zH z;clear z hx Q;go_enter fi,fj
    go_wp2;go_quiet ((go_at_call 69;exact bA (aM _ _ _ _)))
    go_wp2;go_quiet ((go_at_call 69;first|exact bA (aM _ _ _ _)|exact cg (aM _ _ _ _)))
    go_wp2_with (first|(go_at_call 69;refine(aM _ _ _ _).mono ?_;rintro e w' ⟨rfl,rfl⟩)|(go_at_call 71;refine(Calls.bj (cW _ _ _ _ _ _ _ _ EG.o) HE).mono ?_;rintro e w1 ⟨rfl,Et⟩;obtain⟨EF,⟨c0,c1,c2⟩,⟨d0,d1,d2,d3,d4⟩⟩:=ep Et;have B:=zH (E.o.ext EF);have ck:=ag EF Z;have EA:=zH EF;clear EF Et)|(go_at_call 75;refine(rY _ _ _ _ _ B F H I).mono ?_;rintro e w' ⟨rfl,rfl⟩))
    all_goals
     go_ret
     exact⟨aO (by rw[jO,HE.o,ab.o];simp[D.o,gO, *]<;>(intros;omega)),EA⟩
  .have R:((row:Int)==v+h+1)=false:=by simp[z]
   have D:=zH z;clear z;go_enter fi,fj
   go_wp2;go_quiet ((go_at_call 69;exact bA (aM _ _ _ _)))
   go_wp2;go_quiet ((go_at_call 69;first|exact bA (aM _ _ _ _)|exact cg (aM _ _ _ _)))
   go_wp2_with (first|(go_at_call 69;refine(aM _ _ _ _).mono ?_;rintro e w' ⟨rfl,rfl⟩)|(go_at_call 71;refine(Calls.bj (cW _ _ _ _ _ _ _ _ EG.o) HE).mono ?_;rintro e w1 ⟨rfl,Et⟩;obtain⟨EF,⟨c0,c1,c2⟩,⟨d0,d1,d2,d3,d4⟩⟩:=ep Et;have B:=zH (E.o.ext EF);have EA:=zH EF;clear EF Et)|(go_at_call 75;refine(rY _ _ _ _ _ B F H I).mono ?_;rintro e w' ⟨rfl,rfl⟩))
   all_goals
    go_ret
    exact⟨aO (by simp[jO,HE.o,D.o, *]),EA⟩
def CM(p v h a b c:Int)(A:aq)(cap:Nat)(rows:aC)(w:aa)(z:aq)(row:aH)(am:Nat)(D:aL w A rows)(Z:aU w z row)(F:row.length<=1048576)(s:Sys p v h rows):ax 36 #[p,.agg (ae v h A rows cap),.agg #[.int .i64 8,a,b,c,.slice z row am]] w (fp w (jO p v h rows 8 a b c row)):=by
 have a1:=s.n;have ac:=s.v0;have ad:=s.v24;have a0:=s.h0;have ab:=s.h100;obtain⟨S,Q,EG,O⟩:=fS s D F (TB:rows.length<=maxLen);clear s D Z F;cases he:jb 8 a b c row with
 |false=>
  exact ZI
 |true=>
  have HE:=zH he;clear he;cases U:eW b 0 (h-1)
  .skip
   exact ZF
  .obtain⟨T,ao⟩:=bh.1 U;go_enter fi,fj
   go_wp2;go_quiet ((go_at_call 69;exact bA (aM _ _ _ _)))
   go_wp2;go_quiet ((go_at_call 69;first|exact bA (aM _ _ _ _)|exact cg (aM _ _ _ _)))
   go_wp2_with (first|(go_at_call 69;refine(aM _ _ _ _).mono ?_;rintro e w' ⟨rfl,rfl⟩)|(go_at_call 71;refine(Calls.bj (cW _ _ _ _ _ _ _ _ EG.o) HE).mono ?_;rintro e w1 ⟨rfl,Et⟩;obtain⟨EF,⟨c0,c1,c2⟩,⟨d0,d1,d2,d3,d4⟩⟩:=ep Et;have R:=zH (Q.o.ext EF);have EA:=zH EF;clear EF Et)|(go_at_call 74;refine(pZ _ _ _ _ _ _ _ R.o Ry ac ad ab T Ry S.o.len).mono ?_;rintro e a2 ⟨u,rfl,H,E⟩;obtain⟨A2,ap,rfl,B,_,_⟩:=H.view;have J:=zH B;have I:=zH (an EA E);clear H B E)|(go_at_call 72;refine(kg _ _ _ _ _ _ J.o (by simp[fD];exact O)).mono ?_;rintro e w' ⟨rfl,rfl⟩))
   all_goals
    go_ret
    exact⟨aO (by simp[jO,HE.o, *]),I⟩
def CN(p v h a b c:Int)(A:aq)(cap:Nat)(rows:aC)(w:aa)(z:aq)(row:aH)(F:Nat)(D:aL w A rows)(E:aU w z row)(B:row.length<=1048576)(s:Sys p v h rows):ax 36 #[p,.agg (ae v h A rows cap),.agg #[.int .i64 9,a,b,c,.slice z row F]] w (fp w (jO p v h rows 9 a b c row)):=by
 have J:=s.n;have H:=s.h0;have I:=s.h100;have EG:=zH B;clear s D E B;cases he:jb 9 a b c row with
 |false=>
  exact ZI
 |true=>
  exact ZJ
def Ef(p v h k a b c:Int)(A:aq)(cap:Nat)(rows:aC)(w:aa)(z:aq)(row:aH)(I:Nat)(F:aL w A rows)(H:aU w z row)(D:row.length<=1048576)(s:Sys p v h rows)(h1:k≠1)(h2:k≠2)(h3:k≠3)(h4:k≠4)(h5:k≠5)(B:k≠6)(h7:k≠7)(h8:k≠8)(h9:k≠9):ax 36 (ew p (ae v h A rows cap) (dk k a b c z row I)) w (fp w (jO p v h rows k a b c row)):=by
 have ao:=s.n;have ad:=s.h0;have am:=s.h100;have EG:=zH D;clear s F H D;have J:(k==1)=false:=St;have O:(k==2)=false:=Sm;have Q:(k==3)=false:=Sk;have R:(k==4)=false:=Sj;have T:(k==5)=false:=Si;have U:(k==6)=false:=by simpa using B
 have Z:(k==7)=false:=Sh;have ab:(k==8)=false:=Sg;have ac:(k==9)=false:=Sf;have E:=zH (by simp[jO, *]:jO p v h rows k a b c row=false);clear h1 h2 h3 h4 h5 B h7 h8 h9;cases he:jb k a b c row with
 |false=>
  exact ZI
 |true=>
  have HE:=zH he;clear he;go_enter fi,fj
  go_wp2;go_quiet ((go_at_call 69;exact bA (aM _ _ _ _)))
  go_wp2;go_quiet ((go_at_call 69;first|exact bA (aM _ _ _ _)|exact cg (aM _ _ _ _)))
  go_wp2_with (first|(go_at_call 69;refine(aM _ _ _ _).mono ?_;rintro e w' ⟨rfl,rfl⟩)|(go_at_call 71;refine(Calls.bj (cW _ _ _ _ _ _ _ _ EG.o) HE).mono ?_;rintro e w1 ⟨rfl,Et⟩;obtain⟨EF,⟨c0,c1,c2⟩,⟨d0,d1,d2,d3,d4⟩⟩:=ep Et;have EA:=zH EF;clear EF Et))
  all_goals
   go_ret
   exact⟨aO (by rw[E.o]),EA⟩
def wZ(p v h k a b c:Int)(A:aq)(cap:Nat)(rows:aC)(w:aa)(z:aq)(row:aH)(B:Nat)(D:aL w A rows)(E:aU w z row)(F:row.length<=1048576)(s:Sys p v h rows):ax 36 (ew p (ae v h A rows cap) (dk k a b c z row B)) w (fp w (jO p v h rows k a b c row)):=by
 by_cases H:k=1
 .subst H;exact zbn p v h a b c A cap rows w z row B D E F s
 by_cases I:k=2
 .subst I;exact Eb p v h a b c A cap rows w z row B D E F s
 by_cases J:k=3
 .subst J;exact zdF p v h a b c A cap rows w z row B D E F s
 by_cases O:k=4
 .subst O;exact zbo p v h a b c A cap rows w z row B D E F s
 by_cases Q:k=5
 .subst Q;exact zdG p v h a b c A cap rows w z row B D E F s
 by_cases R:k=6
 .subst R;exact Ec p v h a b c A cap rows w z row B D E F s
 by_cases T:k=7
 .subst T;exact Ee p v h a b c A cap rows w z row B D E F s
 by_cases U:k=8
 .subst U;exact CM p v h a b c A cap rows w z row B D E F s
 by_cases Z:k=9
 .subst Z;exact CN p v h a b c A cap rows w z row B D E F s
 exact Ef p v h k a b c A cap rows w z row B D E F s H I J O Q R T U Z
end Go.Proofs.YtdpgblncijojiaaGreatDoor
