/- Parts of the walks. Conditions: as stated with each. -/
import Derived.Test.YtdpgblncijojiaaGreatDoorPk5
namespace Go.Proofs.YtdpgblncijojiaaGreatDoor
open Go.RowKit Tryz
set_option linter.all false
set_option maxHeartbeats 8000000
set_option maxRecDepth 100000
variable{E w:aa}{H R RR U v:au}{args:gh}{n:Nat}
def sZ(n:Nat):((n:Int)==0)=(n==0):=by rw[mY];simp
def dd(k a b c:Int)(A:an)(n cap:Nat)(w:aa)(J:n<=1048576):aw 71 (cJ (jt k a b c A n cap)) w (fC w (iY k a b c n)):=by
 by_cases z:k=1
 .subst z;exact Yl
 by_cases h2:k=2
 .subst h2;exact Yl
 by_cases h3:k=3
 .subst h3;exact Yl
 by_cases h4:k=4
 .subst h4;exact Yl
 by_cases h5:k=5
 .subst h5;exact Yl
 by_cases D:k=6
 .subst D;exact Yl
 by_cases h7:k=7
 .subst h7;exact Yl
 by_cases h8:k=8
 .subst h8;exact Yl
 by_cases h9:k=9
 .subst h9;exact Yl
 have F:(k==2)=false:=SG;have H:(k==3)=false:=SE;have I:(k==7)=false:=SB;have R:(k !=8)=true:=SA;have U:(k !=9)=true:=Sz;have n2:(k !=2)=true:=SG;have O:(k !=4)=true:=SD;have Q:(k !=5)=true:=SC;have E:=zH (bn h2 (bn h3 (bn h7 (bn h8 (bn h9 (bn h4 h5))))));clear z h2 h3 h4 h5 D h7 h8 h9;go_enter l_,me
 go_wp2
 all_goals
  go_ret
  obtain⟨h2,h3,h7,h8,h9,h4,h5⟩:=E.o;exact⟨aS (by simp[iY,sZ, *]),(aj _ _).alloc (ag _) _⟩
def bD{P:kR}{f:FuncId}(h:Calls P f args (w.drewN n) fun e w'=>e=.returned v/\w.drewN n=w'):Calls P f args (w.drewN n) fun e E=>e=.returned v/\∃m,E=w.drewN m:=h.mono fun _ _ ⟨z,D⟩=>⟨z,n,D.symm⟩
def cx{P:kR}{f:FuncId}{a:Nat}(h:Calls P f args (w.drewN (a+n)) fun e w'=>e=.returned v/\w.drewN (a+n)=w'):Calls P f args (w.drewN (a+n)) fun e E=>e=.returned v/\∃m,E=w.drewN (a+m):=h.mono fun _ _ ⟨z,D⟩=>⟨z,n,D.symm⟩
def ew{z D F I:au}{t1 t2:dG}(ap:Below (((w.alloc (.cells #[H,R,U] t1)).alloc (.cells #[RR,z,D,F,I] t2)).drewN n) (((w.alloc (.cells #[H,R,U] t1)).alloc (.cells #[RR,z,D,F,I] t2)).drewN n) E):ai w E/\(ah E w 0 H/\ah E w 1 R/\ah E w 2 U)/\(ah E ((w:Nat)+1) 0 RR/\ah E ((w:Nat)+1) 1 z/\ah E ((w:Nat)+1) 2 D/\ah E ((w:Nat)+1) 3 F/\ah E ((w:Nat)+1) 4 I):=by have ao:=qD ((w.alloc (.cells #[H,R,U] t1)).alloc (.cells #[RR,z,D,F,I] t2)) n;have J:=cC ao ap;have a0:((w.alloc (.cells #[H,R,U] t1)).alloc (.cells #[RR,z,D,F,I] t2)).heap[w.heap.size]?=some (.cells #[H,R,U] t1 (0,0)):=(b_ _ _ RS).trans (az _ _ rfl);have a1:((w.alloc (.cells #[H,R,U] t1)).alloc (.cells #[RR,z,D,F,I] t2)).heap[(w:Nat)+1]?=some (.cells #[RR,z,D,F,I] t2 (0,0)):=az _ _ RS;obtain⟨O,Q,Y,_⟩:=kV J a0;obtain⟨⟨Z,ab,ac,ad,am⟩,_⟩:=jk J a1;exact⟨(((aj w w).alloc RS _).alloc RS _).trans (J.mono SJ),⟨O,Q,Y⟩,⟨Z,ab,ac,ad,am⟩⟩
def gN(n:Nat):decide ((n:Int)<160)=decide (n<160):=by rw[mY];simp;omega
def zaR(p v h a b c:Int)(A:an)(cap:Nat)(rows:aE)(w:aa)(z:an)(row:aG)(H:Nat)(E:aX w A rows)(F:aT w z row)(D:row.length<=1048576)(s:Sys p v h rows):aw 36 #[p,.agg (ae v h A rows cap),.agg #[.int .i64 1,a,b,c,.slice z row H]] w (fC w (ja p v h rows 1 a b c row)):=by
 have O:=s.n;have I:=s.h0;have J:=s.h100;have EC:=zH D;clear s E F D;cases he:iY 1 a b c row with
 |false=>
  exact ZK
 |true=>
  exact ZL
def Ds(p v h a b c:Int)(A:an)(cap:Nat)(rows:aE)(w:aa)(z:an)(row:aG)(H:Nat)(E:aX w A rows)(F:aT w z row)(D:row.length<=1048576)(s:Sys p v h rows):aw 36 #[p,.agg (ae v h A rows cap),.agg #[.int .i64 2,a,b,c,.slice z row H]] w (fC w (ja p v h rows 2 a b c row)):=by
 have O:=s.n;have Q:=s.p2;have R:=s.p97;have I:=s.h0;have J:=s.h100;have EC:=zH D;clear s E F D;cases he:iY 2 a b c row with
 |false=>
  exact ZK
 |true=>
  exact ZL
def zc1(p v h a b c:Int)(A:an)(cap:Nat)(rows:aE)(w:aa)(z:an)(row:aG)(H:Nat)(E:aX w A rows)(F:aT w z row)(D:row.length<=1048576)(s:Sys p v h rows):aw 36 #[p,.agg (ae v h A rows cap),.agg #[.int .i64 3,a,b,c,.slice z row H]] w (fC w (ja p v h rows 3 a b c row)):=by
 have O:=s.n;have Q:=s.p2;have R:=s.p97;have I:=s.h0;have J:=s.h100;have EC:=zH D;clear s E F D;cases he:iY 3 a b c row with
 |false=>
  exact ZK
 |true=>
  exact ZL
def zaS(p v h a b c:Int)(A:an)(cap:Nat)(rows:aE)(w:aa)(z:an)(row:aG)(ac:Nat)(D:aX w A rows)(ab:aT w z row)(I:row.length<=1048576)(s:Sys p v h rows):aw 36 #[p,.agg (ae v h A rows cap),.agg #[.int .i64 4,a,b,c,.slice z row ac]] w (fC w (ja p v h rows 4 a b c row)):=by
 have a4:=s.n;have a5:=s.v0;have a6:=s.v24;have a2:=s.h0;have a3:=s.h100;obtain⟨S,Y,EC⟩:=d_ s D I;clear s D ab I;cases he:iY 4 a b c row with
 |false=>
  exact ZK
 |true=>
  have HE:=zH he;clear he;cases Z:eX a 0 ((rows:Int)-1)
  .skip
   exact ZH
  .obtain⟨am,ao⟩:=bk.1 Z;obtain⟨r,hr⟩:=aB (RU:a.toNat<rows.length);obtain⟨ap,o,rfl,E⟩:=Y.o.here (RU:a.toNat<rows.length);obtain⟨ad,a0,F,H⟩:=E _ r hr;obtain⟨O,U,J,R⟩:=fU (TD:rows.getD a.toNat []=r) (show r.length<=maxLen by have:=S.o.len r (a_ hr);unfold maxLen;omega) F H;clear E F H hr;go_enter fq,ft
   go_wp2;go_quiet ((go_at_call 69;exact bD (aL _ _ _ _)))
   go_wp2;go_quiet ((go_at_call 69;first|exact bD (aL _ _ _ _)|exact cx (aL _ _ _ _)))
   go_wp2_with (first|(go_at_call 69;refine(aL _ _ _ _).mono ?_;rintro e w' ⟨rfl,rfl⟩)|(go_at_call 71;refine(Calls.bl (dd _ _ _ _ _ _ _ _ EC.o) HE).mono ?_;rintro e w1 ⟨rfl,Ep⟩;obtain⟨EA,⟨c0,c1,c2⟩,⟨d0,d1,d2,d3,d4⟩⟩:=ew Ep;have a1:=av EA J.o;have Q:=zH (R.o.ext EA);have EB:=zH EA;clear EA Ep)|(go_at_call 72;refine(j3 _ _ _ _ _ _ Q.o U.o).mono ?_;rintro e w' ⟨rfl,rfl⟩))
   all_goals
    go_ret
    exact⟨aS (by rw[ja,HE.o,O.o];simp[*]),EB⟩
def zc2(p v h a b c:Int)(A:an)(cap:Nat)(rows:aE)(w:aa)(z:an)(row:aG)(H:Nat)(E:aX w A rows)(F:aT w z row)(D:row.length<=1048576)(s:Sys p v h rows):aw 36 #[p,.agg (ae v h A rows cap),.agg #[.int .i64 5,a,b,c,.slice z row H]] w (fC w (ja p v h rows 5 a b c row)):=by
 have O:=s.n;have I:=s.h0;have J:=s.h100;have EC:=zH D;clear s E F D;cases he:iY 5 a b c row with
 |false=>
  exact ZK
 |true=>
  exact ZL
def Dt(p v h a b c:Int)(A:an)(cap:Nat)(rows:aE)(w:aa)(D:an)(row:aG)(am:Nat)(F:aX w A rows)(Z:aT w D row)(H:row.length<=1048576)(s:Sys p v h rows):aw 36 #[p,.agg (ae v h A rows cap),.agg #[.int .i64 6,a,b,c,.slice D row am]] w (fC w (ja p v h rows 6 a b c row)):=by
 have a2:=s.n;have ac:=s.v0;have ad:=s.v24;have a1:=s.h0;have ab:=s.h100;obtain⟨S,Q,EC,O⟩:=fU s F H (TS:rows.length<=maxLen);clear s F Z H;cases he:iY 6 a b c row with
 |false=>
  exact ZK
 |true=>
  have HE:=zH he;clear he;cases a0:eX a 0 ((rows:Int)-1)
  .skip
   exact ZM
  .cases Y:eX b 0 (h-1)
   .skip
    exact ZM
   .obtain⟨U,ao⟩:=bk.1 Y;go_enter fq,ft
    go_wp2;go_quiet ((go_at_call 69;exact bD (aL _ _ _ _)))
    go_wp2;go_quiet ((go_at_call 69;first|exact bD (aL _ _ _ _)|exact cx (aL _ _ _ _)))
    go_wp2_with (first|(go_at_call 69;refine(aL _ _ _ _).mono ?_;rintro e w' ⟨rfl,rfl⟩)|(go_at_call 71;refine(Calls.bl (dd _ _ _ _ _ _ _ _ EC.o) HE).mono ?_;rintro e w1 ⟨rfl,Ep⟩;obtain⟨EA,⟨c0,c1,c2⟩,⟨d0,d1,d2,d3,d4⟩⟩:=ew Ep;have R:=zH (Q.o.ext EA);have EB:=zH EA;clear EA Ep))
    all_goals
     go_region_held3 (fun w'=>ah w' w 0 (zI v)/\ah w' w 1 (zI h)/\ah w' w 2 (.slice A rows cap)/\ah w' ((w:Nat)+1) 1 (zI a)/\ah w' ((w:Nat)+1) 2 (zI b)) (first|exact⟨c0,c1,c2,d1,d2⟩|exact⟨av z c0,av z c1,av z c2,av z d1,av z d2⟩)
      (first|(go_at_call 74;refine(pw _ _ _ _ _ _ _ (R.o.ext ?_) RU ac ad ab U RU S.o.len).mono ?_;exact(aj _ _).drew;rintro e a3 ⟨u,rfl,I,z⟩;obtain⟨A2,ap,rfl,E,_,_⟩:=I.view)|(go_at_call 73;refine(wV _ _ _ _ _ E (by simp[fF];exact O)).mono ?_;rintro e w' ⟨rfl,rfl⟩))
     have J:=zH (af EB ((aj _ _).drew.trans z));clear z I E;go_wp2
    all_goals
     go_ret
     exact⟨aS (by simp[ja,HE.o,gN, *]),J.o⟩
def Du(p v h a b c:Int)(A:an)(cap:Nat)(rows:aE)(w:aa)(O:an)(row:aG)(ao:Nat)(am:aX w A rows)(Q:aT w O row)(Z:row.length<=1048576)(s:Sys p v h rows):aw 36 #[p,.agg (ae v h A rows cap),.agg #[.int .i64 7,a,b,c,.slice O row ao]] w (fC w (ja p v h rows 7 a b c row)):=by
 have a6:=s.n;have I:=s.p2;have J:=s.p97;have a7:=s.v0;have a8:=s.v24;have a3:=s.h0;have a4:=s.h100;obtain⟨F,EC,H⟩:=d_ Q Z (TS:row.length<=maxLen);clear s am Q Z;cases he:iY 7 a b c row with
 |false=>
  exact ZK
 |true=>
  have HE:=zH he;clear he;by_cases z:(row:Int)=v+h+1
  .cases ad:eX b 0 h
   .have U:((row:Int)==v+h+1)=true:=by simp[z]
    have E:=zH z;clear z;go_enter fq,ft
    go_wp2;go_quiet ((go_at_call 69;exact bD (aL _ _ _ _)))
    go_wp2;go_quiet ((go_at_call 69;first|exact bD (aL _ _ _ _)|exact cx (aL _ _ _ _)))
    go_wp2_with (first|(go_at_call 69;refine(aL _ _ _ _).mono ?_;rintro e w' ⟨rfl,rfl⟩)|(go_at_call 71;refine(Calls.bl (dd _ _ _ _ _ _ _ _ EC.o) HE).mono ?_;rintro e w1 ⟨rfl,Ep⟩;obtain⟨EA,⟨c0,c1,c2⟩,⟨d0,d1,d2,d3,d4⟩⟩:=ew Ep;have D:=zH (F.ext EA);have EB:=zH EA;clear EA Ep)|(go_at_call 75;refine(rn _ _ _ _ _ D.o H.o I J).mono ?_;rintro e w' ⟨rfl,rfl⟩))
    all_goals
     go_ret
     exact⟨aS (by simp[ja,HE.o,gN, *]),EB⟩
   .obtain⟨ap,a0⟩:=bk.1 ad;have Y:(v+b).toNat<row.length:=RU;have a5:v+b<row.length:=RU;obtain⟨x,hx⟩:=aB Y;obtain⟨a1,o,rfl,R⟩:=F.here Y;obtain⟨ab,ac⟩:=bS (R _ _ hx) (TC:row.getD (v+b).toNat 0=x);have U:((row:Int)==v+h+1)=true:=by simp[z]
    have E:=zH z;clear z hx R;go_enter fq,ft
    go_wp2;go_quiet ((go_at_call 69;exact bD (aL _ _ _ _)))
    go_wp2;go_quiet ((go_at_call 69;first|exact bD (aL _ _ _ _)|exact cx (aL _ _ _ _)))
    go_wp2_with (first|(go_at_call 69;refine(aL _ _ _ _).mono ?_;rintro e w' ⟨rfl,rfl⟩)|(go_at_call 71;refine(Calls.bl (dd _ _ _ _ _ _ _ _ EC.o) HE).mono ?_;rintro e w1 ⟨rfl,Ep⟩;obtain⟨EA,⟨c0,c1,c2⟩,⟨d0,d1,d2,d3,d4⟩⟩:=ew Ep;have D:=zH (F.ext EA);have a2:=av EA ab;have EB:=zH EA;clear EA Ep)|(go_at_call 75;refine(rn _ _ _ _ _ D.o H.o I J).mono ?_;rintro e w' ⟨rfl,rfl⟩))
    all_goals
     go_ret
     exact⟨aS (by rw[ja,HE.o,ac.o];simp[E.o,gN, *]<;>(intros;omega)),EB⟩
  .have U:((row:Int)==v+h+1)=false:=by simp[z]
   have E:=zH z;clear z;go_enter fq,ft
   go_wp2;go_quiet ((go_at_call 69;exact bD (aL _ _ _ _)))
   go_wp2;go_quiet ((go_at_call 69;first|exact bD (aL _ _ _ _)|exact cx (aL _ _ _ _)))
   go_wp2_with (first|(go_at_call 69;refine(aL _ _ _ _).mono ?_;rintro e w' ⟨rfl,rfl⟩)|(go_at_call 71;refine(Calls.bl (dd _ _ _ _ _ _ _ _ EC.o) HE).mono ?_;rintro e w1 ⟨rfl,Ep⟩;obtain⟨EA,⟨c0,c1,c2⟩,⟨d0,d1,d2,d3,d4⟩⟩:=ew Ep;have D:=zH (F.ext EA);have EB:=zH EA;clear EA Ep)|(go_at_call 75;refine(rn _ _ _ _ _ D.o H.o I J).mono ?_;rintro e w' ⟨rfl,rfl⟩))
   all_goals
    go_ret
    exact⟨aS (by simp[ja,HE.o,E.o, *]),EB⟩
def B_(p v h a b c:Int)(A:an)(cap:Nat)(rows:aE)(w:aa)(z:an)(row:aG)(ao:Nat)(E:aX w A rows)(ab:aT w z row)(H:row.length<=1048576)(s:Sys p v h rows):aw 36 #[p,.agg (ae v h A rows cap),.agg #[.int .i64 8,a,b,c,.slice z row ao]] w (fC w (ja p v h rows 8 a b c row)):=by
 have a2:=s.n;have ad:=s.v0;have am:=s.v24;have a1:=s.h0;have ac:=s.h100;obtain⟨S,R,EC,Q⟩:=fU s E H (TS:rows.length<=maxLen);clear s E ab H;cases he:iY 8 a b c row with
 |false=>
  exact ZK
 |true=>
  have HE:=zH he;clear he;cases Z:eX b 0 (h-1)
  .skip
   exact ZH
  .obtain⟨Y,ap⟩:=bk.1 Z;go_enter fq,ft
   go_wp2;go_quiet ((go_at_call 69;exact bD (aL _ _ _ _)))
   go_wp2;go_quiet ((go_at_call 69;first|exact bD (aL _ _ _ _)|exact cx (aL _ _ _ _)))
   go_wp2_with (first|(go_at_call 69;refine(aL _ _ _ _).mono ?_;rintro e w' ⟨rfl,rfl⟩)|(go_at_call 71;refine(Calls.bl (dd _ _ _ _ _ _ _ _ EC.o) HE).mono ?_;rintro e w1 ⟨rfl,Ep⟩;obtain⟨EA,⟨c0,c1,c2⟩,⟨d0,d1,d2,d3,d4⟩⟩:=ew Ep;have U:=zH (R.o.ext EA);have EB:=zH EA;clear EA Ep)|(go_at_call 74;refine(pw _ _ _ _ _ _ _ U.o RU ad am ac Y RU S.o.len).mono ?_;rintro e a3 ⟨u,rfl,I,F⟩;obtain⟨A2,a0,rfl,D,_,_⟩:=I.view;have O:=zH D;have J:=zH (af EB F);clear I D F)|(go_at_call 72;refine(j3 _ _ _ _ _ _ O (by simp[fF];exact Q.o)).mono ?_;rintro e w' ⟨rfl,rfl⟩))
   all_goals
    go_ret
    exact⟨aS (by simp[ja,HE.o, *]),J.o⟩
def Ca(p v h a b c:Int)(A:an)(cap:Nat)(rows:aE)(w:aa)(z:an)(row:aG)(H:Nat)(E:aX w A rows)(F:aT w z row)(D:row.length<=1048576)(s:Sys p v h rows):aw 36 #[p,.agg (ae v h A rows cap),.agg #[.int .i64 9,a,b,c,.slice z row H]] w (fC w (ja p v h rows 9 a b c row)):=by
 have O:=s.n;have I:=s.h0;have J:=s.h100;have EC:=zH D;clear s E F D;cases he:iY 9 a b c row with
 |false=>
  exact ZK
 |true=>
  exact ZL
def Dv(p v h k a b c:Int)(A:an)(cap:Nat)(rows:aE)(w:aa)(z:an)(row:aG)(J:Nat)(H:aX w A rows)(I:aT w z row)(E:row.length<=1048576)(s:Sys p v h rows)(h1:k≠1)(h2:k≠2)(h3:k≠3)(h4:k≠4)(h5:k≠5)(D:k≠6)(h7:k≠7)(h8:k≠8)(h9:k≠9):aw 36 (eB p (ae v h A rows cap) (bB k a b c z row J)) w (fC w (ja p v h rows k a b c row)):=by
 have ap:=s.n;have am:=s.h0;have ao:=s.h100;have EC:=zH E;clear s H I E;have O:(k==1)=false:=SN;have Q:(k==2)=false:=SG;have R:(k==3)=false:=SE;have U:(k==4)=false:=SD;have Y:(k==5)=false:=SC;have Z:(k==6)=false:=by simpa using D
 have ab:(k==7)=false:=SB;have ac:(k==8)=false:=SA;have ad:(k==9)=false:=Sz;have F:=zH (by simp[ja, *]:ja p v h rows k a b c row=false);clear h1 h2 h3 h4 h5 D h7 h8 h9;cases he:iY k a b c row with
 |false=>
  exact ZK
 |true=>
  have HE:=zH he;clear he;go_enter fq,ft
  go_wp2;go_quiet ((go_at_call 69;exact bD (aL _ _ _ _)))
  go_wp2;go_quiet ((go_at_call 69;first|exact bD (aL _ _ _ _)|exact cx (aL _ _ _ _)))
  go_wp2_with (first|(go_at_call 69;refine(aL _ _ _ _).mono ?_;rintro e w' ⟨rfl,rfl⟩)|(go_at_call 71;refine(Calls.bl (dd _ _ _ _ _ _ _ _ EC.o) HE).mono ?_;rintro e w1 ⟨rfl,Ep⟩;obtain⟨EA,⟨c0,c1,c2⟩,⟨d0,d1,d2,d3,d4⟩⟩:=ew Ep;have EB:=zH EA;clear EA Ep))
  all_goals
   go_ret
   exact⟨aS (by rw[F.o]),EB⟩
def nm(p v h k a b c:Int)(A:an)(cap:Nat)(rows:aE)(w:aa)(z:an)(row:aG)(D:Nat)(E:aX w A rows)(F:aT w z row)(H:row.length<=1048576)(s:Sys p v h rows):aw 36 (eB p (ae v h A rows cap) (bB k a b c z row D)) w (fC w (ja p v h rows k a b c row)):=by
 by_cases I:k=1
 .subst I;exact zaR p v h a b c A cap rows w z row D E F H s
 by_cases J:k=2
 .subst J;exact Ds p v h a b c A cap rows w z row D E F H s
 by_cases O:k=3
 .subst O;exact zc1 p v h a b c A cap rows w z row D E F H s
 by_cases Q:k=4
 .subst Q;exact zaS p v h a b c A cap rows w z row D E F H s
 by_cases R:k=5
 .subst R;exact zc2 p v h a b c A cap rows w z row D E F H s
 by_cases U:k=6
 .subst U;exact Dt p v h a b c A cap rows w z row D E F H s
 by_cases Y:k=7
 .subst Y;exact Du p v h a b c A cap rows w z row D E F H s
 by_cases Z:k=8
 .subst Z;exact B_ p v h a b c A cap rows w z row D E F H s
 by_cases ab:k=9
 .subst ab;exact Ca p v h a b c A cap rows w z row D E F H s
 exact Dv p v h k a b c A cap rows w z row D E F H s I J O Q R U Y Z ab
end Go.Proofs.YtdpgblncijojiaaGreatDoor
