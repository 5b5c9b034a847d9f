/- Parts of the walks. Conditions: as stated with each. -/
import Derived.Test.YtpieilkmmiopfaaGreatDoorPk5
namespace Go.Proofs.YtpieilkmmiopfaaGreatDoor
open Go.RowKit Tryz
set_option linter.all false
set_option maxHeartbeats 8000000
set_option maxRecDepth 100000
variable{A:ax}{B N d i n:Nat}{P:jk}{T v:aG}{args:gg}{p:Int}{us:cL}{w:aa}
def zlm(p v h a b c:Int)A ε rows w a4 n be(a7:bt w A rows)(cp:rows.length<=160)(F6:∀r∈rows,r.length<=1000)(a9:1<=p)(ba:p<=1000)(ca:0<=a)(cb:a<rows.length)(hb:0<=b)(ce:b<rows.length)(cc:a≠b)(ao:0<=c)(b2:c<=1000)(hx:∀r∈rows,∀x∈r,0<=x/\x<=1000)m(ap:∀r∈rows,r.length=m):az 96 (j_ p (aA v h A rows ε) (tX a b c a4 n be)) w fun e w'=>∃u,e=.returned (.agg (en v h u))/\aY w' w u (rows.set b.toNat (dw p c (rows.getD b.toNat []) (rows.getD a.toNat [])))/\ag w w':=by
 refine OE fun ra GZ rb Hm=>?_
 have⟨bh,bo,bv,bz,T⟩:=pD (SX:rows.getD a.toNat []=ra) (SW:rows.getD b.toNat []=rb) (show ∀x∈ra,0<=x/\x<=1000 from hx ra (aU GZ)) (show ∀x∈rb,0<=x/\x<=1000 from hx rb (aU Hm)) (by rw[ap ra (aU GZ),ap rb (aU Hm)]:rb.length=ra);have ct:ra.length<=1000:=F6 ra (aU GZ);clear hx ap;refine Qc fun HM F_=>?_
 go_enter func96,pY
 go_wp2_with fail
 refine(kL _ _ _ _ _ _ (a7.ext (((al _ _).alloc Qt _ |>.alloc Qt _).alloc Rs _)) HM F_).x ?_;rintro e w1 ⟨u,rfl,⟨us,hu⟩,am⟩;obtain⟨gA,Ga,rfl,_,_,_⟩:=aY.p ⟨us,hu⟩;have⟨bd,ac,ad⟩:=cD w (.cells (aA v h A rows ε) 57) (.cells (tX a b c a4 n be) 97) (.cells bx 57);have b4:=am.size;simp only[dV]at b4;go_upto_region 2 with(fail)
 have⟨W2,FY⟩:=aR (w1.alloc (.cells (aA v h gA rows Ga) 57));rw[<-FY];have an:ag w1 W2:=UP;have cu:(W2:Nat)=w1+1:=Rr;have O:=aT am an;have m2:bA W2 w1 (aA v h gA rows Ga) 57:=TK;have bb:=dg O bd;have k1:=dg O ac;have bc:=dg O ad;have Gf:bL W2 ((w:Nat)+3) (.slice gA rows Ga) rows us:=(hu.ext an).x Qt;have b5:∀g',gA=some ⟨g',0,none⟩->g' < (w1:Nat):=fun g' e=>UB
 have H:∀(k:Nat) (x:aG),us[k]?=some x->∀b,x.ownBlock=some b->b < (w1:Nat):=fun k x hx b hb=>Vk
 have a8:ag w W2:=(ζ w _ _ _).t (O.x Rs);clear hu am an O a7 F6 bd ac ad FY;obtain⟨cB,Hp,av⟩:=Gf.F GZ;obtain⟨cF,J0,Y⟩:=Gf.F Hm;refine PI fun g GA Gy Gz=>?_
 subst GA;obtain⟨a2,a5,rfl,a6,_⟩:=av.p;obtain⟨J,F,rfl,_,_⟩:=Y.p;have bg:af W2 g a.toNat (.slice a2 ra a5):=UM;have a1:af W2 g b.toNat (.slice J rb F):=US;refine NW fun y0 y1 y2 y3 y4 x0 x1 x2=>?_
 have bi:=zH (fun G D (b0:(Value.slice a2 ra a5).ownBlock=some G) (b1:(Value.slice J rb F).ownBlock=some D)=>show G≠D from fun e=>by have:=Gf.apart _ _ _ _ G Hp J0 b0 (by rw[e];exact b1);omega)
 have⟨br,bn,bu,ah,bq,bp,K0,K1,K2,M2,a3,Hu⟩:=zl9 Gf a8 J0 Y av a6 bb k1 bc m2 (H _ _ J0) (gF Gf.η Y);clear Gf a8 Hp J0 av Y GZ Hm a6 b5 H bb k1 bc m2;go_wp2;go_loopw [84] (fun i wr=>∃k:Nat,k<=ra.length/\i=.int .i64 k/\wr.ownsRow ((w:Nat)+3) 3 1 (.slice J rb F) rb ((l_ p c rb ra k).map (Value.int .i64))/\W2.grownBy wr (Value.slice J rb F).ownBlock)
  (fun i _=>ra.length-(intOf i).toNat)
 case atStart=>exact⟨0,aW _,rfl,by rw[tG];exact ah,⟨rfl,rfl,rfl,ae _,fun _ _ _=>rfl⟩⟩
 case round=>
  obtain⟨k,co,rfl,I,Io⟩:=hrel;by_cases U:k<ra.length
  .have b3:k<rb.length:=by have:=T.o;omega
   have⟨y,ab⟩:=aq U;have⟨x,hx⟩:=aq b3;obtain⟨D,rfl,ck,_⟩:=mr ah Qu;obtain⟨G,rfl,cj,_⟩:=mr bq Qu;have cn:=a3 D rfl;have cq:g≠D:=WV;have cr:G≠D:=bi G D rfl rfl;have t2:af wr ((w:Nat)+1) 2 (zI b):=Io.cell y2 TQ;have t3:af wr ((w:Nat)+1) 3 (zI c):=Io.cell y3 TQ;have t5:af wr w1 2 (.slice (bH g) rows Ga):=Io.cell x2 TQ;have t6:af wr g b.toNat (.slice (bH D) rb F):=Io.cell a1 TQ;have t7:af wr G k (zI y):=by
    rcases bp.o with h|⟨b9,cA,h,ao⟩
    .rw[h]at U;simp at U
    .simp only[dW,xg]at h;obtain⟨rfl,rfl,_⟩:=h;have:=ao k y ab;rw[jU]at this;exact Io.cell this TQ
   have ch:af wr D k (zI x):=by rw[I.C k Qu,bI,wC _ _ _ _ _ U T.o,hx];rfl
   have ci:=I.g k;obtain⟨ac,ad⟩:=bz x (aU hx);obtain⟨b7,b8⟩:=bv y (aU ab);have b6:=gV (y*c) (Qu:p≠0);have cz:=gW (y*c) (Qu:0<p);have a0:(x+y*c)%p=(x+c*y)%p:=by rw[gU]
   have Z:=I.j k (zI ((x+y*c)%p));rw[a0,<-eW,wD _ _ _ _ _ _ _ hx ab,<-a0]at Z;have⟨HS,HG⟩:=bJ Z.1 (cx Io Z.2);clear Z hx ab I Io x0 x1 x2 y0 y1 y2 y3 y4 bg a1 a0;go_wp2_with fail
   refine cU (S:=fun W=>af W ((w:Nat)+1) 2 (zI b)/\af W ((w:Nat)+1) 3 (zI c)/\af W w1 2 (.slice (bH g) rows Ga)/\af W g b.toNat (.slice (bH D) rb F)/\af W D k (zI x)) 24 QT QD (fun hHeld=>?_);refine Qj ?_;refine OU ?_;refine aM 14 ?_;refine aM 15 ?_;refine aM 16 ?_;refine aM 17 ?_;refine aM 18 ?_;refine aM 19 ?_;refine aM 20 ?_;refine cm 21 fun K hK=>?_
   go_simp;refine(wO p y c _ a9 ba b7 b8 ao b2).x ?_;rintro e w' ⟨rfl,rfl⟩;go_simp;refine hK.out _ _ (fun _=>hHeld) (fun hHeld=>?_);refine Mr fun hHeld=>?_;clear K hK
   refine cm 22 fun K hK=>?_
   go_simp;refine(za4 p x (y*c%p) _ a9 ba ac ad b6 Qu).x ?_;rintro e w' ⟨rfl,rfl⟩;go_simp;refine hK.out _ _ (fun _=>hHeld) (fun hHeld=>?_);refine Mr fun hHeld=>?_;clear K hK
   refine cm 23 fun K hK=>?_
   go_simp;refine hK.out _ _ (fun _=>hHeld) (fun hHeld=>?_);refine Mr fun hHeld=>?_;clear K hK
   refine cm 24 fun K hK=>?_
   go_simp;refine Qn ?_;clear K hK;refine gM QT ?_ _;exact Yj
  .have J1:∀b,(Value.slice J rb F).ownBlock=some b->(w:Nat)+3<=b/\b < (w1:Nat):=fun b hb=>⟨(bS ah b hb).1,a3 b hb⟩
   refine NZ fun IF Iu Iy Iw Il=>?_
   subst Il;have H:=br.K (r':=dw p c rb ra) bu Io (by
    unfold aE;rw[show(dw p c rb ra).length=rb by simp[dw,T.o],<-wB p c rb ra T.o ra (ae _)];exact I)
   rw[<-bh.o,<-bo.o]at H;have HO:=zH (show aY wr ((w:Nat)+3) (.slice (bH g) rows Ga) (rows.set b.toNat (dw p c (rows.getD b.toNat []) (rows.getD a.toNat []))) by exact⟨_,H⟩)
   have HE:=zH (bn.grown Io Qu fun b hb=>Tu);clear I Io J1 H x0 x1 x2 y0 y1 y2 y3 y4 bg a1;exact ZG
def xL(n:Nat):((n:Int)==0)=(n==0):=Q7
def dB k a b c A n ε w(T:n<=1048576):az 136 (cY (rJ k a b c A n ε)) w (dt w (pB k a b c n)):=by
 by_cases F:k=1
 .subst F;exact XX
 by_cases h2:k=2
 .subst h2;exact XX
 by_cases h3:k=3
 .subst h3;exact XX
 by_cases h4:k=4
 .subst h4;exact XX
 by_cases h5:k=5
 .subst h5;exact XX
 by_cases G:k=6
 .subst G;exact XX
 by_cases h7:k=7
 .subst h7;exact XX
 by_cases h:k=8
 .subst h;exact XX
 by_cases D:k=9
 .subst D;exact XX
 have I:(k==2)=false:=Rk;have J:(k==3)=false:=Ri;have O:(k==7)=false:=Rm;have Z:(k !=8)=true:=by simpa using h
 have ab:(k !=9)=true:=by simpa using D
 have n2:(k !=2)=true:=Rk;have U:(k !=4)=true:=Rh;have Y:(k !=5)=true:=Rg;have H:=zH (aQ h2 (aQ h3 (aQ h7 (aQ h (aQ D (aQ h4 h5))))));clear F h2 h3 h4 h5 G h7 h D;go_enter oK,oL
 go_wp2
 all_goals
  go_ret
  obtain⟨h2,h3,h7,h,D,h4,h5⟩:=H.o;exact⟨aN (by simp[pB,xL, *]),(al _ _).alloc (ae _) _⟩
def bX{f}(h:Calls P f args (w.drewN n) fun e w'=>e=.returned v/\w.drewN n=w'):Calls P f args (w.drewN n) fun e G=>e=.returned v/\∃m,G=w.drewN m:=h.x fun _ _ ⟨D,F⟩=>⟨D,n,F.q⟩
def cX{f}{a}(h:Calls P f args (w.drewN (a+n)) fun e w'=>e=.returned v/\w.drewN (a+n)=w'):Calls P f args (w.drewN (a+n)) fun e G=>e=.returned v/\∃m,G=w.drewN (a+m):=h.x fun _ _ ⟨D,F⟩=>⟨D,n,F.q⟩
def fe{h}{D F G H I J O}{t1 t2}(ap:Below (((w.alloc (.cells #[T,D,F] t1)).alloc (.cells #[G,H,I,J,O] t2)).drewN n) (((w.alloc (.cells #[T,D,F] t1)).alloc (.cells #[G,H,I,J,O] t2)).drewN n) h):ag w h/\(af h w 0 T/\af h w 1 D/\af h w 2 F)/\(af h ((w:Nat)+1) 0 G/\af h ((w:Nat)+1) 1 H/\af h ((w:Nat)+1) 2 I/\af h ((w:Nat)+1) 3 J/\af h ((w:Nat)+1) 4 O):=by have ao:=rD ((w.alloc (.cells #[T,D,F] t1)).alloc (.cells #[G,H,I,J,O] t2)) n;have U:=aT ao ap;have av:((w.alloc (.cells #[T,D,F] t1)).alloc (.cells #[G,H,I,J,O] t2)).heap[w.heap.size]?=some (.cells #[T,D,F] t1 (0,0)):=(bO _ _ Qt).t (aH _ _ rfl);have a0:((w.alloc (.cells #[T,D,F] t1)).alloc (.cells #[G,H,I,J,O] t2)).heap[(w:Nat)+1]?=some (.cells #[G,H,I,J,O] t2 (0,0)):=aH _ _ Qt;have⟨Y,Z,ab,_⟩:=Ϛ U av;have⟨⟨ac,ad,ah,am,an⟩,_⟩:=ϭ U a0;exact⟨(((al w w).alloc Qt _).alloc Qt _).t (U.x Rs),⟨Y,Z,ab⟩,⟨ac,ad,ah,am,an⟩⟩
def jb(n:Nat):decide ((n:Int)<160)=decide (n<160):=by rw[jQ];simp;omega
def zfn(p v h a b c:Int)A ε rows w D row I(G:bt w A rows)(H:aO w D row)(F:row.length<=1048576)(s:Δ p v h rows):az 95 #[p,.agg (aA v h A rows ε),.agg #[.int .i64 1,a,b,c,.slice D row I]] w (dt w (nR p v h rows 1 a b c row)):=by
 have T:=s.n;have J:=s.h0;have O:=s.χ;have Gt:=zH F;clear s G H F;cases he:pB 1 a b c row with
 |false=>
  exact ZE
 |true=>
  exact ZF
def zdP(p v h a b c:Int)A ε rows w D row I(G:bt w A rows)(H:aO w D row)(F:row.length<=1048576)(s:Δ p v h rows):az 95 #[p,.agg (aA v h A rows ε),.agg #[.int .i64 2,a,b,c,.slice D row I]] w (dt w (nR p v h rows 2 a b c row)):=by
 have T:=s.n;have U:=s.p2;have Y:=s.p97;have J:=s.h0;have O:=s.χ;have Gt:=zH F;clear s G H F;cases he:pB 2 a b c row with
 |false=>
  exact ZE
 |true=>
  exact ZF
def zhR(p v h a b c:Int)A ε rows w D row I(G:bt w A rows)(H:aO w D row)(F:row.length<=1048576)(s:Δ p v h rows):az 95 #[p,.agg (aA v h A rows ε),.agg #[.int .i64 3,a,b,c,.slice D row I]] w (dt w (nR p v h rows 3 a b c row)):=by
 have T:=s.n;have U:=s.p2;have Y:=s.p97;have J:=s.h0;have O:=s.χ;have Gt:=zH F;clear s G H F;cases he:pB 3 a b c row with
 |false=>
  exact ZE
 |true=>
  exact ZF
def zfo(p v h a b c:Int)A ε rows w D row ah(F:bt w A rows)(ad:aO w D row)(J:row.length<=1048576)(s:Δ p v h rows):az 95 #[p,.agg (aA v h A rows ε),.agg #[.int .i64 4,a,b,c,.slice D row ah]] w (dt w (nR p v h rows 4 a b c row)):=by
 have a3:=s.n;have a4:=s.v0;have a5:=s.Â;have a1:=s.h0;have a2:=s.χ;have⟨S,ab,Gt⟩:=er s F J;clear s F ad J;cases he:pB 4 a b c row with
 |false=>
  exact ZE
 |true=>
  have HE:=zH he;clear he;cases ac:eU a 0 ((rows:Int)-1)
  .skip
   exact ZB
  .obtain⟨an,ao⟩:=dx.1 ac;have⟨r,hr⟩:=aq (Qu:a.toNat<rows.length);obtain⟨ap,o,rfl,G⟩:=ab.θ (Qu:a.toNat<rows.length);obtain⟨am,av,H,I⟩:=G _ r hr;have⟨T,Z,O,Y⟩:=gG (Ss:rows.getD a.toNat []=r) (show r.length<=maxLen by have:=S.o.ι r (aU hr);unfold maxLen;omega) H I;clear G H I hr;go_enter gq,gx
   go_wp2;go_quiet ((go_at_call 92;exact bX (aX _ _ _ _)))
   go_wp2;go_quiet ((go_at_call 92;first|exact bX (aX _ _ _ _)|exact cX (aX _ _ _ _)))
   go_wp2_with (first|(go_at_call 92;refine(aX _ _ _ _).x ?_;rintro e w' ⟨rfl,rfl⟩)|(go_at_call 136;refine(Calls.bl (dB _ _ _ _ _ _ _ _ Gt.o) HE).x ?_;rintro e w1 ⟨rfl,FR⟩;have⟨Gd,⟨c0,c1,c2⟩,⟨d0,d1,d2,d3,d4⟩⟩:=fe FR;have a0:=ar Gd O;have U:=zH (Y.ext Gd);have Gs:=zH Gd;clear Gd FR)|(go_at_call 114;refine(nP _ _ _ _ _ _ U Z).x ?_;rintro e w' ⟨rfl,rfl⟩))
   all_goals
    go_ret
    exact⟨aN (by rw[nR,HE.o,T.o];simp[*]),Gs⟩
def zhS(p v h a b c:Int)A ε rows w D row I(G:bt w A rows)(H:aO w D row)(F:row.length<=1048576)(s:Δ p v h rows):az 95 #[p,.agg (aA v h A rows ε),.agg #[.int .i64 5,a,b,c,.slice D row I]] w (dt w (nR p v h rows 5 a b c row)):=by
 have T:=s.n;have J:=s.h0;have O:=s.χ;have Gt:=zH F;clear s G H F;cases he:pB 5 a b c row with
 |false=>
  exact ZE
 |true=>
  exact ZF
def zdQ(p v D a b c:Int)A ε rows w F row an(H:bt w A rows)(ac:aO w F row)(I:row.length<=1048576)(s:Δ p v D rows):az 95 #[p,.agg (aA v D A rows ε),.agg #[.int .i64 6,a,b,c,.slice F row an]] w (dt w (nR p v D rows 6 a b c row)):=by
 have a2:=s.n;have ah:=s.v0;have am:=s.Â;have a1:=s.h0;have ad:=s.χ;have⟨S,U,Gt,T⟩:=gG s H I (SL:rows.length<=maxLen);clear s H ac I;cases he:pB 6 a b c row with
 |false=>
  exact ZE
 |true=>
  have HE:=zH he;clear he;cases a0:eU a 0 ((rows:Int)-1)
  .skip
   exact ZH
  .cases ab:eU b 0 (D-1)
   .skip
    exact ZH
   .obtain⟨Z,ap⟩:=dx.1 ab;go_enter gq,gx
    go_wp2;go_quiet ((go_at_call 92;exact bX (aX _ _ _ _)))
    go_wp2;go_quiet ((go_at_call 92;first|exact bX (aX _ _ _ _)|exact cX (aX _ _ _ _)))
    go_wp2_with (first|(go_at_call 92;refine(aX _ _ _ _).x ?_;rintro e w' ⟨rfl,rfl⟩)|(go_at_call 136;refine(Calls.bl (dB _ _ _ _ _ _ _ _ Gt.o) HE).x ?_;rintro e w1 ⟨rfl,FR⟩;have⟨Gd,⟨c0,c1,c2⟩,⟨d0,d1,d2,d3,d4⟩⟩:=fe FR;have Y:=zH (U.ext Gd);have Gs:=zH Gd;clear Gd FR))
    all_goals
     go_region_held3 (fun w'=>af w' w 0 (zI v)/\af w' w 1 (zI D)/\af w' w 2 (.slice A rows ε)/\af w' ((w:Nat)+1) 1 (zI a)/\af w' ((w:Nat)+1) 2 (zI b)) (first|exact⟨c0,c1,c2,d1,d2⟩|exact⟨ar h c0,ar h c1,ar h c2,ar h d1,ar h d2⟩)
      (first|(go_at_call 138;refine(yI _ _ _ _ _ _ _ (Y.ext ?_) Qu ah am ad Z Qu S.o.ι).x ?_;exact(al _ _).drew;rintro e a3 ⟨u,rfl,J,h⟩;obtain⟨ao,av,rfl,G,_,_⟩:=J.p)|(go_at_call 137;refine(zdY _ _ _ _ _ G (by simp[jL];exact T.o)).x ?_;rintro e w' ⟨rfl,rfl⟩))
     have O:=zH (aJ Gs ((al _ _).drew.t h));clear h J G;go_wp2
    all_goals
     go_ret
     exact⟨aN (by simp[nR,HE.o,jb, *]),O⟩
def zdR(p v D a b c:Int)A ε rows w T row ao(an:bt w A rows)(U:aO w T row)(ac:row.length<=1048576)(s:Δ p v D rows):az 95 #[p,.agg (aA v D A rows ε),.agg #[.int .i64 7,a,b,c,.slice T row ao]] w (dt w (nR p v D rows 7 a b c row)):=by
 have a5:=s.n;have J:=s.p2;have O:=s.p97;have a6:=s.v0;have a7:=s.Â;have a2:=s.h0;have a3:=s.χ;have⟨H,Gt,I⟩:=er U ac (SL:row.length<=maxLen);clear s an U ac;cases he:pB 7 a b c row with
 |false=>
  exact ZE
 |true=>
  have HE:=zH he;clear he;by_cases h:(row:Int)=v+D+1
  .cases am:eU b 0 D
   .have Z:((row:Int)==v+D+1)=true:=by simp[h]
    have G:=zH h;clear h;go_enter gq,gx
    go_wp2;go_quiet ((go_at_call 92;exact bX (aX _ _ _ _)))
    go_wp2;go_quiet ((go_at_call 92;first|exact bX (aX _ _ _ _)|exact cX (aX _ _ _ _)))
    go_wp2_with (first|(go_at_call 92;refine(aX _ _ _ _).x ?_;rintro e w' ⟨rfl,rfl⟩)|(go_at_call 136;refine(Calls.bl (dB _ _ _ _ _ _ _ _ Gt.o) HE).x ?_;rintro e w1 ⟨rfl,FR⟩;have⟨Gd,⟨c0,c1,c2⟩,⟨d0,d1,d2,d3,d4⟩⟩:=fe FR;have F:=zH (H.ext Gd);have Gs:=zH Gd;clear Gd FR)|(go_at_call 78;refine(sV _ _ _ _ _ F I J O).x ?_;rintro e w' ⟨rfl,rfl⟩))
    all_goals
     go_ret
     exact⟨aN (by simp[nR,HE.o,jb, *]),Gs⟩
   .obtain⟨ap,av⟩:=dx.1 am;have ab:(v+b).toNat<row.length:=Qu;have a4:v+b<row.length:=Qu;have⟨x,hx⟩:=aq ab;obtain⟨a0,o,rfl,Y⟩:=H.θ ab;have⟨ad,ah⟩:=bJ (Y _ _ hx) (Sr:row.getD (v+b).toNat 0=x);have Z:((row:Int)==v+D+1)=true:=by simp[h]
    have G:=zH h;clear h hx Y;go_enter gq,gx
    go_wp2;go_quiet ((go_at_call 92;exact bX (aX _ _ _ _)))
    go_wp2;go_quiet ((go_at_call 92;first|exact bX (aX _ _ _ _)|exact cX (aX _ _ _ _)))
    go_wp2_with (first|(go_at_call 92;refine(aX _ _ _ _).x ?_;rintro e w' ⟨rfl,rfl⟩)|(go_at_call 136;refine(Calls.bl (dB _ _ _ _ _ _ _ _ Gt.o) HE).x ?_;rintro e w1 ⟨rfl,FR⟩;have⟨Gd,⟨c0,c1,c2⟩,⟨d0,d1,d2,d3,d4⟩⟩:=fe FR;have F:=zH (H.ext Gd);have a1:=ar Gd ad;have Gs:=zH Gd;clear Gd FR)|(go_at_call 78;refine(sV _ _ _ _ _ F I J O).x ?_;rintro e w' ⟨rfl,rfl⟩))
    all_goals
     go_ret
     exact⟨aN (by rw[nR,HE.o,ah.o];simp[G.o,jb, *]<;>(intros;omega)),Gs⟩
  .have Z:((row:Int)==v+D+1)=false:=by simp[h]
   have G:=zH h;clear h;go_enter gq,gx
   go_wp2;go_quiet ((go_at_call 92;exact bX (aX _ _ _ _)))
   go_wp2;go_quiet ((go_at_call 92;first|exact bX (aX _ _ _ _)|exact cX (aX _ _ _ _)))
   go_wp2_with (first|(go_at_call 92;refine(aX _ _ _ _).x ?_;rintro e w' ⟨rfl,rfl⟩)|(go_at_call 136;refine(Calls.bl (dB _ _ _ _ _ _ _ _ Gt.o) HE).x ?_;rintro e w1 ⟨rfl,FR⟩;have⟨Gd,⟨c0,c1,c2⟩,⟨d0,d1,d2,d3,d4⟩⟩:=fe FR;have F:=zH (H.ext Gd);have Gs:=zH Gd;clear Gd FR)|(go_at_call 78;refine(sV _ _ _ _ _ F I J O).x ?_;rintro e w' ⟨rfl,rfl⟩))
   all_goals
    go_ret
    exact⟨aN (by simp[nR,HE.o,G.o, *]),Gs⟩
def zbQ(p v h a b c:Int)A ε rows w D row ao(G:bt w A rows)(ad:aO w D row)(I:row.length<=1048576)(s:Δ p v h rows):az 95 #[p,.agg (aA v h A rows ε),.agg #[.int .i64 8,a,b,c,.slice D row ao]] w (dt w (nR p v h rows 8 a b c row)):=by
 have a2:=s.n;have am:=s.v0;have an:=s.Â;have a1:=s.h0;have ah:=s.χ;have⟨S,Y,Gt,U⟩:=gG s G I (SL:rows.length<=maxLen);clear s G ad I;cases he:pB 8 a b c row with
 |false=>
  exact ZE
 |true=>
  have HE:=zH he;clear he;cases ac:eU b 0 (h-1)
  .skip
   exact ZB
  .obtain⟨ab,av⟩:=dx.1 ac;go_enter gq,gx
   go_wp2;go_quiet ((go_at_call 92;exact bX (aX _ _ _ _)))
   go_wp2;go_quiet ((go_at_call 92;first|exact bX (aX _ _ _ _)|exact cX (aX _ _ _ _)))
   go_wp2_with (first|(go_at_call 92;refine(aX _ _ _ _).x ?_;rintro e w' ⟨rfl,rfl⟩)|(go_at_call 136;refine(Calls.bl (dB _ _ _ _ _ _ _ _ Gt.o) HE).x ?_;rintro e w1 ⟨rfl,FR⟩;have⟨Gd,⟨c0,c1,c2⟩,⟨d0,d1,d2,d3,d4⟩⟩:=fe FR;have Z:=zH (Y.ext Gd);have Gs:=zH Gd;clear Gd FR)|(go_at_call 138;refine(yI _ _ _ _ _ _ _ Z Qu am an ah ab Qu S.o.ι).x ?_;rintro e a3 ⟨u,rfl,J,H⟩;obtain⟨ap,a0,rfl,F,_,_⟩:=J.p;have T:=zH F;have O:=zH (aJ Gs H);clear J F H)|(go_at_call 114;refine(nP _ _ _ _ _ _ T.o (by simp[jL];exact U)).x ?_;rintro e w' ⟨rfl,rfl⟩))
   all_goals
    go_ret
    exact⟨aN (by simp[nR,HE.o, *]),O⟩
def zbR(p v h a b c:Int)A ε rows w D row I(G:bt w A rows)(H:aO w D row)(F:row.length<=1048576)(s:Δ p v h rows):az 95 #[p,.agg (aA v h A rows ε),.agg #[.int .i64 9,a,b,c,.slice D row I]] w (dt w (nR p v h rows 9 a b c row)):=by
 have T:=s.n;have J:=s.h0;have O:=s.χ;have Gt:=zH F;clear s G H F;cases he:pB 9 a b c row with
 |false=>
  exact ZE
 |true=>
  exact ZF
def zdS p v h k a b c A ε rows w D row U(O:bt w A rows)(T:aO w D row)(I:row.length<=1048576)(s:Δ p v h rows)(h1:k≠1)(h2:k≠2)(h3:k≠3)(h4:k≠4)(h5:k≠5)(F:k≠6)(h7:k≠7)(G:k≠8)(H:k≠9):az 95 (j9 p (aA v h A rows ε) (jP k a b c D row U)) w (dt w (nR p v h rows k a b c row)):=by
 have a0:=s.n;have ap:=s.h0;have av:=s.χ;have Gt:=zH I;clear s O T I;have Y:(k==1)=false:=Rp;have Z:(k==2)=false:=Rk;have ab:(k==3)=false:=Ri;have ac:(k==4)=false:=Rh;have ad:(k==5)=false:=Rg;have ah:(k==6)=false:=by simpa using F
 have am:(k==7)=false:=Rm;have an:(k==8)=false:=by simpa using G
 have ao:(k==9)=false:=by simpa using H
 have J:=zH (by simp[nR, *]:nR p v h rows k a b c row=false);clear h1 h2 h3 h4 h5 F h7 G H;cases he:pB k a b c row with
 |false=>
  exact ZE
 |true=>
  have HE:=zH he;clear he;go_enter gq,gx
  go_wp2;go_quiet ((go_at_call 92;exact bX (aX _ _ _ _)))
  go_wp2;go_quiet ((go_at_call 92;first|exact bX (aX _ _ _ _)|exact cX (aX _ _ _ _)))
  go_wp2_with (first|(go_at_call 92;refine(aX _ _ _ _).x ?_;rintro e w' ⟨rfl,rfl⟩)|(go_at_call 136;refine(Calls.bl (dB _ _ _ _ _ _ _ _ Gt.o) HE).x ?_;rintro e w1 ⟨rfl,FR⟩;have⟨Gd,⟨c0,c1,c2⟩,⟨d0,d1,d2,d3,d4⟩⟩:=fe FR;have Gs:=zH Gd;clear Gd FR))
  all_goals
   go_ret
   exact⟨aN (by rw[J.o]),Gs⟩
def za1 p v h k a b c A ε rows w D row F(G:bt w A rows)(H:aO w D row)(I:row.length<=1048576)(s:Δ p v h rows):az 95 (j9 p (aA v h A rows ε) (jP k a b c D row F)) w (dt w (nR p v h rows k a b c row)):=by
 by_cases J:k=1
 .subst J;exact zfn p v h a b c A ε rows w D row F G H I s
 by_cases O:k=2
 .subst O;exact zdP p v h a b c A ε rows w D row F G H I s
 by_cases T:k=3
 .subst T;exact zhR p v h a b c A ε rows w D row F G H I s
 by_cases U:k=4
 .subst U;exact zfo p v h a b c A ε rows w D row F G H I s
 by_cases Y:k=5
 .subst Y;exact zhS p v h a b c A ε rows w D row F G H I s
 by_cases Z:k=6
 .subst Z;exact zdQ p v h a b c A ε rows w D row F G H I s
 by_cases ab:k=7
 .subst ab;exact zdR p v h a b c A ε rows w D row F G H I s
 by_cases ac:k=8
 .subst ac;exact zbQ p v h a b c A ε rows w D row F G H I s
 by_cases ad:k=9
 .subst ad;exact zbR p v h a b c A ε rows w D row F G H I s
 exact zdS p v h k a b c A ε rows w D row F G H I s J O T U Y Z ab ac ad
section
variable{M:aP}
structure PAt(p:Int)(N n ε:Nat)(A:ax)(M:aP)(w wr:aa)(c:Nat)(z:Nat×(List (List Int)×List (List Int))):Prop where
 c1:c<=n
 c2:z.1<=N
 el:pc p (n-c) c z=gY p n M (List.replicate N [])
 μ:∃us,bL wr w (.slice A N ε) z.2.1 us
 s1:eV p N n z.2.1
 s2:eV p N 0 z.2.2
 be:ag w wr
def sO{ε}{wr}(G:bL wr B (.slice A N ε) M us)(s:eV p N n M)(hi:i<N)(Y:d<n):∃g h c,A=some ⟨g,0,none⟩/\af wr g i (.slice (bH h) n c)/\af wr h d (zI (eM M i d))/\us[i]?=some (.slice (bH h) n c):=by obtain⟨r,hr⟩:=aq (by rw[s.1];exact hi:i<M.length);have O:=s.row r (aU hr);have⟨x,hx⟩:=aq (Qu:d<r.length);have J:eM M i d=x:=U4;obtain⟨g,T,c,rfl,D,H,_⟩:=G.at hr;obtain⟨h,U,F,I,_⟩:=G.vY hr hx;rw[D]at F;simp only[dW,ep]at F;obtain⟨rfl,_,rfl⟩:=F;rw[O]at H D;rw[J];exact⟨g,h,c,rfl,H,I,D⟩
def tz p M c6 fs N n w(hf:bV p=true)(d7:bt w c6 M)(s:eV p N n M)(hb:N<=1048576)(hn:n<=1048576):az 158 (eO p n c6 N fs) w (Ct (j5 p n M) w):=by
 have⟨p2,gR⟩:=cv hf;refine Oj fun Z My l2 l1 hZ HZ Mw H8 Im MA=>?_
 subst MA;have⟨e8,e3⟩:=bJ s hf;clear hZ My l1 s hf;go_enter func158,ntmps158
 go_wp2;go_loopw [7,21] (fun u i wr=>∃k:Nat,k<=M.length/\i=.int .i64 k/\aY wr w u (M.take k)/\ag w wr)
  (fun _ i _=>M.length-(intOf i).toNat)
 case atStart=>exact⟨0,aW _,rfl,aY.empty (rT _ _ _ _),al _ _⟩
 case round=>
  obtain⟨k,gi,rfl,G,FW⟩:=hrel;have cb:=zH G;clear G;by_cases a7:k<M.length
  .have⟨r,hr⟩:=aq a7;obtain⟨g4,o,rfl,J⟩:=(d7.ext FW).θ a7;obtain⟨g1,g7,hd,gc⟩:=J k r hr;obtain⟨e5,HT⟩:=bJ (show r.length<=1099511627776 by have:=Im r (aU hr);omega) (by rw[du,hr];rfl:M.take (k+1)=M.take k++[r]);have gw:=FW.size;have e6:=zH (QW:(M.take k).length+1<=1073741824);clear hr J d7;go_wp2_with (first|(go_at_call 70;refine(iR _ _ _ _ gc e5).x ?_;rintro e w' ⟨u2,rfl,ei,f5⟩;obtain⟨g2,c2,rfl,_⟩:=ei.p)|(at_builtin;refine m7 rfl _ _ rfl w wr _ _ _ _ _ cb f5 ei e6.o gw rfl rfl ?_;intro ht hv Ij Ik))
   exact YA
  .have G:=cb.o;rw[cZ Qu]at G;obtain⟨A,ε,rfl,_⟩:=G.p;have⟨dr,c8,JJ⟩:=er G FW (Bv G);clear G cb FW;go_wp2;clear gi a7;go_loopw [10,11] (fun u9 u11 wr=>∃(c:Nat) (z:Nat×(List (List Int)×List (List Int))),u9=.int .i64 (z.1:Nat)/\u11=.int .i64 c/\PAt p M n ε A M w wr c z)
    (fun _ u _=>n-(intOf u).toNat)
   case atStart=>exact⟨0,(0,(M,List.replicate M [])),rfl,rfl,⟨aW _,aW _,rfl,dr,e8,yH p M,c8⟩⟩
   case round=>
    obtain⟨c,⟨r,z1,z2⟩,rfl,rfl,bz⟩:=hrel;clear dr c8;have hc:=bz.c1;have gv:r<=M.length:=bz.c2;have HP:=zH bz;clear bz;by_cases J:c<n
    .by_cases hr:r<M.length
     .have b1:z1.length=M:=HP.s1.1;have⟨f1,f2,f3,f4⟩:=Bk z1 c r Qu;have dc:=zH (zaQ (p:=p) (z2:=z2) J hr b1);have⟨K,hK⟩:=aR (py z1 c r);rw[<-hK]at f1 f2 f3 f4;have dl:=zH hK;rw[b1]at f2 f4;have⟨c7,eB,bq⟩:=er f3 f4 b1;clear f3 f4 hK b1;by_cases be:K=M.length
      .go_wp2;go_loopw [12] (fun u c3=>∃k:Nat,r<=k/\k<=M.length/\u=.int .i64 k/\c3=wr) (fun u _=>M.length-(intOf u).toNat)
       case atStart=>exact⟨r,ae _,Qu,rfl,rfl⟩
       case round=>
        obtain⟨k,cz,gn,rfl,rfl⟩:=hrel;by_cases a7:k<M.length
        .obtain⟨us,G⟩:=HP.μ;obtain⟨g,ab,fx,rfl,ce,a4,-⟩:=sO G HP.s1 a7 J;rw[c7.o k cz Qu]at a4;clear G;have dq:=zH be;clear be;exact Yi
        .have⟨dq,gs⟩:=bJ be (Qu:k=M.length);have hj:(M:Int)<=k:=Qu;obtain rfl:k=M.length:=gs.o;clear be;go_wp2;go_roundw
         case rel=>exact⟨c+1,(r,z1,z2),rfl,Qx,⟨Qu,gv,by have:=HP.el;rw[dc.o,<-dl.o,ak dq.o]at this;exact this,HP.μ,HP.s1,HP.s2,HP.be⟩⟩
         case measure=>simp[intOf];omega
      .have a5:K<M.length:=Qu;have eo:=eB a5;obtain⟨es,c4⟩:=HP.s1.2.2 K c a5 J;have⟨x,cV⟩:=aR (eM z1 K c);rw[<-cV]at eo es c4;have d5:=zH cV;have hp:(x==0)=false:=by simpa using eo
       clear cV;go_wp2;go_loopw [12] (fun u c3=>∃k:Nat,r<=k/\k<=K/\u=.int .i64 k/\c3=wr) (fun u _=>K-(intOf u).toNat)
       case atStart=>exact⟨r,ae _,Qu,rfl,rfl⟩
       case round=>
        obtain⟨k,cz,gn,rfl,rfl⟩:=hrel;obtain⟨us,G⟩:=HP.μ;by_cases a7:k<K
        .obtain⟨g,ab,fx,rfl,ce,a4,-⟩:=sO G HP.s1 (Qu:k<M.length) J;rw[c7.o k cz Qu]at a4;clear G;exact Yi
        .obtain rfl:k=K:=Qu;obtain⟨hq,cA⟩:=aq (show k<z1.length by have:=bq.o;omega);obtain⟨hs,cB⟩:=aq (show r<z1.length by have:=bq.o;omega);obtain⟨g,bd,ba,rfl,ce,a4,cO⟩:=sO G HP.s1 a5 J;have⟨bc,f0,fo,Y,fy,fz,cR⟩:=sO G HP.s1 hr J;cases Y
         rw[<-d5.o]at a4;have b9:=bq.o;have b2:wr.ownsRow w 26 1 (.slice (bH g) M ε) M us:=by have:=G.η;dsimp only at this;rw[b9]at this;exact this
         have cI:=b2.j r (.slice (bH bd) n ba);have ey:(wr.setCell ⟨g,r,none⟩ (.slice (bH bd) n ba)).cell? ⟨g,k,none⟩=some (.slice (bH bd) n ba):=by
          rw[cI.1.C k Qu];by_cases e:r=k
          .subst e;rw[gl (bG.1 cR).1]
          .rw[gI e,cO]
         have ez:(wr.setCell ⟨g,r,none⟩ (.slice (bH bd) n ba)).frozen? ⟨g,k,none⟩=false:=cI.1.g k;have g0:wr.frozen? ⟨g,r,none⟩=false:=b2.g r;have eg:=G.J b9.q cR cO cB cA;obtain⟨d4,JZ⟩:=bJ (by unfold Bm;rw[getD_some cA,getD_some cB];exact eg:bL _ w.heap.size _ (Bm z1 r k) _) (HP.be);have d8:(w:Nat)<=g:=(bS b2 g rfl).1;have ee:eM (Bm z1 r k) r c=x:=by rw[vD HP.s1 hr a5,m8];exact d5.q
         obtain⟨e4,ca,ap,d1⟩:=gG (show py z1 c r=k from dl.q) ee (wu HP.s1 hr a5) (wu HP.s2 hr a5);clear b2 cI eg cA cB cO cR G ee b9;go_upto_region 17 with(fail)
         clear g0 ce a4 fy fz;have⟨fb,av⟩:=aR (wr.setCell ⟨g,r,none⟩ (.slice (bH bd) n ba));rw[<-av]at ey ez ⊢;have e9:=zH av;clear av;go_upto_region 18 with(fail)
         clear ey ez;have⟨fc,b0⟩:=aR (fb.setCell ⟨g,k,none⟩ (.slice (bH f0) n fo));rw[<-b0];have av:=e9.o;obtain⟨bu,c9⟩:=bJ (by have:=d4.o;rw[<-av,<-b0]at this;exact this) (by rw[b0,av];exact((JZ.setCell (p:=⟨g,r,none⟩) d8 _).setCell (p:=⟨g,k,none⟩) d8 _):ag w fc);clear av b0 d4 JZ;have⟨a3,cn⟩:=aR (Bm z1 r k);have⟨d6,co⟩:=aR (Bm z2 r k);have b8:=zH (by unfold sx;dsimp only;rw[bq.o,ca.o,cn,co]:sx p r k c (z1,z2)=iu p r c M (Μ p (lu p x) a3 r,Μ p (lu p x) d6 r));rw[<-cn]at bu ca ap;rw[<-co]at d1;clear cn co;have⟨I,ci⟩:=aR (lu p x);have⟨gA,gB,gC⟩:=Ez e3 (Qu:1<=x) c4;have fa:=zH (fun w=>(by rw[ci];exact zgD p x w p2 gR es c4:az 202 (bC p x) w fun e w'=>e=.returned (zI I)/\w=w'));rw[<-ci]at gB gC b8;clear ci gA;obtain⟨am,b4⟩:=aq (show r<a3.length by have:=ap.1;omega);have eb:=ap.row am (aU b4);have e7:=zH (ap.el am (aU b4));obtain⟨bc,g9,g6,Y,ch,bb,-⟩:=sO bu ap hr J;cases Y
         rw[ca.o]at bb;have⟨dT,bv⟩:=bJ b4 eb;clear b4 eb;go_wp2_with ((go_at_call 202;refine(fa.o _).x ?_;rintro e w' ⟨rfl,rfl⟩))
         clear ch bb;go_loopw [92] (fun u ao=>∃j:Nat,j<=n/\u=.int .i64 j/\(∃us,bL ao w (.slice (bH g) M ε) (a3.set r (ma p I am j)) us)/\ag w ao) (fun u _=>n-(intOf u).toNat)
         case atStart=>exact⟨0,aW _,rfl,⟨_,by rw[tJ,qH dT];exact bu⟩,c9⟩
         case round=>
          obtain⟨j,gd,rfl,⟨c0,H⟩,a0⟩:=hrel;clear bu c9;by_cases hk:j<n
          .have bi:(ma p I am j).length=n:=by have:=bv.o;simp[ma];omega
           have a1:(a3.set r (ma p I am j))[r]?=some (ma p I am j):=gl (by have:=ap.1;omega);obtain⟨y,ac⟩:=aq (show j<am.length by have:=bv.o;omega);have bg:(ma p I am j)[j]?=some y:=by rw[wG _ _ _ _ (by have:=bv.o;omega),ac]
           obtain⟨bc,eA,cc,Y,bo,cp,_⟩:=H.at a1;cases Y
           obtain⟨ab,fd,a2,f7,f8,ct,f9,ga,bn⟩:=H.vY a1 bg;rw[bo]at a2;simp only[dW,ep]at a2;obtain⟨rfl,-,rfl⟩:=a2;rw[bi]at cp;obtain⟨c5,ev⟩:=e7 y (aU ac);obtain⟨an,cW⟩:=bn (y*I%p);rw[List.set_set,wH _ _ _ _ _ ac]at an;have⟨S1,S2⟩:=bJ an (a0.setCell (p:=⟨ab,j,none⟩) ct (zI (y*I%p)));clear bi a1 ac bg bo bn an cW H;go_wp2_with fail
           refine cU (S:=fun W=>af W g r (.slice (bH ab) n cc)/\af W ab j (zI y)) 16 QT QD (fun hHeld=>?_);refine Qj ?_;refine OU ?_;refine MU fun K hK=>?_
           refine(wO p y I _ Qu Qu c5 Qu Qu Qu).x ?_;rintro e w' ⟨rfl,rfl⟩;go_simp;refine hK.out _ _ (fun _=>hHeld) (fun hHeld=>?_);refine Mr fun hHeld=>?_;clear K hK
           refine cm 15 fun K hK=>?_
           go_simp;refine hK.out _ _ (fun _=>hHeld) (fun hHeld=>?_);refine Mr fun hHeld=>?_;clear K hK
           refine cm 16 fun K hK=>?_
           exact Zi
          .have a9:=zH (show bL wr w (.slice (bH g) M ε) (Μ p I a3 r) c0 from by rw[wF _ _ _ _ (by have:=bv.o;omega)]at H;unfold Μ;rw[getD_some dT];exact H)
           have⟨bp,d2,d3⟩:=er a0 (wv (f:=I) p2 ap hr) (wv (f:=I) p2 d1 hr);have cr:=b8.o;have⟨D,cj⟩:=aR (Μ p I a3 r);have⟨F,ck⟩:=aR (Μ p I d6 r);rw[<-cj,<-ck]at cr;rw[<-cj]at a9 d2;rw[<-ck]at d3;have e0:=zH cr;clear H a0 cr cj ck b8;go_wp2;go_loopw [114] (fun u ao=>∃i:Nat,i<=M.length/\u=.int .i64 i/\(∃us,bL ao w (.slice (bH g) M ε) (iu p r c i (D,F)).1 us)/\ag w ao) (fun u _=>M.length-(intOf u).toNat)
           case atStart=>exact⟨0,aW _,rfl,⟨_,a9⟩,bp⟩
           case round=>
            obtain⟨i,hi,rfl,⟨hu,ad⟩,a6⟩:=hrel;clear a9 bp;have cq:=Eo (r:=r) (c:=c) (q:=(D,F)) p2 d2 d3 hr J i hi;have⟨U,db⟩:=bJ cq.s1 cq.s2;clear cq;by_cases d9:i<M.length
            .have ah:iu p r c (i+1) (D,F)=if i≠r/\eM (iu p r c i (D,F)).1 i c≠0 then
               ((iu p r c i (D,F)).1.set i (dw p (-(eM (iu p r c i (D,F)).1 i c)) ((iu p r c i (D,F)).1.getD i []) ((iu p r c i (D,F)).1.getD r [])),
                (iu p r c i (D,F)).2.set i (dw p (-(eM (iu p r c i (D,F)).1 i c)) ((iu p r c i (D,F)).2.getD i []) ((iu p r c i (D,F)).2.getD r [])))
               else iu p r c i (D,F):=rfl
             have⟨q,ea⟩:=aR (iu p r c i (D,F));rw[<-ea]at ah ad U db;clear ea;by_cases cu:i=r
             .obtain⟨Gj,HOI,HBI⟩:=er (show iu p r c (i+1) (D,F)=q by rw[ah,aj (fun h=>h.1 cu)]) ad a6;clear ah ad a6;exact YE
             .have⟨v,ek⟩:=aR (eM q.1 i c);obtain⟨bc,ha,g8,Y,ch,bb,-⟩:=sO ad U d9 J;cases Y
              obtain⟨v1,v2⟩:=U.2.2 i c d9 J;rw[<-ek]at bb v1 v2 ah;clear ek;have hh:((i:Int)==(r:Int))=false:=QW;have⟨HOI,HBI⟩:=bJ ad a6;clear ad a6;by_cases b7:v=0
              .have Gj:=zH (show iu p r c (i+1) (D,F)=q by rw[ah,aj (fun h=>h.2 b7)]);subst b7;clear ah;exact YE
              .have Gj:=zH (by rw[ah,ak ⟨cu,b7⟩]:iu p r c (i+1) (D,F)=(q.1.set i (dw p (-v) (q.1.getD i []) (q.1.getD r [])),q.2.set i (dw p (-v) (q.2.getD i []) (q.2.getD r []))));have hm:(v==0)=false:=by simpa using b7
               clear ah;go_wp2;clear ch bb;obtain⟨T,b3⟩:=aq (show i<q.1.length by have:=U.1;omega);obtain⟨O,b5⟩:=aq (show r<q.1.length by have:=U.1;omega);have⟨dO,d0,br,a8,e1,e2⟩:=ny b3 b5 (U.row T (aU b3)) (U.row O (aU b5)) (U.el T (aU b3)) (U.el O (aU b5));clear b3 b5;go_loopw [142] (fun u ao=>∃j:Nat,j<=n/\u=.int .i64 j/\(∃us,bL ao w (.slice (bH g) M ε) (q.1.set i (l_ p (-v) T O j)) us)/\ag w ao) (fun u _=>n-(intOf u).toNat)
               case atStart=>exact⟨0,aW _,rfl,⟨_,by rw[tG,qH dO];exact HOI⟩,HBI⟩
               case round=>
                obtain⟨j,gd,rfl,⟨c0,H⟩,a0⟩:=hrel;clear HOI HBI;have bh:T.length=O:=by rw[br.o,a8.o]
                by_cases hl:j<n
                .have bi:(l_ p (-v) T O j).length=n:=by rw[zhz _ _ _ _ _ bh (by have:=br.o;omega)];exact br
                 have a1:(q.1.set i (l_ p (-v) T O j))[i]?=some (l_ p (-v) T O j):=gl (by have:=U.1;omega);have cF:(q.1.set i (l_ p (-v) T O j))[r]?=some O:=by rw[gI cu];exact d0
                 obtain⟨y,ac⟩:=aq (show j<T.length by have:=br.o;omega);obtain⟨t,b6⟩:=aq (show j<O.length by have:=a8.o;omega);have bg:(l_ p (-v) T O j)[j]?=some y:=by rw[wC _ _ _ _ _ (by have:=a8.o;omega) bh,ac]
                 obtain⟨bc,eA,cc,Y,bo,cp,_⟩:=H.at a1;cases Y
                 obtain⟨bc,g3,fl,Y,ej,f6,_⟩:=H.at cF;cases Y
                 obtain⟨ab,fd,a2,f7,f8,ct,f9,ga,bn⟩:=H.vY a1 bg;rw[bo]at a2;simp only[dW,ep]at a2;obtain⟨rfl,-,rfl⟩:=a2;obtain⟨gr,g5,cK,hg,_⟩:=H.vY cF b6;rw[ej]at cK;simp only[dW,ep]at cK;obtain⟨rfl,-,rfl⟩:=cK;rw[bi]at cp;rw[a8.o]at f6;obtain⟨c5,ev⟩:=e1 y (aU ac);obtain⟨t1,t2⟩:=e2 t (aU b6);obtain⟨an,cW⟩:=bn ((y+p-v*t)%p);rw[List.set_set]at an;have em:(y+p-v*t)%p=(y + -v*t)%p:=by rw[show y+p-v*t=(y + -v*t)+p*1 by rw[Int.neg_mul];omega,ĥ]
                 rw[show(l_ p (-v) T O j).set j ((y+p-v*t)%p)=l_ p (-v) T O (j+1) by rw[em];exact wD _ _ _ _ _ _ _ ac b6]at an;have⟨S1,S2⟩:=bJ an (a0.setCell (p:=⟨ab,j,none⟩) ct (zI ((y+p-v*t)%p)));have gK:=gV (v*t) (Qu:p≠0);have gL:=gW (v*t) (Qu:0<p);clear bi a1 cF ac b6 bg bo ej bn an cW H em bh;go_wp2_with fail
                 refine cU (S:=fun W=>af W g i (.slice (bH ab) n cc)/\af W g r (.slice (bH gr) n fl)/\af W ab j (zI y)/\af W gr j (zI t)) 25 QT QD (fun hHeld=>?_);refine Qj ?_;refine OU ?_;refine aM 14 ?_;refine aM 15 ?_;refine aM 16 ?_;refine aM 17 ?_;refine aM 18 ?_;refine aM 19 ?_;refine aM 20 ?_;refine aM 21 ?_;refine cm 22 fun K hK=>?_
                 go_simp;refine(wO p v t _ Qu Qu v1 Qu t1 Qu).x ?_;rintro e w' ⟨rfl,rfl⟩;go_simp;refine hK.out _ _ (fun _=>hHeld) (fun hHeld=>?_);refine Mr fun hHeld=>?_;clear K hK
                 refine cm 23 fun K hK=>?_
                 go_simp;refine(zg5 p y (v*t%p) _ Qu Qu c5 ev gK gL).x ?_;rintro e w' ⟨rfl,rfl⟩;go_simp;refine hK.out _ _ (fun _=>hHeld) (fun hHeld=>?_);refine Mr fun hHeld=>?_;clear K hK
                 refine cm 24 fun K hK=>?_
                 go_simp;refine hK.out _ _ (fun _=>hHeld) (fun hHeld=>?_);refine Mr fun hHeld=>?_;clear K hK
                 refine cm 25 fun K hK=>?_
                 exact Zi
                .have a9:=zH (show bL wr w (.slice (bH g) M ε) (iu p r c (i+1) (D,F)).1 c0 from by rw[wB _ _ _ _ bh _ (by have:=a8.o;omega)]at H;rw[Gj.o,getD_some dO,getD_some d0];exact H)
                 have bp:=zH a0;clear H a0 bh;go_wp2;go_roundw
                 case rel=>exact⟨i+1,Qu,Qx,⟨_,a9⟩,bp⟩
                 case measure=>simp[intOf];omega
            .have⟨HOI,HBI,gb⟩:=er ad a6 (Qu:i=M.length);clear ad a6;go_wp2;go_roundw
             case rel=>exact⟨c+1,(r+1,iu p r c i (D,F)),Qx,Qx,⟨Qu,Qu,by have:=HP.el;rw[dc.o,e4.o,aj be,e0.o,show iu p r c M (D,F)=iu p r c i (D,F) by rw[gb.o]]at this;exact this,⟨_,HOI⟩,U,db,HBI⟩⟩
             case measure=>simp[intOf];omega
     .have he:=zH (show gY p n M (List.replicate M [])=(r,z1,z2) by rw[<-HP.o.el];obtain⟨m,gu⟩:∃m,n-c=m+1:=⟨n-c-1,Qu⟩;rw[gu,pc];dsimp only;rw[aj (by rw[HP.o.s1.1];exact hr)])
      exact ZI
    .have he:=zH (show gY p n M (List.replicate M [])=(r,z1,z2) by rw[<-HP.o.el,show n-c=0 by omega];rfl);exact ZI
end
end Go.Proofs.YtpieilkmmiopfaaGreatDoor
