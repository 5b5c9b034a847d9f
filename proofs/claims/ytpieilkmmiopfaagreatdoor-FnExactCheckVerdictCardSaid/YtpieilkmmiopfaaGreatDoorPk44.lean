/- Parts of the walks. Conditions: as stated with each. -/
import Derived.Test.YtpieilkmmiopfaaGreatDoorPk36
import Derived.Test.YtpieilkmmiopfaaGreatDoorPk40
import Derived.Test.YtpieilkmmiopfaaGreatDoorPk43
namespace Go.Proofs.YtpieilkmmiopfaaGreatDoor
open Go.RowKit Tryz
set_option linter.all false
set_option maxHeartbeats 8000000
set_option maxRecDepth 100000
variable{J n:Nat}{R:Rl}{a:Act}{p:Int}{w:aa}{xs:aL}


def qA A D ε F xs ys w(h:aO w A xs)(h2:aO w D ys)(G:xs.length<=maxLen)(H:ys.length<=maxLen):az 81 (mv A xs ε D ys F) w (dt w (decide (xs=ys))):=by
 unfold maxLen at G H;by_cases hn:xs.length=ys
 .refine N7 fun hb Hn=>?_;clear hn
  go_enter func81,ntmps81
  exact ZZ
 .have hb:((xs:Int)!=(ys:Int))=true:=QW;go_enter func81,ntmps81
  exact WY
def vL A D ε F xs ys w(h:aO w A xs)(h2:aO w D ys)(G:xs.length<=maxLen)(H:ys.length<=maxLen):az 148 (mv A xs ε D ys F) w (dt w (decide (xs=ys))):=by
 unfold maxLen at G H;by_cases hn:xs.length=ys
 .refine N7 fun hb Hn=>?_
  go_enter func148,ntmps148
  exact ZZ
 .have hb:((xs:Int)!=(ys:Int))=true:=QW;go_enter func148,ntmps148
  exact WY
def zfl A I ε a9 xs ys w(ad:bt w A xs)(ah:bt w I ys)(bc:xs.length<=maxLen)(bd:ys.length<=maxLen)(a6:∀r∈xs,r.length<=maxLen)(a7:∀r∈ys,r.length<=maxLen):az 97 (mv A xs ε I ys a9) w (dt w (decide (xs=ys))):=by
 unfold maxLen at bc bd;by_cases hn:xs.length=ys
 .refine N7 fun hb Hn=>?_;clear hn
  go_enter func97,ntmps97
  go_wp2;go_loopw [13] (fun i wr=>∃k:Nat,k<=xs.length/\i=.int .i64 k/\xs.take k=ys.take k/\ag w wr) (fun i _=>xs.length-(intOf i).toNat)
  case atStart=>exact⟨0,aW _,rfl,Qt,al _ _⟩
  case round=>
   obtain⟨k,bg,rfl,am,FW⟩:=hrel;have Gi:=zH am;clear am;by_cases a4:k<xs.length
   .have a5:k<ys.length:=Sh;have⟨x,D⟩:=aq a4;have⟨y,F⟩:=aq a5;obtain⟨b,o,rfl,an⟩:=(ad.ext FW).θ a4;obtain⟨a8,be,rfl,ao⟩:=(ah.ext FW).θ a5;obtain⟨J,ba,ap,a0⟩:=an k x D;obtain⟨O,bb,av,a2⟩:=ao k y F;have c1:∀W:κ wr,af W.W b (o+k) (.slice J x ba):=fun W=>W.cell ap
    have c2:∀W:κ wr,af W.W a8 (be+k) (.slice O y bb):=fun W=>W.cell av
    have a1:∀W:κ wr,aO W.W J x:=fun W=>a0.ext W.ok
    have a3:∀W:κ wr,aO W.W O y:=fun W=>a2.ext W.ok
    have⟨T,U,ab,ac,Y,Z⟩:=ny a1 a3 (a6 x (aU D)) (a7 y (aU F)) D F;clear D F an ao ad ah a6 a7 a0 a2 a1 a3 ap av;by_cases h:x=y
    .have⟨G,H⟩:=bJ (fT h) h;clear h;go_wp2;refine bU QT QT ?_
     repeat (go_big_quiet_step ((go_at_call 81;exact Calls.fh (Calls.bl (qA _ _ _ _ _ _ _ (T.o _) (U.o _) ab ac) G))))
     refine Py fun W=>?_
     go_roundw
     case rel=>exact⟨k+1,Qu,Qx,m_ Gi Y (by rw[H.o];exact Z),aJ FW W.ok⟩
     case measure=>simp[intOf];omega
    .have⟨G,H⟩:=bJ (fR h) h;clear h;go_wp2;refine bU QT QT ?_
     repeat (go_big_quiet_step ((go_at_call 81;exact Calls.fh (Calls.bl (qA _ _ _ _ _ _ _ (T.o _) (U.o _) ab ac) G))))
     refine Py fun W=>?_
     go_ret
     exact⟨aN (fR (zd5 Y Z H)).q,aJ FW W.ok⟩
   .exact XI
 .have hb:((xs:Int)!=(ys:Int))=true:=QW;go_enter func97,ntmps97
  exact WY
def FI A O ε a5 xs ys w(ah:bt w A xs)(am:bt w O ys)(a6:xs.length<=maxLen)(a7:ys.length<=maxLen)(a3:∀r∈xs,r.length<=maxLen)(a4:∀r∈ys,r.length<=maxLen):az 147 #[.slice A xs ε,.slice O ys a5,.func (.func 148) #[] #[]] w (dt w (decide (xs=ys))):=by
 unfold maxLen at a6 a7;by_cases hn:xs.length=ys
 .refine N7 fun hb Hn=>?_;clear hn
  go_enter func147,ntmps147
  go_wp2;go_loopw [17] (fun i wr=>∃k:Nat,k<=xs.length/\i=.int .i64 k/\xs.take k=ys.take k/\ag w wr) (fun i _=>xs.length-(intOf i).toNat)
  case atStart=>exact⟨0,aW _,rfl,Qt,al _ _⟩
  case round=>
   obtain⟨k,bh,rfl,an,FW⟩:=hrel;have Gi:=zH an;clear an;by_cases a1:k<xs.length
   .have a2:k<ys.length:=Sh;have⟨x,F⟩:=aq a1;have⟨y,G⟩:=aq a2;obtain⟨b,o,rfl,ao⟩:=(ah.ext FW).θ a1;obtain⟨bb,bi,rfl,ap⟩:=(am.ext FW).θ a2;obtain⟨a9,bc,be,av⟩:=ao k x F;obtain⟨ba,bd,bg,a0⟩:=ap k y G;have⟨U,Y,ac,ad,Z,ab,T⟩:=zH7 av a0 (a3 x (aU F)) (a4 y (aU G)) F G FW;clear F G ao ap ah am a3 a4 av a0 FW;by_cases h:x=y
    .have⟨H,J⟩:=bJ (fT h) h;clear h;go_wp2_with (go_at_call 148;refine(Calls.bl (vL _ _ _ _ x y _ U Y ac ad) H).x ?_;rintro e a8 ⟨rfl,D⟩;have I:=zH (aJ T.o D);clear D)
     go_roundw
     case rel=>exact⟨k+1,Qu,Qx,m_ Gi Z (by rw[J.o];exact ab),I⟩
     case measure=>simp[intOf];omega
    .have⟨H,J⟩:=bJ (fR h) h;clear h;go_wp2_with (go_at_call 148;refine(Calls.bl (vL _ _ _ _ x y _ U Y ac ad) H).x ?_;rintro e a8 ⟨rfl,D⟩;have I:=zH (aJ T.o D);clear D)
     go_ret
     exact⟨aN (fR (zd5 Z ab J.o)).q,I⟩
   .exact XI
 .have hb:((xs:Int)!=(ys:Int))=true:=QW;go_enter func147,ntmps147
  exact WY
def zbP A h ε G xs ys w(H:bt w A xs)(I:bt w h ys)(J:xs.length<=maxLen)(O:ys.length<=maxLen)(T:∀r∈xs,r.length<=maxLen)(U:∀r∈ys,r.length<=maxLen):az 102 (mv A xs ε h ys G) w (dt w (decide (xs=ys))):=by
 go_enter func102,ntmps102
 go_wp2_with (go_at_call 147;refine(FI _ _ _ _ xs ys _ H I J O T U).x ?_;rintro e Y ⟨rfl,D⟩;have F:=zH D;clear D)
 go_ret
 exact⟨rfl,F⟩
def qI(a b:Sy):Bool:=decide (a.v=b.v)&&(decide (a.h=b.h)&&decide (a.rows=b.rows))
def BG a b A D ε G w(J:bt w A a.rows)(O:bt w D b.rows)(ab:a.rows.length<=maxLen)(ac:b.rows.length<=maxLen)(U:∀r∈a.rows,r.length<=maxLen)(Y:∀r∈b.rows,r.length<=maxLen):az 69 (iV (da a A ε) (da b D G)) w (dt w (qI a b)):=by
 have F:=((al w w).alloc Qt (.cells (da a A ε) 57)).alloc Qt (.cells (da b D G) 57);have⟨HB,I⟩:=bJ F (zbP A D ε G a.rows b.rows _ (J.ext F) (O.ext F) ab ac U Y);clear F J O U Y;by_cases hv:a.v=b.v
 .have ad:(a.v==b.v)=true:=QK;have HV:=zH (fT hv);clear hv;by_cases h:a.h=b.h
  .have Z:(a.h==b.h)=true:=by simp[h]
   have HH:=zH (fT h);clear h;have⟨q,H⟩:=aR (decide (a.rows=b.rows));rw[<-H]at I;have HQ:=zH H;clear H;go_enter func69,ntmps69
   go_wp2_with (go_at_call 102;refine I.x ?_;rintro e ah ⟨rfl,T⟩;have FV:=zH (aJ HB T);clear T)
   exact WK
  .have Z:(a.h==b.h)=false:=by simp[h]
   have HH:=zH (fR h);clear h;go_enter func69,ntmps69
   exact WG
 .have ad:(a.v==b.v)=false:=QK;have HV:=zH (fR hv);clear hv;go_enter func69,ntmps69
  exact Wv
def zfm a b A D ε G w(J:bt w A a.rows)(O:bt w D b.rows)(ab:a.rows.length<=maxLen)(ac:b.rows.length<=maxLen)(U:∀r∈a.rows,r.length<=maxLen)(Y:∀r∈b.rows,r.length<=maxLen):az 61 (iV (da a A ε) (da b D G)) w (dt w (qI a b)):=by
 have F:=((al w w).alloc Qt (.cells (da a A ε) 57)).alloc Qt (.cells (da b D G) 57);have⟨HB,I⟩:=bJ F (zfl A D ε G a.rows b.rows _ (J.ext F) (O.ext F) ab ac U Y);clear F J O U Y;by_cases hv:a.v=b.v
 .have ad:(a.v==b.v)=true:=QK;have HV:=zH (fT hv);clear hv;by_cases h:a.h=b.h
  .have Z:(a.h==b.h)=true:=by simp[h]
   have HH:=zH (fT h);clear h;have⟨q,H⟩:=aR (decide (a.rows=b.rows));rw[<-H]at I;have HQ:=zH H;clear H;go_enter func61,ntmps61
   go_wp2_with (go_at_call 97;refine I.x ?_;rintro e ah ⟨rfl,T⟩;have FV:=zH (aJ HB T);clear T)
   exact WK
  .have Z:(a.h==b.h)=false:=by simp[h]
   have HH:=zH (fR h);clear h;go_enter func61,ntmps61
   exact WG
 .have ad:(a.v==b.v)=false:=QK;have HV:=zH (fR hv);clear hv;go_enter func61,ntmps61
  exact Wv
def Ó(p:Int)(a:Sy)(xs:List j8)(b:Sy):Bool:=decide (eL p a xs=xs.length)&&qI (iU p a xs xs) b
def za2 p(a:Sy)A ε xs O a5 b A2 cap2 w(ad:dZ w)(ah:bt w A a.rows)(an:iS w O xs)(am:bt w A2 b.rows)(I:a.Ok p)(bh:xs.length<=3000)(a2:∀x∈xs,x.row.length<=1048576)(a0:b.rows.length<=1048576)(a1:∀r∈b.rows,r.length<=1048576):az 39 #[p,.agg (da a A ε),.slice O xs a5,.agg (da b A2 cap2)] w (dt w (Ó p a xs b)):=by
 refine Om fun hB HB Kb=>?_
 have⟨a9,Z,bb,a7,a8,OZ⟩:=ny Kb (zkL p a A ε xs _ O a5 (ad.ext hB) (ah.ext hB) (an.ext hB) I bh a2) am a0 a1 (fun h=>(vP (xs:=xs) I (i:=xs.length) h).β);clear hB Kb ad ah an am a2 a0 a1;have av:=pk p xs a;by_cases T:eL p a xs<xs.length
 .obtain⟨G,HL⟩:=bJ (show ∀W e w',zjH p a xs W e w'->e=.returned (.tuple (jy bx (eL p a xs:Nat)))/\ag W w' from fun W e w' h=>⟨h.1 T,h.2.2⟩) (by unfold Ó;rw[fR Qu];rfl:Ó p a xs b=false);obtain⟨f,ap⟩:∃f:Nat,f=eL p a xs:=⟨_,rfl⟩;rw[<-ap]at G;clear ap T av OZ I;go_enter func39,ntmps39
  go_wp2_with (go_at_call 68;refine Z.x ?_;rintro e J hr;obtain⟨rfl,D⟩:=G.o _ _ _ hr;have F:=zH (aJ HB D);clear D hr)
  go_ret
  exact⟨aN HL.q,F.alloc F.size _⟩
 .have⟨t,ht⟩:=aR (iU p a xs xs);have G:=zH (show ∀W e w',zjH p a xs W e w'->∃(A2:ax) (c:Nat),e=.returned (.tuple (jy (da t A2 c) (-1)))/\aY w' W.heap.size (.slice A2 t.rows c) t.rows/\ag W w' from fun W e w' h=>by obtain⟨A2,c2,be,bg⟩:=h.2.1 Qu;rw[ht];exact⟨_,_,be,bg,h.2.2⟩)
  refine Nq fun OX HL H5 Jd=>?_
  clear T av ht OZ I OX;go_enter func39,ntmps39
  go_upto_region 2 with(go_at_call 68;refine Z.x ?_;rintro e J hr;obtain⟨U,ac,rfl,a4,D⟩:=G.o _ _ _ hr;have F:=zH (aJ HB D);have ba:=zH (ai a9 D);have bc:=zH (CG a4);clear D hr a4)
  have⟨ab,OY⟩:=aR (J.alloc (.cells (da t U ac) 57));rw[<-OY];have H:ag J ab:=UH;have a3:bA ab J (da t U ac) 57:=by rw[OY];exact aH _ _ rfl
  have⟨d0,d1,d2⟩:=aD a3;have⟨bi,bn,bo⟩:=aD (ai ba H);have⟨Y,bd⟩:=bJ (aJ F H) (bc.ext H);clear H a3 OY;go_wp2_with (go_at_call 69;refine(BG t b _ _ _ _ _ bd (bb.ext Y) H5 (oe a7) Jd (fun r hr=>oe (a8 r hr))).x ?_;rintro e bp ⟨rfl,ao⟩;have a6:=zH (aJ Y ao);clear ao)
  go_ret
  exact⟨aN HL.q,a6⟩
def zO p(a:Sy)A ε xs Y a7 b A2 cap2 w(am:bt w A a.rows)(ao:iS w Y xs)(an:bt w A2 b.rows)(J:a.Ok p)(b2:xs.length<=3000)(a4:∀x∈xs,x.row.length<=1048576)(a2:b.rows.length<=1048576)(a3:∀r∈b.rows,r.length<=1048576):az 36 #[p,.agg (da a A ε),.slice Y xs a7,.agg (da b A2 cap2)] w (dt w (Ó p a xs b)):=by
 refine Om fun hB HB Kb=>?_
 have⟨bd,ah,be,bb,bc,OZ⟩:=ny Kb (zhH p a A ε xs _ Y a7 (am.ext hB) (ao.ext hB) J b2 a4) an a2 a3 (fun F=>(vP (xs:=xs) J (i:=xs.length) F).β);clear hB Kb am ao an a4 a2 a3;have a0:=pk p xs a;by_cases a1:eL p a xs<xs.length
 .obtain⟨m,G⟩:∃m:Nat,m=eL p a xs+1:=⟨_,rfl⟩;have T:=zH (show ∀W e w',zjm p a xs W e w'->∃(A2:ax) (c:Nat),e=.returned (.slice A2 m c)/\ag W w' from fun W e w' F=>by obtain⟨g,c,I,_,ab⟩:=F;exact⟨_,_,by rw[G];exact I,ab⟩)
  have HL:=zH (by unfold Ó;rw[fR Qu];rfl:Ó p a xs b=false);have b1:decide (xs.length<m)=false:=fR Qu;clear a1 a0 G OZ J;go_enter func36,ntmps36
  go_wp2_with (go_at_call 60;refine ah.x ?_;rintro e h hr;obtain⟨ad,bq,rfl,D⟩:=T.o _ _ _ hr;have H:=zH (aJ HB D);clear D hr)
  refine bU QT QT ?_
  repeat (go_big_quiet_step (fail))
  refine Py fun W=>?_
  go_ret
  exact⟨aN HL.q,aJ H W.ok⟩
 .have av:eL p a xs=xs.length:=Qu;have⟨t,ht⟩:=aR (iU p a xs xs);obtain⟨m,G⟩:∃m:Nat,m=xs.length+1:=⟨_,rfl⟩;have T:=zH (show ∀W e w',zjm p a xs W e w'->∃(g c:Nat) (A2:ax) (c2:Nat),e=.returned (.slice (bH g) m c)/\(af w' g (xs.length*3) (zI t.v)/\af w' g (xs.length*3+1) (zI t.h)/\af w' g (xs.length*3+2) (.slice A2 t.rows c2))/\aY w' W.heap.size (.slice A2 t.rows c2) t.rows/\ag W w' from fun W e w' F=>by
   obtain⟨g,c,I,⟨us,Z⟩,ab⟩:=F;rw[av]at I Z;have a6:(yr p a xs (xs.length+1))[xs.length]?=some t:=by rw[ht];exact zdG _ _ _ _ _ Qu
   obtain⟨u,O,a5⟩:=Z.F a6;obtain⟨A2,c2,rfl,_⟩:=a5.p;have ap:=Z.η;rw[EC]at ap;have ac:∀j,j<3->w'.cell? ⟨g,xs.length*3+j,none⟩=(kx t (.slice A2 t.rows c2))[j]?:=fun j b0=>by rw[ap.C _ Qu,BL b0 a6 O]
   exact⟨g,c,A2,c2,by rw[G];exact I,⟨ac 0 Qw,ac 1 Qw,ac 2 Qw⟩,a5,ab⟩)
  refine Nq fun OX HL H5 Jd=>?_
  have b1:decide (xs.length<m)=true:=fT Qu;have b3:xs.length<m:=Qu;clear a1 a0 ht OZ J OX G av;go_enter func36,ntmps36
  go_wp2_with (go_at_call 60;refine ah.x ?_;rintro e h hr;obtain⟨g,bq,ad,br,rfl,⟨a8,a9,ba⟩,O,D⟩:=T.o _ _ _ hr;have H:=zH (aJ HB D);have U:=zH (ai bd D);have bi:=zH (CG O);have bn:=zH a8;have bo:=zH a9;have bp:=zH ba;clear D hr O a8 a9 ba)
  have bu:∀W:κ h,af W.W g (xs.length*3) (zI t.v):=fun W=>W.cell bn
  have bv:∀W:κ h,af W.W g (xs.length*3+1) (zI t.h):=fun W=>W.cell bo
  have bz:∀W:κ h,af W.W g (xs.length*3+2) (.slice ad t.rows br):=fun W=>W.cell bp
  have f0:∀W:κ h,af W.W ((w:Nat)+1) 0 (zI b.v):=fun W=>W.cell (aD U).1
  have f1:∀W:κ h,af W.W ((w:Nat)+1) 1 (zI b.h):=fun W=>W.cell (aD U).2.1
  have f2:∀W:κ h,af W.W ((w:Nat)+1) 2 (.slice A2 b.rows cap2):=fun W=>W.cell (aD U).2.2
  have⟨bg,bh⟩:=bJ (fun W:κ h=>bi.ext W.ok) (fun W:κ h=>be.ext (aJ H W.ok));refine bU QT QT ?_
  repeat (go_big_quiet_step ((go_at_call 61;exact Calls.fh (zfm t b _ _ _ _ _ (bg.o _) (bh.o _) H5 (oe bb) Jd (fun r hr=>oe (bc r hr))))))
  refine dJ ?_;rintro _ ⟨W,rfl⟩;clear bu bv bz f0 f1 f2;go_wp2;go_ret
  exact⟨aN HL.q,aJ H W.ok⟩
def zgH p M v F A I ε w(ba:2<=p)(bb:p<=97)(T:bt w F M)(U:aO w A v)(am:M.length<=1048576)(Z:v.length<=1048576)(OT:∀r∈M,r.length=v.length/\(∀x∈r,0<=x/\x<p)/\ew r<v.length)(a1:∀x∈v,0<=x/\x<p):az 118 (wY p F M I A v ε) w (dt w (zb2 p M v)):=by
 have J:(Ψ M v).length=M:=by simp[Ψ]
 have av:∀x∈Ψ M v,0<=x/\x<p:=fun x bc=>by obtain⟨r,hr,rfl⟩:=cH.1 bc;have⟨y,a2⟩:=aq (OT r hr).2.2;rw[bf,a2];exact a1 y (aU a2)
 have a0:∀i,i<M.length->(M.getD i []).length=v:=fun i hi=>WW
 have⟨O,a7⟩:=bJ (kN (p:=p) (c:=Ψ M v) a0 M (ae _)) (zbV M F I v A ε w T U am Z fun r hr=>⟨by rw[(OT r hr).1];exact Z,(OT r hr).2.2⟩);have a9:=zH (fun V (Y:ag w V) h G (D:aO V h (Ψ M v))=>(by
  have:=zho p v M (Ψ M v) F h I G V ba bb (T.ext Y) D am Z J (fun r hr=>⟨(OT r hr).1,(OT r hr).2.1⟩) av;rw[J]at this;exact this:az 159 #[p,(v:Nat),.slice F M I,.slice h M G] V fun e w'=>∃g,e=.returned (.slice (bH g) v v)/\aE w' V (.slice (bH g) v v) (fY p (Ψ M v) M v M)/\ag V w'))
 have a8:=zH (fun V (Y:ag w V) h G (D:aO V h (fY p (Ψ M v) M v M))=>(by
  have:=qA h A G ε (fY p (Ψ M v) M v M) v V D (U.ext Y) (by rw[O.o];unfold maxLen;omega) SL;rw[O.o]at this;exact this:az 81 (mv h v G A v ε) V fun e w'=>e=.returned (.bool (decide (fY p (Ψ M v) M v M=v)))/\ag V w'))
 have a6:=zH J;clear T U OT a1 J av a0;go_enter func118,ntmps118
 go_wp2_with (first|(go_at_call 160;refine a7.x ?_;rintro e bg ⟨u,rfl,H,an⟩;obtain⟨h,c2,rfl,D,-⟩:=H.p;rw[a6.o];have a3:=zH D;have ab:=zH an;clear H D an)|(go_at_call 159;refine(a9.o _ ab.o _ _ a3.o).x ?_;rintro e bh ⟨g,rfl,H,ao⟩;obtain⟨bd,be,ad,ah,-⟩:=H.p;rw[O.o]at ad;cases ad;have a4:=zH ah;have ac:=zH (aT ab ao);clear H ah ao)|(go_at_call 81;refine(a8.o _ ac.o _ _ a4.o).x ?_;rintro e bi ⟨rfl,ap⟩;have a5:=zH (aT ac ap);clear ap))
 go_ret
 exact⟨rfl,a5⟩
def BZ p l r n M v h A D ε w(ah:2<=p)(am:p<=97)(I:bt w h M)(J:aO w A v)(ac:M.length<=1048576)(ad:n<=1048576)(an:v.length=n)(U:∀r∈M,r.length=n/\(∀x∈r,0<=x/\x<p)/\ew r<n)(Y:∀k,k<=M.length->(xC p M v k).length=n/\∀x∈xC p M v k,0<=x/\x<p):az 89 #[p,.agg (aA l r h M D),.slice A n ε] w (dt w (BN p M v)):=by
 have G:=aH w (.cells (aA l r h M D) 67) rfl;have F:=aw w (.cells (aA l r h M D) 67);have ab:=zH (fun V (O:ag w V)=>zfk p n M v h A D ε V ah am (I.ext O) (J.ext O) ac ad an U Y);go_enter func89,ntmps89
 go_upto_region 1 with(fail)
 generalize w.alloc _=W at G F ⊢;have⟨ap,av,a0⟩:=aD G;have H:=zH F;go_wp2_with (go_at_call 132;refine(ab.o _ H.o).x ?_;rintro e ao ⟨u,rfl,T⟩;have Z:=zH (aT H T))
 go_ret
 exact⟨rfl,Z⟩
def zhm p l r M X D F A1 T G c1 c2 w(bh:2<=p)(bi:p<=97)(an:bt w F M)(ao:aO w A1 X)(ap:aO w T D)(bg:M.length<=1048576)(b1:X.length+D<=1048576)(a0:∀r∈M,r.length=X.length+D/\(∀x∈r,0<=x/\x<p)/\ew r<X.length+D)(a2:∀x∈X,0<=x/\x<p)(a3:∀x∈D,0<=x/\x<p):az 83 #[p,.agg (aA l r F M G),.slice A1 X c1,.slice T D c2] w (dt w (zb2 p M (X++D))):=by
 have O:=aH w (.cells (aA l r F M G) 67) rfl;have U:=aw w (.cells (aA l r F M G) 67);have am:(X++D).length=X+D:=bm;have⟨a9,bd⟩:=bJ (fun V (I:ag w V)=>iR A1 c1 X V (ao.ext I) Qu) (fun V (I:ag w V)=>ap.ext I);have bb:=zH (fun V (I:ag w V) A ε (h:aO V A (X++D))=>(by
  have:=zgH p M (X++D) F A G ε V bh bi (an.ext I) h bg Qu (fun r bn=>by rw[am];exact a0 r bn) (fun x bo=>by
   rcases dP.1 bo with h|h
   .exact a2 x h
   .exact a3 x h)
  rw[am]at this;exact this:az 118 (wY p F M G A (X.length+D) ε) V (dt V (zb2 p M (X++D)))))
 go_enter func83,ntmps83
 go_upto_region 1 with(fail)
 generalize w.alloc _=W at O U ⊢;have⟨b4,b5,a4⟩:=aD O;have bc:=zH (bk.1 O).1;have H:=zH U;refine cU (S:=fun V=>af V w 2 (.slice F M G)) 8 QT a4 (fun hHeld=>?_);refine P8 ?_;refine aM 5 ?_;refine cm 4 fun K hK=>?_
 go_simp;refine(a9.o _ (H.t (aC W |>.x H.size))).x ?_;rintro e bp ⟨u,rfl,a1,J⟩;have⟨ad,ab,ba⟩:=er a1 (H.t (((aC W).t (J.x (aC W).size)).x H.size)) (((aC W).t (J.x (aC W).size)).size);have a5:=ar ((aC W).t (J.x (aC W).size)) a4;go_simp;refine hK.out _ _ (fun _=>a5) (fun hHeld=>?_);refine P9 ?_;obtain⟨bu,bz,rfl,-⟩:=ad.p;refine cm 6 fun K hK=>?_
 refine df rfl (.tmp 13) (.tmp 14) rfl W bp _ X D T D c2 rfl rfl rfl (ad.x Qt) (bd.o _ ab.o) Qu ba.o ?_;intro b2 bq av Z;have⟨a8,ac⟩:=bJ av (ab.t (Z.x H.size));have a6:af bq w 2 (.slice F M G):=(l6 (Z.block _ bc.o)).t a5;go_simp;refine hK.out _ _ (fun _=>a6) (fun hHeld=>?_);refine P9 ?_;obtain⟨bv,b0,be,ah,-⟩:=a8.p;subst be;refine Ny fun K hK=>?_
 refine(bb.o _ ac.o _ _ ah).x ?_;rintro e b3 ⟨rfl,Y⟩;have a7:=zH (aT ac Y);have br:=ar Y a6;go_simp;refine hK.out _ _ (fun _=>br) (fun hHeld=>?_);refine P9 ?_;refine cm 8 fun K hK=>?_
 go_simp;refine Qn ?_;refine gM QT ?_ _;go_wp2;go_ret
 exact⟨rfl,a7⟩
def edS(p:Int)(n:Nat)(W:aL)(e:Ed):Bool:=((e.G p).map (iE p n)).all fun r=>decide (Bz p r W n=0)
def zkN p g W:lN p g W=g.es.all (edS p g.w W):=by unfold lN Gr.rows Gr.V edS;rw[List.map_flatMap,List.all_flatMap]
def zjK p g W A1 Y Z ab c1 c2 a2 a3 w(hp:2<=p)(JC:p<=97)(bg:jV w A1 Y Z g)(bh:aO w ab W)(hg:g.B=true)(bq:∀e∈g.es,0<=e.v/\e.v<p)(J:W.length=g.w)(G:∀x∈W,0<=x/\x<p):az 79 #[p,.agg (bj g A1 c1 Y c2 Z a2),.slice ab g.w a3] w (dt w (lN p g W)):=by
 refine OF fun G8 If Ie F0=>?_
 have⟨b2,b9,IW,JE,HV,a0,b0⟩:=zH7 (fun V (hV:ag w V)=>bg.ext hV) (fun V (hV:ag w V)=>bh.ext hV) If G8.2.2.2.2.1 bq J G;rw[zkN];have⟨gw,a5⟩:=aR g.w;have IV:=zH a5;rw[<-a5]at Ie ⊢;obtain⟨hB,hq⟩:Below w w (w.alloc (.cells (fw gw A1 g.es c1 Y g.i c2 Z g.o a2) 54))/\_:=⟨aw w _,aH w (.cells (fw gw A1 g.es c1 Y g.i c2 Z g.o a2) 54) rfl⟩;clear bg hg bq G8 If a5 bh J G;go_enter func79,ntmps79
 go_upto_region 1 with(fail)
 generalize w.alloc _=cb at hq hB ⊢;refine NQ fun x0 x1 x2 x3 HB HQ=>?_
 clear hB hq;go_wp2;go_loopw [14] (fun i wr=>∃j:Nat,j<=g.es.length/\i=.int .i64 j/\(g.es.take j).all (edS p gw W)=true/\ag cb wr) (fun i _=>g.es.length-(intOf i).toNat)
 case atStart=>exact⟨0,aW _,rfl,rfl,al _ _⟩
 case round=>
  obtain⟨j,cR,rfl,D,H⟩:=hrel;have O:=zH (aT HB H);clear x0 x1 x2 x3;by_cases cn:j<g.es.length
  .have⟨e,G⟩:=aq cn;have⟨cF,cI,D1,e1,D2,e2,a4,u0,u1,u2,u3,hi1,hi2⟩:=fU (b2 wr O).es G;subst a4;obtain⟨am,b7,b3⟩:=er D (by rw[du,G,rV];simp:(g.es.take (j+1)).all (edS p gw W)=((g.es.take j).all (edS p gw W)&&edS p gw W e)) (aU G);obtain⟨kk,vv,ei,JH⟩:=e;dsimp only at u0 u1 u2 u3 hi1 hi2;have⟨T,a6⟩:=bM wr (.cells (eh kk vv D1 ei e1 D2 JH e2) 155);have I0:=aU G;refine Pg fun Ib R hR=>?_
   rw[<-hR]at Ib;have a9:=zH (show edS p gw W ⟨kk,vv,ei,JH⟩=R.all fun r=>decide (Bz p r W gw=0) by unfold edS;rw[hR]);have b6:=zH (show ∀r∈R,r.length=gw/\∀x∈r,0<=x/\x<p from fun r hr=>by
    rw[hR]at hr;obtain⟨L,ch,rfl⟩:=cH.1 hr;obtain⟨br,cr⟩:=sD (p:=p) (n:=gw) (L:=L) hp (fun q hq=>by rw[IV.o];exact Gr.yh JE IW L (lh.2 ⟨_,I0,ch⟩) q hq)
    refine⟨br,fun x hx=>?_⟩;obtain⟨d,U⟩:=eH.1 hx;have:=cr d (by rw[<-br];exact(bG.1 U).1);rw[bf,U]at this;have ce:x=_:=this;rw[ce];exact⟨gV _ Qu,gW _ Qu⟩)
   have⟨b5,a8,bb,bz,an,ca⟩:=ny (Vh:R.length<=2) H (ai (ai HQ H) T) (aT H T) T (b9 wr O);clear G hi1 hi2 I0 hR H D;go_upto_region 4 with(fail)
   generalize wr.alloc _=c4 at T a6 bb bz an ⊢;have⟨co,cp,n2,cq⟩:=aB a6;have⟨x0,x1,x2,x3⟩:=aB bb;clear u0 u1 u2 u3 a6 T;go_wp2_with (go_at_call 113;(with_reducible refine(Ib.o _ an.o).x ?_);intro e cu h;unfold zhg at h;obtain⟨cA,cB,cc,bn,F⟩:=h;subst cc;have b1:=zH bn;have ao:=zH (aT an F);clear bn F)
   clear co cp n2 cq x0 x1 x2 x3;have⟨l,J⟩:=aR R.length;have ba:=zH J;have cK:l<=1048576:=by have:=b5.o;omega
   rw[<-J]at ⊢;clear J;go_loopw [24] (fun i cz=>∃q:Nat,q<=l/\i=.int .i64 q/\((R.take q).all fun r=>decide (Bz p r W gw=0))=true/\ag cu cz) (fun i _=>l-(intOf i).toNat)
   case atStart=>exact⟨0,aW _,rfl,rfl,al _ _⟩
   case round=>
    obtain⟨q,hq,rfl,D,I⟩:=hrel;by_cases cW:q<l
    .obtain⟨r,hr⟩:=aq (show q<R.length by have:=ba.o;omega);obtain⟨ad,bp⟩:=b6 r (aU hr);rcases b1 wr (fun k cV ck=>I.block k ck)with h|⟨c0,c3,a4,bi⟩
     .exact V9
     subst a4;obtain⟨a7,bc,ci,bo⟩:=bi q r hr;rw[ad]at ci;obtain⟨b8,bv⟩:=bJ (by rw[du,hr,rV];simp:((R.take (q+1)).all fun r=>decide (Bz p r W gw=0))=(((R.take q).all fun r=>decide (Bz p r W gw=0))&&decide (Bz p r W gw=0))) (aT ao I);have a1:=zH (by
      have:=zg2 p a7 ab bc a3 r W wr bo (ca.ext bv) hp JC Qu (by rw[ad,a0.o,IV.o];exact ae _) (by rw[a0.o,<-IV.o];omega) bp b0;rw[ad,a0.o,<-IV.o]at this;exact this:az 115 #[p,.slice a7 gw bc,.slice ab gw a3] wr fun e w'=>e=.returned (zI (Ξ r W gw%p))/\ag wr w')
     obtain⟨av,ah,ac,b4⟩:=gG (show Bz p r W gw=Ξ r W gw%p from rfl) D I (aU hr);have⟨d,U⟩:=aR (Ξ r W gw%p);rw[<-U]at a1 av;clear D I bo hr bi bp ad U;by_cases h0:d=0
     .subst h0;go_wp2_with (go_at_call 115;refine a1.x ?_;rintro e ct ⟨rfl,F⟩;have ap:=zH (aT ac F);clear F)
      go_roundw
      case rel=>exact⟨q+1,Qu,Qx,by rw[b8.o,ah.o,av.o];rfl,ap⟩
      case measure=>simp[intOf];omega
     .have cO:(d !=0)=true:=QL;have bu:=zH h0;clear h0;go_wp2_with (go_at_call 115;refine a1.x ?_;rintro e ct ⟨rfl,F⟩;have ap:=zH (aT ac F);clear F)
      go_ret
      refine⟨aN ?_,?_⟩
      .symm
       rw[uF];intro cj;have bd:=eD.1 cj _ b3.o;rw[a9.o]at bd;have be:=oM (eD.1 bd _ b4.o);rw[av.o]at be;exact bu be
      .exact O.t ((aT ao ap).x O.size)
    .obtain rfl:q=l:=Qu;have⟨ah,ac⟩:=bJ D I;clear D I;go_wp2;go_roundw
     case rel=>exact⟨j+1,Qu,Qx,by
      rw[b7.o,am.o,a9.o];have h:=ah.o;rw[cZ (by rw[ba.o];exact ae _)]at h;exact h,a8.t ((aT ao ac).x a8.size)⟩
     case measure=>simp[intOf];omega
  .obtain rfl:j=g.es.length:=Qu;have am:=zH D;clear D H;go_wp2;go_ret
   exact⟨aN (by have h:=am.o;rw[cZ (ae _)]at h;rw[h]),O⟩
def yE(h:R.Ok p):∀r∈R.b,r.length=R.l+R.r/\(∀x∈r,0<=x/\x<p)/\ew r<R.l+R.r:=fun r D=>by
 obtain⟨k,H⟩:=eH.1 D;have I:=eV.row h.Η r D;have F:=h.red.ln k (bG.1 H).1;have e:nw R.b k=ew r:=by unfold nw;rw[bf,H];rfl
 rw[e]at F;refine⟨I,fun x J=>?_,F⟩;obtain⟨d,G⟩:=eH.1 J;have:=h.Η.vY D (d:=d) (by rw[<-I];exact(bG.1 G).1);rw[bf,G]at this;exact this
def Cj l v:nA v (bD l)=eC l v:=by unfold nA eC bD;rw[nr];exact kB fun x _=>Qt
def qk l v:(eC l v).length=l:=by unfold eC;rw[bs]
def zjW(h:xs.all (jY p)=true):∀x∈xs,0<=x/\x<p:=fun x D=>by have:=eD.1 h x D;unfold jY at this;simp at this;exact this
section
variable{P:jk}{ops:iI}{Q:gZ}{md:Region.Mode}{S:j4}
def kY(i:Nat){D:h_}{h:pv}{G:Act}(F:tH P md ops Q S n J (h.setIfInBounds i true) G w)(hi:ops.toList[i]?=some D:=by rfl)(Y:Region.wanted D (yielded ops a.tmps)=false:=by rfl)(ab:Region.noSelect ops=true:=by kernel_rfl)(U:Region.free md ops h i=true:=by kernel_rfl)(Z:(Region.ready md ops h).contains i=true:=by kernel_rfl)(T:(zdw md ops n h&&Region.sinkB md ops n&&Region.chainB md ops n&&decide (n<ops.size)&&decide (i<n))=true:=by kernel_rfl)(I:S w:=by assumption)(H:∀c a w,Q (.panic c) (a.put D.dst undef) w->Q (.panic c) a w:=by exact fun _ _ _ F=>F)(O:a.put D.dst undef=G:=by simp only[Act.put,zA];rfl):tH P md ops Q S n (J+1) h a w:=by subst O;exact zk9 hi ab U Z T (au ⟨Y,rfl⟩) I F H
end
def Fe p g h be bq X H W bp d1 d2 d3 f1 f2 f3 cs am an Y G1 T U a0 a1 a2 bd ab ac I w(co:bV p=true)(b0:jV w G1 T U g)(c7:jV w a0 a1 a2 h)(b3:g.B=true)(b4:h.B=true)(d4:∀e∈g.es,0<=e.v/\e.v<p)(d5:∀e∈h.es,0<=e.v/\e.v<p)(c9:Ð p h=true)(cr:g.i.length=h.i/\g.o.length=h.o)(ck:aO w ab X)(cn:aO w ac H)(bi:aO w I W)(e7:X.length<=1048576)(e8:H.length<=1048576)(e6:W.length<=1048576):az 50 (kz p (bj g G1 d1 T d2 U d3) (bj h a0 f1 a1 f2 a2 f3) (iK be bd bp cs bq ab X am ac H an I W Y)) w (dt w (zbH p g (h.qw p) X H W)):=by
 have⟨cp,cq⟩:=cv co;have em:=Gr.iT.1 b3;have bn:=Gr.mE b3;have dr:=Gr.iT.1 b4;have a9:=(((al w w).alloc (ae _) (.cells (bj g G1 d1 T d2 U d3) 54)).alloc Qt (.cells (bj h a0 f1 a1 f2 a2 f3) 54)).alloc Rs (.cells (iK be bd bp cs bq ab X am ac H an I W Y) 39);have J:=((bO ((w.alloc (.cells (bj g G1 d1 T d2 U d3) 54)).alloc (.cells (bj h a0 f1 a1 f2 a2 f3) 54)) (.cells (iK be bd bp cs bq ab X am ac H an I W Y) 39) (k:=w.heap.size) Rs).t (bO (w.alloc (.cells (bj g G1 d1 T d2 U d3) 54)) (.cells (bj h a0 f1 a1 f2 a2 f3) 54) Qt)).t (aH w _ rfl);have O:=(bO ((w.alloc (.cells (bj g G1 d1 T d2 U d3) 54)).alloc (.cells (bj h a0 f1 a1 f2 a2 f3) 54)) (.cells (iK be bd bp cs bq ab X am ac H an I W Y) 39) (k:=(w:Nat)+1) Qt).t (aH (w.alloc (.cells (bj g G1 d1 T d2 U d3) 54)) _ (n:=(w:Nat)+1) Qt);have ap:=aH ((w.alloc (.cells (bj g G1 d1 T d2 U d3) 54)).alloc (.cells (bj h a0 f1 a1 f2 a2 f3) 54)) (.cells (iK be bd bp cs bq ab X am ac H an I W Y) 39) (n:=(w:Nat)+1+1) Qt;have⟨bu,b9,b6⟩:=er (fun V (D:ag w V)=>sV p I Y W V (bi.ext D) SL cp cq) (fun(ad:W.length=g.w) (b2:∀x∈W,0<=x/\x<p) V (D:ag w V)=>zjK p g W G1 T U I d1 d2 d3 Y V cp cq (b0.ext D) (bi.ext D) b3 d4 ad b2) (fun V (D:ag w V)=>zdE p h a0 a1 a2 f1 f2 f3 V co (c7.ext D) b4 d5 c9);have b7:=zH (fun(ad:W.length=g.w) V (D:ag w V)=>(by
  have:=qG W I Y (bD g.i) T d2 V (bi.ext D) (b0.ext D).i Qu Rn (fun i hi=>by obtain⟨x,a5,rfl⟩:=cH.1 hi;have:=bn x (ay a5);omega)
  rw[aS,Cj,ad]at this;exact this:az 82 #[.slice T g.i d2,.slice I g.w Y] V fun e w'=>∃u,e=.returned u/\aE w' V u (eC g.i W)/\ag V w'))
 have b8:=zH (fun(ad:W.length=g.w) V (D:ag w V)=>(by
  have:=qG W I Y (bD g.o) U d3 V (bi.ext D) (b0.ext D).o Qu Rn (fun i hi=>by obtain⟨x,a5,rfl⟩:=cH.1 hi;have:=bn x (au (ay a5));omega)
  rw[aS,Cj,ad]at this;exact this:az 82 #[.slice U g.o d3,.slice I g.w Y] V fun e w'=>∃u,e=.returned u/\aE w' V u (eC g.o W)/\ag V w'))
 have c0:=zH (fun(ad:X.length=g.i) V (D:ag w V) A c (bh:aO V A (eC g.i W))=>(by
  have:=qA A ab c am (eC g.i W) X V bh (ck.ext D) (by unfold maxLen;rw[qk];omega) SL;rw[qk,ad]at this;exact this:az 81 #[.slice A g.i c,.slice ab g.i am] V (dt V (decide (eC g.i W=X)))))
 have c3:=zH (fun(ad:H.length=g.o) V (D:ag w V) A c (bh:aO V A (eC g.o W))=>(by
  have:=qA A ac c an (eC g.o W) H V bh (cn.ext D) (by unfold maxLen;rw[qk];omega) SL;rw[qk,ad]at this;exact this:az 81 #[.slice A g.o c,.slice ac g.o an] V (dt V (decide (eC g.o W=H)))))
 have bc:=zH (fun(ad:X.length=g.i) (db:H.length=g.o) (d6:W.length=g.w) (b2:∀x∈W,0<=x/\x<p) (ch:eC g.i W=X) (ci:eC g.o W=H) V (D:ag w V) A ε (bh:bt V A (h.qw p).b)=>(by
  have ok:=(Gr.zfV co dr.2.2.2.2.1 (Gr.mE b4)).1;have ek:=Rl.Ok.ι ok;have b1:(h.qw p).l=h.i.length/\(h.qw p).r=h.o.length:=⟨rfl,rfl⟩;have:=zhm p (h.qw p).l (h.qw p).r (h.qw p).b X H A ab ac ε am an V cp cq bh (ck.ext D) (cn.ext D) (by rw[b1.1,b1.2]at ek;omega) Qu (fun r Z=>by have:=yE ok r Z;rw[b1.1,b1.2,<-cr.1,<-cr.2,<-ad,<-db]at this;exact this) (by rw[<-ch];exact wJ (fun x a5=>bn x (ay a5)) d6 b2) (by rw[<-ci];exact wJ (fun x a5=>bn x (au (ay a5))) d6 b2)
  rw[ad,db]at this;exact this:az 83 #[p,.agg (eO ((h.qw p).l:Nat) ((h.qw p).r:Nat) A (h.qw p).b ε),.slice ab g.i am,.slice ac g.o an] V (dt V (zb2 p (h.qw p).b (X++H)))))
 have cK:=zH (fun(h:W.all (jY p)=true)=>zjW h);unfold zbH jX;have⟨cu,dl⟩:=aR X.length;have⟨cz,dq⟩:=aR H.length;have⟨ct,dc⟩:=aR W.length;have⟨G,c8⟩:=aR (h.qw p);rw[<-dl]at c0 bc a9 J O ap ⊢;rw[<-dq]at c3 bc a9 J O ap ⊢;rw[<-dc]at bu b9 b7 b8 bc a9 J O ap ⊢;rw[<-c8]at b6 bc ⊢;clear ck cn bi b0 c7 b3 b4 d4 d5 c9 cr em bn dr dl dq dc c8;go_enter func50,ntmps50
 go_upto_region 1 with(fail)
 generalize ((w.alloc _).alloc _).alloc _=V at a9 J O ap ⊢;have⟨eo,es,ev,ey⟩:=aB J;have ez:=aF ap 3 rfl;have eA:=aF ap 4 rfl;have eB:=aF ap 5 rfl;have⟨ah,cO,cR,cV⟩:=gG a9 J O ap;clear a9 J O ap;by_cases h1:cu=g.i.length
 rotate_left
 .have ch:((cu:Int)!=(g.i:Int))=true:=QW;go_wp2_with (fail)
  go_ret
  exact⟨aN QP,ah⟩
 have ch:((cu:Int)!=(g.i:Int))=false:=QW;by_cases h2:cz=g.o.length
 rotate_left
 .have ci:((cz:Int)!=(g.o:Int))=true:=QW;go_wp2_with (fail)
  go_ret
  exact⟨aN QQ,ah⟩
 have ci:((cz:Int)!=(g.o:Int))=false:=QW;by_cases ej:ct=g.w
 rotate_left
 .have cj:((ct:Int)!=(g.w:Int))=true:=QW;go_wp2_with (fail)
  go_ret
  exact⟨aN QW,ah⟩
 have cj:((ct:Int)!=(g.w:Int))=false:=QW;subst h1 h2 ej;cases ao:W.all (jY p)
 .have bb:=zH (fun V D=>Calls.cg (bu V D) ao);go_wp2_with (go_at_call 78;(with_reducible refine(bb.o _ ah.o).x ?_);rintro e b5 ⟨rfl,rfl⟩)
  go_ret
  exact⟨aN (by simp[ao]),ah⟩
 have⟨bb,ca⟩:=bJ (fun V D=>Calls.cg (bu V D) ao) (b9 Qt (cK ao));cases a7:lN p g W
 .have bv:=zH (fun V D=>Calls.bl (ca V D) a7);go_wp2_with (first|(go_at_call 78;(with_reducible refine(bb.o _ ah.o).x ?_);rintro e b5 ⟨rfl,rfl⟩)|(go_at_call 79;(with_reducible refine(bv.o _ ah.o).x ?_);rintro e b5 ⟨rfl,F⟩;have br:=zH (aT ah F);clear F))
  go_ret
  exact⟨aN (by simp[ao,a7]),br⟩
 have bv:=zH (fun V D=>Calls.bl (ca V D) a7);clear bu b9 ca;go_upto_region 4 with(first|(go_at_call 78;(with_reducible refine(bb.o _ ah.o).x ?_);rintro e b5 ⟨rfl,rfl⟩)|(go_at_call 79;(with_reducible refine(bv.o _ ah.o).x ?_);rintro e b5 ⟨rfl,F⟩;have cA:=ai cR F;have⟨cA,e0,z2,e1⟩:=aB cA;have c4:=zH F;have br:=zH (aT ah F);clear F)|(go_at_call 80;(with_reducible refine(b6.o _ br.o).x ?_);intro e a3 Z;obtain⟨A,c,cj,Z,F⟩:=Z;subst cj;have c5:=zH F;have cB:=zH (aT br F);have ee:=zH (Z a3 (fun _ _ _=>rfl));clear Z F))
 have J:=ai cO (aJ c4 c5);have O:=ai cV (aJ c4 c5);have Z:=aH a3 (.cells (dh G.l G.r A G.b c) 67) rfl;have J:=ai J (aw a3 (.cells (dh G.l G.r A G.b c) 67));have O:=ai O (aw a3 (.cells (dh G.l G.r A G.b c) 67));have⟨a4,cW⟩:=bJ (cB.t ((aw a3 (.cells (dh G.l G.r A G.b c) 67)).x cB.size)) (ee.at.ext (aw a3 (.cells (dh G.l G.r A G.b c) 67)));have⟨ba,dO⟩:=aR a3.heap.size;rw[<-dO]at Z ⊢;generalize a3.alloc _=av at J O Z a4 cW ⊢;have a6:af av w 2 (.slice T g.i d2)/\af av w 3 (.slice U g.o d3)/\af av ((w:Nat)+1+1) 3 (.slice ab g.i am)/\af av ((w:Nat)+1+1) 4 (.slice ac g.o an)/\af av ((w:Nat)+1+1) 5 (.slice I g.w Y)/\af av ba 0 (zI (G.l:Nat))/\af av ba 1 (zI (G.r:Nat))/\af av ba 2 (.slice A G.b c):=
  ⟨aF J 2 rfl,aF J 3 rfl,aF O 3 rfl,aF O 4 rfl,aF O 5 rfl,aF Z 0 rfl,aF Z 1 rfl,aF Z 2 rfl⟩
 have⟨ea,eb⟩:=bJ (b7 trivial) (b8 trivial);clear J O Z b7 b8 eo es ev ey ez eA eB cA e0 z2 e1 cO cR cV bv bb b6 dO;refine cU (S:=(fun V=>af V w 2 (.slice T g.i d2)/\af V w 3 (.slice U g.o d3)/\af V ((w:Nat)+1+1) 3 (.slice ab g.i am)/\af V ((w:Nat)+1+1) 4 (.slice ac g.o an)/\af V ((w:Nat)+1+1) 5 (.slice I g.w Y)/\af V ba 0 (zI (G.l:Nat))/\af V ba 1 (zI (G.r:Nat))/\af V ba 2 (.slice A G.b c))) 28 QT a6 (fun hHeld=>?_);refine P8 ?_;refine aM 5 ?_;refine aM 6 ?_;refine cm 4 fun K hK=>?_
 go_simp;refine(ea.o _ a4.drew).x ?_;rintro e e9 ⟨u5,rfl,bo,F⟩;obtain⟨e2,e4,rfl,dT,-⟩:=bo.p;have⟨eg,cb⟩:=bJ dT ((aC av).t F);have d7:=zH (aT a4 cb);rw[qk];clear bo F dT;go_simp;refine hK.out _ _ (fun _=>E_ cb a6) (fun hHeld=>?_);refine Mr fun hHeld=>?_;clear K hK
 refine Ny fun K hK=>?_
 refine(c0 trivial _ d7.o _ _ eg.o).x ?_;rintro e fa ⟨rfl,F⟩;have cc:=zH (aT cb F);have cF:=zH (aT a4 cc);clear F;go_simp;refine hK.out _ _ (fun _=>E_ cc a6) (fun hHeld=>?_);refine Mr fun hHeld=>?_;clear K hK
 by_cases a8:eC g.i W=X
 rotate_left
 .rw[fR a8];refine aM 8 ?_;refine kY 9 ?_;refine kY 10 ?_;refine kY 11 ?_;refine kY 12 ?_;refine kY 13 ?_;refine kY 14 ?_;refine kY 15 ?_;refine kY 16 ?_;refine ND fun K hK=>?_
  refine Qn ?_;clear K hK;refine gM QT ?_ _;go_wp2;go_ret
  exact⟨aN (by simp[ao,a7,a8]),cF⟩
 rw[fT a8];refine aM 8 ?_;refine aM 9 ?_;refine aM 10 ?_;refine aM 11 ?_;refine aM 12 ?_;refine aM 14 ?_;refine aM 15 ?_;refine cm 13 fun K hK=>?_
 go_simp;refine(eb.o _ cF.o).x ?_;rintro e fb ⟨u7,rfl,bo,F⟩;obtain⟨e3,e5,rfl,d0,-⟩:=bo.p;have⟨ei,ce⟩:=bJ d0 (aT cc F);have d8:=zH (aT a4 ce);rw[qk];clear bo F d0;go_simp;refine hK.out _ _ (fun _=>E_ ce a6) (fun hHeld=>?_);refine Mr fun hHeld=>?_;clear K hK
 refine cm 16 fun K hK=>?_
 go_simp;refine(c3 trivial _ d8.o _ _ ei.o).x ?_;rintro e fc ⟨rfl,F⟩;have bz:=zH (aT ce F);have cI:=zH (aT a4 bz);clear F;go_simp;refine hK.out _ _ (fun _=>E_ bz a6) (fun hHeld=>?_);refine Mr fun hHeld=>?_;clear K hK
 by_cases bg:eC g.o W=H
 rotate_left
 .rw[fR bg];refine ND fun K hK=>?_
  refine Qn ?_;clear K hK;refine gM QT ?_ _;go_wp2;go_ret
  exact⟨aN (by simp[ao,a7,a8,bg]),cI⟩
 rw[fT bg];refine aM 17 ?_;refine aM 18 ?_;refine aM 19 ?_;refine aM 20 ?_;refine aM 21 ?_;refine aM 22 ?_;refine aM 23 ?_;refine aM 24 ?_;refine cm 25 fun K hK=>?_
 go_simp;refine(bc trivial trivial trivial (cK ao) a8 bg _ cI.o _ _ (cW.ext bz)).x ?_;rintro e fd ⟨rfl,F⟩;have c6:=zH (aT bz F);have d9:=zH (aT a4 c6);clear F;go_simp;refine hK.out _ _ (fun _=>E_ c6 a6) (fun hHeld=>?_);refine Mr fun hHeld=>?_;clear K hK
 refine aM 26 ?_;refine aM 27 ?_;refine cm 28 fun K hK=>?_
 go_simp;refine Qn ?_;clear K hK;refine gM QT ?_ _;go_wp2;go_ret
 exact⟨aN (by simp[ao,a7,a8,bg]),d9⟩
end Go.Proofs.YtpieilkmmiopfaaGreatDoor
