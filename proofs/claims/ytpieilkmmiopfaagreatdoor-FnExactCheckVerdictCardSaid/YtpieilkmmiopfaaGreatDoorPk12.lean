/- Parts of the walks. Conditions: as stated with each. -/
import Derived.Test.YtpieilkmmiopfaaGreatDoorPk6
namespace Go.Proofs.YtpieilkmmiopfaaGreatDoor
open Go.RowKit Tryz
set_option linter.all false
set_option maxHeartbeats 2000000
variable{b:Nat}{cs:gg}{t:dL}{v:aG}{w:aa}
def gwI(k:Int):Int:=if k=5∨k=9 then 2 else if k=6∨k=10 then 0 else 1
def gwO(k:Int):Int:=if k=3∨k=11 then 2 else if k=4∨k=12 then 0 else 1
def aF(h:bA w b cs t)j(D:cs.toList[j]?=some v):af w b j v:=(bB h j).t D
def jt k w(am:3<=k)(an:k<=14):az 167 (bK k) w fun e w'=>e=.returned (.agg (bC (gwI k) (gwO k)))/\ag w w':=by
 have hq:=aH (w.alloc (.cells fP 207)) (.cells zb3 260) (n:=(w:Nat)+1) Qt;have G:=((al w w).alloc (ae _) (.cells fP 207)).alloc Qt (.cells zb3 260);have h:=(bO (w.alloc (.cells fP 207)) (.cells zb3 260) (k:=w.heap.size) Qt).t (aH w (.cells fP 207) rfl);have Z:(w.alloc (.cells fP 207):Nat)=w+1:=Qt;by_cases ao:k<=8
 .obtain⟨i,rfl⟩:∃i:Nat,k=(i:Int)+3:=⟨(k-3).toNat,Qu⟩;have hi:i<6:=Qu;have⟨a,D⟩:=aR (gwI ((i:Int)+3));have⟨b,F⟩:=aR (gwO ((i:Int)+3));rw[<-D,<-F];have⟨HA,Ho⟩:=bJ D F;clear D F;go_enter func167,ntmps167
  go_upto_region 2 with(fail)
  generalize (w.alloc _).alloc _=W at hq G h ⊢;have Y:af W ((w:Nat)+1) (i*2) (zI a):=YM;have c1:af W ((w:Nat)+1) (i*2+1) (zI b):=YN;have⟨ad,ah,f0,f1⟩:=dD h;have y:=fW (v0:=.int .i64 a) (v1:=.int .i64 b) h;obtain⟨O,T,-,-⟩:=dD y;have HE:=zH (fX G (ae _) (zI a) (zI b));unfold vf at O T;clear hq h G Z y;exact XS
 .obtain⟨i,rfl⟩:∃i:Nat,k=(i:Int)+9:=⟨(k-9).toNat,Qu⟩;have hi:i<6:=Qu;have⟨a,D⟩:=aR (gwI ((i:Int)+9));have⟨b,F⟩:=aR (gwO ((i:Int)+9));rw[<-D,<-F];have⟨HA,Ho⟩:=bJ D F;clear D F;go_enter func167,ntmps167
  go_upto_region 2 with(fail)
  generalize (w.alloc _).alloc _=W at hq G h ⊢;have Y:af W ((w:Nat)+1) (i*2) (zI b):=YN;have c1:af W ((w:Nat)+1) (i*2+1) (zI a):=YM;have⟨ab,U⟩:=bJ h G;have ac:(w:Nat)<W:=(bk.1 h).1;clear hq h G Z;go_upto_region 5 with(fail)
  have J:=aH W (.cells (bC b a) 207) rfl;have H:=(bO W (.cells (bC b a) 207) ac).t ab;have I:=U.alloc U.size (.cells (bC b a) 207);generalize W.alloc _=V at J H I ⊢;have⟨ad,ah,f0,f1⟩:=dD H;obtain⟨d0,d1,-,-⟩:=dD J;have y:=fW (v0:=.int .i64 a) (v1:=.int .i64 b) H;obtain⟨O,T,-,-⟩:=dD y;have HE:=zH (fX I (ae _) (zI a) (zI b));unfold vf at O T;clear J H I y Y c1;exact XS
def jd(a b:Int):Bool:=decide (a<=12)&&decide (b<=12)
def zkA a b w:az 225 (cY (bC a b)) w (dt w (jd a b)):=by
 have h:=(al w w).alloc (ae _) (.cells (bC a b) 207);unfold jd;by_cases h1:a<=12<;>by_cases h2:b<=12
 all_goals
  go_enter func225,ntmps225
  go_wp2;go_ret
  exact⟨Q9,h⟩
def WTo(a b:Int)(ok:Bool)(w:aa)(e:Ending)(w':aa):Prop:=e=.returned (.tuple (ka (bC a b) ok))/\ag w w'
def Fy h D F G w:az 223 #[.int .i64 15,.agg (bC h D),.agg (bC F G)] w (WTo h G (decide (D=F)) w):=by
 have I:=ζ w (.cells (bC h D) 207) (.cells (bC F G) 207) (.cells fP 207);have⟨J,O,H⟩:=cD w (.cells (bC h D) 207) (.cells (bC F G) 207) (.cells fP 207);have Z:(D==F)=decide (D=F):=Q7;have⟨ok,U⟩:=aR (decide (D=F));rw[<-U]at Z ⊢;go_enter func223,ntmps223
 go_upto_region 1 with(fail)
 generalize ((w.alloc _).alloc _).alloc _=W at I J O H ⊢;obtain⟨T,c1,-,-⟩:=dD J;obtain⟨d0,d1,-,-⟩:=dD O;have⟨ad,ah,f0,f1⟩:=dD H;have y:=fW (v0:=.int .i64 h) (v1:=.int .i64 G) H;obtain⟨ab,ac,-,-⟩:=dD y;have Y:=zH (fX I (b:=(w:Nat)+1+1) Qu (zI h) (zI G));unfold vf at ab ac;go_wp2_with fail
 go_region_held3 (fun w'=>af w' w 0 (zI h)/\af w' w 1 (zI D)/\af w' ((w:Nat)+1) 0 (zI F)/\af w' ((w:Nat)+1) 1 (zI G))
  (first|exact⟨T,c1,d0,d1⟩|exact⟨kR Rs T,kR Rs c1,kR Rs d0,kR Rs d1⟩) (fail)
 go_wp2;exact aI (v:=.tuple (ka (bC h G) ok)) Uw rfl ⟨rfl,Y.drew⟩
def Fz h D F G w(be:0<=h)(bg:h<=1000)(bh:0<=D)(bi:D<=1000)(bn:0<=F)(bo:F<=1000)(bp:0<=G)(bq:G<=1000):az 223 #[.int .i64 16,.agg (bC h D),.agg (bC F G)] w (WTo (h+F) (D+G) (jd (h+F) (D+G)) w):=by
 have U:=ζ w (.cells (bC h D) 207) (.cells (bC F G) 207) (.cells fP 207);have⟨ab,ac,ad⟩:=cD w (.cells (bC h D) 207) (.cells (bC F G) 207) (.cells fP 207);have br:IntKind.i64.wrap (h+F)=h+F:=Rt;have bu:IntKind.i64.wrap (D+G)=D+G:=Rt;go_enter func223,ntmps223
 go_upto_region 1 with(fail)
 have H:(w:Nat)+3=(((w.alloc (.cells (bC h D) 207)).alloc (.cells (bC F G) 207)).alloc (.cells fP 207)):=Qt;generalize ((w.alloc _).alloc _).alloc _=W at U ab ac ad H ⊢;obtain⟨a9,c1,-,-⟩:=dD ab;obtain⟨d0,d1,-,-⟩:=dD ac;have⟨ah,a4,ao⟩:=er U ad H;go_upto_region 4 with(fail)
 generalize av:h+F=x at br ⊢;generalize a0:D+G=y at bu ⊢;have Z:=aH W (.cells (bC x y) 207) rfl;have J:=(bO W (.cells (bC x y) 207) (k:=(w:Nat)+1+1) (by have:=ao.o;omega)).t a4;have Y:=ah.alloc ah.size (.cells (bC x y) 207);generalize W.alloc _=V at Z J Y ⊢;obtain⟨O,T,-,-⟩:=dD Z;have⟨bv,bz,f0,f1⟩:=dD J;have ap:W.heap.size≠(w:Nat)+1+1:=by have:=ao.o;omega
 have⟨a5,am,an,a6,a7⟩:=pD J Y ap av a0;go_region_held3 (fun w'=>af w' W 0 (zI x)/\af w' W 1 (zI y))
  (first|exact⟨O,T⟩|exact t1|exact⟨kR an t1.1,kR an t1.2⟩)
  ((go_at_call 225;refine(zkA x y _).x ?_;rintro e b2 ⟨rfl,I⟩;have a2:=zH (am.drew.t (I.x am.size));have t1:=aQ (ar I O) (ar I T);have H:=ai (w:=V.drew) a5 I;have⟨ba,bb,bc,bd⟩:=dD H;have a8:=zH H))
 have a1:=fW (v0:=.int .i64 x) (v1:=.int .i64 y) a8;obtain⟨b0,b1,-,-⟩:=dD a1;have a3:=zH (fX a2 (b:=(w:Nat)+1+1) Qu (zI x) (zI y));unfold vf at b0 b1;go_wp2;exact aI (v:=.tuple (ka (bC x y) (jd x y))) Uw rfl ⟨by rw[a6.o,a7.o],a3⟩
def B4 a b p v h A ε(rows:aP)w(hm:rows.length<=maxLen):az 244 (je (bC a b) p (aA v h A rows ε)) w fun e w'=>e=.returned (.bool (eU a 0 ((rows:Int)-1)&&(eU b 0 ((rows:Int)-1)&&(a !=b))))/\ag w w':=by
 have F:Below w w ((w.alloc (.cells (bC a b) 229)).alloc (.cells (aA v h A rows ε) 57)):=((al w w).alloc Qt _).alloc Qt _;have HB:=zH F;have G:∀W:κ ((w.alloc (.cells (bC a b) 229)).alloc (.cells (aA v h A rows ε) 57)),af W.W w 0 (zI a):=fun W=>W.cell Qt
 have H:∀W:κ ((w.alloc (.cells (bC a b) 229)).alloc (.cells (aA v h A rows ε) 57)),af W.W w 1 (zI b):=fun W=>W.cell Qt
 have I:∀W:κ ((w.alloc (.cells (bC a b) 229)).alloc (.cells (aA v h A rows ε) 57)),af W.W ((w:Nat)+1) 0 (zI v):=fun W=>W.cell Qt
 have J:∀W:κ ((w.alloc (.cells (bC a b) 229)).alloc (.cells (aA v h A rows ε) 57)),af W.W ((w:Nat)+1) 1 (zI h):=fun W=>W.cell Qt
 have O:∀W:κ ((w.alloc (.cells (bC a b) 229)).alloc (.cells (aA v h A rows ε) 57)),af W.W ((w:Nat)+1) 2 (.slice A rows ε):=fun W=>W.cell Qt
 cases h1:eU a 0 ((rows:Int)-1)
 .skip
  go_enter func244,ntmps244
  exact Y8
 cases D:eU b 0 ((rows:Int)-1)
 .skip
  go_enter func244,ntmps244
  go_upto_region 1 with(fail)
  refine dn ?_
  repeat (go_big_quiet_step (first|(go_at_call_of 247 a;exact Calls.fh (Calls.bl (eI _ _ _ _ _ _ _ hm) h1))|(go_at_call_of 247 b;exact Calls.fh (Calls.bl (eI _ _ _ _ _ _ _ hm) D))))
  exact Xq
 go_enter func244,ntmps244
 go_upto_region 1 with(fail)
 refine dn ?_
 repeat (go_big_quiet_step (first|(go_at_call_of 247 a;exact Calls.fh (Calls.bl (eI _ _ _ _ _ _ _ hm) h1))|(go_at_call_of 247 b;exact Calls.fh (Calls.bl (eI _ _ _ _ _ _ _ hm) D))))
 refine Py fun W=>?_
 go_ret
 exact⟨aN Qt,aJ HB W.ok⟩
def zl a c p v h A ε(rows:aP)w(hm:rows.length<=maxLen):az 248 (je (bC a c) p (aA v h A rows ε)) w fun e w'=>e=.returned (.bool (eU a 0 ((rows:Int)-1)&&(jY p c&&(c !=0))))/\ag w w':=by
 have F:Below w w ((w.alloc (.cells (bC a c) 231)).alloc (.cells (aA v h A rows ε) 57)):=((al w w).alloc Qt _).alloc Qt _;have HB:=zH F;have G:∀W:κ ((w.alloc (.cells (bC a c) 231)).alloc (.cells (aA v h A rows ε) 57)),af W.W w 0 (zI a):=fun W=>W.cell Qt
 have H:∀W:κ ((w.alloc (.cells (bC a c) 231)).alloc (.cells (aA v h A rows ε) 57)),af W.W w 1 (zI c):=fun W=>W.cell Qt
 have I:∀W:κ ((w.alloc (.cells (bC a c) 231)).alloc (.cells (aA v h A rows ε) 57)),af W.W ((w:Nat)+1) 0 (zI v):=fun W=>W.cell Qt
 have J:∀W:κ ((w.alloc (.cells (bC a c) 231)).alloc (.cells (aA v h A rows ε) 57)),af W.W ((w:Nat)+1) 1 (zI h):=fun W=>W.cell Qt
 have O:∀W:κ ((w.alloc (.cells (bC a c) 231)).alloc (.cells (aA v h A rows ε) 57)),af W.W ((w:Nat)+1) 2 (.slice A rows ε):=fun W=>W.cell Qt
 cases h1:eU a 0 ((rows:Int)-1)
 .skip
  go_enter func248,ntmps248
  exact Y8
 cases D:jY p c
 .skip
  go_enter func248,ntmps248
  go_upto_region 1 with(fail)
  refine dn ?_
  repeat (go_big_quiet_step (first|(go_at_call_of 247 a;exact Calls.fh (Calls.bl (eI _ _ _ _ _ _ _ hm) h1))|(go_at_call 131;exact Calls.dj (Calls.cg (mm _ _ _) D))))
  exact Xq
 go_enter func248,ntmps248
 go_upto_region 1 with(fail)
 refine dn ?_
 repeat (go_big_quiet_step (first|(go_at_call_of 247 a;exact Calls.fh (Calls.bl (eI _ _ _ _ _ _ _ hm) h1))|(go_at_call 131;exact Calls.dj (Calls.cg (mm _ _ _) D))))
 refine Py fun W=>?_
 go_ret
 exact⟨aN Qt,aJ HB W.ok⟩
def Ek a b c p v h A ε(rows:aP)w(hm:rows.length<=maxLen):az 251 (je (gT a b c) p (aA v h A rows ε)) w fun e w'=>e=.returned (.bool (eU a 0 ((rows:Int)-1)&&(eU b 0 ((rows:Int)-1)&&((a !=b)&&jY p c))))/\ag w w':=by
 have D:Below w w ((w.alloc (.cells (gT a b c) 233)).alloc (.cells (aA v h A rows ε) 57)):=((al w w).alloc Qt _).alloc Qt _;have HB:=zH D;have G:∀W:κ ((w.alloc (.cells (gT a b c) 233)).alloc (.cells (aA v h A rows ε) 57)),af W.W w 0 (zI a):=fun W=>W.cell Qt
 have H:∀W:κ ((w.alloc (.cells (gT a b c) 233)).alloc (.cells (aA v h A rows ε) 57)),af W.W w 1 (zI b):=fun W=>W.cell Qt
 have I:∀W:κ ((w.alloc (.cells (gT a b c) 233)).alloc (.cells (aA v h A rows ε) 57)),af W.W w 2 (zI c):=fun W=>W.cell Qt
 have J:∀W:κ ((w.alloc (.cells (gT a b c) 233)).alloc (.cells (aA v h A rows ε) 57)),af W.W ((w:Nat)+1) 0 (zI v):=fun W=>W.cell Qt
 have O:∀W:κ ((w.alloc (.cells (gT a b c) 233)).alloc (.cells (aA v h A rows ε) 57)),af W.W ((w:Nat)+1) 1 (zI h):=fun W=>W.cell Qt
 have T:∀W:κ ((w.alloc (.cells (gT a b c) 233)).alloc (.cells (aA v h A rows ε) 57)),af W.W ((w:Nat)+1) 2 (.slice A rows ε):=fun W=>W.cell Qt
 cases h1:eU a 0 ((rows:Int)-1)
 .skip
  go_enter func251,ntmps251
  exact Y8
 cases h2:eU b 0 ((rows:Int)-1)
 .skip
  exact Zo
 cases F:(a !=b)
 .skip
  exact Zo
 go_enter func251,ntmps251
 go_upto_region 1 with(fail)
 refine dn ?_
 repeat (go_big_quiet_step (first|(go_at_call_of 247 a;exact Calls.fh (Calls.bl (eI _ _ _ _ _ _ _ hm) h1))|(go_at_call_of 247 b;exact Calls.fh (Calls.bl (eI _ _ _ _ _ _ _ hm) h2))|(go_at_call 131;exact Calls.dj (mm _ _ _))))
 refine Py fun W=>?_
 go_ret
 exact⟨aN Qt,aJ HB W.ok⟩
def B_ a p v h A ε rows w(hm:rows.length<=maxLen)(G:bt w A rows)(T:∀r∈rows,r.length<=maxLen):az 254 (je (bK a) p (aA v h A rows ε)) w fun e w'=>e=.returned (.bool (eU a 0 ((rows:Int)-1)&&uX (rows.getD a.toNat [])))/\ag w w':=by
 have F:Below w w ((w.alloc (.cells (bK a) 235)).alloc (.cells (aA v h A rows ε) 57)):=((al w w).alloc Qt _).alloc Qt _;have HB:=zH F;have an:∀W:κ ((w.alloc (.cells (bK a) 235)).alloc (.cells (aA v h A rows ε) 57)),af W.W w 0 (zI a):=fun W=>W.cell Qt
 have ao:∀W:κ ((w.alloc (.cells (bK a) 235)).alloc (.cells (aA v h A rows ε) 57)),af W.W ((w:Nat)+1) 0 (zI v):=fun W=>W.cell Qt
 have ap:∀W:κ ((w.alloc (.cells (bK a) 235)).alloc (.cells (aA v h A rows ε) 57)),af W.W ((w:Nat)+1) 1 (zI h):=fun W=>W.cell Qt
 have av:∀W:κ ((w.alloc (.cells (bK a) 235)).alloc (.cells (aA v h A rows ε) 57)),af W.W ((w:Nat)+1) 2 (.slice A rows ε):=fun W=>W.cell Qt
 cases h1:eU a 0 ((rows:Int)-1)
 .skip
  go_enter func254,ntmps254
  exact Y8
 obtain⟨ad,ah⟩:0<=a/\a<=(rows:Int)-1:=Sj;have O:a.toNat<rows.length:=Qu;have⟨r,hr⟩:=aq O;obtain⟨D,o,rfl,H⟩:=G.θ O;obtain⟨U,ac,I,J⟩:=H _ r hr;have am:∀W:κ ((w.alloc (.cells (bK a) 235)).alloc (.cells (aA v h (some ⟨D,o,none⟩) rows ε) 57)),af W.W D (o+a.toNat) (.slice U r ac):=fun W=>ar (aJ HB W.ok) I
 have⟨Y,ab,Z⟩:=er (fun W:κ ((w.alloc (.cells (bK a) 235)).alloc (.cells (aA v h (some ⟨D,o,none⟩) rows ε) 57))=>J.ext (aJ HB W.ok)) (Ss:rows.getD a.toNat []=r) (T r (aU hr));go_enter func254,ntmps254
 go_upto_region 1 with(fail)
 refine dn ?_
 repeat (go_big_quiet_step (first|(go_at_call_of 247 a;exact Calls.fh (Calls.bl (eI _ _ _ _ _ _ _ hm) h1))|(go_at_call 186;exact Calls.dj (EZ _ _ _ _ (Y.o _) Z))))
 refine Py fun W=>?_
 go_ret
 exact⟨aN (by rw[ab.o];simp),aJ HB W.ok⟩
def El a p v h A ε(rows:aP)w(G:rows.length<=maxLen):az 258 (je (bK a) p (aA v h A rows ε)) w fun e w'=>e=.returned (.bool (eU a 0 (rows:Int)))/\ag w w':=by
 have D:Below w w ((w.alloc (.cells (bK a) 236)).alloc (.cells (aA v h A rows ε) 57)):=((al w w).alloc Qt _).alloc Qt _;have F:=zH D;have H:∀W:κ ((w.alloc (.cells (bK a) 236)).alloc (.cells (aA v h A rows ε) 57)),af W.W w 0 (zI a):=fun W=>W.cell Qt
 have I:∀W:κ ((w.alloc (.cells (bK a) 236)).alloc (.cells (aA v h A rows ε) 57)),af W.W ((w:Nat)+1) 2 (.slice A rows ε):=fun W=>W.cell Qt
 go_enter func258,ntmps258
 go_upto_region 1 with(fail)
 refine dn ?_
 repeat (go_big_quiet_step ((go_at_call 143;exact Calls.dj (dC _ _ _ _))))
 refine Py fun W=>?_
 go_ret
 exact⟨aN Qs,aJ F W.ok⟩
def xG b p v h A ε(rows:aP)w(G:rows.length<=maxLen):az 285 (je (bK b) p (aA v h A rows ε)) w fun e w'=>e=.returned (.bool (eU b 0 h))/\ag w w':=by
 have D:Below w w ((w.alloc (.cells (bK b) 242)).alloc (.cells (aA v h A rows ε) 57)):=((al w w).alloc Qt _).alloc Qt _;have F:=zH D;have H:∀W:κ ((w.alloc (.cells (bK b) 242)).alloc (.cells (aA v h A rows ε) 57)),af W.W w 0 (zI b):=fun W=>W.cell Qt
 have I:∀W:κ ((w.alloc (.cells (bK b) 242)).alloc (.cells (aA v h A rows ε) 57)),af W.W ((w:Nat)+1) 1 (zI h):=fun W=>W.cell Qt
 go_enter func285,ntmps285
 go_upto_region 1 with(fail)
 refine dn ?_
 repeat (go_big_quiet_step ((go_at_call 143;exact Calls.dj (dC _ _ _ _))))
 refine Py fun W=>?_
 go_ret
 exact⟨aN Qs,aJ F W.ok⟩
def xH b p v h A ε rows w(U:rows.length<=maxLen)(G:bt w A rows)(Y:0<=v)(Z:v<=24)(H:0<=h)(D:h<=100)(I:∀r∈rows,(r.length:Int)=v+h):az 282 (je (bK b) p (aA v h A rows ε)) w fun e w'=>e=.returned (.bool (eU b 0 (h-1)&&te rows (v+b).toNat (-1)))/\ag w w':=by
 have F:Below w w ((w.alloc (.cells (bK b) 241)).alloc (.cells (aA v h A rows ε) 57)):=((al w w).alloc Qt _).alloc Qt _;have HB:=zH F;have ac:∀W:κ ((w.alloc (.cells (bK b) 241)).alloc (.cells (aA v h A rows ε) 57)),af W.W w 0 (zI b):=fun W=>W.cell Qt
 have ad:∀W:κ ((w.alloc (.cells (bK b) 241)).alloc (.cells (aA v h A rows ε) 57)),af W.W ((w:Nat)+1) 0 (zI v):=fun W=>W.cell Qt
 have ah:∀W:κ ((w.alloc (.cells (bK b) 241)).alloc (.cells (aA v h A rows ε) 57)),af W.W ((w:Nat)+1) 1 (zI h):=fun W=>W.cell Qt
 have am:∀W:κ ((w.alloc (.cells (bK b) 241)).alloc (.cells (aA v h A rows ε) 57)),af W.W ((w:Nat)+1) 2 (.slice A rows ε):=fun W=>W.cell Qt
 cases h1:eU b 0 (h-1)
 .skip
  go_enter func282,ntmps282
  go_upto_region 1 with(fail)
  refine dn ?_
  repeat (go_big_quiet_step ((go_at_call 269;exact Calls.fh (Calls.bl (mq _ _ _ _ _ H D) h1))))
  exact Xq
 obtain⟨T,ab⟩:0<=b/\b<=h-1:=Sj;have⟨O,J⟩:=bJ (fun W:κ ((w.alloc (.cells (bK b) 241)).alloc (.cells (aA v h A rows ε) 57))=>G.ext (aJ HB W.ok)) I;go_enter func282,ntmps282
 go_upto_region 1 with(fail)
 refine dn ?_
 repeat (go_big_quiet_step (first|(go_at_call 269;exact Calls.fh (Calls.bl (mq _ _ _ _ _ H D) h1))|(go_at_call 270;exact Calls.fh (EY _ _ _ _ _ _ _ _ (O.o _) U Y Z D T Qu J.o))))
 refine Py fun W=>?_
 go_ret
 exact⟨aN Qt,aJ HB W.ok⟩
def zm a b p v h A ε rows w(hm:rows.length<=maxLen)(F:bt w A rows)(av:0<=v)(a0:v<=24)(hh:0<=h)(hh':h<=100)(H:∀r∈rows,(r.length:Int)=v+h):az 266 (je (bC a b) p (aA v h A rows ε)) w fun e w'=>e=.returned (.bool (eU a 0 ((rows:Int)-1)&&(eU b 0 (h-1)&&(((rows.getD a.toNat []).getD (v+b).toNat 0 !=0)&&te rows (v+b).toNat a))))/\ag w w':=by
 have I:Below w w ((w.alloc (.cells (bC a b) 237)).alloc (.cells (aA v h A rows ε) 57)):=((al w w).alloc Qt _).alloc Qt _;have HB:=zH I;have bb:∀W:κ ((w.alloc (.cells (bC a b) 237)).alloc (.cells (aA v h A rows ε) 57)),af W.W w 0 (zI a):=fun W=>W.cell Qt
 have bc:∀W:κ ((w.alloc (.cells (bC a b) 237)).alloc (.cells (aA v h A rows ε) 57)),af W.W w 1 (zI b):=fun W=>W.cell Qt
 have bd:∀W:κ ((w.alloc (.cells (bC a b) 237)).alloc (.cells (aA v h A rows ε) 57)),af W.W ((w:Nat)+1) 0 (zI v):=fun W=>W.cell Qt
 have be:∀W:κ ((w.alloc (.cells (bC a b) 237)).alloc (.cells (aA v h A rows ε) 57)),af W.W ((w:Nat)+1) 1 (zI h):=fun W=>W.cell Qt
 have bg:∀W:κ ((w.alloc (.cells (bC a b) 237)).alloc (.cells (aA v h A rows ε) 57)),af W.W ((w:Nat)+1) 2 (.slice A rows ε):=fun W=>W.cell Qt
 cases h1:eU a 0 ((rows:Int)-1)
 .skip
  go_enter func266,ntmps266
  go_upto_region 1 with(fail)
  refine bU QT QT ?_
  repeat (go_big_quiet_step ((go_at_call_of 247 a;exact Calls.fh (Calls.bl (eI _ _ _ _ _ _ _ hm) h1))))
  exact Xq
 cases h2:eU b 0 (h-1)
 .skip
  exact Zq
 obtain⟨am,a5⟩:0<=b/\b<=h-1:=by simpa[eU]using h2
 obtain⟨a3,a4⟩:0<=a/\a<=(rows:Int)-1:=Sj;have U:a.toNat<rows.length:=Qu;have⟨r,hr⟩:=aq U;obtain⟨D,o,rfl,J⟩:=F.θ U;obtain⟨Z,ao,T,G⟩:=J _ r hr;have a9:∀W:κ ((w.alloc (.cells (bC a b) 237)).alloc (.cells (aA v h (some ⟨D,o,none⟩) rows ε) 57)),af W.W D (o+a.toNat) (.slice Z r ao):=fun W=>ar (aJ HB W.ok) T
 have⟨a2,ad,ac,ab⟩:=gG (fun W:κ ((w.alloc (.cells (bC a b) 237)).alloc (.cells (aA v h (some ⟨D,o,none⟩) rows ε) 57))=>G.ext (aJ HB W.ok)) (Ss:rows.getD a.toNat []=r) (fun W:κ ((w.alloc (.cells (bC a b) 237)).alloc (.cells (aA v h (some ⟨D,o,none⟩) rows ε) 57))=>F.ext (aJ HB W.ok)) H;have ap:=H r (aU hr);have Y:(v+b).toNat<r.length:=Qu;have⟨x,hx⟩:=aq Y;obtain⟨an,a1,rfl,O⟩:=G.θ Y;have ba:∀W:κ ((w.alloc (.cells (bC a b) 237)).alloc (.cells (aA v h (some ⟨D,o,none⟩) rows ε) 57)),af W.W an (a1+(v+b).toNat) (zI x):=fun W=>ar (aJ HB W.ok) (O _ _ hx)
 have ah:=zH (Sr:r.getD (v+b).toNat 0=x);have a7:0<=v+b:=Qu;have a8:v+b < (r:Int):=Qu;rw[ad.o,ah.o];cases a6:(x !=0)
 .skip
  exact Zq
 go_enter func266,ntmps266
 go_upto_region 1 with(fail)
 refine bU QT QT ?_
 repeat (go_big_quiet_step (first|(go_at_call_of 247 a;exact Calls.fh (Calls.bl (eI _ _ _ _ _ _ _ hm) h1))|(go_at_call 269;exact Calls.fh (Calls.bl (mq _ _ _ _ _ hh hh') h2))|(go_at_call 270;exact Calls.fh (EY _ _ _ _ _ _ _ _ (ac.o _) hm av a0 hh' am Qu ab))))
 refine Py fun W=>?_
 go_ret
 exact⟨aN Qt,aJ HB W.ok⟩
def zn a b D F row p v h A ε(rows:aP)w(a2:rows.length<=maxLen)(J:aO w D row)(ad:row.length<=maxLen)(T:0<=v)(a3:v<=24)(O:0<=h)(av:h<=100):az 273 (je (aA a b D row F) p (aA v h A rows ε)) w fun e w'=>e=.returned (.bool (eU a 0 (rows:Int)&&(eU b 0 h&&(jX p row (v+h+1)&&(row.getD (v+b).toNat 0 !=0)))))/\ag w w':=by
 have Z:Below w w ((w.alloc (.cells (aA a b D row F) 239)).alloc (.cells (aA v h A rows ε) 57)):=((al w w).alloc Qt _).alloc Qt _;have HB:=zH Z;have a5:∀W:κ ((w.alloc (.cells (aA a b D row F) 239)).alloc (.cells (aA v h A rows ε) 57)),af W.W w 0 (zI a):=fun W=>W.cell Qt
 have a6:∀W:κ ((w.alloc (.cells (aA a b D row F) 239)).alloc (.cells (aA v h A rows ε) 57)),af W.W w 1 (zI b):=fun W=>W.cell Qt
 have a7:∀W:κ ((w.alloc (.cells (aA a b D row F) 239)).alloc (.cells (aA v h A rows ε) 57)),af W.W w 2 (.slice D row F):=fun W=>W.cell Qt
 have a8:∀W:κ ((w.alloc (.cells (aA a b D row F) 239)).alloc (.cells (aA v h A rows ε) 57)),af W.W ((w:Nat)+1) 0 (zI v):=fun W=>W.cell Qt
 have a9:∀W:κ ((w.alloc (.cells (aA a b D row F) 239)).alloc (.cells (aA v h A rows ε) 57)),af W.W ((w:Nat)+1) 1 (zI h):=fun W=>W.cell Qt
 have ba:∀W:κ ((w.alloc (.cells (aA a b D row F) 239)).alloc (.cells (aA v h A rows ε) 57)),af W.W ((w:Nat)+1) 2 (.slice A rows ε):=fun W=>W.cell Qt
 have U:=zH (fun W:κ ((w.alloc (.cells (aA a b D row F) 239)).alloc (.cells (aA v h A rows ε) 57))=>J.ext (aJ HB W.ok));cases H:eU a 0 (rows:Int)
 .skip
  go_enter func273,ntmps273
  go_upto_region 1 with(fail)
  refine bU QT QT ?_
  repeat (go_big_quiet_step ((go_at_call_of 143 a;exact Calls.dj (Calls.cg (dC _ _ _ _) H))))
  exact Xq
 cases I:eU b 0 h
 .skip
  go_enter func273,ntmps273
  go_upto_region 1 with(fail)
  refine bU QT QT ?_
  repeat (go_big_quiet_step (first|(go_at_call 64;exact Calls.fh (oW v h _ _ T Qu O Qu))|(go_at_call_of 143 a;exact Calls.dj (Calls.cg (dC _ _ _ _) H))|(go_at_call_of 143 b;exact Calls.dj (Calls.cg (dC _ _ _ _) I))))
  exact Xq
 obtain⟨ao,ap⟩:0<=b/\b<=h:=by simpa[eU]using I
 cases G:jX p row (v+h+1)
 .skip
  go_enter func273,ntmps273
  go_upto_region 1 with(fail)
  refine bU QT QT ?_
  repeat (go_big_quiet_step (first|(go_at_call 64;exact Calls.fh (oW v h _ _ T Qu O Qu))|(go_at_call_of 143 a;exact Calls.dj (Calls.cg (dC _ _ _ _) H))|(go_at_call_of 143 b;exact Calls.dj (Calls.cg (dC _ _ _ _) I))|(go_at_call 88;exact Calls.dj (Calls.cg (jO _ _ _ _ _ _ (U.o _) ad) G))))
  exact Xq
 have an:(row:Int)=v+h+1:=by unfold jX at G;rw[bN,cf]at G;exact G.1
 have ac:(v+b).toNat<row.length:=Qu;have⟨x,hx⟩:=aq ac;obtain⟨Y,ah,rfl,ab⟩:=J.θ ac;have a4:∀W:κ ((w.alloc (.cells (aA a b (some ⟨Y,ah,none⟩) row F) 239)).alloc (.cells (aA v h A rows ε) 57)),af W.W Y (ah+(v+b).toNat) (zI x):=fun W=>ar (aJ HB W.ok) (ab _ _ hx)
 have am:=zH (Sr:row.getD (v+b).toNat 0=x);have a0:0<=v+b:=Qu;have a1:v+b < (row:Int):=Qu;rw[am.o];go_enter func273,ntmps273
 go_upto_region 1 with(fail)
 refine bU QT QT ?_
 repeat (go_big_quiet_step (first|(go_at_call 64;exact Calls.fh (oW v h _ _ T Qu O Qu))|(go_at_call_of 143 a;exact Calls.dj (Calls.cg (dC _ _ _ _) H))|(go_at_call_of 143 b;exact Calls.dj (Calls.cg (dC _ _ _ _) I))|(go_at_call 88;exact Calls.dj (Calls.cg (jO _ _ _ _ _ _ (U.o _) ad) G))))
 refine Py fun W=>?_
 go_ret
 exact⟨aN Qt,aJ HB W.ok⟩
end Go.Proofs.YtpieilkmmiopfaaGreatDoor
