/- Parts of the walks and laws (Same, SChk). Conditions: as stated with each. -/
import Derived.Test.YtpieilkmmiopfaaGreatDoorPk30
namespace Go.Proofs.YtpieilkmmiopfaaGreatDoor
open Go.RowKit Tryz
set_option linter.all false
set_option maxHeartbeats 2000000
set_option maxRecDepth 100000
theorem rQ(A D:aq)(cap F:Nat)(xs ys:aH)(w:aa)(h:aJ w A xs)(h2:aJ w D ys)(H:xs.length<=maxLen)(I:ys.length<=maxLen):aw 148 (lH A xs cap D ys F) w (dM w (decide (xs=ys))):=by
 unfold maxLen at H I;by_cases hn:xs.length=ys.length
 .have G:((xs.length:Int)!=(ys.length:Int))=false:=RH;have Hn:=zH hn;clear hn;go_enter func148,ntmps148
  exact Z0
 .have G:((xs.length:Int)!=(ys.length:Int))=true:=RS;go_enter func148,ntmps148
  exact Xd
theorem AQ(A D:aq)(cap F:Nat)(xs ys:aH)(w:aa)(h:aJ w A xs)(h2:aJ w D ys)(H:xs.length<=maxLen)(I:ys.length<=maxLen):aw 81 (lH A xs cap D ys F) w (dM w (decide (xs=ys))):=by
 unfold maxLen at H I;by_cases hn:xs.length=ys.length
 .have G:((xs.length:Int)!=(ys.length:Int))=false:=RH;have Hn:=zH hn;clear hn;go_enter func81,ntmps81
  exact Z0
 .have G:((xs.length:Int)!=(ys.length:Int))=true:=RS;go_enter func81,ntmps81
  exact Xd
theorem zb3(A I:aq)(cap a9:Nat)(xs ys:aN)(w:aa)(Z:bk w A xs)(ab:bk w I ys)(bd:xs.length<=maxLen)(bg:ys.length<=maxLen)(a6:∀r∈xs,r.length<=maxLen)(a7:∀r∈ys,r.length<=maxLen):aw 97 (lH A xs cap I ys a9) w (dM w (decide (xs=ys))):=by
 unfold maxLen at bd bg;by_cases hn:xs.length=ys.length
 .have bc:((xs.length:Int)!=(ys.length:Int))=false:=RH;have Hn:=zH hn;clear hn;go_enter func97,ntmps97
  go_wp2;go_loopw [13] (fun i wr=>∃k:Nat,k<=xs.length/\i=.int .i64 k/\xs.take k=ys.take k/\ag w wr) (fun i _=>xs.length-(intOf i).toNat)
  case atStart=>exact⟨0,aX _,rfl,Rq,aj _ _⟩
  case round=>
   obtain⟨k,bo,rfl,ac,EL⟩:=hrel;have EX:=zH ac;clear ac;by_cases a4:k<xs.length
   .have a5:k<ys.length:=Tc;obtain⟨x,D⟩:=aB a4;obtain⟨y,F⟩:=aB a5;obtain⟨b,o,rfl,ad⟩:=(Z.ext EL).here a4;obtain⟨a8,bi,rfl,am⟩:=(ab.ext EL).here a5;obtain⟨J,ba,ao,a0⟩:=ad k x D;obtain⟨N,bb,ap,a2⟩:=am k y F;have c1:∀W:Ext wr,ae W.W b (o+k) (.slice J x.length ba):=fun W=>W.cell ao
    have c2:∀W:Ext wr,ae W.W a8 (bi+k) (.slice N y.length bb):=fun W=>W.cell ap
    have a1:∀W:Ext wr,aJ W.W J x:=fun W=>a0.ext W.ok
    have a3:∀W:Ext wr,aJ W.W N y:=fun W=>a2.ext W.ok
    obtain⟨O,R,V,Y,T,U⟩:=kE a1 a3 (a6 x (aY D)) (a7 y (aY F)) D F;clear D F ad am Z ab a6 a7 a0 a2 a1 a3 ao ap;by_cases h:x=y
    .obtain⟨G,H⟩:=bD (gH h) h;clear h;go_wp2;refine bK RP RP ?_
     repeat (go_big_quiet_step ((go_at_call 81;exact Calls.eA (Calls.be (AQ _ _ _ _ _ _ _ (O.o _) (R.o _) V.o Y.o) G.o))))
     refine dn ?_;rintro _ ⟨W,rfl⟩;go_wp2;go_roundw
     case rel=>exact⟨k+1,Rr,Rt,kT EX.o T.o (by rw[H.o];exact U.o),ai EL W.ok⟩
     case measure=>simp[intOf];omega
    .obtain⟨G,H⟩:=bD (fW h) h;clear h;go_wp2;refine bK RP RP ?_
     repeat (go_big_quiet_step ((go_at_call 81;exact Calls.eA (Calls.be (AQ _ _ _ _ _ _ _ (O.o _) (R.o _) V.o Y.o) G.o))))
     refine dn ?_;rintro _ ⟨W,rfl⟩;go_wp2;go_ret
     exact⟨aL (fW (za4 T.o U.o H.o)).symm,ai EL W.ok⟩
   .exact XK
 .have bc:((xs.length:Int)!=(ys.length:Int))=true:=RS;go_enter func97,ntmps97
  exact Xd
theorem BI(A N:aq)(cap a5:Nat)(xs ys:aN)(w:aa)(ab:bk w A xs)(ac:bk w N ys)(a7:xs.length<=maxLen)(a8:ys.length<=maxLen)(a3:∀r∈xs,r.length<=maxLen)(a4:∀r∈ys,r.length<=maxLen):aw 147 #[.slice A xs.length cap,.slice N ys.length a5,.func (.func 148) #[] #[]] w (dM w (decide (xs=ys))):=by
 unfold maxLen at a7 a8;by_cases hn:xs.length=ys.length
 .have a6:((xs.length:Int)!=(ys.length:Int))=false:=RH;have Hn:=zH hn;clear hn;go_enter func147,ntmps147
  go_wp2;go_loopw [17] (fun i wr=>∃k:Nat,k<=xs.length/\i=.int .i64 k/\xs.take k=ys.take k/\ag w wr) (fun i _=>xs.length-(intOf i).toNat)
  case atStart=>exact⟨0,aX _,rfl,Rq,aj _ _⟩
  case round=>
   obtain⟨k,bp,rfl,ad,EL⟩:=hrel;have EX:=zH ad;clear ad;by_cases a1:k<xs.length
   .have a2:k<ys.length:=Tc;obtain⟨x,F⟩:=aB a1;obtain⟨y,G⟩:=aB a2;obtain⟨b,o,rfl,am⟩:=(ab.ext EL).here a1;obtain⟨bc,bq,rfl,ao⟩:=(ac.ext EL).here a2;obtain⟨ba,bd,bi,ap⟩:=am k x F;obtain⟨bb,bg,bo,a0⟩:=ao k y G;obtain⟨R,T,Y,Z,U,V,O⟩:=zH7 ap a0 (a3 x (aY F)) (a4 y (aY G)) F G EL;clear F G am ao ab ac a3 a4 ap a0 EL;by_cases h:x=y
    .obtain⟨H,J⟩:=bD (gH h) h;clear h;go_wp2_with (go_at_call 148;refine(Calls.be (rQ _ _ _ _ x y _ R.o T.o Y.o Z.o) H.o).mono ?_;rintro e a9 ⟨rfl,D⟩;have I:=zH (ai O.o D);clear D)
     go_roundw
     case rel=>exact⟨k+1,Rr,Rt,kT EX.o U.o (by rw[J.o];exact V.o),I.o⟩
     case measure=>simp[intOf];omega
    .obtain⟨H,J⟩:=bD (fW h) h;clear h;go_wp2_with (go_at_call 148;refine(Calls.be (rQ _ _ _ _ x y _ R.o T.o Y.o Z.o) H.o).mono ?_;rintro e a9 ⟨rfl,D⟩;have I:=zH (ai O.o D);clear D)
     go_ret
     exact⟨aL (fW (za4 U.o V.o J.o)).symm,I.o⟩
   .exact XK
 .have a6:((xs.length:Int)!=(ys.length:Int))=true:=RS;go_enter func147,ntmps147
  exact Xd
theorem Dy(A h:aq)(cap G:Nat)(xs ys:aN)(w:aa)(H:bk w A xs)(I:bk w h ys)(J:xs.length<=maxLen)(N:ys.length<=maxLen)(O:∀r∈xs,r.length<=maxLen)(R:∀r∈ys,r.length<=maxLen):aw 102 (lH A xs cap h ys G) w (dM w (decide (xs=ys))):=by
 go_enter func102,ntmps102
 go_wp2_with (go_at_call 147;refine(BI _ _ _ _ xs ys _ H I J N O R).mono ?_;rintro e T ⟨rfl,D⟩;have F:=zH D;clear D)
 go_ret
 exact⟨rfl,F.o⟩
def nP(a b:Sy):Bool:=decide (a.v=b.v)&&(decide (a.h=b.h)&&decide (a.rows=b.rows))
theorem xH(a b:Sy)(A F:aq)(cap H:Nat)(w:aa)(N:bk w A a.rows)(O:bk w F b.rows)(Y:a.rows.length<=maxLen)(Z:b.rows.length<=maxLen)(T:∀r∈a.rows,r.length<=maxLen)(U:∀r∈b.rows,r.length<=maxLen):aw 69 (iD (cU a A cap) (cU b F H)) w (dM w (nP a b)):=by
 have G:=((aj w.heap.size w).alloc Rq (.cells (cU a A cap) 57)).alloc Rq (.cells (cU b F H) 57);obtain⟨HB,J⟩:=bD G (Dy A F cap H a.rows b.rows _ (N.ext G) (O.ext G) Y Z T U);clear G N O T U;by_cases D:a.v=b.v
 .have ab:(a.v==b.v)=true:=by simp[D]
  have HV:=zH (gH D);clear D;by_cases h:a.h=b.h
  .have V:(a.h==b.h)=true:=by simp[h]
   have HH:=zH (gH h);clear h;obtain⟨q,I⟩:=aM (decide (a.rows=b.rows));rw[<-I]at J;have HQ:=zH I;clear I;go_enter func69,ntmps69
   go_wp2_with (go_at_call 102;refine J.o.mono ?_;rintro e ac ⟨rfl,R⟩;have EO:=zH (ai HB.o R);clear R)
   exact WT
  .have V:(a.h==b.h)=false:=by simp[h]
   have HH:=zH (fW h);clear h;go_enter func69,ntmps69
   exact WN
 .have ab:(a.v==b.v)=false:=by simp[D]
  have HV:=zH (fW D);clear D;go_enter func69,ntmps69
  exact WD
theorem zb4(a b:Sy)(A F:aq)(cap H:Nat)(w:aa)(N:bk w A a.rows)(O:bk w F b.rows)(Y:a.rows.length<=maxLen)(Z:b.rows.length<=maxLen)(T:∀r∈a.rows,r.length<=maxLen)(U:∀r∈b.rows,r.length<=maxLen):aw 61 (iD (cU a A cap) (cU b F H)) w (dM w (nP a b)):=by
 have G:=((aj w.heap.size w).alloc Rq (.cells (cU a A cap) 57)).alloc Rq (.cells (cU b F H) 57);obtain⟨HB,J⟩:=bD G (zb3 A F cap H a.rows b.rows _ (N.ext G) (O.ext G) Y Z T U);clear G N O T U;by_cases D:a.v=b.v
 .have ab:(a.v==b.v)=true:=by simp[D]
  have HV:=zH (gH D);clear D;by_cases h:a.h=b.h
  .have V:(a.h==b.h)=true:=by simp[h]
   have HH:=zH (gH h);clear h;obtain⟨q,I⟩:=aM (decide (a.rows=b.rows));rw[<-I]at J;have HQ:=zH I;clear I;go_enter func61,ntmps61
   go_wp2_with (go_at_call 97;refine J.o.mono ?_;rintro e ac ⟨rfl,R⟩;have EO:=zH (ai HB.o R);clear R)
   exact WT
  .have V:(a.h==b.h)=false:=by simp[h]
   have HH:=zH (fW h);clear h;go_enter func61,ntmps61
   exact WN
 .have ab:(a.v==b.v)=false:=by simp[D]
  have HV:=zH (fW D);clear D;go_enter func61,ntmps61
  exact WD
def ldB(p:Int)(a:Sy)(xs:List ft)(b:Sy):Bool:=decide (dX p a xs=xs.length)&&nP (gz p a xs xs.length) b
theorem zd5(p:Int)(a:Sy)(A:aq)(cap:Nat)(xs:List ft)(V:aq)(bc:Nat)(b:Sy)(h:aq)(J:Nat)(w:aa)(ap:eB w)(a0:bk w A a.rows)(a2:fL w V xs)(a1:bk w h b.rows)(O:a.Ok p)(b2:xs.length<=3000)(a8:∀x∈xs,x.row.length<=1048576)(a6:b.rows.length<=1048576)(a7:∀r∈b.rows,r.length<=1048576):aw 39 #[p,.agg (cU a A cap),.slice V xs.length bc,.agg (cU b h J)] w (dM w (ldB p a xs b)):=by
 have G:Below w.heap.size w ((w.alloc (.cells (cU a A cap) 57)).alloc (.cells (cU b h J) 57)):=((aj w.heap.size w).alloc Rq _).alloc Rq _;have ab:=zH G;have a9:((w.alloc (.cells (cU a A cap) 57)).alloc (.cells (cU b h J) 57)).heap[w.heap.size+1]?=some (.cells (cU b h J) 57 (0,0)):=aC _ _ Rq;obtain⟨bo,ad,bq,bg,bi,U⟩:=kE a9 (zgm p a A cap xs _ V bc (ap.ext G) (a0.ext G) (a2.ext G) O b2 a8) a1 a6 a7 (fun D=>(rT (xs:=xs) O (i:=xs.length) D).small);clear G a9 ap a0 a2 a1 a8 a6 a7;have a5:=mh p xs a;by_cases Y:dX p a xs<xs.length
 .obtain⟨I,T⟩:=bD (show ∀W e w',zft p a xs W e w'->e=.returned (.tuple (gD bj (dX p a xs:Nat)))/\ag W w' from fun W e w' D=>⟨D.1 Y,D.2.2⟩) (by unfold ldB;rw[fW Rr];rfl:ldB p a xs b=false);obtain⟨f,a4⟩:∃f:Nat,f=dX p a xs:=⟨_,rfl⟩;rw[<-a4]at I;clear a4 Y a5 U O;go_enter func39,ntmps39
  go_wp2_with (go_at_call 68;refine ad.o.mono ?_;rintro e R hr;obtain⟨rfl,F⟩:=I.o _ _ _ hr;have H:=zH (ai ab.o F);clear F hr)
  go_ret
  exact⟨aL T.o.symm,H.o.alloc H.o.size _⟩
 .obtain⟨t,ht⟩:=aM (gz p a xs xs.length);have I:=zH (show ∀W e w',zft p a xs W e w'->∃(h:aq) (c:Nat),e=.returned (.tuple (gD (cU t h c) (-1)))/\aU w' W.heap.size (.slice h t.rows.length c) t.rows/\ag W w' from fun W e w' D=>by obtain⟨h,c2,b0,b1⟩:=D.2.1 Rr;rw[ht];exact⟨_,_,b0,b1,D.2.2⟩)
  have JP:Small t:=by rw[ht];exact U.o Rr
  obtain⟨T,br,bu⟩:=dO (Vc:ldB p a xs b=nP t b) (show t.rows.length<=maxLen by have:=JP.n;unfold maxLen;omega) (show ∀r∈t.rows,r.length<=maxLen from fun r hr=>Vo);clear Y a5 ht U O JP;go_enter func39,ntmps39
  go_upto_region 2 with(go_at_call 68;refine ad.o.mono ?_;rintro e R hr;obtain⟨Z,ao,rfl,bb,F⟩:=I.o _ _ _ hr;have H:=zH (ai ab.o F);have bp:=zH (ah bo.o F);have bv:=zH (yL bb);clear F hr bb)
  obtain⟨am,JQ⟩:=aM (R.alloc (.cells (cU t Z ao) 57));rw[<-JQ];have N:ag R am:=Vd;have ba:aW am R.heap.size (cU t Z ao) 57:=by rw[JQ];exact aC _ _ rfl
  obtain⟨d0,d1,d2⟩:=aG ba;obtain⟨b3,b4,b5⟩:=aG (ah bp.o N);obtain⟨ac,bz⟩:=bD (ai H.o N) (bv.o.ext N);clear N ba JQ;go_wp2_with (go_at_call 69;refine(xH t b _ _ _ _ _ bz.o (bq.o.ext ac.o) br.o (lE bg.o) bu.o (fun r hr=>lE (bi.o r hr))).mono ?_;rintro e b6 ⟨rfl,a3⟩;have bd:=zH (ai ac.o a3);clear a3)
  go_ret
  exact⟨aL T.o.symm,bd.o⟩
theorem DB(p:Int)(a:Sy)(A:aq)(cap:Nat)(xs:List ft)(ab:aq)(bg:Nat)(b:Sy)(h:aq)(G:Nat)(w:aa)(a1:bk w A a.rows)(a3:fL w ab xs)(a2:bk w h b.rows)(R:a.Ok p)(ch:xs.length<=3000)(ba:∀x∈xs,x.row.length<=1048576)(a8:b.rows.length<=1048576)(a9:∀r∈b.rows,r.length<=1048576):aw 36 #[p,.agg (cU a A cap),.slice ab xs.length bg,.agg (cU b h G)] w (dM w (ldB p a xs b)):=by
 have O:Below w.heap.size w ((w.alloc (.cells (cU a A cap) 57)).alloc (.cells (cU b h G) 57)):=((aj w.heap.size w).alloc Rq _).alloc Rq _;have ap:=zH O;have bc:((w.alloc (.cells (cU a A cap) 57)).alloc (.cells (cU b h G) 57)).heap[w.heap.size+1]?=some (.cells (cU b h G) 57 (0,0)):=aC _ _ Rq;obtain⟨bu,a0,bv,bq,br,Z⟩:=kE bc (zdP p a A cap xs _ ab bg (a1.ext O) (a3.ext O) R ch ba) a2 a8 a9 (fun H=>(rT (xs:=xs) R (i:=xs.length) H).small);clear O bc a1 a3 a2 ba a8 a9;have a6:=mh p xs a;by_cases a7:dX p a xs<xs.length
 .obtain⟨m,I⟩:∃m:Nat,m=dX p a xs+1:=⟨_,rfl⟩;have U:=zH (show ∀W e w',zfi p a xs W e w'->∃(h:aq) (c:Nat),e=.returned (.slice h m c)/\ag W w' from fun W e w' H=>by obtain⟨g,c,N,_,ad⟩:=H;exact⟨_,_,by rw[I];exact N,ad⟩)
  have V:=zH (by unfold ldB;rw[fW Rr];rfl:ldB p a xs b=false);have ce:decide (xs.length<m)=false:=fW Rr;clear a7 a6 I Z R;go_enter func36,ntmps36
  go_wp2_with (go_at_call 60;refine a0.o.mono ?_;rintro e D hr;obtain⟨ao,b7,rfl,F⟩:=U.o _ _ _ hr;have J:=zH (ai ap.o F);clear F hr)
  refine bK RP RP ?_
  repeat (go_big_quiet_step (fail))
  refine dn ?_;rintro _ ⟨W,rfl⟩;go_wp2;go_ret
  exact⟨aL V.o.symm,ai J.o W.ok⟩
 .have a5:dX p a xs=xs.length:=Rr;obtain⟨t,ht⟩:=aM (gz p a xs xs.length);obtain⟨m,I⟩:∃m:Nat,m=xs.length+1:=⟨_,rfl⟩;have U:=zH (show ∀W e w',zfi p a xs W e w'->∃(g c:Nat) (h:aq) (c2:Nat),e=.returned (.slice (some ⟨g,0,none⟩) m c)/\(ae w' g (xs.length*3) (.int .i64 t.v)/\ae w' g (xs.length*3+1) (.int .i64 t.h)/\ae w' g (xs.length*3+2) (.slice h t.rows.length c2))/\aU w' W.heap.size (.slice h t.rows.length c2) t.rows/\ag W w' from fun W e w' H=>by
   obtain⟨g,c,N,⟨us,ac⟩,ad⟩:=H;rw[a5]at N ac;have bd:(tX p a xs (xs.length+1))[xs.length]?=some t:=by rw[ht];exact zaI _ _ _ _ _ Rr
   obtain⟨u,T,bb⟩:=ac.get bd;obtain⟨h,c2,rfl,_⟩:=bb.view;have a4:=ac.outer;rw[AF]at a4;have am:∀j,j<3->w'.cell? ⟨g,xs.length*3+j,none⟩=(i_ t (.slice h t.rows.length c2))[j]?:=fun j cc=>by rw[a4.cellAt _ Rr,xL cc bd T]
   exact⟨g,c,h,c2,by rw[I];exact N,⟨am 0 Rs,am 1 Rs,am 2 Rs⟩,bb,ad⟩)
  have JP:Small t:=by rw[ht];exact Z.o Rr
  obtain⟨V,b1,b2⟩:=dO (Vc:ldB p a xs b=nP t b) (show t.rows.length<=maxLen by have:=JP.n;unfold maxLen;omega) (show ∀r∈t.rows,r.length<=maxLen from fun r hr=>Vo);have ce:decide (xs.length<m)=true:=gH Rr;have ci:xs.length<m:=Rr;clear a7 a6 ht Z R JP I a5;go_enter func36,ntmps36
  go_wp2_with (go_at_call 60;refine a0.o.mono ?_;rintro e D hr;obtain⟨g,b7,ao,b8,rfl,⟨bi,bo,bp⟩,T,F⟩:=U.o _ _ _ hr;have J:=zH (ai ap.o F);have Y:=zH (ah bu.o F);have b3:=zH (yL T);have b4:=zH bi;have b5:=zH bo;have b6:=zH bp;clear F hr T bi bo bp)
  have b9:∀W:Ext D,ae W.W g (xs.length*3) (.int .i64 t.v):=fun W=>W.cell b4.o
  have ca:∀W:Ext D,ae W.W g (xs.length*3+1) (.int .i64 t.h):=fun W=>W.cell b5.o
  have cb:∀W:Ext D,ae W.W g (xs.length*3+2) (.slice ao t.rows.length b8):=fun W=>W.cell b6.o
  have f0:∀W:Ext D,ae W.W (w.heap.size+1) 0 (.int .i64 b.v):=fun W=>W.cell (aG Y.o).1
  have f1:∀W:Ext D,ae W.W (w.heap.size+1) 1 (.int .i64 b.h):=fun W=>W.cell (aG Y.o).2.1
  have f2:∀W:Ext D,ae W.W (w.heap.size+1) 2 (.slice h b.rows.length G):=fun W=>W.cell (aG Y.o).2.2
  obtain⟨bz,b0⟩:=bD (fun W:Ext D=>b3.o.ext W.ok) (fun W:Ext D=>bv.o.ext (ai J.o W.ok));refine bK RP RP ?_
  repeat (go_big_quiet_step ((go_at_call 61;exact Calls.eA (zb4 t b _ _ _ _ _ (bz.o _) (b0.o _) b1.o (lE bq.o) b2.o (fun r hr=>lE (br.o r hr))))))
  refine dn ?_;rintro _ ⟨W,rfl⟩;clear b9 ca cb f0 f1 f2;go_wp2;go_ret
  exact⟨aL V.o.symm,ai J.o W.ok⟩
end Go.Proofs.YtpieilkmmiopfaaGreatDoor
