/- Parts of the walks. Conditions: as stated with each. -/
import Derived.Test.YtpieilkmmiopfaaGreatDoorPk26
namespace Go.Proofs.YtpieilkmmiopfaaGreatDoor
open Go.RowKit Tryz
set_option linter.all false
set_option maxHeartbeats 4000000
set_option maxRecDepth 100000
variable{b k n:Nat}{w:aa}{xs:aL}
def yj n:(mg n).length=n:=by simp[mg,zK]
def zeX(h:k<n):(mg n)[k]?=some (kg n k++kg n k):=by simp[mg,CQ h]
def vy n w(dT:n<=1024):az 182 (fm n) w (lJ (idR n) w):=by
 have⟨ba,bh⟩:=bM w (.cells bx 67);go_enter func182,ntmps182
 go_upto_region 1 with(fail)
 generalize w.alloc _=W at ba bh ⊢;have⟨cr,b0⟩:=bJ ba bh;clear ba bh;have⟨bb,ad⟩:=bM W (.cells #[n,n,dE] 67);go_upto_region 2 with(fail)
 generalize W.alloc _=O at bb ad ⊢;obtain⟨cq,c5,am⟩:=er bb ad (show(W:Nat)<O from(bk.1 ad).1);clear bb ad;go_wp2;go_loopw [9] (fun i wr=>∃k:Nat,k<=n/\i=.int .i64 k/\(∃D F,bA wr W (eO n n D k F) 67/\bw 26 1 Bf wr O (.slice D k F) ((mg n).take k))/\ag W wr/\(O:Nat)<=wr) (fun i _=>n-(intOf i).toNat)
 case atStart=>exact⟨0,aW _,rfl,⟨none,0,c5,bw.nil _ _ _ _ _⟩,cq,ae _⟩
 case round=>
  obtain⟨k,dO,rfl,⟨D,F,ah,ac⟩,ab,a3⟩:=hrel;by_cases be:k<n
  .obtain⟨bu,cV⟩:=bJ (by rw[cQ,yj];omega:((mg n).take k).length=k) (by rw[du,zeX be];rfl:(mg n).take (k+1)=(mg n).take k++[kg n k++kg n k]);have⟨I,ck⟩:=aR ((kg n k++kg n k).length);obtain⟨a6,b2⟩:=bJ ck (fun V=>(by have:=DP n k V Qu be;exact this:az 125 (iL n k) V fun e w'=>∃u,e=.returned u/\aE w' V u (kg n k)/\ag V w'));have⟨a4,a5,z2⟩:=aD ah;have J:=z2;have⟨c7,bz,cu,b3,Je⟩:=pD ah ac ab a3 be;clear ah ac ab a4 a5 z2 ck a3;go_upto_region 5 with(fail)
   refine cU (S:=fun V=>af V W 2 (.slice D k F)) 13 QT J (fun hHeld=>?_);refine P8 ?_;refine aM 5 ?_;refine aM 6 ?_;refine cm 4 fun K hK=>?_
   go_simp;refine(b2.o _).x ?_;rintro e d4 ⟨u1,rfl,a1,bc⟩;obtain⟨bp,cb,rfl,-⟩:=a1.p;rw[kh]at a1 ⊢;have b4:=zH ((aC wr).t (bc.x (aC wr).size));have cW:=zH (a1.fr bc.size).D;clear a1 bc;go_simp;have b7:=ar b4 J;refine hK.out _ _ (fun _=>b7) (fun hHeld=>?_);clear hK K hHeld;refine P9 ?_;refine Ny fun K hK=>?_
   refine(b2.o _).x ?_;rintro e dq ⟨u2,rfl,a2,av⟩;obtain⟨bq,cc,rfl,-⟩:=a2.p;rw[kh]at a2 ⊢;have Y:=zH (aT b4 av);have c0:=zH (a2.fr av.size).D;have c4:=zH (cW.ext av);clear a2 av;go_simp;have b8:=ar Y J;refine hK.out _ _ (fun _=>b8) (fun hHeld=>?_);clear hK K hHeld;refine P9 ?_;refine cm 8 fun K hK=>?_
   go_simp;have b9:=ar (Y.alloc Y.size (.cells (nj bp n cb bq n cc) 26)) J;refine hK.out _ _ (fun _=>b9) (fun hHeld=>?_);clear hK K hHeld;refine P9 ?_;refine cm 9 fun K hK=>?_
   go_simp;refine(mS (kg n k) (kg n k) bp bq cb cc n n I dq c4 c0 (kh n k).q (kh n k).q a6 Qu).x ?_;rintro e T ⟨G,H,rfl,cj,ch,ce⟩;have cB:=zH cj;clear cj;have⟨Z,c3⟩:=bJ (aT Y ce) (ch.to (lo':=wr.heap.size) Y.size (ae _));clear ch ce;go_simp;have ca:=ar Z J;refine hK.out _ _ (fun _=>ca) (fun hHeld=>?_);clear hK K hHeld;refine P9 ?_;refine cm 10 fun K hK=>?_
   go_simp;have a8:=ar (Z.alloc Z.size (.cells (bZ G I H) 26)) J;refine hK.out _ _ (fun _=>a8) (fun hHeld=>?_);clear hK K hHeld;refine P9 ?_;have⟨b1,U⟩:=bJ (aH T (.cells (bZ G I H) 26) rfl) (Z.alloc Z.size (.cells (bZ G I H) 26));have a9:=aw T (.cells (bZ G I H) 26);have bv:=zH (bz.ext U);have b5:=zH (show kn Bf (T.alloc (.cells (bZ G I H) 26)) O (.slice D k F) (kg n k++kg n k) [.slice G I H] from by obtain⟨cs,dl⟩:=bz.o;refine⟨wr,T,b3,a9.size,fun g e=>ay ((bS dl.η g e).2),?_⟩;exact(c3.ext a9 (ae _)).E fun V c8=>⟨G,H,by rw[<-a6.o],by rw[<-a6.o];exact cB,c8⟩)
   obtain⟨a7,b6⟩:=bJ (show(O:Nat)<=(T.alloc (.cells (bZ G I H) 26)) from aZ b3 U.size) (ai c7 U);clear a9;generalize T.alloc _=dr at b1 U bv b5 a7 b6 a8 ⊢;refine cm 11 fun K hK=>?_
   refine im yU rfl (.tmp 13) (.tmp 22) rfl O dr (.slice D k F) ((mg n).take k) (kg n k++kg n k) [.slice G I H] T bv.o rfl SU b5.o (by rw[bu.o];omega) a7.o rfl rfl b1.o ?_;intro ap ao co bg dc c9 bd;rw[bu.o]at bg ⊢;have⟨cF,br,an⟩:=er bg bd ((bd.block W am).t b6);have⟨a4,a5,z2⟩:=aD an;have bn:=aK an 1;have bo:=aK an 2;clear bg dc c9 bd;refine hK.out _ _ (fun _=>z2) (fun hHeld=>?_);clear hK K hHeld;refine P9 ?_;refine cm 12 fun K hK=>?_
   go_simp;refine hK.out _ _ (fun _=>z2) (fun hHeld=>?_);clear hK K hHeld;refine P9 ?_;refine cm 13 fun K hK=>?_
   go_simp;refine Qn ?_;clear K hK;refine gM QT ?_ _;have bi:=bE co W 2 _ _ (.slice (bH ap) (k+1) ao) an;simp only[zA]at bi;have⟨cR,cI,ct⟩:=er bi (cF.setCell (a:=⟨W,2,none⟩) am (.slice (bH ap) (k+1) ao)) (((aT cu U).t (br.x (ix am))).setCell (p:=⟨W,2,none⟩) (ae _) (.slice (bH ap) (k+1) ao));have cO:=zH (show(O:Nat)<=(co.setCell ⟨W,2,none⟩ (.slice (bH ap) (k+1) ao)) by have:=br.size;have:=a7.o;simp;omega)
   clear bi J b7 b8 b9 ca a8 a4 a5 z2 bn bo;go_wp2;go_roundw
   case rel=>exact⟨k+1,St,Qx,⟨_,_,cR,by rw[cV.o];exact cI⟩,ct,cO⟩
   case measure=>have:=Je.o;simp[intOf];omega
  .obtain rfl:k=n:=Qu;rw[cZ (by rw[yj];exact ae _)]at ac;have⟨a4,a5,z2⟩:=aD ah;have a0:=ai b0 ab;have⟨d1,d2,d3⟩:=aD a0;have⟨f0,f1,f2⟩:=cd a0;have cn:=(bk.1 b0).1;have ci:=(ac.fr (fun _ _ _ _ db h=>h.ext db) a3).E fun V h=>lM h
   have⟨cA,cK,cz,c6⟩:=gG ci a0 (aT cr ab) cn;clear ah ac a0 ci cn ab a3;go_wp2;have bn:=bE wr w 0 _ _ (zI (k:Nat)) cK;have bo:=bE _ w.heap.size 1 _ _ (zI (k:Nat)) bn;have cp:=bE _ w.heap.size 2 _ _ (.slice D k F) bo;simp only[zA]at cp;have⟨u0,u1,u2⟩:=aD cp;refine aI (v:=.agg (gH k k D k F)) (by simp[results,results182,go_sem, *]) rfl ⟨D,F,by rw[show(idR k).b.length=k from yj k];rfl,?_,((cz.setCell (p:=⟨w,0,none⟩) (ae _) _).setCell (p:=⟨w,1,none⟩) (ae _) _).setCell (p:=⟨w,2,none⟩) (ae _) _⟩;have d0:=am.o;have ad:=c6.o;exact(cA.y (w':=((wr.setCell ⟨w,0,none⟩ (zI (k:Nat))).setCell ⟨w,1,none⟩ (zI (k:Nat))).setCell ⟨w,2,none⟩ (.slice D k F)) fun q a _=>(a_ _ _ _ _ (by show q≠w.heap.size;omega)).t ((a_ _ _ _ _ (by show q≠w.heap.size;omega)).t (a_ _ _ _ _ (by show q≠w.heap.size;omega)))).to Qu Qt
def zas l r k G A F m d w(I:l<=d)(J:l<=1048576):az 175 #[.agg (gH l r A k G),.slice F m d] w fun e w'=>e=.returned (.slice F l d)/\ag w w':=by
 have⟨h,D⟩:=bM w (.cells (gH l r A k G) 67);go_enter func175,ntmps175
 go_upto_region 1 with(fail)
 generalize w.alloc _=W at h D ⊢;have⟨O,T,U⟩:=aD D;have H:=zH h;clear h D;go_wp2;go_ret
 exact⟨rfl,H⟩
def BQ l r k F A b o m d w(H:l<=m)(J:m<=d)(I:l<=1048576):az 174 #[.agg (gH l r A k F),.slice (some ⟨b,o,none⟩) m d] w fun e w'=>e=.returned (.slice (if d=l then some ⟨b,o,none⟩ else some ⟨b,o+l,none⟩) (m-l) (d-l))/\ag w w':=by
 have⟨h,D⟩:=bM w (.cells (gH l r A k F) 67);go_enter func174,ntmps174
 go_upto_region 1 with(fail)
 generalize w.alloc _=W at h D ⊢;have⟨O,T,U⟩:=aD D;have G:=zH h;clear h D;go_wp2
 all_goals
  go_ret
  exact⟨rfl,G⟩
def lL{D}(h:aO w D xs)l:aO w D (xs.take l):=by
 rcases h with h|⟨b,o,e,F⟩
 .exact ay QZ
 .exact au ⟨b,o,e,fun k x G=>F k x (rE G)⟩
def mR{o}(h:aO w (some ⟨b,o,none⟩) xs)l:aO w (some ⟨b,o+l,none⟩) (xs.drop l):=by
 rcases h with h|⟨G,H,e,F⟩
 .exact ay QZ
 .cases e
  refine au ⟨b,o+l,rfl,fun k x D=>?_⟩;rw[fQ]at D;have:=F _ x D;rwa[<-ow]at this
def AU xs l r k F d A h w(I:aO w h xs)(T:xs.length=l+r)(J:xs.length<=d)(O:l+r<=1048576):az 175 #[.agg (gH l r A k F),.slice h xs d] w fun e w'=>∃D G,e=.returned (.slice D l G)/\l<=G/\aO w' D (xs.take l)/\ag w w':=by refine iB (zas l r k F A h xs d w Qu Qu) ?_;rintro e w' ⟨rfl,H⟩;exact⟨h,d,rfl,Qu,lL (I.ext H) l,H⟩
def xZ xs l r k F d A h w(H:aO w h xs)(U:xs.length=l+r)(I:0<xs.length)(J:xs.length<=d)(T:l+r<=1048576):az 174 #[.agg (gH l r A k F),.slice h xs d] w fun e w'=>∃D G,e=.returned (.slice D r G)/\r<=G/\aO w' D (xs.drop l)/\ag w w':=by
 obtain⟨b,o,rfl,-⟩:=H.θ I;refine iB (BQ l r k F A b o xs d w Qu J Qu) ?_;rintro e w' ⟨rfl,hb⟩;have O:xs.length-l=r:=Qu;rw[O];by_cases e:d=l
 .exact WJ
 .rw[aj e];exact⟨_,_,rfl,Qu,mR (H.ext hb) l,hb⟩
def FA xs l r k I d F A H V(a4:bA V F (gH l r A k I) 67)(T:aO V H xs)(ac:xs.length=l+r)(an:0<xs.length)(Z:xs.length<=d)(ab:l+r<=1048576):az 215 #[.slice H xs d,.pointer (bH F)] V fun e w'=>∃G J,e=.returned (.slice G xs J)/\xs.length<=J/\Fr w' V w' (fun W=>aO W G (xs.drop l++xs.take l))/\ag V w':=by
 have⟨ah,ad⟩:=bJ (fun W (U:ag V W)=>xZ xs l r k I d A H W (T.ext U) ac an Z ab) (fun W (U:ag V W)=>AU xs l r k I d A H W (T.ext U) ac Z ab);have⟨n,a3⟩:=aR xs.length;obtain⟨bg,bh,bi,bn⟩:=gG (Ro:r=(xs.drop l).length) (Rv:l=(xs.take l).length) (by rw[bm,fS,cQ];omega:n=(xs.drop l++xs.take l).length) (Qu:r+l<=1048576);rw[<-a3]at ah ad ⊢;have⟨a5,a6,a7⟩:=aD a4;have h:=aQ a5 (aQ a6 a7);clear a4 T ac an Z ab a3 a5 a6 a7;go_enter func215,ntmps215
 go_upto_region 1 with(fail)
 go_region_held3 (fun W=>af W F 0 (zI (l:Nat))/\af W F 1 (zI (r:Nat))/\af W F 2 (.slice A k I))
  (first|with_reducible exact h|with_reducible exact jH (aC _) h|with_reducible exact jH O.o h|with_reducible exact jH D.o h|with_reducible exact jH (D.o.alloc D.o.size _) h|with_reducible exact jH am.o h)
  ((first|(go_at_call 174;with_reducible refine(ah.o _ (aC _)).x ?_;rintro e bp ⟨a8,d1,rfl,-,a0,ao⟩;have O:=zH ((aC V).t (ao.x (aC V).size));have bb:=zH a0;clear a0 ao)|(go_at_call 175;with_reducible refine(ad.o _ O.o).x ?_;rintro e bo ⟨a9,d2,rfl,-,a1,Y⟩;have D:=zH (aT O.o Y);have bd:=zH (bb.o.ext Y);have bc:=zH a1;clear a1 Y)|(go_at_call 65;with_reducible refine(mS (xs.drop l) (xs.take l) a8 a9 d1 d2 r l n bo bd.o bc.o bg.o bh.o bi.o bn.o).x ?_;rintro e bq ⟨G,J,rfl,a2,av,ap⟩;have be:=zH a2;have am:=zH (aT D.o ap);have ba:=zH (av.to (lo':=V.heap.size) D.o.size (ae _));clear a2 av ap)))
 go_wp2;go_ret
 exact⟨G,J,rfl,be,ba,am⟩
end Go.Proofs.YtpieilkmmiopfaaGreatDoor
