/- Parts of the walks. Conditions: as stated with each. -/
import Derived.Test.YtdpgblncijojiaaGreatDoorPk5
import Derived.Test.YtdpgblncijojiaaGreatDoorPk8
namespace Go.Proofs.YtdpgblncijojiaaGreatDoor
open Go.RowKit Tryz
set_option linter.all false
set_option maxHeartbeats 8000000
set_option maxRecDepth 100000
variable{E w:aa}
def fg(D F H I J:au)(t:dG)(Y:Below (w.alloc (.cells #[D,F,H,I,J] t)) (w.alloc (.cells #[D,F,H,I,J] t)) E)(O Q R U:au)(t2:dG):∃W,W=E.alloc (.cells #[O,Q,R,U] t2)/\ai w W/\ah W w 0 D/\ah W w 1 F/\ah W w 2 H/\ah W w 3 I/\ah W w 4 J/\ah W E 0 O/\ah W E 1 Q/\ah W E 2 R/\ah W E 3 U:=by have Z:=Y.alloc Y.size (.cells #[O,Q,R,U] t2);have h:=cD Z (az w (.cells #[D,F,H,I,J] t) rfl);have z:=az E (.cells #[O,Q,R,U] t2) rfl;exact⟨_,rfl,((aj w w).alloc (ag _) _).trans (Z.mono RS),aW h 0,aW h 1,aW h 2,aW h 3,aW h 4,aW z 0,aW z 1,aW z 2,aW z 3⟩
def qn(a b c:Int)(z:an)(n cap:Nat)(w:aa)(J:n<=1048576):aw 67 (cJ (j8 a b c z n cap)) w fun e w'=>e=.returned (.tuple #[if((c==0)&&((n==0)))=true then .iface 130 (.agg (bP a b)) else .nilIface,.bool ((c==0)&&((n==0)))])/\ai w w':=by
 by_cases tC:c=0
 .subst tC;by_cases tL:n=0
  .subst tL;go_enter ed,ee
   go_upto_region 2 with(go_at_call 108;refine(bY _ _).mono ?_;rintro e w1 ⟨rfl,Ep⟩)
   obtain⟨W,hW,hb,e0,e1,e2,e3,e4,f0,f1,f2,f3⟩:=fg _ _ _ _ _ _ Ep (.bool (eL 1)) (.bool (eN 1)) (.bool (eO 1)) (.bool (eP 1)) 127;rw[<-hW];clear hW Ep;simp only[show eL 1=true from rfl,show eN 1=true from rfl,show eO 1=false from rfl,show eP 1=false from rfl]at f0 f1 f2 f3 ⊢;go_wp2
   all_goals exact ax (v:=.tuple #[.iface 130 (.agg (bP a b)),.bool true]) Uw rfl ⟨R4,hb⟩
  .have E:(n==0)=false:=Sv;have H:(0:Int)<n:=RU;have I:0<n:=RU;exact ZC
 .have D:(c==0)=false:=Su;have F:(c !=0)=true:=Su;exact ZC
def pd(a b c:Int)(z:an)(n cap:Nat)(w:aa)(J:n<=1048576):aw 67 (cJ (kd a b c z n cap)) w fun e w'=>e=.returned (.tuple #[if((b==0)&&((n==0)))=true then .iface 132 (.agg (bP a c)) else .nilIface,.bool ((b==0)&&((n==0)))])/\ai w w':=by
 by_cases tB:b=0
 .subst tB;by_cases tL:n=0
  .subst tL;go_enter ed,ee
   go_upto_region 2 with(go_at_call 108;refine(bY _ _).mono ?_;rintro e w1 ⟨rfl,Ep⟩)
   obtain⟨W,hW,hb,e0,e1,e2,e3,e4,f0,f1,f2,f3⟩:=fg _ _ _ _ _ _ Ep (.bool (eL 2)) (.bool (eN 2)) (.bool (eO 2)) (.bool (eP 2)) 127;rw[<-hW];clear hW Ep;simp only[show eL 2=true from rfl,show eN 2=false from rfl,show eO 2=true from rfl,show eP 2=false from rfl]at f0 f1 f2 f3 ⊢;go_wp2
   all_goals exact ax (v:=.tuple #[.iface 132 (.agg (bP a c)),.bool true]) Uw rfl ⟨R4,hb⟩
  .have E:(n==0)=false:=Sv;have H:(0:Int)<n:=RU;have I:0<n:=RU;exact ZB
 .have D:(b==0)=false:=St;have F:(b !=0)=true:=St;exact ZB
def qV(a b c:Int)(E:an)(n cap:Nat)(w:aa)(Z:n<=1048576):aw 67 (cJ (j7 a b c E n cap)) w fun e w'=>e=.returned (.tuple #[if((n==0))=true then .iface 134 (.agg (fB a b c)) else .nilIface,.bool ((n==0))])/\ai w w':=by
 by_cases tL:n=0
 .subst tL;go_enter ed,ee
  go_upto_region 2 with(go_at_call 108;refine(bY _ _).mono ?_;rintro e Q ⟨rfl,D⟩)
  obtain⟨W,z,hb,F,H,I,J,O,f0,f1,f2,f3⟩:=fg _ _ _ _ _ _ D (.bool (eL 3)) (.bool (eN 3)) (.bool (eO 3)) (.bool (eP 3)) 127;rw[<-z];clear z D;simp only[show eL 3=true from rfl,show eN 3=true from rfl,show eO 3=true from rfl,show eP 3=false from rfl]at f0 f1 f2 f3 ⊢;go_wp2
  all_goals exact ax (v:=.tuple #[.iface 134 (.agg (fB a b c)),.bool true]) Uw rfl ⟨R4,hb⟩
 .have R:(n==0)=false:=Sv;have U:(0:Int)<n:=RU;have Y:0<n:=RU;go_enter ed,ee
  go_upto_region 2 with(go_at_call 108;refine(bY _ _).mono ?_;rintro e Q ⟨rfl,D⟩)
  obtain⟨W,z,hb,F,H,I,J,O,f0,f1,f2,f3⟩:=fg _ _ _ _ _ _ D (.bool (eL 3)) (.bool (eN 3)) (.bool (eO 3)) (.bool (eP 3)) 127;rw[<-z];clear z D;simp only[show eL 3=true from rfl,show eN 3=true from rfl,show eO 3=true from rfl,show eP 3=false from rfl]at f0 f1 f2 f3 ⊢;exact Yh
def qo(a b c:Int)(z:an)(n cap:Nat)(w:aa)(Q:n<=1048576):aw 67 (cJ (j9 a b c z n cap)) w fun e w'=>e=.returned (.tuple #[if((b==0)&&((c==0)&&((n==0))))=true then .iface 136 (.agg (bg a)) else .nilIface,.bool ((b==0)&&((c==0)&&((n==0))))])/\ai w w':=by
 by_cases tB:b=0
 .subst tB;by_cases tC:c=0
  .subst tC;by_cases tL:n=0
   .subst tL;go_enter ed,ee
    go_upto_region 2 with(go_at_call 108;refine(bY _ _).mono ?_;rintro e w1 ⟨rfl,Ep⟩)
    obtain⟨W,hW,hb,e0,e1,e2,e3,e4,f0,f1,f2,f3⟩:=fg _ _ _ _ _ _ Ep (.bool (eL 4)) (.bool (eN 4)) (.bool (eO 4)) (.bool (eP 4)) 127;rw[<-hW];clear hW Ep;simp only[show eL 4=true from rfl,show eN 4=false from rfl,show eO 4=false from rfl,show eP 4=false from rfl]at f0 f1 f2 f3 ⊢;go_wp2
    all_goals exact ax (v:=.tuple #[.iface 136 (.agg (bg a)),.bool true]) Uw rfl ⟨R4,hb⟩
   .have F:(n==0)=false:=Sv;have J:(0:Int)<n:=RU;have O:0<n:=RU;exact ZG
  .have E:(c==0)=false:=Su;have I:(c !=0)=true:=Su;exact ZG
 .have D:(b==0)=false:=St;have H:(b !=0)=true:=St;exact ZG
def qW(a b c:Int)(z:an)(n cap:Nat)(w:aa)(Q:n<=1048576):aw 67 (cJ (j_ a b c z n cap)) w fun e w'=>e=.returned (.tuple #[if((b==0)&&((c==0)&&((n==0))))=true then .iface 137 (.agg (bg a)) else .nilIface,.bool ((b==0)&&((c==0)&&((n==0))))])/\ai w w':=by
 by_cases tB:b=0
 .subst tB;by_cases tC:c=0
  .subst tC;by_cases tL:n=0
   .subst tL;go_enter ed,ee
    go_upto_region 2 with(go_at_call 108;refine(bY _ _).mono ?_;rintro e w1 ⟨rfl,Ep⟩)
    obtain⟨W,hW,hb,e0,e1,e2,e3,e4,f0,f1,f2,f3⟩:=fg _ _ _ _ _ _ Ep (.bool (eL 5)) (.bool (eN 5)) (.bool (eO 5)) (.bool (eP 5)) 127;rw[<-hW];clear hW Ep;simp only[show eL 5=true from rfl,show eN 5=false from rfl,show eO 5=false from rfl,show eP 5=false from rfl]at f0 f1 f2 f3 ⊢;go_wp2
    all_goals exact ax (v:=.tuple #[.iface 137 (.agg (bg a)),.bool true]) Uw rfl ⟨R4,hb⟩
   .have F:(n==0)=false:=Sv;have J:(0:Int)<n:=RU;have O:0<n:=RU;exact ZF
  .have E:(c==0)=false:=Su;have I:(c !=0)=true:=Su;exact ZF
 .have D:(b==0)=false:=St;have H:(b !=0)=true:=St;exact ZF
def pe(a b c:Int)(z:an)(n cap:Nat)(w:aa)(J:n<=1048576):aw 67 (cJ (iT a b c z n cap)) w fun e w'=>e=.returned (.tuple #[if((c==0)&&((n==0)))=true then .iface 138 (.agg (bP a b)) else .nilIface,.bool ((c==0)&&((n==0)))])/\ai w w':=by
 by_cases tC:c=0
 .subst tC;by_cases tL:n=0
  .subst tL;go_enter ed,ee
   go_upto_region 2 with(go_at_call 108;refine(bY _ _).mono ?_;rintro e w1 ⟨rfl,Ep⟩)
   obtain⟨W,hW,hb,e0,e1,e2,e3,e4,f0,f1,f2,f3⟩:=fg _ _ _ _ _ _ Ep (.bool (eL 6)) (.bool (eN 6)) (.bool (eO 6)) (.bool (eP 6)) 127;rw[<-hW];clear hW Ep;simp only[show eL 6=true from rfl,show eN 6=true from rfl,show eO 6=false from rfl,show eP 6=false from rfl]at f0 f1 f2 f3 ⊢;go_wp2
   all_goals exact ax (v:=.tuple #[.iface 138 (.agg (bP a b)),.bool true]) Uw rfl ⟨R4,hb⟩
  .have E:(n==0)=false:=Sv;have H:(0:Int)<n:=RU;have I:0<n:=RU;exact ZA
 .have D:(c==0)=false:=Su;have F:(c !=0)=true:=Su;exact ZA
def pf(a b c:Int)(E:an)(n cap:Nat)(w:aa)(Y:n<=1048576):aw 67 (cJ (ka a b c E n cap)) w fun e w'=>e=.returned (.tuple #[if((c==0))=true then .iface 140 (.agg (dj a b E n cap)) else .nilIface,.bool ((c==0))])/\ai w w':=by
 by_cases tC:c=0
 .subst tC;go_enter ed,ee
  go_upto_region 2 with(go_at_call 108;refine(bY _ _).mono ?_;rintro e Q ⟨rfl,D⟩)
  obtain⟨W,z,hb,F,H,I,J,O,f0,f1,f2,f3⟩:=fg _ _ _ _ _ _ D (.bool (eL 7)) (.bool (eN 7)) (.bool (eO 7)) (.bool (eP 7)) 127;rw[<-z];clear z D;simp only[show eL 7=true from rfl,show eN 7=true from rfl,show eO 7=false from rfl,show eP 7=true from rfl]at f0 f1 f2 f3 ⊢;go_wp2
  all_goals exact ax (v:=.tuple #[.iface 140 (.agg (dj a b E n cap)),.bool true]) Uw rfl ⟨R4,hb⟩
 .have R:(c==0)=false:=Su;have U:(c !=0)=true:=Su;go_enter ed,ee
  go_upto_region 2 with(go_at_call 108;refine(bY _ _).mono ?_;rintro e Q ⟨rfl,D⟩)
  obtain⟨W,z,hb,F,H,I,J,O,f0,f1,f2,f3⟩:=fg _ _ _ _ _ _ D (.bool (eL 7)) (.bool (eN 7)) (.bool (eO 7)) (.bool (eP 7)) 127;rw[<-z];clear z D;simp only[show eL 7=true from rfl,show eN 7=true from rfl,show eO 7=false from rfl,show eP 7=true from rfl]at f0 f1 f2 f3 ⊢;exact Yh
def oc(a b c:Int)(z:an)(n cap:Nat)(w:aa)(Q:n<=1048576):aw 67 (cJ (j6 a b c z n cap)) w fun e w'=>e=.returned (.tuple #[if((a==0)&&((c==0)&&((n==0))))=true then .iface 142 (.agg (bg b)) else .nilIface,.bool ((a==0)&&((c==0)&&((n==0))))])/\ai w w':=by
 by_cases tA:a=0
 .subst tA;by_cases tC:c=0
  .subst tC;by_cases tL:n=0
   .subst tL;go_enter ed,ee
    go_upto_region 2 with(go_at_call 108;refine(bY _ _).mono ?_;rintro e w1 ⟨rfl,Ep⟩)
    obtain⟨W,hW,hb,e0,e1,e2,e3,e4,f0,f1,f2,f3⟩:=fg _ _ _ _ _ _ Ep (.bool (eL 8)) (.bool (eN 8)) (.bool (eO 8)) (.bool (eP 8)) 127;rw[<-hW];clear hW Ep;simp only[show eL 8=false from rfl,show eN 8=true from rfl,show eO 8=false from rfl,show eP 8=false from rfl]at f0 f1 f2 f3 ⊢;go_wp2
    all_goals exact ax (v:=.tuple #[.iface 142 (.agg (bg b)),.bool true]) Uw rfl ⟨R4,hb⟩
   .have F:(n==0)=false:=Sv;have J:(0:Int)<n:=RU;have O:0<n:=RU;exact ZE
  .have E:(c==0)=false:=Su;have I:(c !=0)=true:=Su;exact ZE
 .have D:(a==0)=false:=Ss;have H:(a !=0)=true:=Ss;exact ZE
def od(a b c:Int)(z:an)(n cap:Nat)(w:aa)(Q:n<=1048576):aw 67 (cJ (kb a b c z n cap)) w fun e w'=>e=.returned (.tuple #[if((a==0)&&((c==0)&&((n==0))))=true then .iface 143 (.agg (bg b)) else .nilIface,.bool ((a==0)&&((c==0)&&((n==0))))])/\ai w w':=by
 by_cases tA:a=0
 .subst tA;by_cases tC:c=0
  .subst tC;by_cases tL:n=0
   .subst tL;go_enter ed,ee
    go_upto_region 2 with(go_at_call 108;refine(bY _ _).mono ?_;rintro e w1 ⟨rfl,Ep⟩)
    obtain⟨W,hW,hb,e0,e1,e2,e3,e4,f0,f1,f2,f3⟩:=fg _ _ _ _ _ _ Ep (.bool (eL 9)) (.bool (eN 9)) (.bool (eO 9)) (.bool (eP 9)) 127;rw[<-hW];clear hW Ep;simp only[show eL 9=false from rfl,show eN 9=true from rfl,show eO 9=false from rfl,show eP 9=false from rfl]at f0 f1 f2 f3 ⊢;go_wp2
    all_goals exact ax (v:=.tuple #[.iface 143 (.agg (bg b)),.bool true]) Uw rfl ⟨R4,hb⟩
   .have F:(n==0)=false:=Sv;have J:(0:Int)<n:=RU;have O:0<n:=RU;exact ZD
  .have E:(c==0)=false:=Su;have I:(c !=0)=true:=Su;exact ZD
 .have D:(a==0)=false:=Ss;have H:(a !=0)=true:=Ss;exact ZD
def CD(k a b c:Int)(z:an)(n cap:Nat)(w:aa)(ao:n<=1048576)(H:k≠1)(I:k≠2)(J:k≠3)(O:k≠4)(Q:k≠5)(R:k≠6)(U:k≠7)(Y:k≠8)(Z:k≠9):aw 67 (cJ (jt k a b c z n cap)) w fun e w'=>e=.returned (.tuple fk)/\ai w w':=by
 by_cases tB:b=0
 .subst tB;by_cases tC:c=0
  .subst tC;by_cases tL:n=0
   .subst tL;exact ZI
   .have F:(n==0)=false:=Sv;have ad:(0:Int)<n:=RU;have am:0<n:=RU;exact ZI
  .have E:(c==0)=false:=Su;have ac:(c !=0)=true:=Su;exact ZI
 .have D:(b==0)=false:=St;have ab:(b !=0)=true:=St;exact ZI
def zg9(p v h a b c:Int)(A:an)(cap:Nat)(rows:aE)(w:aa)(br:an)(n ca:Nat)(bz:aX w A rows)(d0:rows.length<=160)(Et:∀r∈rows,r.length<=1000)(c7:0<=a)(c8:a<rows.length)(hb:0<=b)(da:b<rows.length)(c9:a≠b):aw 37 (dR p (ae v h A rows cap) (j8 a b c br n ca)) w fun e w'=>∃u,e=.returned (.agg (dE v h u))/\aJ w' w u ((rows.set a.toNat (rows.getD b.toNat [])).set b.toNat (rows.getD a.toNat []))/\ai w w':=by
 obtain⟨a0,EU⟩:=aB (RU:a.toNat<rows.length);obtain⟨D,Fa⟩:=aB (RU:b.toNat<rows.length);obtain⟨cb,ce,ch,ci⟩:=fU (T1:rows.getD a.toNat []=a0) (T0:rows.getD b.toNat []=D) (RU:rows.length<=1048576) (show ∀r∈rows,r.length<=1048576 from fun r hr=>Uf);go_enter func37,m8
 go_wp2_with fail
 refine(iF _ _ _ _ _ _ (bz.ext (((aj _ _).alloc RS _ |>.alloc RS _).alloc SJ _)) ch ci).mono ?_;rintro e E ⟨u,rfl,⟨us,hu⟩,a5⟩;obtain⟨R,I,rfl,_,_,_⟩:=aJ.view ⟨us,hu⟩;obtain⟨b7,b8,b9⟩:=cA w (.cells (ae v h A rows cap) 26) (.cells (j8 a b c br n ca) 29) (.cells aQ 26);have cO:=a5.size;simp only[cg]at cO;go_upto_region 2 with(fail)
 obtain⟨z,En⟩:=aO (E.alloc (.cells (ae v h R rows I) 26));rw[<-En];have a6:ai E z:=Wc;have d1:(z:Nat)=E+1:=SH;have Y:=cC a5 a6;have a9:aU z E (ae v h R rows I) 26:=UF;have b4:=cD Y b7;have a7:=cD Y b8;have b6:=cD Y b9;have E5:bh z ((w:Nat)+3) (.slice R rows I) rows us:=(hu.ext a6).mono RS;have b3:∀g',R=some ⟨g',0,none⟩->g' < (E:Nat):=fun g' e=>VT
 have dT:∀(k:Nat) (x:au),us[k]?=some x->∀b,x.ownBlock=some b->b < (E:Nat):=fun k x hx b hb=>Wy
 have b0:ai w z:=(below_alloc3 w _ _ _).trans (Y.mono SJ);clear hu a5 a6 Y bz Et b7 b8 b9 En;obtain⟨g,cI,db,dc⟩:∃g,R=some ⟨g,0,none⟩/\(w:Nat)+3<=g/\g < (z:Nat):=ks E5 RU;subst cI;have dl:=b3 g rfl;obtain⟨d5,E6,b1⟩:=E5.get EU;obtain⟨d6,FZ,b2⟩:=E5.get Fa;obtain⟨bi,bv,rfl,_⟩:=b1.view;obtain⟨F,H,rfl,_⟩:=b2.view;obtain⟨a1,O,Q,a2,a3⟩:=bH a7;obtain⟨ba,bb,ad⟩:=aq a9;have cR:ah z g a.toNat (.slice bi a0 bv):=VW;have bd:ah z g b.toNat (.slice F D H):=Wd;have f0:=E5.outer.frozenAt a.toNat;have f1:=E5.outer.frozenAt b.toNat;obtain⟨ck,cc,cn,bo,co,bp⟩:=mA (bh.swap rfl E5 E6 FZ EU Fa) b0 b4 a7 b6 a9;clear E5 b0 b3 b4 a7 b6 a9 E6 FZ b1 b2 EU Fa;go_upto_region 5 with(fail)
 have be:(z.setCell ⟨g,a.toNat,none⟩ (.slice F D H)).cell? ⟨g,b.toNat,none⟩=some (.slice F D H):=by rw[vL _ _ _ _ SJ];exact bd
 go_region_held3 (fun W=>ah W ((w:Nat)+1) 1 (zI a)/\ah W ((w:Nat)+1) 2 (zI b)/\ah W E 2 (.slice (aY g) rows I)/\ah W g b.toNat (.slice F D H)) (first|exact⟨O,Q,ad,bd⟩|exact⟨(c_ SJ).trans O,(c_ SJ).trans Q,(c_ SJ).trans ad,be⟩)
  (fail)
 obtain⟨am,J⟩:=aO ((z.setCell ⟨g,a.toNat,none⟩ (.slice F D H)).drew);rw[<-J];have ap:∀j,j≠g->am.heap[j]?=z.heap[j]?:=fun j ao=>by rw[J];exact bw _ _ _ _ ao
 have c0:ah am g b.toNat (.slice F D H):=by rw[J];exact be
 have f4:am.frozen? ⟨g,b.toNat,none⟩=false:=by rw[J];simpa using f1
 have ab:=(ap _ RU).trans bo;have ac:=(ap _ RU).trans bp;obtain⟨cj,bm⟩:=bS ap J;clear a1 O Q a2 a3 ba bb ad cR bd f0 f1 be ap J;obtain⟨a1,O,Q,a2,a3⟩:=bH ab;obtain⟨ba,bb,ad⟩:=aq ac;clear ab ac;go_upto_region 21 with(fail)
 obtain⟨a4,U⟩:=aO (am.setCell ⟨g,b.toNat,none⟩ (.slice bi a0 bv));rw[<-U];have Z:∀j,j≠g->a4.heap[j]?=z.heap[j]?:=fun j ao=>by rw[U];exact(bw _ _ _ _ ao).trans (cj j ao)
 have b5:=(Z _ RU).trans cn;have ab:=(Z _ RU).trans bo;have ac:=(Z _ RU).trans bp;have a8:=(Z _ RU).trans co;obtain⟨HO,HE⟩:=bS (by rw[U,bm.o];exact⟨_,ck.ext (aj _ _).drew⟩:aJ a4 ((w:Nat)+3) (.slice (aY g) rows I) ((rows.set a.toNat D).set b.toNat a0)) (by rw[U,bm.o];exact((cc.setCell SJ _).drew).setCell SJ _:ai w a4);rw[<-cb.o,<-ce.o]at HO;clear a1 O Q a2 a3 ba bb ad c0 f4 Z U;obtain⟨a1,O,Q,a2,a3⟩:=bH ab;obtain⟨d2,d3,d4⟩:=aq b5;clear b5 ab;obtain⟨cr,ct,cu⟩:=bT ac;obtain⟨cy,cz,cF⟩:=bT a8;obtain⟨c4,c5,c6⟩:=bU a8;simp only[dt,cZ]at cr ct cu cy cz cF;clear ac a8;go_wp2;refine ax (v:=.agg (ae v h (aY g) rows I)) UU rfl ⟨_,rfl,?_,?_⟩
 .exact YD
 .exact Yq
def zf6(p v h a b c:Int)(A:an)(cap:Nat)(rows:aE)(w:aa)(a1:an)(n bb:Nat)(a3:aX w A rows)(cr:rows.length<=160)(Et:∀r∈rows,r.length<=1000)(b6:1<=p)(b7:p<=1000)(cb:0<=a)(cc:a<rows.length)(b2:0<=c)(b3:c<=1000)(hx:∀r∈rows,∀x∈r,0<=x/\x<=1000):aw 37 #[p,.agg (ae v h A rows cap),.agg (kd a b c a1 n bb)] w fun e w'=>∃u,e=.returned (.agg (dE v h u))/\aJ w' w u (rows.set a.toNat (gz p c (rows.getD a.toNat [])))/\ai w w':=by
 obtain⟨z,EU⟩:=aB (RU:a.toNat<rows.length);obtain⟨bd,br⟩:=bS (T1:rows.getD a.toNat []=z) (show ∀x∈z,0<=x/\x<=1000 from hx z (a_ EU));have cu:z.length<=1000:=Et z (a_ EU);clear hx;obtain⟨bi,bm⟩:=bS (RU:rows.length<=1048576) (show ∀r∈rows,r.length<=1048576 from fun r hr=>Uf);go_enter func37,m8
 go_wp2_with fail
 refine(iF _ _ _ _ _ _ (a3.ext (((aj _ _).alloc RS _ |>.alloc RS _).alloc SJ _)) bi bm).mono ?_;rintro e E ⟨u,rfl,⟨us,hu⟩,ab⟩;obtain⟨I,ET,rfl,_,_,_⟩:=aJ.view ⟨us,hu⟩;obtain⟨a8,Y,Z⟩:=cA w (.cells (ae v h A rows cap) 26) (.cells (kd a b c a1 n bb) 29) (.cells aQ 26);have b8:=ab.size;simp only[cg]at b8;go_upto_region 2 with(fail)
 obtain⟨F,En⟩:=aO (E.alloc (.cells (ae v h I rows ET) 26));rw[<-En];have ac:ai E F:=Wc;have cy:(F:Nat)=E+1:=SH;have O:=cC ab ac;have am:aU F E (ae v h I rows ET) 26:=UF;have a6:=cD O a8;have ad:=cD O Y;have a7:=cD O Z;have E5:bh F ((w:Nat)+3) (.slice I rows ET) rows us:=(hu.ext ac).mono RS;have b9:∀g',I=some ⟨g',0,none⟩->g' < (E:Nat):=fun g' e=>VT
 have a5:∀(k:Nat) (x:au),us[k]?=some x->∀b,x.ownBlock=some b->b < (E:Nat):=fun k x hx b hb=>Wy
 have a4:ai w F:=(below_alloc3 w _ _ _).trans (O.mono SJ);clear hu ab ac O a3 Et a8 Y Z En;obtain⟨cz,E6,R⟩:=E5.get EU;obtain⟨g,b4,ci,cn⟩:∃g,I=some ⟨g,0,none⟩/\(w:Nat)+3<=g/\g < (F:Nat):=ks E5 RU;subst b4;obtain⟨Q,H,rfl,a2,_⟩:=R.view;have ap:ah F g a.toNat (.slice Q z H):=VW;obtain⟨y0,y1,y2,y3,y4⟩:=bH ad;obtain⟨a9,ba,ao⟩:=aq am;obtain⟨bo,be,bp,F5,ca,bv,bz,b0,b1,a0,Fx⟩:=AD E5 a4 E6 R a2 a6 ad a7 am (a5 _ _ E6) (fA E5.outer R);clear E5 a4 E6 R EU a2 b9 a5 a6 ad a7 am;go_wp2;go_loopw [56] (fun i wr=>∃k:Nat,k<=z.length/\i=.int .i64 k/\wr.ownsRow ((w:Nat)+3) 3 1 (.slice Q z H) z ((mI p c z k).map (Value.int .i64))/\F.grownBy wr (Value.slice Q z H).ownBlock)
  (fun i _=>z.length-(intOf i).toNat)
 case atStart=>exact⟨0,bf _,rfl,TB,⟨rfl,rfl,rfl,ag _,fun _ _ _=>rfl⟩⟩
 case round=>
  obtain⟨k,co,rfl,Eo,D⟩:=hrel;by_cases Ez:k<z.length
  .obtain⟨x,hx⟩:=aB Ez;obtain⟨J,rfl,cj,_⟩:=kD F5 RU;have ck:=a0 J rfl;have ct:g≠J:=XF;have t1:ah wr ((w:Nat)+1) 1 (zI a):=D.cell y1 UL;have t3:ah wr ((w:Nat)+1) 3 (zI c):=D.cell y3 UL;have t5:ah wr E 2 (.slice (aY g) rows ET):=D.cell ao UL;have t6:ah wr g a.toNat (.slice (aY J) z H):=D.cell ap UL;have ce:ah wr J k (zI x):=Xp;have ch:=Eo.frozenAt k;obtain⟨Y,Z⟩:=br x (a_ hx);have U:=Eo.stored k (zI (x*c%p));rw[<-h_,vZ _ _ _ _ _ hx]at U;obtain⟨HS,HG⟩:=bS U.1 (bx D U.2);clear U hx Eo D a9 ba ao y0 y1 y2 y3 y4 ap;go_wp2_with fail
   go_region_held3 (fun W=>ah W ((w:Nat)+1) 1 (zI a)/\ah W ((w:Nat)+1) 3 (zI c)/\ah W E 2 (.slice (aY g) rows ET)/\ah W g a.toNat (.slice (aY J) z H))
    (first|exact⟨t1,t3,t5,t6⟩|(refine⟨?_,?_,?_,?_⟩<;>(first|(refine(eF SJ).trans ?_;assumption)|(refine(jZ SJ).trans ?_;assumption))))
    ((go_at_call 77;refine(rH p x c _ b6 b7 Y Z b2 b3).mono ?_;rintro e w' ⟨rfl,rfl⟩))
   exact YA
  .have F0:∀b,(Value.slice Q z H).ownBlock=some b->(w:Nat)+3<=b/\b < (E:Nat):=fun b hb=>⟨(bZ F5 b hb).1,a0 b hb⟩
   have GZ:=(D.block E RU (fun e=>UK)).trans b1;have GY:=(D.block w RU (fun e=>UK)).trans bv;have G4:=(D.block ((w:Nat)+1) RU (fun e=>UK)).trans bz;have G0:=(D.block ((w:Nat)+1+1) RU (fun e=>UK)).trans b0;have b5:k=z.length:=RU;subst b5;have HO:=zH (show aJ wr ((w:Nat)+3) (.slice (aY g) rows ET) (rows.set a.toNat (gz p c (rows.getD a.toNat []))) from
    ⟨_,bo.inner bp D (by rw[bd.o,<-vX p c z z (ag _)];unfold ar;rw[show(mI p c z z).length=z by simp[mI]];exact Eo)⟩)
   have HE:=zH (be.grown D RU fun b hb=>Ui);clear Eo D F0 a9 ba ao y0 y1 y2 y3 y4 ap;exact ZO
def zg_(p v h a b c:Int)(A:an)(cap:Nat)(rows:aE)(w:aa)(a0:an)(n bm:Nat)(a2:aX w A rows)(d3:rows.length<=160)(Et:∀r∈rows,r.length<=1000)(ci:0<=a)(da:a<rows.length):aw 37 (dR p (ae v h A rows cap) (j9 a b c a0 n bm)) w fun e w'=>∃u,e=.returned (.agg (dE v h u))/\aJ w' w u (rows.eraseIdx a.toNat)/\ai w w':=by
 obtain⟨b1,b2⟩:=bS (RU:rows.length<=1048576) (show ∀r∈rows,r.length<=1048576 from fun r hr=>Uf);go_enter func37,m8
 go_wp2_with fail
 refine(iF _ _ _ _ _ _ (a2.ext (((aj _ _).alloc RS _ |>.alloc RS _).alloc SJ _)) b1 b2).mono ?_;rintro e z ⟨u,rfl,⟨us,hu⟩,Y⟩;obtain⟨F,ET,rfl,_,_,_⟩:=aJ.view ⟨us,hu⟩;obtain⟨ba,bb,bd⟩:=cA w (.cells (ae v h A rows cap) 26) (.cells (j9 a b c a0 n bm) 29) (.cells aQ 26);have cr:=Y.size;simp only[cg]at cr;go_upto_region 2 with(fail)
 obtain⟨W2,En⟩:=aO (z.alloc (.cells (ae v h F rows ET) 26));rw[<-En];have Z:ai z W2:=Wc;have d4:(W2:Nat)=z+1:=SH;have H:=cC Y Z;have ad:aU W2 z (ae v h F rows ET) 26:=UF;have a7:=cD H ba;have ab:=cD H bb;have a9:=cD H bd;have I:bh W2 ((w:Nat)+3) (.slice F rows ET) rows us:=(hu.ext Z).mono RS;have a6:∀g',F=some ⟨g',0,none⟩->g' < (z:Nat):=fun g' e=>VT
 have dT:∀(k:Nat) (x:au),us[k]?=some x->∀b,x.ownBlock=some b->b < (z:Nat):=fun k x hx b hb=>Wy
 have a4:ai w W2:=(below_alloc3 w _ _ _).trans (H.mono SJ);clear hu Y Z H a2 Et ba bb bd En;obtain⟨j,rfl⟩:=fX ci;obtain⟨g,cj,db,dc⟩:∃g,F=some ⟨g,0,none⟩/\(w:Nat)+3<=g/\g < (W2:Nat):=ks I RU;subst cj;have dl:=a6 g rfl;obtain⟨cz,ck,d7,cy,d8⟩:=cU i_;obtain⟨Fy,Fh⟩:=aO (us.drop (j+1));obtain⟨F_,⟨cu,_⟩|⟨g',c5,cur,ct,a1,G8,cn,a5,Ga,F6⟩⟩:=I.outer
 .cases cu
 cases ct
 simp only[eT]at F_ Ga F6;have Ev:Fy.length=rows-(j+1):=Ug;have ES:∀t,t<rows.length->cur.toList[t]?=us[t]?:=fun t ht=>Up
 obtain⟨O,c9,co⟩:∃O:dD,(if ET=j+1 then some (⟨g,0,none⟩:dD) else some ⟨g,j+1,none⟩)=some O/\Hd (∀t u,Fy[t]?=some u->W2.drew.cell? (O.add t)=some u):=Zv;have be:Hd (Fy.length=(rows.length-(j+1))*1):=Ts;have bi:Hd (∀u∈Fy,u.oneCell'=true):=by intro u hu;rw[Fh]at hu;exact oh I u (km hu)
 have cF:Hd (∀t,t<Fy.length->(W2.drew.cell? ⟨g,0+j*1+t,none⟩).isSome=true/\W2.drew.frozen? ⟨g,0+j*1+t,none⟩=false):=YG;obtain⟨D,U⟩:=aO (W2.drew.setCells g (0+j*1) Fy);have R:=dB g 27 Fy (0+j*1) W2.drew cur G8 SZ;rw[<-U]at R;have E:=zH (show W2.grownBy D (some g) from bx (dP W2 (some g)) R.2);have b3:=zH (show D.ownsRow ((w:Nat)+3) 27 1 (.slice (aY g) (rows.length-1) ET) (rows.length-1) (us.eraseIdx j) by
  refine⟨T9,aA ⟨g,ET,_,rfl,a1,R.1,RU,a5,?_,?_⟩⟩
  .exact Xq
  .simp only[eT,iw];rw[show rows.length-1=j+Fy by omega,iD _ _ _ Sk,Fh,xQ,<-F6,kH,iM RU])
 have b5:=zH U;have d0:j<=ET:=RU;have d6:IntKind.i64.wrap ((j:Int)+1)=(j:Int)+1:=SQ;have d5:((j:Int)+1).toNat=j+1:=RU;have d1:(0:Int)<=(j:Int)+1:=RU;have d2:(j:Int)+1<=(rows:Int):=RU;clear F_ Ga F6 G8 Fh Ev U R ES a1 cn a5;obtain⟨bo,bp,br,bv,bz⟩:=bH ab;obtain⟨cI,cO,cR⟩:=aq ad;obtain⟨b4,b0,b6,ap,b7,b8⟩:=mA I a4 a7 ab a9 ad;clear I a4 a6 a7 ab a9 ad;go_upto_region 22 with(fail)
 refine bJ (S:=fun W=>ah W ((w:Nat)+1) 1 (zI j)/\ah W z 2 (.slice (aY g) rows ET)) 13 Si R4 (fun hHeld=>?_);refine aC 0 ?_;refine aC 1 ?_;refine aC 2 ?_;refine aC 3 ?_;refine aC 4 ?_;refine aC 5 ?_;refine aC 6 ?_;refine aC 7 ?_;refine aC 8 ?_;refine aC 9 ?_;refine aC 10 ?_;refine bM 11 fun K hK=>?_
 refine si rfl (.tmp 140) (.tmp 146) 24 rfl 27 cz 1 gx ck cy g 0 j ET rfl O (rows.length-(j+1)) (ET-(j+1)) Fy rfl be.o co.o bi.o RU cF.o ?_;rw[<-b5.o,show j+(rows.length-(j+1))=rows.length-1 by omega];have Q:D.heap[z.heap.size]?=_:=(E.o.block _ RU SJ).trans b8;have J:D.heap[(w:Nat)+1]?=_:=(E.o.block _ RU SJ).trans ap;have ao:=zH Q;have f2:=aP Q 2;obtain⟨c0,c4,z2⟩:=aq Q;obtain⟨t0,t1,t2,t3,t4⟩:=bH J;clear Q J bo bp br bv bz cI cO cR;refine hK.out _ _ (fun _=>⟨t1,z2⟩) (fun hHeld=>?_);clear hK K;try simp only[Act.put,zA]
 have hHeld:=hHeld RX;refine bM 12 fun K hK=>?_
 go_simp;refine hK.out _ _ (fun _=>⟨t1,z2⟩) (fun hHeld=>?_);clear hK K;try simp only[Act.put,zA]
 have hHeld:=hHeld RX;refine bM 13 fun K hK=>?_
 go_simp;refine hK.out _ _ (fun h=>absurd h RX) (fun _=>?_);clear hK K;try simp only[Act.put,zA]
 refine eC Si ?_ _;have am:=bs D z 2 _ _ (.slice (aY g) (rows.length-1) ET) ao;simp only[zA]at am;have a8:=(cm D ⟨z,2,none⟩ w (.slice (aY g) (rows.length-1) ET) SJ).trans ((E.o.block _ RU SJ).trans b6);have J:=(cm D ⟨z,2,none⟩ ((w:Nat)+1) (.slice (aY g) (rows.length-1) ET) SJ).trans ((E.o.block _ RU SJ).trans ap);have ac:=(cm D ⟨z,2,none⟩ ((w:Nat)+1+1) (.slice (aY g) (rows.length-1) ET) SJ).trans ((E.o.block _ RU SJ).trans b7);have a3:=b4.erase RU b3 E.o;obtain⟨HO,HE⟩:=bS (show aJ _ ((w:Nat)+3) _ _ from⟨_,a3.jd ao (j:=2) (u:=.slice (aY g) (rows.length-1) ET)⟩) ((b0.grown E.o RU fun b hb=>SU).setCell (p:=⟨z,2,none⟩) SJ (.slice (aY g) (rows.length-1) ET));clear a3 c0 c4 z2 t0 t1 t2 t3 t4 f2;obtain⟨bo,bp,br,bv,bz⟩:=bH J;obtain⟨d9,be,bi⟩:=aq a8;clear a8 J;obtain⟨b9,ca,cb⟩:=bT am;obtain⟨cc,ce,ch⟩:=bT ac;obtain⟨c6,c7,c8⟩:=bU ac;simp only[dt,cZ]at b9 ca cb cc ce ch;clear am ac;go_wp2;refine ax (v:=.agg (dj v h (aY g) (rows.length-1) ET)) UU rfl ⟨_,rfl,?_,?_⟩
 .exact YD
 .exact Yq
def zij(p v h a b c:Int)(A:an)(cap:Nat)(rows:aE)(w:aa)(ba:an)(n b6:Nat)(bb:aX w A rows)(d5:rows.length<=160)(Et:∀r∈rows,r.length<=1000)(cI:0<=a)(cO:a<=rows.length)(d8:0<=v)(d9:v<=1000)(d2:0<=h)(d3:h<=1000):aw 37 (dR p (ae v h A rows cap) (j_ a b c ba n b6)) w fun e w'=>∃u,e=.returned (.agg (dE v h u))/\aJ w' w u (bK rows a.toNat (List.replicate (v+h).toNat 0))/\ai w w':=by
 obtain⟨cc,ce⟩:=bS (RU:rows.length<=1048576) (show ∀r∈rows,r.length<=1048576 from fun r hr=>Uf);go_enter func37,m8
 go_wp2_with fail
 refine(iF _ _ _ _ _ _ (bb.ext (((aj _ _).alloc RS _ |>.alloc RS _).alloc SJ _)) cc ce).mono ?_;rintro e z ⟨u,rfl,⟨us,hu⟩,Y⟩;obtain⟨H,J,rfl,_,_,_⟩:=aJ.view ⟨us,hu⟩;obtain⟨b1,b2,b3⟩:=cA w (.cells (ae v h A rows cap) 26) (.cells (j_ a b c ba n b6) 29) (.cells aQ 26);have c0:=Y.size;simp only[cg]at c0;go_upto_region 2 with(fail)
 obtain⟨D,En⟩:=aO (z.alloc (.cells (ae v h H rows J) 26));rw[<-En];have Z:ai z D:=Wc;have c4:(D:Nat)=z+1:=SH;have O:=cC Y Z;have a1:aU D z (ae v h H rows J) 26:=UF;have ao:=cD O b1;have ap:=cD O b2;have b0:=cD O b3;have br:bh D ((w:Nat)+3) (.slice H rows J) rows us:=(hu.ext Z).mono RS;have d7:∀g',H=some ⟨g',0,none⟩->g' < (z:Nat):=fun g' e=>VT
 have d4:∀(k:Nat) (x:au),us[k]?=some x->∀b,x.ownBlock=some b->b < (z:Nat):=fun k x hx b hb=>Wy
 have be:ai w D:=(below_alloc3 w _ _ _).trans (O.mono SJ);clear hu Y Z O bb Et b1 b2 b3 En;obtain⟨b7,a7,b8,b9,ca⟩:=bH ap;obtain⟨c8,c9,b5⟩:=aq a1;obtain⟨a3,a4,b4⟩:=aq ao;have ea:IntKind.i64.wrap (v+h)=v+h:=SQ;have bp:((v+h).toNat:Int)=v+h:=RU;have a9:=zH bp;clear bp;obtain⟨U,cb,cj,ck,cn,co⟩:=mA br be ao ap b0 a1;clear br be ao ap b0 a1;go_upto_region 20 with(fail)
 have Q:=zH (show ∀a6,ai D a6->(fun W:World=>ah W z 2 (.slice H rows J)/\ah W ((w:Nat)+1) 1 (zI a)/\ah W w 0 (zI v)/\ah W w 1 (zI h)) a6 from fun a6 hb=>⟨av hb b5,av hb a7,av hb a3,av hb a4⟩);refine bJ (S:=(fun W:World=>ah W z 2 (.slice H rows J)/\ah W ((w:Nat)+1) 1 (zI a)/\ah W w 0 (zI v)/\ah W w 1 (zI h))) 12 Si (Q.o _ (aj _ _).drew) (fun hHeld=>?_);refine aC 0 ?_;refine aC 1 ?_;refine aC 2 ?_;refine aC 3 ?_;refine aC 4 ?_;refine aC 5 ?_;refine aC 6 ?_;refine aC 7 ?_;refine aC 8 ?_;refine bM 9 fun K hK=>?_
 obtain⟨c7,cR,c5,c6,Es⟩:=cU fI;refine rG _ rfl (.tmp 124) (.tmp 124) 27 rfl D 3 c7 (zI 0) 1 dS cR c5 c6 .i64 .i64 (v+h) (v+h) (v+h).toNat rfl rfl a9.o.symm a9.o.symm SW TS RS ?_;intro a5 ad bo;have bm:ai D a5:=(aj _ _).drew.trans (cd bo);rw[ig]at ad;have am:ar a5 D (.slice (some ⟨D.drew,0,none⟩) (v+h).toNat (v+h).toNat) (List.replicate (v+h).toNat 0):=by simpa[ar]using ad
 rw[show(D.drew:Nat)=z+1 from c4]at am;obtain⟨I,ci⟩:=bS bm am;clear bm am ad bo;refine hK.out _ _ (fun _=>Q.o _ I.o) (fun hHeld=>?_);clear hK K;try simp only[Act.put,zA]
 have hHeld:=hHeld RX;refine bM 10 fun K hK=>?_
 go_simp;refine(ug ((w:Nat)+3) _ a us rows _ _ _ a5 (U.o.ext I).outer (oh U.o) cI cO RU).mono ?_;rintro e wc ⟨eb,rfl,ac,ab⟩;obtain⟨g,F,rfl,d0,d1⟩:=kG ac RU;have bi:=af I ab;have d6:=I.size;have bd:=U.o.insert I ci RU (RU:a.toNat<=rows.length) (uh ac RU) (fw ab);obtain⟨E,ch⟩:=bS bi bd;clear bi bd ac ab;go_simp;refine hK.out _ _ (fun _=>Q.o _ E.o) (fun hHeld=>?_);clear hK K;try simp only[Act.put,zA]
 have hHeld:=hHeld RX;refine bM 11 fun K hK=>?_
 go_simp;refine hK.out _ _ (fun _=>Q.o _ E.o) (fun hHeld=>?_);clear hK K;try simp only[Act.put,zA]
 have hHeld:=hHeld RX;have R:=(E.o.block z RU).trans co;have a8:=zH R;have f2:=aP R 2;obtain⟨da,db,z2⟩:=aq R;clear R;refine bM 12 fun K hK=>?_
 go_simp;refine hK.out _ _ (fun h=>absurd h RX) (fun _=>?_);clear hK K;try simp only[Act.put,zA]
 refine eC Si ?_ _;have a2:=bs wc z 2 _ _ (.slice (aY g) (rows.length+1) F) a8;simp only[zA]at a2;have bv:=(cm wc ⟨z,2,none⟩ w (.slice (aY g) (rows.length+1) F) SJ).trans ((E.o.block _ RU).trans cj);have bz:=(cm wc ⟨z,2,none⟩ ((w:Nat)+1) (.slice (aY g) (rows.length+1) F) SJ).trans ((E.o.block _ RU).trans ck);have a0:=(cm wc ⟨z,2,none⟩ ((w:Nat)+1+1) (.slice (aY g) (rows.length+1) F) SJ).trans ((E.o.block _ RU).trans cn);obtain⟨HO,HE⟩:=bS (show aJ _ ((w:Nat)+3) _ (bK rows a.toNat (List.replicate (v+h).toNat 0)) from⟨_,ch.jd a8 (j:=2) (u:=.slice (aY g) (rows.length+1) F)⟩) ((af cb E.o).setCell (p:=⟨z,2,none⟩) SJ (.slice (aY g) (rows.length+1) F));clear da db z2 b7 a7 b8 b9 ca c8 c9 b5 a3 a4 b4 f2;obtain⟨b7,a7,b8,b9,ca⟩:=bH bz;obtain⟨a3,a4,b4⟩:=aq bv;clear bv bz;obtain⟨cr,ct,cu⟩:=bT a2;obtain⟨cy,cz,cF⟩:=bT a0;obtain⟨dc,dl,dT⟩:=bU a0;simp only[dt,cZ]at cr ct cu cy cz cF;clear a2 a0;go_wp2;refine ax (v:=.agg (dj v h (aY g) (rows.length+1) F)) UU rfl ⟨_,rfl,?_,?_⟩
 .exact YD
 .exact Yq
end Go.Proofs.YtdpgblncijojiaaGreatDoor
