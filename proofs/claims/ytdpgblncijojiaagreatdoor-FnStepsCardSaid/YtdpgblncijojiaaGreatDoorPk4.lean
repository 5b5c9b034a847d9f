/- Parts of the walks. Conditions: as stated with each. -/
import Derived.Test.YtdpgblncijojiaaGreatDoorPk2
namespace Go.Proofs.YtdpgblncijojiaaGreatDoor
open Go.RowKit Tryz
set_option linter.all false
set_option maxHeartbeats 4000000
variable{B D b j n r:Nat}{T:dG}{cs:gh}{u v:au}{us:bG}{w w':aa}
def mI(p b:Int)(xs:aG)(k:Nat):List Int:=(xs.map fun x=>x*b%p).take k++xs.drop k
def gz(p b:Int)(xs:aG):List Int:=xs.map fun x=>x*b%p
def tk(p b:Int)(xs:aG):mI p b xs 0=xs:=by simp[mI]
def vX(p b:Int)(xs:aG)(k:Nat)(z:xs.length<=k):mI p b xs k=gz p b xs:=by unfold mI gz;rw[gq (by simpa using z),nc z,nf]
def vY(p b:Int)(xs:aG)(k:Nat)(z:k<xs.length):(mI p b xs k)[k]?=xs[k]?:=by unfold mI;exact Xg
def vZ(p b:Int)(xs:aG)(k:Nat)(x:Int)(hx:xs[k]?=some x):(mI p b xs k).set k (x*b%p)=mI p b xs (k+1):=by have h1:=(bA.1 hx).1;unfold mI;rw[sq _ _ Sk,gK];have z:xs.drop k=x::xs.drop (k+1):=Xf;have D:k-((xs.map fun x=>x*b%p).take k).length=0:=Sk;rw[z,D,jA];simp[hx]
def DL(a b p v h:Int)(A:an)(cap:Nat)(rows:aE)(w:aa)(a3:aX w A rows)(cF:rows.length<=160)(Et:∀r∈rows,r.length<=1000)(cO:1<=p)(cR:p<=1000)(cj:0<=a)(ck:a<rows.length)(hb:0<=b)(b5:b<=1000)(hx:∀r∈rows,∀x∈r,0<=x/\x<=1000):aw 211 (eQ (bP a b) p (ae v h A rows cap)) w fun e w'=>∃u,e=.returned (.agg (dE v h u))/\aJ w' w u (rows.set a.toNat (gz p b (rows.getD a.toNat [])))/\ai w w':=by
 obtain⟨z,EU⟩:=aB (RU:a.toNat<rows.length);obtain⟨bb,bp⟩:=bS (T1:rows.getD a.toNat []=z) (show ∀x∈z,0<=x/\x<=1000 from hx z (a_ EU));have c0:z.length<=1000:=Et z (a_ EU);clear hx;obtain⟨be,bi⟩:=bS (RU:rows.length<=1048576) (show ∀r∈rows,r.length<=1048576 from fun r hr=>Uf);go_enter func211,ntmps211
 go_wp2_with fail
 refine(lp _ _ _ _ _ _ (a3.ext (((aj _ _).alloc RS _ |>.alloc RS _).alloc SJ _)) be bi).mono ?_;rintro e E ⟨u,rfl,⟨us,hu⟩,ad⟩;obtain⟨J,H,rfl,_,_,_⟩:=aJ.view ⟨us,hu⟩;obtain⟨a9,ca,ba⟩:=cA w (.cells (bP a b) 132) (.cells (ae v h A rows cap) 26) (.cells aQ 26);have b8:=ad.size;simp only[cg]at b8;go_upto_region 2 with(fail)
 obtain⟨F,En⟩:=aO (E.alloc (.cells (ae v h J rows H) 26));rw[<-En];have am:ai E F:=Wc;have c4:(F:Nat)=E+1:=SH;have Y:=cC ad am;have ap:aU F E (ae v h J rows H) 26:=UF;have a6:=cD Y a9;have a7:=cD Y ba;have E5:bh F ((w:Nat)+3) (.slice J rows H) rows us:=(hu.ext am).mono RS;have b9:∀g',J=some ⟨g',0,none⟩->g' < (E:Nat):=fun g' e=>VT
 have a5:∀(k:Nat) (x:au),us[k]?=some x->∀b,x.ownBlock=some b->b < (E:Nat):=fun k x hx b hb=>Wy
 have a4:ai w F:=(below_alloc3 w _ _ _).trans (Y.mono SJ);clear hu ad am Y a3 Et a9 ca ba En;obtain⟨c7,E6,Z⟩:=E5.get EU;obtain⟨g,b6,cr,cy⟩:∃g,J=some ⟨g,0,none⟩/\(w:Nat)+3<=g/\g < (F:Nat):=ks E5 RU;subst b6;obtain⟨U,I,rfl,a2,_⟩:=Z.view;obtain⟨ac,Q⟩:=zaQ a6;have R:=aW ap 2;simp only[dt,cZ]at ac Q R;have a0:ah F g a.toNat (.slice U z I):=VW;obtain⟨bm,bd,bo,F5,cb,br,bv,a1,Fx⟩:=zH9 E5 a4 E6 Z a2 a7 ap (a5 _ _ E6) (fA E5.outer Z);clear E5 a4 E6 Z EU a2 b9 a5 a6 a7 ap;go_wp2;go_loopw [19] (fun i wr=>∃k:Nat,k<=z.length/\i=.int .i64 k/\wr.ownsRow ((w:Nat)+3) 3 1 (.slice U z I) z ((mI p b z k).map (Value.int .i64))/\F.grownBy wr (Value.slice U z I).ownBlock)
  (fun i _=>z.length-(intOf i).toNat)
 case atStart=>exact⟨0,bf _,rfl,TB,⟨rfl,rfl,rfl,ag _,fun _ _ _=>rfl⟩⟩
 case round=>
  obtain⟨k,cz,rfl,Eo,D⟩:=hrel;by_cases Ez:k<z.length
  .obtain⟨x,hx⟩:=aB Ez;obtain⟨O,rfl,ct,_⟩:=kD F5 RU;have cu:=a1 O rfl;have cI:g≠O:=XF;have c8:ah wr w 0 (zI a):=D.cell ac UL;have c9:ah wr w 1 (zI b):=D.cell Q UL;have da:ah wr E 2 (.slice (aY g) rows H):=D.cell R UL;have db:ah wr g a.toNat (.slice (aY O) z I):=D.cell a0 UL;have cn:ah wr O k (zI x):=Xp;have co:=Eo.frozenAt k;obtain⟨Q,R⟩:=bp x (a_ hx);have c5:0<=x*b:=xT Q hb;have c6:x*b<=1000000:=by have:=Int.mul_le_mul R b5 hb RU;omega
   have ab:=Eo.stored k (zI (x*b%p));rw[<-h_,vZ _ _ _ _ _ hx]at ab;obtain⟨HS,HG⟩:=bS ab.1 (bx D ab.2);have ci:¬p=0:=RU;clear ab hx Eo D ac a0;go_wp2_with fail
   go_region_held3 (fun w'=>ah w' w 0 (zI a)/\ah w' w 1 (zI b)/\ah w' E 2 (.slice (aY g) rows H)/\ah w' g a.toNat (.slice (aY O) z I))
    (first|(simp[*];done)|(refine⟨?_,?_,?_,?_⟩<;>(first|(refine(eF SJ).trans ?_;assumption)|(refine(jZ SJ).trans ?_;assumption)))) (fail)
   exact YA
  .have F0:∀b,(Value.slice U z I).ownBlock=some b->(w:Nat)+3<=b/\b < (E:Nat):=fun b hb=>⟨(bZ F5 b hb).1,a1 b hb⟩
   have a8:=(D.block E RU (fun e=>UK)).trans bv;have ao:=(D.block ((w:Nat)+1+1) RU (fun e=>UK)).trans br;have b7:k=z.length:=RU;subst b7;have HO:=zH (show aJ wr ((w:Nat)+3) (.slice (aY g) rows H) (rows.set a.toNat (gz p b (rows.getD a.toNat []))) from
    ⟨_,bm.inner bo D (by rw[bb.o,<-vX p b z z (ag _)];unfold ar;rw[show(mI p b z z).length=z by simp[mI]];exact Eo)⟩)
   have HE:=zH (bd.grown D RU fun b hb=>Ui);clear Eo D F0 ac Q R a0;obtain⟨bz,b0,b1⟩:=bT a8;obtain⟨b2,b3,b4⟩:=bT ao;obtain⟨cc,ce,ch⟩:=bU ao;simp only[dt,cZ]at bz b0 b1 b2 b3 b4;clear a8 ao;go_wp2;refine ax (v:=.agg (ae v h (aY g) rows H)) (by simp[results,results211,go_sem, *]) rfl ⟨_,rfl,?_,?_⟩
   .exact YD
   .exact Yq
def oh{rows:aE}(h:bh w B v rows us):∀u∈us,u.oneCell'=true:=fun u E=>by obtain⟨k,z⟩:=e_.1 E;obtain⟨r,_,D⟩:=h.kU z;obtain⟨F,H,rfl,_⟩:=D.view;rfl
def BJ(w:aa)(b j:Nat)(u:au):w.grownBy (w.setCell ⟨b,j,none⟩ u) (some b):=⟨rfl,rfl,rfl,RS,fun k _ z=>cm w ⟨b,j,none⟩ k u (fun e=>z R0)⟩
def bh.jd{fr:gW}{rows:aE}(h:bh w B v rows us)(hb:w.heap[b]?=some (.cells cs 26 fr)):bh (w.setCell ⟨b,j,none⟩ u) B v rows us:=by
 refine⟨hJ h.outer (BJ w b j u) ?_,fun k x r D z=>ar.kept (h.each k x r D z) (BJ w b j u) ?_,h.apart⟩
 .rcases h.outer.2 with⟨rfl,_⟩|⟨g,cap,cur,rfl,_,hg,_⟩
  .exact aF rfl
  .exact Ye
 .rcases(h.each k x r D z).2 with⟨rfl,_⟩|⟨g,cap,cur,rfl,_,hg,_⟩
  .exact aF rfl
  .exact Ye
def zbv(a p v h:Int)(A:an)(cap:Nat)(rows:aE)(w:aa)(am:aX w A rows)(ca:rows.length<=160)(Et:∀r∈rows,r.length<=1000)(bv:0<=a)(bz:a<rows.length):aw 217 (eQ (bg a) p (ae v h A rows cap)) w fun e w'=>∃u,e=.returned (.agg (dE v h u))/\aJ w' w u (rows.eraseIdx a.toNat)/\ai w w':=by
 obtain⟨a9,ba⟩:=bS (RU:rows.length<=1048576) (show ∀r∈rows,r.length<=1048576 from fun r hr=>Uf);go_enter func217,ntmps217
 go_wp2_with fail
 refine(lp _ _ _ _ _ _ (am.ext (((aj _ _).alloc RS _ |>.alloc RS _).alloc SJ _)) a9 ba).mono ?_;rintro e z ⟨u,rfl,⟨us,hu⟩,Q⟩;obtain⟨F,D,rfl,_,_,_⟩:=aJ.view ⟨us,hu⟩;obtain⟨a4,b2,a5⟩:=cA w (.cells (bg a) 136) (.cells (ae v h A rows cap) 26) (.cells aQ 26);have b1:=Q.size;simp only[cg]at b1;go_upto_region 2 with(fail)
 obtain⟨E,En⟩:=aO (z.alloc (.cells (ae v h F rows D) 26));rw[<-En];have R:ai z E:=Wc;have cb:(E:Nat)=z+1:=SH;have I:=cC Q R;have ab:aU E z (ae v h F rows D) 26:=UF;have a2:=cD I a4;have a3:=cD I a5;have Y:bh E ((w:Nat)+3) (.slice F rows D) rows us:=(hu.ext R).mono RS;have a1:∀g',F=some ⟨g',0,none⟩->g' < (z:Nat):=fun g' e=>VT
 have b9:∀(k:Nat) (x:au),us[k]?=some x->∀b,x.ownBlock=some b->b < (z:Nat):=fun k x hx b hb=>Wy
 have ap:ai w E:=(below_alloc3 w _ _ _).trans (I.mono SJ);clear hu Q R I am Et a4 b2 a5 En;obtain⟨g,b0,b6,b7⟩:∃g,F=some ⟨g,0,none⟩/\(w:Nat)+3<=g/\g < (E:Nat):=ks Y RU;subst b0;have b8:=a1 g rfl;have a6:=aW a2 0;have a7:=aW ab 2;simp only[dt,cZ]at a6 a7;obtain⟨O,a8,bb,bd⟩:=fU Y ap a3 ab;clear Y ap a1 a2 a3 ab;go_upto_region 3 with(go_at_call 220;refine(qN ((w:Nat)+3) g rows D a us _ O.outer (oh O) bv bz RU).mono ?_;rintro e wr ⟨rfl,a0,U⟩;have H:=(U.block z RU Sk).trans bd;have J:=zH U;have HO:=zH a0;have f2:=aP H 2;have c2:=aW H 2;simp only[dt,cZ]at c2;have ad:=zH H;clear H U a0)
 have ac:=bs wr z 2 _ _ (.slice (aY g) (rows.length-1) D) ad;simp only[zA]at ac;have Z:=(cm wr ⟨z,2,none⟩ ((w:Nat)+1+1) (.slice (aY g) (rows.length-1) D) SJ).trans ((J.o.block _ RU Sk).trans bb);have ao:=O.erase RU HO J.o;obtain⟨HO,HE⟩:=bS (show aJ _ ((w:Nat)+3) _ _ from⟨_,ao.jd ad (j:=2) (u:=.slice (aY g) (rows.length-1) D)⟩) ((a8.grown J.o RU fun b hb=>SU).setCell (p:=⟨z,2,none⟩) SJ (.slice (aY g) (rows.length-1) D));clear ao c2 f2 a6 a7;obtain⟨be,bi,bm⟩:=bT ac;obtain⟨bo,bp,br⟩:=bT Z;obtain⟨b3,b4,b5⟩:=bU Z;simp only[dt,cZ]at be bi bm bo bp br;clear ac Z;go_wp2;refine ax (v:=.agg (dj v h (aY g) (rows.length-1) D)) (by simp[results,results217,go_sem, *]) rfl ⟨_,rfl,?_,?_⟩
 .exact YD
 .exact Yq
def zd2(a p v h:Int)(A:an)(cap:Nat)(rows:aE)(w:aa)(be:aX w A rows)(c9:rows.length<=160)(Et:∀r∈rows,r.length<=1000)(cu:0<=a)(cy:a<=rows.length)(cO:0<=v)(cR:v<=1000)(cz:0<=h)(cF:h<=1000):aw 223 (eQ (bg a) p (ae v h A rows cap)) w fun e w'=>∃u,e=.returned (.agg (dE v h u))/\aJ w' w u (bK rows a.toNat (List.replicate (v+h).toNat 0))/\ai w w':=by
 obtain⟨ca,cb⟩:=bS (RU:rows.length<=1048576) (show ∀r∈rows,r.length<=1048576 from fun r hr=>Uf);go_enter func223,ntmps223
 go_wp2_with fail
 refine(lp _ _ _ _ _ _ (be.ext (((aj _ _).alloc RS _ |>.alloc RS _).alloc SJ _)) ca cb).mono ?_;rintro e z ⟨u,rfl,⟨us,hu⟩,a2⟩;obtain⟨E,F,rfl,_,_,_⟩:=aJ.view ⟨us,hu⟩;obtain⟨b2,b3,b4⟩:=cA w (.cells (bg a) 137) (.cells (ae v h A rows cap) 26) (.cells aQ 26);have cI:=a2.size;simp only[cg]at cI;go_upto_region 2 with(fail)
 obtain⟨D,En⟩:=aO (z.alloc (.cells (ae v h E rows F) 26));rw[<-En];have a3:ai z D:=Wc;have da:(D:Nat)=z+1:=SH;have U:=cC a2 a3;have a6:aU D z (ae v h E rows F) 26:=UF;have bz:=cD U b2;have b0:=cD U b3;have b1:=cD U b4;have bp:bh D ((w:Nat)+3) (.slice E rows F) rows us:=(hu.ext a3).mono RS;have br:∀g',E=some ⟨g',0,none⟩->g' < (z:Nat):=fun g' e=>VT
 have c8:∀(k:Nat) (x:au),us[k]?=some x->∀b,x.ownBlock=some b->b < (z:Nat):=fun k x hx b hb=>Wy
 have bm:ai w D:=(below_alloc3 w _ _ _).trans (U.mono SJ);clear hu a2 a3 U be Et b2 b3 b4 En;have a9:=aW bz 0;obtain⟨b6,b7,b8⟩:=bT b0;have ba:=aW a6 2;simp only[dt,cZ]at a9 b6 b7 b8 ba;obtain⟨ac,b9,ch,ci,cc⟩:=lv bp bm b1 a6 br;clear bp bm br bz b0 b1 a6;refine bJ (S:=fun w'=>ah w' w 0 (zI a)/\ah w' ((w:Nat)+1) 0 (zI v)/\ah w' ((w:Nat)+1) 1 (zI h)/\ah w' ((w:Nat)+1) 2 (.slice A rows cap)/\ah w' z 2 (.slice E rows F)) 10 Si R4 (fun hHeld=>?_);refine aC 0 ?_;refine aC 1 ?_;refine aC 2 ?_;refine aC 3 ?_;refine aC 4 ?_;have ap:∀a8,ai D a8->(fun w':World=>ah w' w 0 (zI a)/\ah w' ((w:Nat)+1) 0 (zI v)/\ah w' ((w:Nat)+1) 1 (zI h)/\ah w' ((w:Nat)+1) 2 (.slice A rows cap)/\ah w' z 2 (.slice E rows F)) a8:=fun a8 hb=>
  ⟨av hb a9,av hb b6,av hb b7,av hb b8,av hb ba⟩
 refine bM 5 fun K hK=>?_
 go_simp;refine(oV v h _ _ cO cR cz cF).mono ?_;rintro e b5 ⟨rfl,Y⟩;have Y:ai D b5:=(aj _ _).drew.trans Y;go_simp;refine hK.out _ _ (fun _=>ap b5 Y) (fun hHeld=>?_);clear hK K;try simp only[Act.put,zA]
 have hHeld:=hHeld RX;refine bM 6 fun K hK=>?_
 go_simp;obtain⟨J,a4⟩:∃J:Nat,v+h=J:=⟨(v+h).toNat,RU⟩;have bd:=zH a4;rw[a4];clear a4;refine(rP J _ (by have:=bd.o;omega)).mono ?_;rintro e ab ⟨dc,rfl,Z,H⟩;have H:ai D ab:=cC Y H;have Z:=Z.mono Y.size;obtain⟨ao,a0,bv,_⟩:=Z.view;try simp only[kj]at bv
 subst bv;dsimp only;refine hK.out _ _ (fun _=>ap ab H) (fun hHeld=>?_);clear hK K;try simp only[Act.put,zA]
 have hHeld:=hHeld RX;have ce:=zH Z;clear Z;refine bM 7 fun K hK=>?_
 go_simp;have I:Below D D (ab.alloc (.cells (eG ao J a0) 27)):=H.alloc H.size _;refine hK.out _ _ (fun _=>ap _ I) (fun hHeld=>?_);clear hK K;try simp only[Act.put,zA]
 have hHeld:=hHeld RX;refine bM 8 fun K hK=>?_
 go_simp;have db:=H.size;have a1:=ac.ext I;have ED:∀b,(Value.slice E rows F).ownBlock=some b->(w:Nat)+3<=b/\b < (z:Nat):=fun b hb=>⟨(bZ ac.outer b hb).1,by
  rcases ac.outer.2 with⟨h1,_⟩|⟨g',c0,c4,h1,_⟩
  .rw[h1]at hb;cases hb
  .rw[h1]at hb;cases hb;exact cc g' U3⟩
 refine(qI ((w:Nat)+3) rows ab a (.slice E rows F) us (.slice ao J a0) _ a1.outer (oh a1) rfl (az _ _ rfl) (fun e=>by have:=ED _ e;omega) cu cy RU SJ).mono ?_;rintro e wr ⟨g,R,rfl,bo,Q,_⟩;dsimp only;have O:∀p:dD,p.block=(w:Nat)∨p.block=(w:Nat)+1∨p.block=(z:Nat)->∀x,(ab.alloc (.cells (eG ao J a0) 27)).cell? p=some x->wr.cell? p=some x:=fun p am x hx=>Q.cell hx (fun e=>by have:=ED _ e.symm;rcases am with am|am|am <;>omega)
 refine hK.out _ _ (fun _=>⟨O _ (aF rfl) _ hHeld.1,O _ (aA (aF rfl)) _ hHeld.2.1,O _ (aA (aF rfl)) _ hHeld.2.2.1,O _ (aA (aF rfl)) _ hHeld.2.2.2.1,O _ (aA (aA rfl)) _ hHeld.2.2.2.2⟩) (fun hHeld=>?_);clear hK K;try simp only[Act.put,zA]
 have hHeld:=hHeld RX;refine bM 9 fun K hK=>?_
 go_simp;refine hK.out _ _ (fun _=>hHeld) (fun hHeld=>?_);clear hK K;try simp only[Act.put,zA]
 have ad:wr.heap[z.heap.size]?=_:=(Q.block z SJ (fun e=>UI)).trans ((I.block z RU).trans ci);have bb:=zH ad;have f2:=aP ad 2;have c2:=aW ad 2;simp only[dt,cZ]at c2;clear ad O hHeld;refine bM 10 fun K hK=>?_
 go_simp;refine hK.out _ _ (fun h=>absurd h RX) (fun _=>?_);clear hK K;try simp only[Act.put,zA]
 refine eC Si ?_ _;have a7:=bs wr z 2 _ _ (.slice (aY g) (rows.length+1) R) bb;simp only[zA]at a7;have a5:=(cm wr ⟨z,2,none⟩ ((w:Nat)+1+1) (.slice (aY g) (rows.length+1) R) SJ).trans ((Q.block _ SJ (fun e=>UI)).trans ((I.block _ RU).trans ch));have bi:=ac.insert I (ce.ext ((aj _ _).alloc (ag _) _)) RU RU bo Q;obtain⟨HO,HE⟩:=bS (show aJ _ ((w:Nat)+3) _ _ from⟨_,bi.jd bb (j:=2) (u:=.slice (aY g) (rows.length+1) R)⟩) ((pU (b9.trans (I.mono RU)) Q SJ fun b hb=>by have:=ED b hb;omega).setCell (p:=⟨z,2,none⟩) SJ (.slice (aY g) (rows.length+1) R));clear bi c2 f2 a9 ba Q bo H I a1 ED;rw[show List.replicate J (0:Int)=List.replicate (v+h).toNat 0 by rw[bd.o];rfl]at HO;obtain⟨cj,ck,cn⟩:=bT a7;obtain⟨co,cr,ct⟩:=bT a5;obtain⟨c5,c6,c7⟩:=bU a5;simp only[dt,cZ]at cj ck cn co cr ct;clear a7 a5;go_wp2;refine ax (v:=.agg (dj v h (aY g) (rows.length+1) R)) (by simp[results,results223,go_sem, *]) rfl ⟨_,rfl,?_,?_⟩
 .exact YD
 .exact Yq
def jR{z:Type}(f:z->z)(xs:List z)(k:Nat):List z:=(xs.map f).take k++xs.drop k
def lI{z:Type}(f:z->z)(xs:List z):jR f xs 0=xs:=by simp[jR]
def nr{z:Type}(f:z->z)(xs:List z)(k:Nat)(D:xs.length<=k):jR f xs k=xs.map f:=by unfold jR;rw[gq (by simpa using D),nc D,nf]
def ns{z:Type}(f:z->z)(xs:List z)(k:Nat)(D:k<xs.length):(jR f xs k)[k]?=xs[k]?:=by unfold jR;exact Xg
def dW{z:Type}(f:z->z)(xs:List z)(k:Nat)(D:k<=xs.length):(jR f xs k).length=xs:=by unfold jR;simp;omega
def iG{z:Type}(f:z->z)(xs:List z)(k:Nat)(x:z)(hx:xs[k]?=some x):(jR f xs k).set k (f x)=jR f xs (k+1):=by have h1:=(bA.1 hx).1;unfold jR;rw[sq _ _ Sk,gK];have D:xs.drop k=x::xs.drop (k+1):=Xf;have E:k-((xs.map f).take k).length=0:=Sk;rw[D,E,jA];simp[hx]
def fM{H:bG}{fr:gW}(h:w.ownsRow B T D v n H)(F:w.heap[b]?=some (.cells cs 26 fr))(E:T≠26):v.ownBlock=none∨v.ownBlock≠some b:=by
 rcases h.2 with⟨rfl,_⟩|⟨g,cap,cur,rfl,_,z,_⟩
 .exact aF rfl
 .refine aA fun e=>?_
  simp only[Value.ownBlock,dX]at e;subst e;rw[F]at z;simp at z;exact E z.2.1.symm
def frz{a:dD}(E:w.grownBy w' (some r))(z:w.frozen? a=false)(D:w.cell? a=some v)(ED:a.block≠r):w'.frozen? a=false:=by have h:=E.block a.block (iN w a D) SX;unfold World.frozen? at z ⊢;rw[h];exact z
def oq{a:dD}(D:w.grownBy w' (some r))(z:w.cell? a=some v)(ED:a.block≠r):w'.cell? a=some v:=(xZ (w:=w) (D.block a.block (iN w a z) SX)).trans z
def wF{z D:Type}(f:z->D)(l:List z)(i:Nat):(l.map f).eraseIdx i=(l.eraseIdx i).map f:=by apply fu;intro j;rw[ij,cp,cp,ij]
def w_(b v h:Int)(A:an)(cap:Nat)(rows:aE)(w:aa)(a4:aX w A rows)(c8:rows.length<=160)(Et:∀r∈rows,r.length<=1000)(dc:0<=v)(dl:v<=1000)(hb:0<=b)(cI:b<=1000)(c5:1<=h)(c6:h<=1000)(a6:∀r∈rows,v+b<r.length):aw 235 (iU (ae v h A rows cap) b) w fun e w'=>∃u,e=.returned (.agg (dE v (h-1) u))/\aJ w' w u (rows.map (fun r=>r.eraseIdx (v+b).toNat))/\ai w w':=by
 have b2:=zH (show ∀r∈rows,v+b<r.length/\r.length<=1000 from fun r hr=>⟨a6 r hr,Et r hr⟩);clear a6;obtain⟨b3,b5⟩:=bS (RU:rows.length<=1048576) (show ∀r∈rows,r.length<=1048576 from fun r hr=>Uf);go_enter func235,ntmps235
 go_wp2_with fail
 refine(lp _ _ _ _ _ _ (a4.ext ((aj _ _).alloc RS _ |>.alloc RS _)) b3 b5).mono ?_;rintro e z ⟨u,rfl,⟨us,hu⟩,U⟩;obtain⟨H,E,rfl,_,_,_⟩:=aJ.view ⟨us,hu⟩;have bp:((w.alloc (.cells (ae v h A rows cap) 26)).alloc (.cells aQ 26)).heap[w.heap.size]?=some (.cells (ae v h A rows cap) 26):=(b_ _ _ RS).trans (az _ _ rfl);have br:((w.alloc (.cells (ae v h A rows cap) 26)).alloc (.cells aQ 26)).heap[(w:Nat)+1]?=some (.cells aQ 26):=az _ _ RS;have co:=U.size;simp only[cg]at co;go_upto_region 2 with(fail)
 obtain⟨F,En⟩:=aO (z.alloc (.cells (ae v h H rows E) 26));rw[<-En];have Y:ai z F:=Wc;have db:(F:Nat)=z+1:=SH;have Q:=cC U Y;have ab:aU F z (ae v h H rows E) 26:=UF;have bm:=cD Q bp;have bo:=cD Q br;have bi:bh F ((w:Nat)+2) (.slice H rows E) rows us:=(hu.ext Y).mono RS;have a5:ai w F:=((aj w w).alloc RS _ |>.alloc RS _).trans (Q.mono SJ);clear hu U Y Q a4 Et bp br En;have am:=aW bm 0;have bz:=aW ab 2;simp only[dt,cZ]at am bz;obtain⟨b7,b1,b9,ca⟩:=fU bi a5 bo ab;clear bi a5 bm bo ab;go_wp2;go_loopw [13] (fun i wr=>∃k:Nat,k<=rows.length/\i=.int .i64 k/\(∃bv,bh wr ((w:Nat)+2) (.slice H rows E) (jR (fun r=>r.eraseIdx (v+b).toNat) rows k) bv)/\
   aU wr z (ae v h H rows E) 26/\Below ((w:Nat)+2) F wr)
  (fun i _=>rows.length-(intOf i).toNat)
 case atStart=>exact⟨0,bf _,rfl,⟨us,by rw[lI];exact b7⟩,ca,aj _ _⟩
 case round=>
  obtain⟨k,hk,rfl,⟨bv,Eo⟩,EZ,I⟩:=hrel;by_cases a7:k<rows.length
  .obtain⟨r,hr⟩:=aB a7;have bb:(jR (fun r=>r.eraseIdx (v+b).toNat) rows k)[k]?=some r:=(ns _ _ _ a7).trans hr;obtain⟨d2,EX,F9⟩:=Eo.get bb;obtain⟨cn,c7⟩:=b2 r (a_ hr);obtain⟨cu,O,rfl,_⟩:=F9.view;obtain⟨gr,rfl,c0,c4⟩:=kD F9 RU;obtain⟨g,rfl,cO,cR⟩:=ks Eo Ue;have EY:=Eo.outer;rw[dW _ _ _ hk]at EY;have b0:ah wr g k (.slice (aY gr) r O):=Vi;have ao:ah wr w 0 (zI v):=(I.cell SJ).trans am;have ap:ah wr z 2 (.slice (aY g) rows E):=aW EZ 2;have c9:gr≠z.heap.size:=fun e=>X4
   have da:g≠z.heap.size:=fun e=>Yc
   have f0:=EY.frozenAt k;obtain⟨HO,a2,HW,b4,b8,b6⟩:=mA Eo F9 I EZ EX hr;clear EY Eo F9 I EZ bb EX hr;have dT:IntKind.i64.wrap (v+b)=v+b:=SQ;have d0:IntKind.i64.wrap (v+b+1)=v+b+1:=SQ;have a8:g≠gr:=by
    rcases fA HO.outer a2 with h1|h1
    .cases h1
    .exact W8
   have a0:=zH (yT ((w:Nat)+2) gr r O (v+b) (r.map (Value.int .i64)) wr.drew (vE a2) WD RU cn RU);go_wp2_with fail
   go_region_held3 (fun w'=>ah w' w 0 (zI v)/\ah w' z 2 (.slice (aY g) rows E))
    (first|(exact ci)|(exact⟨ao,ap⟩)|(refine⟨?_,?_⟩<;>(first|(refine(eF SJ).trans ?_;assumption)|(refine(jZ SJ).trans ?_;assumption))))
    ((go_at_call 236;refine a0.mono ?_;rintro e ad ⟨rfl,ba,D⟩;have f3:ad.frozen? ⟨g,k,none⟩=false:=(frz (w:=wr.drew) D f0 b0 a8);have cr:=oq (w:=wr.drew) D ao (RU:w.heap.size≠gr);have ct:=oq (w:=wr.drew) D ap (RU:z.heap.size≠gr);have ci:=bn cr ct;clear ao ap;have d3:=oq (w:=wr.drew) D b0 a8))
   have D:=bx (dP wr (some gr)) D;have a9:ar ad ((w:Nat)+2) (.slice (aY gr) (r.length-1) O) (r.eraseIdx (v+b).toNat):=by unfold ar;rw[<-wF,mW RU];exact ba
   have Z:=HO.put (dW _ _ _ hk).symm b8 D a9 (fun b hb=>aF hb);rw[iG _ _ _ _ b6.o]at Z;obtain⟨HN,E0,Er⟩:=d_ Z ((cm ad ⟨g,k,none⟩ z (.slice (aY gr) (r.length-1) O) SJ).trans ((D.block z UX Sk).trans b4)) (kn (pU HW D UX (fun b hb=>SU)) (p:=⟨g,k,none⟩) SJ (.slice (aY gr) (r.length-1) O));clear Z a9 ba D a0;exact YC
  .skip
   have cj:k=rows.length:=RU;subst cj;rw[nr _ _ _ (ag _)]at Eo;have J:=(I.block _ RU).trans b9;have R:=aW EZ 1;have a3:=aP EZ 1;simp only[dt,cZ]at R;obtain⟨HO,HW,a1,ck⟩:=fU Eo I EZ J;have d1:IntKind.i64.wrap (h-1)=h-1:=SQ;clear Eo I EZ J am bz;go_upto_region 8 with(fail)
   have ac:=bs wr z 1 _ _ (zI (h-1)) a1;simp only[zA]at ac;have J:=(cm wr ⟨z,1,none⟩ ((w:Nat)+1) (zI (h-1)) SJ).trans ck;have be:=HO.jd a1 (j:=1) (u:=.int .i64 (h-1));have HO:=zH (show aJ _ ((w:Nat)+2) _ _ from⟨_,be⟩);have bd:=((b1.trans (HW.mono RU)).setCell (p:=⟨z,1,none⟩) SJ (zI (h-1)));have HE:=zH bd;clear be bd;obtain⟨R,a3,cb⟩:=bT ac;obtain⟨cc,ce,ch⟩:=bT J;obtain⟨cy,cz,cF⟩:=bU J;simp only[dt,cZ]at R a3 cb cc ce ch;clear ac J;go_wp2;refine ax (v:=.agg (ae v (h-1) H rows E)) (by simp[results,results235,go_sem, *]) rfl ⟨_,rfl,?_,?_⟩
   .exact YD
   .exact Yq
def zjh{r:Option Nat}{a:dD}(E:w.grownBy w' r)(z:w.frozen? a=false)(D:w.cell? a=some v)(F:some a.block≠r):w'.frozen? a=false:=by have h:=E.block a.block (iN w a D) F;unfold World.frozen? at z ⊢;rw[h];exact z
def zbh{r:Option Nat}{a:dD}(D:w.grownBy w' r)(z:w.cell? a=some v)(E:some a.block≠r):w'.cell? a=some v:=(xZ (w:=w) (D.block a.block (iN w a z) E)).trans z
def jO{a:dD}(h:w.cell? a=some v):a.block < (w:Nat):=iN w a h
def D4(b v h:Int)(A:an)(cap:Nat)(rows:aE)(w:aa)(bd:aX w A rows)(d4:rows.length<=160)(Et:∀r∈rows,r.length<=1000)(d7:0<=v)(d8:v<=1000)(U:0<=b)(dT:b<=1000)(d1:0<=h)(d2:h<=1000)(bm:∀r∈rows,v+b<=r.length):aw 240 (iU (ae v h A rows cap) b) w fun e w'=>∃u,e=.returned (.agg (dE v (h+1) u))/\aJ w' w u (rows.map (fun r=>bK r (v+b).toNat 0))/\ai w w':=by
 have ci:=zH (show ∀r∈rows,v+b<=r.length/\r.length<=1000 from fun r hr=>⟨bm r hr,Et r hr⟩);clear bm;obtain⟨cj,cn⟩:=bS (RU:rows.length<=1048576) (show ∀r∈rows,r.length<=1048576 from fun r hr=>Uf);go_enter func240,ntmps240
 go_wp2_with fail
 refine(lp _ _ _ _ _ _ (bd.ext ((aj _ _).alloc RS _ |>.alloc RS _)) cj cn).mono ?_;rintro e z ⟨u,rfl,⟨us,hu⟩,ao⟩;obtain⟨O,D,rfl,_,_,_⟩:=aJ.view ⟨us,hu⟩;have b6:((w.alloc (.cells (ae v h A rows cap) 26)).alloc (.cells aQ 26)).heap[w.heap.size]?=some (.cells (ae v h A rows cap) 26):=(b_ _ _ RS).trans (az _ _ rfl);have b7:((w.alloc (.cells (ae v h A rows cap) 26)).alloc (.cells aQ 26)).heap[(w:Nat)+1]?=some (.cells aQ 26):=az _ _ RS;have c8:=ao.size;simp only[cg]at c8;go_upto_region 2 with(fail)
 obtain⟨I,En⟩:=aO (z.alloc (.cells (ae v h O rows D) 26));rw[<-En];have ap:ai z I:=Wc;have d6:(I:Nat)=z+1:=SH;have Z:=cC ao ap;have a2:aU I z (ae v h O rows D) 26:=UF;have b4:=cD Z b6;have b5:=cD Z b7;have b3:bh I ((w:Nat)+2) (.slice O rows D) rows us:=(hu.ext ap).mono RS;have be:ai w I:=((aj w w).alloc RS _ |>.alloc RS _).trans (Z.mono SJ);clear hu ao ap Z bd Et b6 b7 En;have a5:=aW b4 0;have b9:=aW a2 2;simp only[dt,cZ]at a5 b9;obtain⟨cr,ch,cu,cy⟩:=fU b3 be b5 a2;clear b3 be b4 b5 a2;go_wp2;go_loopw [13] (fun i wr=>∃k:Nat,k<=rows.length/\i=.int .i64 k/\(∃b8,bh wr ((w:Nat)+2) (.slice O rows D) (jR (fun r=>bK r (v+b).toNat 0) rows k) b8)/\
   aU wr z (ae v h O rows D) 26/\Below ((w:Nat)+2) I wr)
  (fun i _=>rows.length-(intOf i).toNat)
 case atStart=>exact⟨0,bf _,rfl,⟨us,by rw[lI];exact cr⟩,cy,aj _ _⟩
 case round=>
  obtain⟨k,hk,rfl,⟨b8,Eo⟩,EZ,Q⟩:=hrel;by_cases bo:k<rows.length
  .obtain⟨r,hr⟩:=aB bo;have b0:(jR (fun r=>bK r (v+b).toNat 0) rows k)[k]?=some r:=(ns _ _ _ bo).trans hr;obtain⟨eb,EX,Y⟩:=Eo.get b0;obtain⟨c6,d3⟩:=ci r (a_ hr);obtain⟨H,J,rfl,_⟩:=Y.view;have a0:∀c,(Value.slice H r J).ownBlock=some c->(w:Nat)+2<=c/\c < (wr:Nat):=Y.lt;obtain⟨g,rfl,d0,bi⟩:=ks Eo Ue;have EY:=Eo.outer;rw[dW _ _ _ hk]at EY;have cc:ah wr g k (.slice H r J):=Vi;have a6:ah wr w 0 (zI v):=(Q.cell SJ).trans a5;have a7:ah wr z 2 (.slice (aY g) rows D):=aW EZ 2;have bp:some z.heap.size≠(Value.slice H r J).ownBlock:=fun e=>by
    rcases fM Y EZ RX with h1|h1
    .rw[h1]at e;cases e
    .exact h1 e.symm
   have d5:g≠z.heap.size:=fun e=>Yc
   have f0:=EY.frozenAt k;obtain⟨HO,a9,HW,ck,ct,co⟩:=mA Eo Y Q EZ EX hr;clear EY Eo Y Q EZ b0 EX hr;have d9:IntKind.i64.wrap (v+b)=v+b:=SQ;have br:some g≠(Value.slice H r J).ownBlock:=by
    rcases fA HO.outer a9 with h1|h1
    .cases h1
    .exact fun e=>h1 e
   have c7:some w.heap.size≠(Value.slice H r J).ownBlock:=fun e=>by have:=a0 _ e.symm;omega
   have F:Below wr wr (wr.drew.alloc (.cells jx 3)):=(aj _ _).drew.alloc (ag _) _;obtain⟨ba,ab⟩:=bS (yG ((w:Nat)+2) r wr (v+b) (.slice H r J) (r.map (Value.int .i64)) (zI 0) (wr.drew.alloc (.cells jx 3)) (a9.ext F) WD rfl (az _ _ rfl) (fun e=>by have:=a0 _ e;omega) RU c6 RU (by have:=HW.size;simp<;>omega)) F;have ca:=(av F a6);have cb:=(av F a7);have ce:=(av F cc);have cR:=(gO F f0 (jO cc));clear F;go_wp2_with fail
   go_region_held3 (fun w'=>ah w' w 0 (zI v)/\ah w' z 2 (.slice (aY g) rows D))
    (first|(exact c0)|(exact⟨a6,a7⟩)|(exact⟨ca,cb⟩)|(refine⟨?_,?_⟩<;>(first|(refine(eF SJ).trans ?_;assumption)|(refine(jZ SJ).trans ?_;assumption))))
    ((go_at_call 241;refine ba.mono ?_;rintro e a4 ⟨am,ac,rfl,bz,E,bi⟩;have f3:a4.frozen? ⟨g,k,none⟩=false:=(zjh E cR ce br);have c9:=zbh E ca c7;have da:=zbh E cb bp;have c0:=bn c9 da;clear a6 a7;have eg:=zbh E ce br))
   have bv:ar a4 ((w:Nat)+2) (.slice (aY am) (r.length+1) ac) (bK r (v+b).toNat 0):=by unfold ar;rw[show(bK r (v+b).toNat (0:Int)).length=r+1 from jo _ _ _ RU,show(bK r (v+b).toNat (0:Int)).map (Value.int .i64)=bK (r.map (Value.int .i64)) (v+b).toNat (zI 0) by simp[bK,sj,vM]];exact bz
   have a1:=(HO.ext ab).put (dW _ _ _ hk).symm ct E bv (fun b U=>by simp only[Value.ownBlock,dX]at U;subst U;exact bi);rw[iG (fun r=>bK r (v+b).toNat 0) rows k r co]at a1;obtain⟨HN,E0,Er⟩:=d_ a1 ((cm a4 ⟨g,k,none⟩ z (.slice (aY am) (r.length+1) ac) SJ).trans ((E.block z UX bp).trans ((ab.block z Uq).trans ck))) (kn (pU (HW.trans (ab.mono Uq)) E UX (fun b U=>(a0 b U).1)) (p:=⟨g,k,none⟩) SJ (.slice (aY am) (r.length+1) ac));clear a1 bv bz E ba;exact YC
  .skip
   have c4:k=rows.length:=RU;subst c4;rw[nr _ _ _ (ag _)]at Eo;have R:=(Q.block _ RU).trans cu;have ad:=aW EZ 1;have bb:=aP EZ 1;simp only[dt,cZ]at ad;obtain⟨HO,HW,a8,c5⟩:=fU Eo Q EZ R;have ea:IntKind.i64.wrap (h+1)=h+1:=SQ;clear Eo Q EZ R a5 b9;go_upto_region 8 with(fail)
   have a3:=bs wr z 1 _ _ (zI (h+1)) a8;simp only[zA]at a3;have R:=(cm wr ⟨z,1,none⟩ ((w:Nat)+1) (zI (h+1)) SJ).trans c5;have b2:=HO.jd a8 (j:=1) (u:=.int .i64 (h+1));have HO:=zH (show aJ _ ((w:Nat)+2) _ _ from⟨_,b2⟩);have b1:=((ch.trans (HW.mono RU)).setCell (p:=⟨z,1,none⟩) SJ (zI (h+1)));have HE:=zH b1;clear b2 b1;obtain⟨ad,bb,cz⟩:=bT a3;obtain⟨cF,cI,cO⟩:=bT R;obtain⟨db,dc,dl⟩:=bU R;simp only[dt,cZ]at ad bb cz cF cI cO;clear a3 R;go_wp2;refine ax (v:=.agg (ae v (h+1) O rows D)) (by simp[results,results240,go_sem, *]) rfl ⟨_,rfl,?_,?_⟩
   .exact YD
   .exact Yq
end Go.Proofs.YtdpgblncijojiaaGreatDoor
