/- Parts of the walks. Conditions: as stated with each. -/
import Derived.Test.YtdpgblncijojiaaGreatDoorPk4
import Derived.Test.YtdpgblncijojiaaGreatDoorPk5
namespace Go.Proofs.YtdpgblncijojiaaGreatDoor
open Go.RowKit Tryz
set_option linter.all false
set_option maxHeartbeats 8000000
set_option maxRecDepth 100000
def zhz(p v h a b c:Int)(A:aq)(cap:Nat)(rows:aC)(w:aa)(bp:aq)(n b9:Nat)(bv:aL w A rows)(d0:rows.length<=160)(Ew:∀r∈rows,r.length<=1000)(c7:0<=a)(c8:a<rows.length)(hb:0<=b)(da:b<rows.length)(c9:a≠b):ax 37 (dI p (ae v h A rows cap) (km a b c bp n b9)) w fun e w'=>∃u,e=.returned (.agg (dz v h u))/\aI w' w u ((rows.set a.toNat (rows.getD b.toNat [])).set b.toNat (rows.getD a.toNat []))/\aj w w':=by
 obtain⟨ap,EW⟩:=aw (Ry:a.toNat<rows.length);obtain⟨B,Fm⟩:=aw (Ry:b.toNat<rows.length);obtain⟨ca,cc,ce,ch⟩:=fS (TI:rows.getD a.toNat []=ap) (TH:rows.getD b.toNat []=B) (Ry:rows.length<=1048576) (show ∀r∈rows,r.length<=1048576 from fun r hr=>TZ);go_enter func37,nr
 go_wp2_with fail
 refine(ix _ _ _ _ _ _ (bv.ext (((ai _ _).alloc Rx _ |>.alloc Rx _).alloc Sn _)) ce ch).mono ?_;rintro e D ⟨u,rfl,⟨us,hu⟩,a4⟩;obtain⟨Q,H,rfl,_,_,_⟩:=aI.view ⟨us,hu⟩;obtain⟨b6,b7,b8⟩:=cv w (.cells (ae v h A rows cap) 26) (.cells (km a b c bp n b9) 29) (.cells aQ 26);have cO:=a4.size;simp only[cx]at cO;go_upto_region 2 with(fail)
 obtain⟨z,Er⟩:=aK (D.alloc (.cells (ae v h Q rows H) 26));rw[<-Er];have a5:aj D z:=VH;have d1:(z:Nat)=D+1:=So;have T:=bQ a4 a5;have a8:aW z D (ae v h Q rows H) 26:=Um;have b3:=cp T b6;have a6:=cp T b7;have b5:=cp T b8;have E9:a_ z ((w:Nat)+3) (.slice Q rows H) rows us:=(hu.ext a5).mono Rx;have b2:∀g',Q=some ⟨g',0,none⟩->g' < (D:Nat):=fun g' e=>Vy
 have dT:∀(k:Nat) (x:av),us[k]?=some x->∀b,x.ownBlock=some b->b < (D:Nat):=fun k x hx b hb=>Wi
 have bz:aj w z:=(below_alloc3 w _ _ _).trans (T.mono Sn);clear hu a4 a5 T bv Ew b6 b7 b8 Er;obtain⟨g,cK,db,dc⟩:∃g,Q=some ⟨g,0,none⟩/\(w:Nat)+3<=g/\g < (z:Nat):=kH E9 Ry;subst cK;have dl:=b2 g rfl;obtain⟨d5,E_,b0⟩:=E9.get EW;obtain⟨d6,Gl,b1⟩:=E9.get Fm;obtain⟨be,br,rfl,_⟩:=b0.view;obtain⟨E,F,rfl,_⟩:=b1.view;obtain⟨a0,J,O,a1,a2⟩:=bO a6;obtain⟨a9,ba,ac⟩:=al a8;have cR:af z g a.toNat (.slice be ap br):=VD;have bb:af z g b.toNat (.slice E B F):=VJ;have f0:=E9.outer.frozenAt a.toNat;have f1:=E9.outer.frozenAt b.toNat;obtain⟨cj,cb,cn,bm,co,bo⟩:=lq (a_.swap rfl E9 E_ Gl EW Fm) bz b3 a6 b5 a8;clear E9 bz b2 b3 a6 b5 a8 E_ Gl b0 b1 EW Fm;go_upto_region 5 with(fail)
 have bd:(z.setCell ⟨g,a.toNat,none⟩ (.slice E B F)).cell? ⟨g,b.toNat,none⟩=some (.slice E B F):=by rw[wP _ _ _ _ Sn];exact bb
 go_region_held3 (fun W=>af W ((w:Nat)+1) 1 (zI a)/\af W ((w:Nat)+1) 2 (zI b)/\af W D 2 (.slice (aX g) rows H)/\af W g b.toNat (.slice E B F)) (first|exact⟨J,O,ac,bb⟩|exact⟨(cD Sn).trans J,(cD Sn).trans O,(cD Sn).trans ac,bd⟩)
  (fail)
 obtain⟨ad,I⟩:=aK ((z.setCell ⟨g,a.toNat,none⟩ (.slice E B F)).drew);rw[<-I];have ao:∀j,j≠g->ad.heap[j]?=z.heap[j]?:=fun j am=>by rw[I];exact bx _ _ _ _ am
 have c0:af ad g b.toNat (.slice E B F):=by rw[I];exact bd
 have f4:ad.frozen? ⟨g,b.toNat,none⟩=false:=by rw[I];simpa using f1
 have Z:=(ao _ Ry).trans bm;have ab:=(ao _ Ry).trans bo;obtain⟨ci,bi⟩:=bL ao I;clear a0 J O a1 a2 a9 ba ac cR bb f0 f1 bd ao I;obtain⟨a0,J,O,a1,a2⟩:=bO Z;obtain⟨a9,ba,ac⟩:=al ab;clear Z ab;go_upto_region 21 with(fail)
 obtain⟨a3,R⟩:=aK (ad.setCell ⟨g,b.toNat,none⟩ (.slice be ap br));rw[<-R];have U:∀j,j≠g->a3.heap[j]?=z.heap[j]?:=fun j am=>by rw[R];exact(bx _ _ _ _ am).trans (ci j am)
 have b4:=(U _ Ry).trans cn;have Z:=(U _ Ry).trans bm;have ab:=(U _ Ry).trans bo;have a7:=(U _ Ry).trans co;obtain⟨HO,HE⟩:=bL (by rw[R,bi.o];exact⟨_,cj.ext (ai _ _).drew⟩:aI a3 ((w:Nat)+3) (.slice (aX g) rows H) ((rows.set a.toNat B).set b.toNat ap)) (by rw[R,bi.o];exact((cb.setCell Sn _).drew).setCell Sn _:aj w a3);rw[<-ca.o,<-cc.o]at HO;clear a0 J O a1 a2 a9 ba ac c0 f4 U R;obtain⟨a0,J,O,a1,a2⟩:=bO Z;obtain⟨d2,d3,d4⟩:=al b4;clear b4 Z;obtain⟨cr,ct,cu⟩:=bU ab;obtain⟨cz,cF,cI⟩:=bU a7;obtain⟨c4,c5,c6⟩:=bt a7;simp only[dg,cT]at cr ct cu cz cF cI;clear ab a7;go_wp2;refine az (v:=.agg (ae v h (aX g) rows H)) Uy rfl ⟨_,rfl,?_,?_⟩
 .exact Yr
 .exact Yf
def zgE(p v h a b c:Int)(A:aq)(cap:Nat)(rows:aC)(w:aa)(a0:aq)(n ba:Nat)(a2:aL w A rows)(cr:rows.length<=160)(Ew:∀r∈rows,r.length<=1000)(b5:1<=p)(b6:p<=1000)(ca:0<=a)(cb:a<rows.length)(b1:0<=c)(b2:c<=1000)(hx:∀r∈rows,∀x∈r,0<=x/\x<=1000):ax 37 (dI p (ae v h A rows cap) (kr a b c a0 n ba)) w fun e w'=>∃u,e=.returned (.agg (dz v h u))/\aI w' w u (rows.set a.toNat (fU p c (rows.getD a.toNat [])))/\aj w w':=by
 obtain⟨z,EW⟩:=aw (Ry:a.toNat<rows.length);obtain⟨bb,bp⟩:=bL (TI:rows.getD a.toNat []=z) (show ∀x∈z,0<=x/\x<=1000 from hx z (aR EW));have cu:z.length<=1000:=Ew z (aR EW);clear hx;obtain⟨be,bi⟩:=bL (Ry:rows.length<=1048576) (show ∀r∈rows,r.length<=1048576 from fun r hr=>TZ);go_enter func37,nr
 go_wp2_with fail
 refine(ix _ _ _ _ _ _ (a2.ext (((ai _ _).alloc Rx _ |>.alloc Rx _).alloc Sn _)) be bi).mono ?_;rintro e D ⟨u,rfl,⟨us,hu⟩,Z⟩;obtain⟨H,EV,rfl,_,_,_⟩:=aI.view ⟨us,hu⟩;obtain⟨a7,T,U⟩:=cv w (.cells (ae v h A rows cap) 26) (.cells (kr a b c a0 n ba) 29) (.cells aQ 26);have b7:=Z.size;simp only[cx]at b7;go_upto_region 2 with(fail)
 obtain⟨E,Er⟩:=aK (D.alloc (.cells (ae v h H rows EV) 26));rw[<-Er];have ab:aj D E:=VH;have cz:(E:Nat)=D+1:=So;have J:=bQ Z ab;have ad:aW E D (ae v h H rows EV) 26:=Um;have a5:=cp J a7;have ac:=cp J T;have a6:=cp J U;have E9:a_ E ((w:Nat)+3) (.slice H rows EV) rows us:=(hu.ext ab).mono Rx;have b8:∀g',H=some ⟨g',0,none⟩->g' < (D:Nat):=fun g' e=>Vy
 have a4:∀(k:Nat) (x:av),us[k]?=some x->∀b,x.ownBlock=some b->b < (D:Nat):=fun k x hx b hb=>Wi
 have a3:aj w E:=(below_alloc3 w _ _ _).trans (J.mono Sn);clear hu Z ab J a2 Ew a7 T U Er;obtain⟨cF,E_,Q⟩:=E9.get EW;obtain⟨g,b3,ch,cn⟩:∃g,H=some ⟨g,0,none⟩/\(w:Nat)+3<=g/\g < (E:Nat):=kH E9 Ry;subst b3;obtain⟨O,F,rfl,a1,_⟩:=Q.view;have ao:af E g a.toNat (.slice O z F):=VD;obtain⟨y0,y1,y2,y3,y4⟩:=bO ac;obtain⟨a8,a9,am⟩:=al ad;obtain⟨bm,bd,bo,Gn,b9,br,bv,bz,b0,ap,FJ⟩:=ziM E9 a3 E_ Q a1 a5 ac a6 ad (a4 _ _ E_) (fv E9.outer Q);clear E9 a3 E_ Q EW a1 b8 a4 a5 ac a6 ad;go_wp2;go_loopw [56] (fun i wr=>∃k:Nat,k<=z.length/\i=.int .i64 k/\wr.ownsRow ((w:Nat)+3) 3 1 (.slice O z F) z ((kD p c z k).map (Value.int .i64))/\E.grownBy wr (Value.slice O z F).ownBlock)
  (fun i _=>z.length-(intOf i).toNat)
 case atStart=>exact⟨0,aT _,rfl,Tl,⟨rfl,rfl,rfl,ah _,fun _ _ _=>rfl⟩⟩
 case round=>
  obtain⟨k,co,rfl,Es,B⟩:=hrel;by_cases EC:k<z.length
  .obtain⟨x,hx⟩:=aw EC;obtain⟨I,rfl,ci,_⟩:=kU Gn Ry;have cj:=ap I rfl;have ct:g≠I:=Xp;have t1:af wr ((w:Nat)+1) 1 (zI a):=B.cell y1 Us;have t3:af wr ((w:Nat)+1) 3 (zI c):=B.cell y3 Us;have t5:af wr D 2 (.slice (aX g) rows EV):=B.cell am Us;have t6:af wr g a.toNat (.slice (aX I) z F):=B.cell ao Us;have cc:af wr I k (zI x):=W_;have ce:=Es.frozenAt k;obtain⟨T,U⟩:=bp x (aR hx);have R:=Es.stored k (zI (x*c%p));rw[<-fQ,sD _ _ _ _ _ hx]at R;obtain⟨HS,HG⟩:=bL R.1 (bq B R.2);clear R hx Es B a8 a9 am y0 y1 y2 y3 y4 ao;go_wp2_with fail
   go_region_held3 (fun W=>af W ((w:Nat)+1) 1 (zI a)/\af W ((w:Nat)+1) 3 (zI c)/\af W D 2 (.slice (aX g) rows EV)/\af W g a.toNat (.slice (aX I) z F))
    (first|exact⟨t1,t3,t5,t6⟩|(refine⟨?_,?_,?_,?_⟩<;>(first|(refine(eC Sn).trans ?_;assumption)|(refine(j_ Sn).trans ?_;assumption))))
    ((go_at_call 77;refine(nJ p x c _ b5 b6 T U b1 b2).mono ?_;rintro e w' ⟨rfl,rfl⟩))
   exact Yo
  .have Gm:∀b,(Value.slice O z F).ownBlock=some b->(w:Nat)+3<=b/\b < (D:Nat):=fun b hb=>⟨(b_ Gn b hb).1,ap b hb⟩
   have IH:=(B.block D Ry (fun e=>Uq)).trans b0;have IG:=(B.block w Ry (fun e=>Uq)).trans br;have IJ:=(B.block ((w:Nat)+1) Ry (fun e=>Uq)).trans bv;have II:=(B.block ((w:Nat)+1+1) Ry (fun e=>Uq)).trans bz;have b4:k=z.length:=Ry;subst b4;have HO:=zH (show aI wr ((w:Nat)+3) (.slice (aX g) rows EV) (rows.set a.toNat (fU p c (rows.getD a.toNat []))) from
    ⟨_,bm.inner bo B (by rw[bb.o,<-sB p c z z (ah _)];unfold au;rw[show(kD p c z z).length=z by simp[kD]];exact Es)⟩)
   have HE:=zH (bd.grown B Ry fun b hb=>T3);clear Es B Gm a8 a9 am y0 y1 y2 y3 y4 ao;exact ZL
def zhA(p v h a b c:Int)(A:aq)(cap:Nat)(rows:aC)(w:aa)(ap:aq)(n bi:Nat)(a1:aL w A rows)(d3:rows.length<=160)(Ew:∀r∈rows,r.length<=1000)(ch:0<=a)(da:a<rows.length):ax 37 (dI p (ae v h A rows cap) (kn a b c ap n bi)) w fun e w'=>∃u,e=.returned (.agg (dz v h u))/\aI w' w u (rows.eraseIdx a.toNat)/\aj w w':=by
 obtain⟨b0,b1⟩:=bL (Ry:rows.length<=1048576) (show ∀r∈rows,r.length<=1048576 from fun r hr=>TZ);go_enter func37,nr
 go_wp2_with fail
 refine(ix _ _ _ _ _ _ (a1.ext (((ai _ _).alloc Rx _ |>.alloc Rx _).alloc Sn _)) b0 b1).mono ?_;rintro e z ⟨u,rfl,⟨us,hu⟩,T⟩;obtain⟨E,EV,rfl,_,_,_⟩:=aI.view ⟨us,hu⟩;obtain⟨a9,ba,bb⟩:=cv w (.cells (ae v h A rows cap) 26) (.cells (kn a b c ap n bi) 29) (.cells aQ 26);have cr:=T.size;simp only[cx]at cr;go_upto_region 2 with(fail)
 obtain⟨W2,Er⟩:=aK (z.alloc (.cells (ae v h E rows EV) 26));rw[<-Er];have U:aj z W2:=VH;have d4:(W2:Nat)=z+1:=So;have F:=bQ T U;have ac:aW W2 z (ae v h E rows EV) 26:=Um;have a6:=cp F a9;have Z:=cp F ba;have a8:=cp F bb;have H:a_ W2 ((w:Nat)+3) (.slice E rows EV) rows us:=(hu.ext U).mono Rx;have a5:∀g',E=some ⟨g',0,none⟩->g' < (z:Nat):=fun g' e=>Vy
 have dT:∀(k:Nat) (x:av),us[k]?=some x->∀b,x.ownBlock=some b->b < (z:Nat):=fun k x hx b hb=>Wi
 have a3:aj w W2:=(below_alloc3 w _ _ _).trans (F.mono Sn);clear hu T U F a1 Ew a9 ba bb Er;obtain⟨j,rfl⟩:=fW ch;obtain⟨g,ci,db,dc⟩:∃g,E=some ⟨g,0,none⟩/\(w:Nat)+3<=g/\g < (W2:Nat):=kH H Ry;subst ci;have dl:=a5 g rfl;obtain⟨cF,cj,d7,cz,d8⟩:=cM jf;obtain⟨FK,Fq⟩:=aK (us.drop (j+1));obtain⟨Gs,⟨cu,_⟩|⟨g',c5,cur,ct,a0,IM,cn,a4,Gt,Gp⟩⟩:=H.outer
 .cases cu
 cases ct
 simp only[eP]at Gs Gt Gp;have Ex:FK.length=rows-(j+1):=T0;have EU:∀t,t<rows.length->cur.toList[t]?=us[t]?:=fun t ht=>T_
 obtain⟨J,c9,co⟩:∃J:dw,(if EV=j+1 then some (⟨g,0,none⟩:dw) else some ⟨g,j+1,none⟩)=some J/\Hd (∀t u,FK[t]?=some u->W2.drew.cell? (J.add t)=some u):=Zr;have bd:Hd (FK.length=(rows.length-(j+1))*1):=S9;have be:Hd (∀u∈FK,u.oneCell'=true):=by intro u hu;rw[Fq]at hu;exact oO H u (ky hu)
 have cI:Hd (∀t,t<FK.length->(W2.drew.cell? ⟨g,0+j*1+t,none⟩).isSome=true/\W2.drew.frozen? ⟨g,0+j*1+t,none⟩=false):=Yu;obtain⟨B,R⟩:=aK (W2.drew.setCells g (0+j*1) FK);have Q:=du g 27 FK (0+j*1) W2.drew cur IM SF;rw[<-R]at Q;have D:=zH (show W2.grownBy B (some g) from bq (dG W2 (some g)) Q.2);have b2:=zH (show B.ownsRow ((w:Nat)+3) 27 1 (.slice (aX g) (rows.length-1) EV) (rows.length-1) (us.eraseIdx j) by
  refine⟨TS,aB ⟨g,EV,_,rfl,a0,Q.1,Ry,a4,?_,?_⟩⟩
  .exact Xa
  .simp only[eP,fY];rw[show rows.length-1=j+FK by omega,iu _ _ _ RX,Fq,y5,<-Gp,mu,iV Ry])
 have b4:=zH R;have d0:j<=EV:=Ry;have d6:IntKind.i64.wrap ((j:Int)+1)=(j:Int)+1:=Sq;have d5:((j:Int)+1).toNat=j+1:=Ry;have d1:(0:Int)<=(j:Int)+1:=Ry;have d2:(j:Int)+1<=(rows:Int):=Ry;clear Gs Gt Gp IM Fq Ex R Q EU a0 cn a4;obtain⟨bm,bo,bp,br,bv⟩:=bO Z;obtain⟨cK,cO,cR⟩:=al ac;obtain⟨b3,bz,b5,ao,b6,b7⟩:=lq H a3 a6 Z a8 ac;clear H a3 a5 a6 Z a8 ac;go_upto_region 22 with(fail)
 refine bk (S:=fun W=>af W ((w:Nat)+1) 1 (zI j)/\af W z 2 (.slice (aX g) rows EV)) 13 RU RI (fun hHeld=>?_);refine ay 0 ?_;refine ay 1 ?_;refine ay 2 ?_;refine ay 3 ?_;refine ay 4 ?_;refine ay 5 ?_;refine ay 6 ?_;refine ay 7 ?_;refine ay 8 ?_;refine ay 9 ?_;refine ay 10 ?_;refine bu 11 fun K hK=>?_
 refine tf rfl (.tmp 140) (.tmp 146) 24 rfl 27 cF 1 gE cj cz g 0 j EV rfl J (rows.length-(j+1)) (EV-(j+1)) FK rfl bd.o co.o be.o Ry cI.o ?_;rw[<-b4.o,show j+(rows.length-(j+1))=rows.length-1 by omega];have O:B.heap[z.heap.size]?=_:=(D.o.block _ Ry Sn).trans b7;have I:B.heap[(w:Nat)+1]?=_:=(D.o.block _ Ry Sn).trans ao;have am:=zH O;have f2:=aS O 2;obtain⟨c0,c4,z2⟩:=al O;obtain⟨t0,t1,t2,t3,t4⟩:=bO I;clear O I bm bo bp br bv cK cO cR;refine hK.out _ _ (fun _=>⟨t1,z2⟩) (fun hHeld=>?_);clear hK K;try simp only[Act.put,zA]
 have hHeld:=hHeld RC;refine bu 12 fun K hK=>?_
 go_simp;refine hK.out _ _ (fun _=>⟨t1,z2⟩) (fun hHeld=>?_);clear hK K;try simp only[Act.put,zA]
 have hHeld:=hHeld RC;refine bu 13 fun K hK=>?_
 go_simp;refine hK.out _ _ (fun h=>absurd h RC) (fun _=>?_);clear hK K;try simp only[Act.put,zA]
 refine dS RU ?_ _;have ad:=bw B z 2 _ _ (.slice (aX g) (rows.length-1) EV) am;simp only[zA]at ad;have a7:=(dh B ⟨z,2,none⟩ w (.slice (aX g) (rows.length-1) EV) Sn).trans ((D.o.block _ Ry Sn).trans b5);have I:=(dh B ⟨z,2,none⟩ ((w:Nat)+1) (.slice (aX g) (rows.length-1) EV) Sn).trans ((D.o.block _ Ry Sn).trans ao);have ab:=(dh B ⟨z,2,none⟩ ((w:Nat)+1+1) (.slice (aX g) (rows.length-1) EV) Sn).trans ((D.o.block _ Ry Sn).trans b6);have a2:=b3.erase Ry b2 D.o;obtain⟨HO,HE⟩:=bL (show aI _ ((w:Nat)+3) _ _ from⟨_,a2.jk am (j:=2) (u:=.slice (aX g) (rows.length-1) EV)⟩) ((bz.grown D.o Ry fun b hb=>Sz).setCell (p:=⟨z,2,none⟩) Sn (.slice (aX g) (rows.length-1) EV));clear a2 c0 c4 z2 t0 t1 t2 t3 t4 f2;obtain⟨bm,bo,bp,br,bv⟩:=bO I;obtain⟨d9,bd,be⟩:=al a7;clear a7 I;obtain⟨b8,b9,ca⟩:=bU ad;obtain⟨cb,cc,ce⟩:=bU ab;obtain⟨c6,c7,c8⟩:=bt ab;simp only[dg,cT]at b8 b9 ca cb cc ce;clear ad ab;go_wp2;refine az (v:=.agg (dp v h (aX g) (rows.length-1) EV)) Uy rfl ⟨_,rfl,?_,?_⟩
 .exact Yr
 .exact Yf
def ziE(p v h a b c:Int)(A:aq)(cap:Nat)(rows:aC)(w:aa)(a9:aq)(n b5:Nat)(ba:aL w A rows)(d5:rows.length<=160)(Ew:∀r∈rows,r.length<=1000)(cK:0<=a)(cO:a<=rows.length)(d8:0<=v)(d9:v<=1000)(d2:0<=h)(d3:h<=1000):ax 37 (dI p (ae v h A rows cap) (ko a b c a9 n b5)) w fun e w'=>∃u,e=.returned (.agg (dz v h u))/\aI w' w u (bK rows a.toNat (List.replicate (v+h).toNat 0))/\aj w w':=by
 obtain⟨cb,cc⟩:=bL (Ry:rows.length<=1048576) (show ∀r∈rows,r.length<=1048576 from fun r hr=>TZ);go_enter func37,nr
 go_wp2_with fail
 refine(ix _ _ _ _ _ _ (ba.ext (((ai _ _).alloc Rx _ |>.alloc Rx _).alloc Sn _)) cb cc).mono ?_;rintro e z ⟨u,rfl,⟨us,hu⟩,T⟩;obtain⟨F,I,rfl,_,_,_⟩:=aI.view ⟨us,hu⟩;obtain⟨b0,b1,b2⟩:=cv w (.cells (ae v h A rows cap) 26) (.cells (ko a b c a9 n b5) 29) (.cells aQ 26);have c0:=T.size;simp only[cx]at c0;go_upto_region 2 with(fail)
 obtain⟨B,Er⟩:=aK (z.alloc (.cells (ae v h F rows I) 26));rw[<-Er];have U:aj z B:=VH;have c4:(B:Nat)=z+1:=So;have J:=bQ T U;have a0:aW B z (ae v h F rows I) 26:=Um;have am:=cp J b0;have ao:=cp J b1;have bz:=cp J b2;have bp:a_ B ((w:Nat)+3) (.slice F rows I) rows us:=(hu.ext U).mono Rx;have d7:∀g',F=some ⟨g',0,none⟩->g' < (z:Nat):=fun g' e=>Vy
 have d4:∀(k:Nat) (x:av),us[k]?=some x->∀b,x.ownBlock=some b->b < (z:Nat):=fun k x hx b hb=>Wi
 have bd:aj w B:=(below_alloc3 w _ _ _).trans (J.mono Sn);clear hu T U J ba Ew b0 b1 b2 Er;obtain⟨b6,a6,b7,b8,b9⟩:=bO ao;obtain⟨c8,c9,b4⟩:=al a0;obtain⟨a2,a3,b3⟩:=al am;have ea:IntKind.i64.wrap (v+h)=v+h:=Sq;have bo:((v+h).toNat:Int)=v+h:=Ry;have a8:=zH bo;clear bo;obtain⟨R,ca,ci,cj,cn,co⟩:=lq bp bd am ao bz a0;clear bp bd am ao bz a0;go_upto_region 20 with(fail)
 have O:=zH (show ∀a5,aj B a5->(fun W:World=>af W z 2 (.slice F rows I)/\af W ((w:Nat)+1) 1 (zI a)/\af W w 0 (zI v)/\af W w 1 (zI h)) a5 from fun a5 hb=>⟨ag hb b4,ag hb a6,ag hb a2,ag hb a3⟩);refine bk (S:=(fun W:World=>af W z 2 (.slice F rows I)/\af W ((w:Nat)+1) 1 (zI a)/\af W w 0 (zI v)/\af W w 1 (zI h))) 12 RU (O.o _ (ai _ _).drew) (fun hHeld=>?_);refine ay 0 ?_;refine ay 1 ?_;refine ay 2 ?_;refine ay 3 ?_;refine ay 4 ?_;refine ay 5 ?_;refine ay 6 ?_;refine ay 7 ?_;refine ay 8 ?_;refine bu 9 fun K hK=>?_
 obtain⟨c7,cR,c5,c6,Ev⟩:=cM fq;refine sF _ rfl (.tmp 124) (.tmp 124) 27 rfl B 3 c7 (zI 0) 1 dA cR c5 c6 .i64 .i64 (v+h) (v+h) (v+h).toNat rfl rfl a8.o.symm a8.o.symm SB TB Rx ?_;intro a4 ac bm;have bi:aj B a4:=(ai _ _).drew.trans (bT bm);rw[gl]at ac;have ad:au a4 B (.slice (some ⟨B.drew,0,none⟩) (v+h).toNat (v+h).toNat) (List.replicate (v+h).toNat 0):=by simpa[au]using ac
 rw[show(B.drew:Nat)=z+1 from c4]at ad;obtain⟨H,ch⟩:=bL bi ad;clear bi ad ac bm;refine hK.out _ _ (fun _=>O.o _ H.o) (fun hHeld=>?_);clear hK K;try simp only[Act.put,zA]
 have hHeld:=hHeld RC;refine bu 10 fun K hK=>?_
 go_simp;refine(vr ((w:Nat)+3) _ a us rows _ _ _ a4 (R.o.ext H.o).outer (oO R.o) cK cO Ry).mono ?_;rintro e wc ⟨eb,rfl,ab,Z⟩;obtain⟨g,E,rfl,d0,d1⟩:=lR ab Ry;have be:=an H.o Z;have d6:=H.o.size;have bb:=R.o.insert H.o ch Ry (Ry:a.toNat<=rows.length) (vt ab Ry) (fm Z);obtain⟨D,ce⟩:=bL be bb;clear be bb ab Z;go_simp;refine hK.out _ _ (fun _=>O.o _ D.o) (fun hHeld=>?_);clear hK K;try simp only[Act.put,zA]
 have hHeld:=hHeld RC;refine bu 11 fun K hK=>?_
 go_simp;refine hK.out _ _ (fun _=>O.o _ D.o) (fun hHeld=>?_);clear hK K;try simp only[Act.put,zA]
 have hHeld:=hHeld RC;have Q:=(D.o.block z Ry).trans co;have a7:=zH Q;have f2:=aS Q 2;obtain⟨da,db,z2⟩:=al Q;clear Q;refine bu 12 fun K hK=>?_
 go_simp;refine hK.out _ _ (fun h=>absurd h RC) (fun _=>?_);clear hK K;try simp only[Act.put,zA]
 refine dS RU ?_ _;have a1:=bw wc z 2 _ _ (.slice (aX g) (rows.length+1) E) a7;simp only[zA]at a1;have br:=(dh wc ⟨z,2,none⟩ w (.slice (aX g) (rows.length+1) E) Sn).trans ((D.o.block _ Ry).trans ci);have bv:=(dh wc ⟨z,2,none⟩ ((w:Nat)+1) (.slice (aX g) (rows.length+1) E) Sn).trans ((D.o.block _ Ry).trans cj);have ap:=(dh wc ⟨z,2,none⟩ ((w:Nat)+1+1) (.slice (aX g) (rows.length+1) E) Sn).trans ((D.o.block _ Ry).trans cn);obtain⟨HO,HE⟩:=bL (show aI _ ((w:Nat)+3) _ (bK rows a.toNat (List.replicate (v+h).toNat 0)) from⟨_,ce.jk a7 (j:=2) (u:=.slice (aX g) (rows.length+1) E)⟩) ((an ca D.o).setCell (p:=⟨z,2,none⟩) Sn (.slice (aX g) (rows.length+1) E));clear da db z2 b6 a6 b7 b8 b9 c8 c9 b4 a2 a3 b3 f2;obtain⟨b6,a6,b7,b8,b9⟩:=bO bv;obtain⟨a2,a3,b3⟩:=al br;clear br bv;obtain⟨cr,ct,cu⟩:=bU a1;obtain⟨cz,cF,cI⟩:=bU ap;obtain⟨dc,dl,dT⟩:=bt ap;simp only[dg,cT]at cr ct cu cz cF cI;clear a1 ap;go_wp2;refine az (v:=.agg (dp v h (aX g) (rows.length+1) E)) Uy rfl ⟨_,rfl,?_,?_⟩
 .exact Yr
 .exact Yf
def D8(W:aa)(I g cap j:Nat)(xs:aH)(h:au W I (.slice (aX g) xs cap) xs)(Z:j<xs.length):∃(B:dw) (z:bN) (F:aa),Hd (F=W.setCells g (0+j*1) z)/\(if cap=j+1 then some (⟨g,0,none⟩:dw) else some ⟨g,j+1,none⟩)=some B/\Hd (∀t u,z[t]?=some u->W.cell? (B.add t)=some u)/\Hd (z.length=(xs.length-(j+1))*1)/\Hd (∀u∈z,u.oneCell'=true)/\Hd (∀t,t<z.length->(W.cell? ⟨g,0+j*1+t,none⟩).isSome=true/\W.frozen? ⟨g,0+j*1+t,none⟩=false)/\Hd (W.grownBy F (some g))/\Hd (au F I (.slice (aX g) (xs.length-1) cap) (xs.eraseIdx j))/\xs.length<=cap:=by
 obtain⟨us,H⟩:=aK (xs.map (Value.int .i64));have h1:∀u∈us,u.oneCell'=true:=by rw[H];intro u hu;simp at hu;obtain⟨x,_,rfl⟩:=hu;rfl
 unfold au at h;rw[<-H]at h;obtain⟨z,Fq⟩:=aK (us.drop (j+1));obtain⟨Gs,⟨ad,_⟩|⟨ao,am,cur,ac,R,D,ab,U,Gt,Gp⟩⟩:=h
 .cases ad
 cases ac
 simp only[eP]at Gs Gt Gp;have Ex:z.length=xs-(j+1):=T0;have T:∀t,t<xs.length->cur.toList[t]?=us[t]?:=fun t ht=>T_
 have E:∀t u,z[t]?=some u->t<xs.length-(j+1):=fun t u hu=>by have:=(bs.1 hu).1;rwa[Ex]at this
 obtain⟨B,Q,E⟩:∃B:dw,(if cap=j+1 then some (⟨g,0,none⟩:dw) else some ⟨g,j+1,none⟩)=some B/\(∀t u,z[t]?=some u->W.cell? (B.add t)=some u):=by
  by_cases O:cap=j+1
  .refine⟨⟨g,0,none⟩,by simp[O],fun t u hu=>?_⟩;have:=E t u hu;omega
  .refine⟨⟨g,j+1,none⟩,by simp[O],fun t u hu=>?_⟩;have ht:=E t u hu;rw[dy];rw[aV D,T _ Ry,<-hu,Fq,fI]
 have J:=du g 3 z (0+j*1) W cur D SF;refine⟨B,z,_,zH rfl,Q,zH E,zH S9,zH ?_,zH ?_,zH J.2,zH ?_,ab⟩
 .exact WQ
 .intro t ht;rw[Ex]at ht;refine⟨?_,aS D _⟩;rw[aV D,dq RX];rfl
 .unfold au;rw[<-xM,<-H,mj Z];refine⟨TS,aB ⟨g,cap,_,rfl,R,J.1,Ry,U,?_,?_⟩⟩
  .exact Xa
  .simp only[eP,fY];rw[show xs.length-1=j+z by omega,iu _ _ _ RX,Fq,y5,<-Gp,mu,iV Ry]
def zfn(p v h a b c:Int)(A:aq)(cap:Nat)(rows:aC)(w:aa)(ct:aq)(n d0:Nat)(cK:aL w A rows)(gs:rows.length<=160)(Ew:∀r∈rows,r.length<=1000)(es:0<=a)(f4:a<rows.length)(gV:0<=v)(g0:v<=1000)(hb:0<=b)(f5:b<=1000)(gd:1<=h)(gf:h<=1000)(Ex:∀r∈rows,v+b<r.length):ax 37 (ew p (ae v h A rows cap) (iT a b c ct n d0)) w fun e w'=>∃u,e=.returned (.agg (dz v (h-1) u))/\aI w' w u ((rows.map (fun r=>r.eraseIdx (v+b).toNat)).eraseIdx a.toNat)/\aj w w':=by
 obtain⟨q,gB⟩:=fW (Ry:0<=v+b);have e4:(v+b).toNat=q:=Ry;rw[e4];have b0:=zH (show ∀r∈rows.eraseIdx a.toNat,(q:Int)<r.length/\r.length<=1000 from fun r hr=>⟨by have:=Ex r (te hr);omega,Ew r (te hr)⟩);clear Ex;have g3:IntKind.i64.wrap (v+b)=(q:Int):=Sq;have g1:IntKind.i64.wrap (h-1)=h-1:=Sq;obtain⟨d5,d6⟩:=bL (Ry:rows.length<=1048576) (show ∀r∈rows,r.length<=1048576 from fun r hr=>TZ);go_enter func37,nr
 go_wp2_with fail
 refine(ix _ _ _ _ _ _ (cK.ext (((ai _ _).alloc Rx _ |>.alloc Rx _).alloc Sn _)) d5 d6).mono ?_;rintro e w1 ⟨u,rfl,⟨us,hu⟩,b5⟩;obtain⟨D,EV,rfl,_,_,_⟩:=aI.view ⟨us,hu⟩;obtain⟨da,db,dc⟩:=cv w (.cells (ae v h A rows cap) 26) (.cells (iT a b c ct n d0) 29) (.cells aQ 26);have e5:=b5.size;simp only[cx]at e5;go_upto_region 2 with(fail)
 obtain⟨W2,Er⟩:=aK (w1.alloc (.cells (ae v h D rows EV) 26));rw[<-Er];have b6:aj w1 W2:=VH;have gK:(W2:Nat)=w1+1:=So;have a0:=bQ b5 b6;have E:aW W2 w1 (ae v h D rows EV) 26:=Um;have U:=cp a0 da;have J:=cp a0 db;have a4:=cp a0 dc;have a2:a_ W2 ((w:Nat)+3) (.slice D rows EV) rows us:=(hu.ext b6).mono Rx;have c5:∀g',D=some ⟨g',0,none⟩->g' < (w1:Nat):=fun g' e=>Vy
 have gi:∀(k:Nat) (x:av),us[k]?=some x->∀b,x.ownBlock=some b->b < (w1:Nat):=fun k x hx b hb=>Wi
 have cO:aj w W2:=(below_alloc3 w _ _ _).trans (a0.mono Sn);clear hu b5 b6 a0 cK Ew da db dc Er;obtain⟨j,rfl⟩:=fW es;obtain⟨g,ev,f8,f9⟩:∃g,D=some ⟨g,0,none⟩/\(w:Nat)+3<=g/\g < (W2:Nat):=kH a2 Ry;subst ev;have gc:=c5 g rfl;obtain⟨ci,ca,e9,ch,fa⟩:=cM jf;obtain⟨FK,Fq⟩:=aK (us.drop (j+1));obtain⟨Gs,⟨e8,_⟩|⟨g',fo,cur,e7,cI,IM,e2,cR,Gt,Gp⟩⟩:=a2.outer
 .cases e8
 cases e7
 simp only[eP]at Gs Gt Gp;have Ex:FK.length=rows-(j+1):=T0;have EU:∀t,t<rows.length->cur.toList[t]?=us[t]?:=fun t ht=>T_
 obtain⟨R,cF,br⟩:∃R:dw,(if EV=j+1 then some (⟨g,0,none⟩:dw) else some ⟨g,j+1,none⟩)=some R/\Hd (∀t u,FK[t]?=some u->W2.drew.cell? (R.add t)=some u):=Zr;have O:Hd (FK.length=(rows.length-(j+1))*1):=S9;have Q:Hd (∀u∈FK,u.oneCell'=true):=by intro u hu;rw[Fq]at hu;exact oO a2 u (ky hu)
 have bv:Hd (∀t,t<FK.length->(W2.drew.cell? ⟨g,0+j*1+t,none⟩).isSome=true/\W2.drew.frozen? ⟨g,0+j*1+t,none⟩=false):=Yu;obtain⟨W5,b4⟩:=aK (W2.drew.setCells g (0+j*1) FK);have bi:=du g 27 FK (0+j*1) W2.drew cur IM SF;rw[<-b4]at bi;have B:=zH (show W2.grownBy W5 (some g) from bq (dG W2 (some g)) bi.2);have cn:=zH (show W5.ownsRow ((w:Nat)+3) 27 1 (.slice (aX g) (rows.length-1) EV) (rows.length-1) (us.eraseIdx j) by
  refine⟨TS,aB ⟨g,EV,_,rfl,cI,bi.1,Ry,cR,?_,?_⟩⟩
  .exact Xa
  .simp only[eP,fY];rw[show rows.length-1=j+FK by omega,iu _ _ _ RX,Fq,y5,<-Gp,mu,iV Ry])
 have b1:=zH b4;have gm:j<=EV:=Ry;have g2:IntKind.i64.wrap ((j:Int)+1)=(j:Int)+1:=Sq;have e6:((j:Int)+1).toNat=j+1:=Ry;have eA:(0:Int)<=(j:Int)+1:=Ry;have e0:(j:Int)+1<=(rows:Int):=Ry;clear Gs Gt Gp IM Fq Ex b4 bi EU cI e2 cR;obtain⟨Z,ab,F,ac,ad⟩:=bO J;obtain⟨a5,a6,a7⟩:=al E;obtain⟨a9,a8,ba,ao,bb,ap⟩:=lq a2 cO U J a4 E;clear a2 cO c5 U J a4 E;go_upto_region 22 with(fail)
 refine bk (S:=fun W=>af W ((w:Nat)+1) 1 (zI j)/\af W w1 2 (.slice (aX g) rows EV)) 13 RU RI (fun hHeld=>?_);refine ay 0 ?_;refine ay 1 ?_;refine ay 2 ?_;refine ay 3 ?_;refine ay 4 ?_;refine ay 5 ?_;refine ay 6 ?_;refine ay 7 ?_;refine ay 8 ?_;refine ay 9 ?_;refine ay 10 ?_;refine bu 11 fun K hK=>?_
 refine tf rfl (.tmp 140) (.tmp 146) 24 rfl 27 ci 1 gE ca ch g 0 j EV rfl R (rows.length-(j+1)) (EV-(j+1)) FK rfl O.o br.o Q.o Ry bv.o ?_;rw[<-b1.o,show j+(rows.length-(j+1))=rows.length-1 by omega];have bd:W5.heap[w1.heap.size]?=_:=(B.block _ Ry Sn).trans ap;have a3:W5.heap[(w:Nat)+1]?=_:=(B.block _ Ry Sn).trans ao;have bz:=zH bd;have f2:=aS bd 2;obtain⟨am,fl,z2⟩:=al bd;obtain⟨t0,t1,t2,t3,t4⟩:=bO a3;clear bd a3 Z ab F ac ad a5 a6 a7;refine hK.out _ _ (fun _=>⟨t1,z2⟩) (fun hHeld=>?_);clear hK K;try simp only[Act.put,zA]
 have hHeld:=hHeld RC;refine bu 12 fun K hK=>?_
 go_simp;refine hK.out _ _ (fun _=>⟨t1,z2⟩) (fun hHeld=>?_);clear hK K;try simp only[Act.put,zA]
 have hHeld:=hHeld RC;refine bu 13 fun K hK=>?_
 go_simp;refine hK.out _ _ (fun h=>absurd h RC) (fun _=>?_);clear hK K;try simp only[Act.put,zA]
 refine dS RU ?_ _;clear am fl z2 t0 t1 t2 t3 t4 f2 O Q bv cF br;obtain⟨z,a1⟩:=aK (rows.eraseIdx j);have cb:rows.length-1=z:=by rw[a1,mj Ry]
 have be:=a9.erase Ry cn B;rw[<-a1,cb]at be;simp only[Int.toNat_natCast]at b0 ⊢;rw[cb];rw[<-a1]at b0;have d8:=zH a1;clear a1;obtain⟨T,H⟩:=aK (W5.setCell ⟨w1,2,none⟩ (.slice (aX g) z EV));rw[<-H];obtain⟨fd,c7⟩:=aK (us.eraseIdx j);rw[<-c7]at be;have ce:=be.jk bz (j:=2) (u:=.slice (aX g) z EV);rw[<-H]at ce;have E:=bw W5 w1 2 _ _ (.slice (aX g) z EV) bz;simp only[zA]at E;rw[<-H]at E;have bp:∀j,j≠w1.heap.size->T.heap[j]?=W5.heap[j]?:=fun j hj=>by rw[H];exact bx _ _ _ _ hj
 have U:=(bp w Ry).trans ((B.block _ Ry Sn).trans ba);have J:=(bp ((w:Nat)+1) Ry).trans ((B.block _ Ry Sn).trans ao);have a4:=(bp ((w:Nat)+1+1) Ry).trans ((B.block _ Ry Sn).trans bb);have b8:=(a8.grown B Ry fun b hb=>Sz).setCell (p:=⟨w1,2,none⟩) Sn (.slice (aX g) z EV);rw[<-H]at b8;have gR:(w1:Nat)<T:=by have:=B.size;rw[H];simp;omega
 clear a9 a8 ba ao bb ap bz cn B bp be H c7;obtain⟨Z,ab,F,ac,ad⟩:=bO J;obtain⟨a5,a6,a7⟩:=al E;obtain⟨dl,O,Q⟩:=al U;have f1:=aS E 1;obtain⟨a9,a8,ba,ao,bb,ap⟩:=lq ce b8 U J a4 E;clear ce b8 U J a4 E;go_upto_region 26 with(fail)
 obtain⟨b3,Fv⟩:=aK (T.setCell ⟨w1,1,none⟩ (zI (h-1)));rw[<-Fv];have bm:=bw T w1 1 _ _ (zI (h-1)) ap;simp only[zA]at bm;rw[<-Fv]at bm;have bo:∀j,j≠w1.heap.size->b3.heap[j]?=T.heap[j]?:=fun j hj=>Uz
 obtain⟨b2,eb,co,ee⟩:=fS bm ((bo _ Ry).trans ba) ((bo _ Ry).trans ao) ((bo _ Ry).trans bb);have cc:=a9.jk ap (j:=1) (u:=.int .i64 (h-1));rw[<-Fv]at cc;have b7:=a8.setCell (p:=⟨w1,1,none⟩) Sn (zI (h-1));rw[<-Fv]at b7;have gL:(b3:Nat)=T:=by rw[Fv];simp
 obtain⟨Fw,d4⟩:=bL cc b7;obtain⟨fb,c6⟩:=aK fd;rw[<-c6]at Fw;clear bm bo cc b7 Fv c6;clear Z ab F ac ad a5 a6 a7 dl O Q f1;obtain⟨D,b9⟩:∃D:aq,D=some ⟨g,0,none⟩:=⟨_,rfl⟩;rw[<-b9]at Fw b2;simp only[<-b9];clear b9;obtain⟨Z,ab,F,ac,ad⟩:=bO co;obtain⟨a5,a6,a7⟩:=al b2;go_wp2;go_loopw [169] (fun i wr=>∃k:Nat,k<=z.length/\i=.int .i64 k/\(∃dT,a_ wr ((w:Nat)+3) (.slice D z EV) (j1 (fun r=>r.eraseIdx q) z k) dT)/\
   aW wr w1 (ae v (h-1) D z EV) 26/\Below ((w:Nat)+3) b3 wr)
  (fun i _=>z.length-(intOf i).toNat)
 case atStart=>exact⟨0,aT _,rfl,⟨fb,Tp⟩,b2,ai _ _⟩
 case round=>
  obtain⟨k,hk,rfl,⟨dT,Es⟩,E6,I⟩:=hrel;clear Z ab F ac ad a5 a6 a7;by_cases c0:k<z.length
  .obtain⟨r,hr⟩:=aw c0;have c4:(j1 (fun r=>r.eraseIdx q) z k)[k]?=some r:=(nN _ _ _ c0).trans hr;obtain⟨g5,E4,Gq⟩:=Es.get c4;obtain⟨cb,gn⟩:=b0 r (aR hr);obtain⟨fn,cr,rfl,_⟩:=Gq.view;obtain⟨gr,rfl,ga,gb⟩:=kU Gq Ry;obtain⟨g,rfl,IL,f7⟩:=kH Es TY;have E5:=Es.outer;rw[dO _ _ _ hk]at E5;have am:af wr g k (.slice (aX gr) r cr):=U0;have F:af wr w1 2 (.slice (aX g) z EV):=aV E6 2;have gw:gr≠w1.heap.size:=fun e=>XM
   have gA:g≠w1.heap.size:=fun e=>XW
   have f0:=E5.frozenAt k;have e3:g≠gr:=XN;obtain⟨HO,HW,Fx,ea,d9⟩:=l_ Es I E6 E4 hr;obtain⟨ci,ca,e9,ch,fa⟩:=cM fq;obtain⟨R,FK,W5,b1,cF,br,O,Q,bv,B,d7,f6⟩:=D8 wr.drew ((w:Nat)+3) gr cr q r (wJ Gq) Ry;clear E5 Es I E6 c4 E4 hr Gq;have g4:IntKind.i64.wrap ((q:Int)+1)=(q:Int)+1:=Sq;have e6:((q:Int)+1).toNat=q+1:=Ry;have gC:q<=cr:=Ry;have eA:(0:Int)<=(q:Int)+1:=Ry;have e0:(q:Int)+1<=(r:Int):=Ry;have d1:af W5 w1 2 (.slice (aX g) z EV):=B.cell (w:=wr.drew) F Sn;have d2:af W5 g k (.slice (aX gr) r cr):=B.cell (w:=wr.drew) am Sn;have cz:W5.frozen? ⟨g,k,none⟩=false:=frz (w:=wr.drew) B f0 am e3;obtain⟨eg,d3,cu⟩:=dD d2 cz d1;clear d2 cz d1;go_wp2_with fail
   refine bk (S:=fun W=>af W w1 2 (.slice (aX g) z EV)) 12 RU F (fun hHeld=>?_);refine ay 0 ?_;refine ay 1 ?_;refine ay 2 ?_;refine ay 3 ?_;refine ay 4 ?_;refine ay 5 ?_;refine ay 6 ?_;refine ay 7 ?_;refine ay 8 ?_;refine ay 9 ?_;refine bu 10 fun K hK=>?_
   refine tf rfl (.tmp 179) (.tmp 183) 27 rfl 3 ci 1 dA ca ch gr 0 q cr rfl R (r.length-(q+1)) (cr-(q+1)) FK rfl O.o br.o Q.o Ry bv.o ?_;rw[<-b1.o,show q+(r.length-(q+1))=r.length-1 by omega];refine hK.out _ _ (fun _=>cu.o) (fun hHeld=>?_);clear hK K am f0 F;have am:=eg.o;have f0:=d3.o;try simp only[Act.put,zA]
   have hHeld:=hHeld RC;refine bu 11 fun K hK=>?_
   go_simp;refine hK.out _ _ (fun _=>cu.o) (fun hHeld=>?_);clear hK K;try simp only[Act.put,zA]
   have hHeld:=hHeld RC;refine bu 12 fun K hK=>?_
   go_simp;refine hK.out _ _ (fun h=>absurd h RC) (fun _=>?_);clear hK K;try simp only[Act.put,zA]
   refine dS RU ?_ _;have IN:=bq (dG wr (some gr)) B;have IK:au W5 ((w:Nat)+3) (.slice (aX gr) (r.length-1) cr) (r.eraseIdx q):=d7.o;have Fy:=HO.put (dO _ _ _ hk).symm ea IN IK (fun b hb=>aG hb);rw[iy (fun r=>r.eraseIdx q) z k r d9]at Fy;exact ZH
  .have e1:k=z.length:=Ry;subst e1;rw[nM _ _ _ (ah _)]at Es;have c9:=E6;have c8:=(I.block _ Ry).trans eb;have a3:=(I.block _ Ry).trans co;have cj:=(I.block _ Ry).trans ee;obtain⟨HO,HE⟩:=bL (by(rw[xM,<-d8.o]);exact⟨_,Es⟩:aI wr ((w:Nat)+3) (.slice D z EV) ((rows.map (fun r=>r.eraseIdx q)).eraseIdx j)) (d4.trans (I.mono Ry));clear Es I E6;obtain⟨Z,ab,F,ac,ad⟩:=bO a3;obtain⟨dl,O,Q⟩:=al c8;clear c8 a3;obtain⟨ei,ej,ek⟩:=bU c9;obtain⟨em,en,eo⟩:=bU cj;obtain⟨fs,fz,f3⟩:=bt cj;simp only[dg,cT]at ei ej ek em en eo;clear c9 cj;go_wp2;refine az (v:=.agg (ae v (h-1) D z EV)) Uy rfl ⟨_,rfl,?_,?_⟩
   .exact Yr
   .exact Yf
def zdD(p v h a b c:Int)(A:aq)(cap:Nat)(rows:aC)(w:aa)(bb:aq)(n b8:Nat)(bi:aL w A rows)(e2:rows.length<=160)(Ew:∀r∈rows,r.length<=1000)(fa:0<=v)(fb:v<=1000)(hb:0<=b)(ee:b<=1000)(en:1<=h)(eo:h<=1000)(Ex:∀r∈rows,v+b<r.length):ax 37 (ew p (ae v h A rows cap) (ki a b c bb n b8)) w fun e w'=>∃u,e=.returned (.agg (dz v (h-1) u))/\aI w' w u (rows.map (fun r=>r.eraseIdx (v+b).toNat))/\aj w w':=by
 obtain⟨q,e5⟩:=fW (Ry:0<=v+b);have dT:(v+b).toNat=q:=Ry;rw[dT];have ci:=zH (show ∀r∈rows,(q:Int)<r.length/\r.length<=1000 from fun r hr=>⟨T9,Ew r hr⟩);clear Ex;have fl:IntKind.i64.wrap (v+b)=(q:Int):=Sq;have fd:IntKind.i64.wrap (h-1)=h-1:=Sq;obtain⟨cj,cn⟩:=bL (Ry:rows.length<=1048576) (show ∀r∈rows,r.length<=1048576 from fun r hr=>TZ);go_enter func37,nr
 go_wp2_with fail
 refine(ix _ _ _ _ _ _ (bi.ext (((ai _ _).alloc Rx _ |>.alloc Rx _).alloc Sn _)) cj cn).mono ?_;rintro e w1 ⟨u,rfl,⟨us,hu⟩,ao⟩;obtain⟨D,z,rfl,_,_,_⟩:=aI.view ⟨us,hu⟩;obtain⟨b3,b4,b5⟩:=cv w (.cells (ae v h A rows cap) 26) (.cells (ki a b c bb n b8) 29) (.cells aQ 26);have d1:=ao.size;simp only[cx]at d1;go_upto_region 2 with(fail)
 obtain⟨B,Er⟩:=aK (w1.alloc (.cells (ae v h D rows z) 26));rw[<-Er];have ap:aj w1 B:=VH;have FU:(B:Nat)=w1+1:=So;have H:=bQ ao ap;have Q:aW B w1 (ae v h D rows z) 26:=Um;have a2:=cp H b3;have a3:=cp H b4;have b1:=cp H b5;have br:a_ B ((w:Nat)+3) (.slice D rows z) rows us:=(hu.ext ap).mono Rx;have e9:∀g',D=some ⟨g',0,none⟩->g' < (w1:Nat):=fun g' e=>Vy
 have es:∀(k:Nat) (x:av),us[k]?=some x->∀b,x.ownBlock=some b->b < (w1:Nat):=fun k x hx b hb=>Wi
 have bm:aj w B:=(below_alloc3 w _ _ _).trans (H.mono Sn);clear hu ao ap H bi Ew b3 b4 b5 Er;obtain⟨U,Z,E,ab,ac⟩:=bO a3;obtain⟨a5,a6,a7⟩:=al Q;obtain⟨b6,R,T⟩:=al a2;have f1:=aS Q 1;obtain⟨cu,ce,cI,cO,cR,a9⟩:=lq br bm a2 a3 b1 Q;clear br bm a2 a3 b1 Q;go_upto_region 26 with(fail)
 obtain⟨am,Fv⟩:=aK (B.setCell ⟨w1,1,none⟩ (zI (h-1)));rw[<-Fv];have J:=bw B w1 1 _ _ (zI (h-1)) a9;simp only[zA]at J;rw[<-Fv]at J;have O:∀j,j≠w1.heap.size->am.heap[j]?=B.heap[j]?:=fun j hj=>Uz
 obtain⟨ba,cK,a8,c0⟩:=fS J ((O _ Ry).trans cI) ((O _ Ry).trans cO) ((O _ Ry).trans cR);have a1:=cu.jk a9 (j:=1) (u:=.int .i64 (h-1));rw[<-Fv]at a1;have a0:=ce.setCell (p:=⟨w1,1,none⟩) Sn (zI (h-1));rw[<-Fv]at a0;have e7:(am:Nat)=w1+1:=Ul;obtain⟨Fw,ch⟩:=bL a1 a0;obtain⟨d6,bv⟩:=aK us;rw[<-bv]at Fw;clear J O a1 a0 Fv bv;clear U Z E ab ac a5 a6 a7 b6 R T f1;obtain⟨U,Z,E,ab,ac⟩:=bO a8;obtain⟨a5,a6,a7⟩:=al ba;go_wp2;go_loopw [169] (fun i wr=>∃k:Nat,k<=rows.length/\i=.int .i64 k/\(∃b7,a_ wr ((w:Nat)+3) (.slice D rows z) (j1 (fun r=>r.eraseIdx q) rows k) b7)/\
   aW wr w1 (ae v (h-1) D rows z) 26/\Below ((w:Nat)+3) am wr)
  (fun i _=>rows.length-(intOf i).toNat)
 case atStart=>exact⟨0,aT _,rfl,⟨d6,Tp⟩,ba,ai _ _⟩
 case round=>
  obtain⟨k,hk,rfl,⟨b7,Es⟩,E6,F⟩:=hrel;clear U Z E ab ac a5 a6 a7;by_cases bo:k<rows.length
  .obtain⟨r,hr⟩:=aw bo;have bp:(j1 (fun r=>r.eraseIdx q) rows k)[k]?=some r:=(nN _ _ _ bo).trans hr;obtain⟨fz,E4,Gq⟩:=Es.get bp;obtain⟨e0,e1⟩:=ci r (aR hr);obtain⟨d7,cr,rfl,_⟩:=Gq.view;obtain⟨gr,rfl,ek,em⟩:=kU Gq Ry;obtain⟨g,rfl,ei,ej⟩:=kH Es TY;have E5:=Es.outer;rw[dO _ _ _ hk]at E5;have ad:af wr g k (.slice (aX gr) r cr):=U0;have E:af wr w1 2 (.slice (aX g) rows z):=aV E6 2;have e3:gr≠w1.heap.size:=fun e=>XM
   have e4:g≠w1.heap.size:=fun e=>XW
   have f0:=E5.frozenAt k;have dl:g≠gr:=XN;obtain⟨HO,HW,Fx,cz,ct⟩:=l_ Es F E6 E4 hr;obtain⟨d3,db,fo,d2,fs⟩:=cM fq;obtain⟨cb,d4,W5,cF,eb,d0,R,T,d5,I,co,eg⟩:=D8 wr.drew ((w:Nat)+3) gr cr q r (wJ Gq) Ry;clear E5 Es F E6 bp E4 hr Gq;have fn:IntKind.i64.wrap ((q:Int)+1)=(q:Int)+1:=Sq;have e8:((q:Int)+1).toNat=q+1:=Ry;have e6:q<=cr:=Ry;have ev:(0:Int)<=(q:Int)+1:=Ry;have eA:(q:Int)+1<=(r:Int):=Ry;have b9:af W5 w1 2 (.slice (aX g) rows z):=I.cell (w:=wr.drew) E Sn;have ca:af W5 g k (.slice (aX gr) r cr):=I.cell (w:=wr.drew) ad Sn;have be:W5.frozen? ⟨g,k,none⟩=false:=frz (w:=wr.drew) I f0 ad dl;obtain⟨c4,cc,bd⟩:=dD ca be b9;clear ca be b9;go_wp2_with fail
   refine bk (S:=fun W=>af W w1 2 (.slice (aX g) rows z)) 12 RU E (fun hHeld=>?_);refine ay 0 ?_;refine ay 1 ?_;refine ay 2 ?_;refine ay 3 ?_;refine ay 4 ?_;refine ay 5 ?_;refine ay 6 ?_;refine ay 7 ?_;refine ay 8 ?_;refine ay 9 ?_;refine bu 10 fun K hK=>?_
   refine tf rfl (.tmp 179) (.tmp 183) 27 rfl 3 d3 1 dA db d2 gr 0 q cr rfl cb (r.length-(q+1)) (cr-(q+1)) d4 rfl R.o d0.o T.o Ry d5.o ?_;rw[<-cF.o,show q+(r.length-(q+1))=r.length-1 by omega];refine hK.out _ _ (fun _=>bd.o) (fun hHeld=>?_);clear hK K ad f0 E;have ad:=c4.o;have f0:=cc.o;try simp only[Act.put,zA]
   have hHeld:=hHeld RC;refine bu 11 fun K hK=>?_
   go_simp;refine hK.out _ _ (fun _=>bd.o) (fun hHeld=>?_);clear hK K;try simp only[Act.put,zA]
   have hHeld:=hHeld RC;refine bu 12 fun K hK=>?_
   go_simp;refine hK.out _ _ (fun h=>absurd h RC) (fun _=>?_);clear hK K;try simp only[Act.put,zA]
   refine dS RU ?_ _;have IN:=bq (dG wr (some gr)) I;have IK:au W5 ((w:Nat)+3) (.slice (aX gr) (r.length-1) cr) (r.eraseIdx q):=co.o;have Fy:=HO.put (dO _ _ _ hk).symm cz IN IK (fun b hb=>aG hb);rw[iy (fun r=>r.eraseIdx q) rows k r ct]at Fy;exact ZH
  .have dc:k=rows.length:=Ry;subst dc;rw[nM _ _ _ (ah _)]at Es;have b2:=E6;have bz:=(F.block _ Ry).trans cK;have b0:=(F.block _ Ry).trans a8;have a4:=(F.block _ Ry).trans c0;obtain⟨HO,HE⟩:=bL (by skip;exact⟨_,Es⟩:aI wr ((w:Nat)+3) (.slice D rows z) (rows.map (fun r=>r.eraseIdx q))) (ch.trans (F.mono Ry));clear Es F E6;obtain⟨U,Z,E,ab,ac⟩:=bO b0;obtain⟨b6,R,T⟩:=al bz;clear bz b0;obtain⟨c5,c6,c7⟩:=bU b2;obtain⟨c8,c9,da⟩:=bU a4;obtain⟨d8,d9,ea⟩:=bt a4;simp only[dg,cT]at c5 c6 c7 c8 c9 da;clear b2 a4;go_wp2;refine az (v:=.agg (ae v (h-1) D rows z)) Uy rfl ⟨_,rfl,?_,?_⟩
   .exact Yr
   .exact Yf
end Go.Proofs.YtdpgblncijojiaaGreatDoor
