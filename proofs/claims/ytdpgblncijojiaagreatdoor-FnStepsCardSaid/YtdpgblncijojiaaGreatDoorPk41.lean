/- Parts of the walks. Conditions: as stated with each. -/
import Derived.Test.YtdpgblncijojiaaGreatDoorPk40
namespace Go.Proofs.YtdpgblncijojiaaGreatDoor
open Go.RowKit Tryz
set_option linter.all false
set_option maxHeartbeats 16000000
set_option maxRecDepth 100000
variable{C:Code}{D K K' N N' RP b i:Nat}{E V w wr:aa}{RD:List jJ}{RJ:an}{p:Int}{v0:au}
def zT(C:Code)(b K z:Nat)(p:Int)(i u N:Nat)(w wr:aa):Prop:=∃L A c,aU wr z (bL A L c) 176/\aU wr w fm 176/\L.length<=c/\L.length<=N/\kS p L (i,u)/\nA ((w:Nat)+1) L A wr/\cH C b K wr/\w.grownBy wr (some b)
def zT.store{u:Nat}(H:w.grownBy wr (some b))(F:wr.grownBy E (some b))(U:aU wr w fm 176)(Z:b < (w:Nat)/\(w:Nat)<D)(I:aU E D #[v0] 176)(J:cH C b K E)(O:RD.length<=RP)(Q:RD.length<=N)(Y:kS p RD (i,u))(R:nA (D+1) RD RJ E):zT C b K D p i u N w (E.setCell ⟨D,0,none⟩ (.slice RJ RD RP)):=by have z:=bs E D 0 _ _ (.slice RJ RD RP) I;simp only[mZ,jA]at z;refine⟨RD,RJ,RP,z,?_,O,Q,Y,(At.setCell R (a:=⟨D,0,none⟩) (iV D) _).mono RU,J.iP (a:=⟨D,0,none⟩) (by show b<D;omega) _,bW (H.trans F) (a:=⟨D,0,none⟩) (by show(w:Nat)<=D;omega) _⟩;exact(bw E ⟨D,0,none⟩ _ w.heap.size (by show w.heap.size≠D;omega)).trans (bR U F Z.1)
def zT.cur{u:Nat}(h:zT C b K D p i u N w wr):cH C b K wr:=by obtain⟨L,A,c,-,-,-,-,-,-,h,-⟩:=h;exact h
def zT.wait{u:Nat}(h:zT C b K D p i u N w wr)(R:b < (w:Nat)/\(w:Nat)<D)(Q:cH C b K' V)(z:wr.grownBy V (some b))(Y:N<=N'):zT C b K' D p i u N' w V:=by obtain⟨L,A,c,E,F,H,U,I,J,-,O⟩:=h;exact⟨L,A,c,bR E z RU,bR F z R.1,H,RU,I,At.drawn J z RU,Q,O.trans z⟩
def zT.go{u:Nat}(h:zT C b K D p i u N w wr)(F:b < (w:Nat)/\(w:Nat)<D)(z:cH C b K' V)(E:wr.grownBy V (some b)):zT C b K' D p i u N w V:=h.wait F z E (ag _)
def yi(p k x:Int)(z:an)(d lo f g i o:Nat)(w:aa)(E:lo<=(w:Nat))(D:nA lo [lJ k x] z w)(H:1<=d)(t1:kS p [lJ k x] (i,o))(hi:f+i+g<=12)(F:f+o+g<=12):aw 183 #[f,.agg (fK z d),g] w (ziS p (f+i+g,f+o+g) 5 lo w):=zaf p [lJ k x] z d lo f g i o w E D H t1 hi F RS
def pr(k x:Int)(s:ByteArray)(w:aa)(h:2<=k):aw 181 (cJ (gY k x s)) w fun e w'=>e=.returned (.tuple (bP (nP k:Nat) (qq k:Nat)))/\ai w w':=by have:=qY k x s w;rw[show taI k x=(nP k:Nat) by unfold taI;rw[al RU],show taO k x=(qq k:Nat) by unfold taO;rw[al RU]]at this;exact this
def zhg(k:Int):nP k<=2/\qq k<=2:=Xm
def dst(a b:Nat):Nat:=(a-b)+(b-a)
def kdB(u z:Nat)(k:Int):Bool:=if u<z then decide (k∈[(10:Int),6,3,11]) else decide (k∈[(4:Int),12,5,9])
def ziy{u:Nat}{k:Int}(h:kdB u D k=true)(z:u<D):qq k=nP k+1/\nP k<=1:=by unfold kdB at h;rw[ay z]at h;exact Xo
def ziz{u:Nat}{k:Int}(h:kdB u D k=true)(z:D<u):nP k=qq k+1/\nP k<=2:=by unfold kdB at h;rw[al RU]at h;exact Xo
def zhh{u:Nat}{k:Int}(p:Int)(h:kdB u D k=true):2<=k/\kS p [lJ k 0] (nP k,qq k):=by unfold kdB at h;split at h <;>simp at h <;>rcases h with rfl|rfl|rfl|rfl <;>exact⟨RX,zcC RX RX RX RX RX⟩
def zaI(C:Code)(b m:Nat)(w:aa)(p:Int)(ao I d8:Nat)(H:cH C b m w)(io:m<=549755800000)(hT:2<=p)(hU:p<=97)(hi:ao<=6)(it:I<=6)(ip:d8<=7):aw 169 #[.pointer (aY b),p,ao,I,d8,.bool false] w (kM C b (m+300) (TmP p (ao,I) 79 w) w):=by
 have br:=az w (.cells fm 176) rfl;have g1:=aD w (.cells fm 176);have hX:IntKind.i64.wrap ((d8:Int)+1)=(d8:Int)+1:=SQ;obtain⟨Ew,hb,hn⟩:=d_ H.lt H (kS.id p (n:=ao) RU);clear H;go_enter func169,ntmps169
 go_upto_region 1 with(fail)
 generalize w.alloc _=W at g1 br ⊢;obtain⟨bz,ha⟩:=bS br g1;clear br g1;go_upto_region 2 with(go_at_call 179;(with_reducible refine(qK ao W).mono ?_);rintro e ch ⟨A,c,rfl,H,hx,z⟩;have g9:=zH hx;have hk:=zH H;have e1:=zH (cC ha z);have f9:=zH (ak bz z);clear H hx z)
 have b1:=az ch (.cells (fK A c) 176) rfl;have c9:=aD ch (.cells (fK A c) 176);obtain⟨ho,ER⟩:=bS (show(w:Nat)<W from(aM.1 bz).1) (show b < (w:Nat)/\(w:Nat)<ch from⟨Ew,(aM.1 f9).1⟩);have a6:zT C b m ch.heap.size p ao ao 1 w (ch.alloc (.cells (fK A c) 176)):=⟨[lJ 1 ao],A,c,b1,ak f9 c9,hk,ag _,hn,At.mono (At.ext g9 c9) ho,(hb.ext e1).ext c9,(aN e1).trans (aN c9)⟩;generalize ch.alloc _=hN at a6 ⊢;generalize (ch:Nat)=J at a6 ER ⊢;have fn:=zH a6;clear b1 c9 a6 g9 hk e1 f9 ho bz ha hb hn W;go_wp2_with (go_at_call 88;(with_reducible refine(dg C b m hN ((d8:Int)+1) fn.o.cur RU).mono ?_);rintro e Z ⟨v,rfl,⟨b2,rfl,cb,-⟩,da,dT⟩;have FP:=zH (show b2<=7 from RU);have hh:=zH (zT.go fn ER da dT);clear da dT cb)
 clear fn hX;go_loopw [14,15] (fun d9 kv wr=>∃(u j:Nat),j<=b2/\d9=.int .i64 u/\kv=.int .i64 j/\Hd (u<=6)/\Hd (zT C b (m+2+8*(b2-j)) J p ao u (1+6*(b2-j)) w wr)) (fun _ kv _=>(intOf kv).toNat)
 case atStart=>exact⟨ao,b2,ag _,rfl,rfl,zH hi,zH (by simpa using hh.o)⟩
 case round=>
  obtain⟨u,j,ii,rfl,rfl,HU,HI⟩:=hrel;clear hh;by_cases ht:j=0
  .have hB:¬0 < (j:Int):=RU;clear ht;have hj:=zH (zT.wait (N':=43+6*(6-dst u I)) (K':=m+58+8*(6-dst u I)) HI ER (HI.cur.mono TQ) (uE _ _) TQ);go_wp2;go_loopw [14] (fun d9 wr=>∃u:Nat,d9=.int .i64 u/\Hd (u<=6)/\Hd (zT C b (m+58+8*(6-dst u I)) J p ao u (43+6*(6-dst u I)) w wr)) (fun d9 _=>dst (intOf d9).toNat I)
   case atStart=>exact⟨u,rfl,HU,hj⟩
   case round=>
    clear HU HI hj hB;obtain⟨u,rfl,HU,HI⟩:=hrel;obtain⟨c6,g2⟩:=aO (m+58+8*(6-dst u I));have Hc:=zH g2;have a6:=HI.o;rw[<-g2]at a6 HI;unfold zT at a6;obtain⟨L,A,c,b1,br,es,d2,ad,D,H,O⟩:=a6;obtain⟨cn,bz,Km,f3,hH,em,ej,eb,ei,E_⟩:=zat b1 br (RU:L.length<=79) d2 es ad D H O (RU:c6<=549755812000);clear b1 br es d2 ad D H O g2;obtain⟨a8,rfl⟩:∃a8,a8=wr:=⟨wr,rfl⟩;by_cases eo:u=I
    .have ib:((u:Int)!=(I:Int))=false:=by simp[eo]
     have b5:=zH eo;have i1:=du cn.o 0 rfl;obtain⟨ev,f0,i2⟩:=ec (.slice A L c) bz;clear eo;go_wp2;refine ax (v:=.agg (bL A L c)) (by simp[results,results169,go_sem, *]) rfl ⟨_,rfl,?_,(eb.mono TP).iP (a:=⟨w,0,none⟩) Ew _,bW ei (a:=⟨w,0,none⟩) (ag _) _⟩;exact⟨L,A,c,rfl,hH,Km,by rw[<-b5.o];exact em,(At.setCell ej (a:=⟨w,0,none⟩) (iV _) _).mono RU⟩
    .have is:((u:Int)!=(I:Int))=true:=Sk;go_upto_region 14 with(first
      |(go_at_call 85;refine(iE C b c6 a8 [4,12,5,9] _ eb TO rfl RX RX 4 rfl).mono ?_;rintro e h6 ⟨v,rfl,⟨x,d7,rfl⟩,hy,hA⟩;have hp:=zH d7;have cy:=zH hy;have b6:=zH hA;clear hy hA d7)
      |(go_at_call 184;(with_reducible refine(iW x 0 h6).mono ?_);rintro e Z ⟨A2,c2,rfl,U,D,z⟩;have hd:=zH U;have cI:=zH D;have b4:=zH (cy.ext z);have cO:=zH (b6.trans (aN (row:=some b) z));have ga:=zH (bc b6.size z.size);have hm:=zH b6.size;clear U D z))
     have E:=az Z (.cells (fK A2 c2) 176) rfl;have bo:=aD Z (.cells (fK A2 c2) 176);have g6:J < (a8:Nat):=(aM.1 cn).1;obtain⟨ac,ba,fa,GQ,GP⟩:=lv E (show b < (Z:Nat)/\(a8:Nat)<=Z/\J < (Z:Nat) from⟨(b4.o).lt,ga,gZ g6 ga⟩) (At.mono (lo':=J+1) (At.ext cI bo) (bc g6 hm)) (b4.ext bo) (cO.trans (aN bo));generalize Z.alloc _=V at E ac fa GQ GP ⊢;generalize (Z:Nat)=y at E ba ac ⊢;clear E bo g6 cI b4 cO ga cy b6 hm;go_upto_if 89 with(fail)
     go_cut [] from 89 to 94 (fun be=>∃k A3 c3,aU be y (fK A3 c3) 176/\1<=c3/\nA (J+1) [lJ k 0] A3 be/\kdB u I k=true/\cH C b (c6+4) be/\a8.grownBy be (some b))
     case first=>
      by_cases a3:u<I
      .have cr:(u:Int) < (I:Int):=RU;have a4:=zH a3;clear a3;go_wp2_with (first
        |(go_at_call 85;refine(iE C b (c6+2) V [10,6,3,11] _ GQ TO rfl RX RX 4 rfl).mono ?_;rintro e ab ⟨v,rfl,⟨hD,d7,rfl⟩,hz,g4⟩;have R:=zH d7;have cz:=zH hz;have cR:=zH (GP.trans g4);have b8:=zH (bR ac g4 ba.1);clear hz g4 d7)
        |(go_at_call 184;(with_reducible refine(iW hD 0 ab).mono ?_);rintro e b3 ⟨a9,bb,rfl,U,D,z⟩;obtain⟨hE,hs,-⟩:=ec (.slice a9 1 bb) (ak b8 z);have gs:=zH (ak b8 z);have e7:=zH U;have f8:=zH D;have e6:=zH (cz.ext z);have fl:=zH (cR.trans (aN (row:=some b) z));have ek:=zH (show y < (ab:Nat) from(aM.1 b8).1);clear U D z))
       go_meet
       have am:=ba.o;have hV:y < (ab:Nat):=ek.o;exact⟨hD,a9,bb,by have h:=bs b3 y 0 _ _ (.slice a9 1 bb) gs;simpa using h,e7,(At.setCell f8 (a:=⟨y,0,none⟩) hV _).mono RU,by unfold kdB;rw[ay a4.o];exact iy R.o,(e6.iP (a:=⟨y,0,none⟩) am.1 _).mono RU,bW fl (a:=⟨y,0,none⟩) am.2.1 _⟩
      .have cr:¬(u:Int) < (I:Int):=RU;have a4:=zH a3;clear a3;go_wp2_with fail
       go_meet
       exact⟨x,A2,c2,ac,hd,fa,by unfold kdB;rw[al a4.o];exact iy hp.o,GQ.mono RU,GP⟩
     case rest=>
      clear ac fa GQ GP hd hp;obtain⟨k,A3,c3,E,a2,D,ca,H,O⟩:=hcut;obtain⟨V,rfl⟩:∃V,V=wc:=⟨wc,rfl⟩;obtain⟨a5,cj,a0,fs,GQ,GP⟩:=mA E a2 D ca H O;have Y:=du E 0 rfl;clear E a2 D ca H O;obtain⟨q,o,bd,bi,c1,c2⟩:=jK a0.o.now (k:=0) rfl;simp only[r7,jz,lJ]at bi c1 c2;rw[bd]at Y;clear bd;have cu:=zH (fun W=>pr k 0 (ByteArray.mk #[]) W (zhh p fs).1);obtain⟨gC,rfl⟩:∃gC,gC=V:=⟨V,rfl⟩;go_upto_if 104 with(go_at_call 181;(with_reducible refine(cu.o gC).mono ?_);rintro e V ⟨rfl,z⟩;have ac:=zH (ak a5 z);have cF:=zH (At.ext a0 z);have hc:=zH (GQ.ext z);have hg:=zH (GP.trans (aN (row:=some b) z));clear z)
      clear Y bi c1 c2 cu a5 a0 GQ GP;have GQ:=hc;have GP:=hg;clear hc hg;go_cut [21,22] from 104 to 118 (fun h8 h9 be=>∃k A3 c3,h8=.int .i64 (nP k:Nat)/\h9=.int .i64 (qq k:Nat)/\nP k<=u/\aU be y (fK A3 c3) 176/\1<=c3/\nA (J+1) [lJ k 0] A3 be/\kdB u I k=true/\cH C b (c6+4) be/\a8.grownBy be (some b))
      case first=>
       by_cases co:nP k<=u
       .have hS:¬(u:Int) < (nP k:Nat):=RU;have hl:=zH co;clear co;go_wp2_with fail
        go_meet
        exact⟨k,A3,c3,rfl,rfl,hl,ac,cj,cF,fs,GQ,GP⟩
       .have hS:(u:Int) < (nP k:Nat):=RU;have hl:=zH co;clear co;by_cases a3:u<I
        .have cr:(u:Int) < (I:Int):=RU;have a4:=zH a3;clear a3;have gf:=zH (show nP 6<=u from bf u);go_upto_region 19 with(go_at_call 184;(with_reducible refine(iW 4 0 V).mono ?_);rintro e ab ⟨ap,a1,rfl,U,D,z⟩;obtain⟨g7,g0,-⟩:=ec (.slice ap 1 a1) (ak ac z);have b8:=zH (ak ac z);have he:=zH U;have f7:=zH D;have cz:=zH (GQ.ext z);have cR:=zH (GP.trans (aN (row:=some b) z));have c4:=zH (show y < (V:Nat) from(aM.1 ac).1);clear U D z)
         have am:=ba.o;have E:=bs ab y 0 _ _ (.slice ap 1 a1) b8;simp only[mZ,jA]at E;have D:=(At.setCell f7 (a:=⟨y,0,none⟩) c4 (.slice ap 1 a1)).mono (lo':=J+1) (by have:=c4.o;omega);have H:=cz.iP (a:=⟨y,0,none⟩) am.1 (.slice ap 1 a1);have O:=bW cR (a:=⟨y,0,none⟩) am.2.1 (.slice ap 1 a1);generalize ab.setCell ⟨y,0,none⟩ _=en at E D H O ⊢;obtain⟨ck,fb,e5,fi⟩:=fU E D H O;clear E D H O g7 g0 am;go_upto_region 21 with(go_at_call 184;(with_reducible refine(iW 6 0 en).mono ?_);rintro e b3 ⟨a9,bb,rfl,U,D,z⟩;obtain⟨hE,hs,-⟩:=ec (.slice a9 1 bb) (ak ck z);have gs:=zH (ak ck z);have e7:=zH U;have f8:=zH D;have e6:=zH (e5.ext z);have fl:=zH (fi.trans (aN (row:=some b) z));have ek:=zH (show y < (en:Nat) from(aM.1 ck).1);clear U D z)
         have am:=ba.o;have E:=bs b3 y 0 _ _ (.slice a9 1 bb) gs;simp only[mZ,jA]at E;have D:=(At.setCell f8 (a:=⟨y,0,none⟩) ek (.slice a9 1 bb)).mono (lo':=J+1) (by have:=ek.o;omega);have H:=e6.iP (a:=⟨y,0,none⟩) am.1 (.slice a9 1 bb);have O:=bW fl (a:=⟨y,0,none⟩) am.2.1 (.slice a9 1 bb);generalize b3.setCell ⟨y,0,none⟩ _=hM at E D H O ⊢;obtain⟨hr,hf,hF,hG⟩:=fU E D H O;clear E D H O hE hs am;have Y:=du hr.o 0 rfl;obtain⟨q,o,bd,bi,c1,c2⟩:=jK hf.o.now (k:=0) rfl;simp only[r7,jz,lJ]at bi c1 c2;rw[bd]at Y;clear bd;go_wp2_with (go_at_call 181;(with_reducible refine(pr 6 0 _ hM RX).mono ?_);rintro e h7 ⟨rfl,z⟩;have gn:=zH (ak hr z);have e9:=zH (At.ext hf z);have e4:=zH (hF.ext z);have fd:=zH (hG.trans (aN (row:=some b) z));clear z)
         go_meet
         exact⟨6,a9,bb,rfl,rfl,by have:=gf.o;exact this,gn,e7,e9,by unfold kdB;rw[ay a4.o];decide,e4,fd⟩
        .have cr:¬(u:Int) < (I:Int):=RU;obtain⟨a4,gf⟩:=bS a3 (show nP 4<=u by show 1<=u;omega);clear a3;go_upto_region 19 with(go_at_call 184;(with_reducible refine(iW 4 0 V).mono ?_);rintro e ab ⟨ap,a1,rfl,U,D,z⟩;obtain⟨g7,g0,-⟩:=ec (.slice ap 1 a1) (ak ac z);have b8:=zH (ak ac z);have he:=zH U;have f7:=zH D;have cz:=zH (GQ.ext z);have cR:=zH (GP.trans (aN (row:=some b) z));have c4:=zH (show y < (V:Nat) from(aM.1 ac).1);clear U D z)
         have am:=ba.o;have E:=bs ab y 0 _ _ (.slice ap 1 a1) b8;simp only[mZ,jA]at E;have D:=(At.setCell f7 (a:=⟨y,0,none⟩) c4 (.slice ap 1 a1)).mono (lo':=J+1) (by have:=c4.o;omega);have H:=cz.iP (a:=⟨y,0,none⟩) am.1 (.slice ap 1 a1);have O:=bW cR (a:=⟨y,0,none⟩) am.2.1 (.slice ap 1 a1);generalize ab.setCell ⟨y,0,none⟩ _=en at E D H O ⊢;obtain⟨ck,fb,e5,fi⟩:=fU E D H O;clear E D H O g7 g0 am;have Y:=du ck.o 0 rfl;obtain⟨q,o,bd,bi,c1,c2⟩:=jK fb.o.now (k:=0) rfl;simp only[r7,jz,lJ]at bi c1 c2;rw[bd]at Y;clear bd;go_wp2_with (go_at_call 181;(with_reducible refine(pr 4 0 _ en RX).mono ?_);rintro e h7 ⟨rfl,z⟩;have gn:=zH (ak ck z);have e9:=zH (At.ext fb z);have e4:=zH (e5.ext z);have fd:=zH (fi.trans (aN (row:=some b) z));clear z)
         go_meet
         exact⟨4,ap,a1,rfl,rfl,by have:=gf.o;exact this,gn,he,e9,by unfold kdB;rw[al a4.o];decide,e4,fd⟩
      case rest=>
       clear ac cF GQ GP cj fs;obtain⟨k,A3,c3,rfl,rfl,g3,E,a2,D,ca,H,O⟩:=hcut;obtain⟨V,rfl⟩:∃V,V=wc:=⟨wc,rfl⟩;obtain⟨a5,cj,a0,GQ,GP⟩:=lv E a2 D H O;have c5:=zH (zhh p ca).2;have f4:=zH (show(u<I/\qq k=nP k+1)∨(I<u/\nP k=qq k+1) by
        rcases Nat.lt_or_gt_of_ne eo with h|h
        .exact aF ⟨h,(ziy ca h).1⟩
        .exact aA ⟨h,(ziz ca h).1⟩)
       clear E a2 D H O ca;obtain⟨F,bm⟩:=aO (nP k);obtain⟨Q,b0⟩:=aO (qq k);have hQ:=zhg k;rw[<-bm,<-b0]at c5 f4 hQ;rw[<-bm]at g3;rw[<-bm,<-b0];have hW:=HU.o;have gc:=c5;obtain⟨ea,Kl⟩:=bS g3 (show u-F+Q<=6 by have:=f4.o;omega);clear bm b0;have hI:=zH (show ∀d v:Nat,d=u-F->v=d+Q->dst v I+1=dst u I/\dst u I<=6/\v<=6 from fun d v hu hv=>by have:=f4.o;unfold dst;omega);obtain⟨d,a2⟩:∃d:Nat,d=u-F:=⟨_,rfl⟩;obtain⟨v,ct⟩:∃v:Nat,v=d+Q:=⟨_,rfl⟩;have hY:IntKind.i64.wrap ((u:Int)-(F:Int))=(d:Int):=SQ;have hZ:IntKind.i64.wrap ((d:Int)+1)=(d:Int)+1:=SQ;have g5:∀r:Nat,r<=d->IntKind.i64.wrap ((d:Int)-(r:Int))=((d-r:Nat):Int):=fun r cb=>SQ
       have h0:IntKind.i64.wrap ((Q:Int)-(F:Int))=(Q:Int)-(F:Int):=SQ;have h1:IntKind.i64.wrap ((u:Int)+((Q:Int)-(F:Int)))=(v:Int):=SQ;obtain⟨HD,eg⟩:=bS (bn a2 ct) (show dst v I+1=dst u I/\dst u I<=6/\v<=6 from hI d v a2 ct);clear a2 ct;go_upto_region 23 with(go_at_call 88;(with_reducible refine(dg C b _ V ((d:Int)+1) GQ.o TO).mono ?_);rintro e a7 ⟨v4,rfl,⟨r,rfl,cb,-⟩,db,bp⟩;have cc:r<=d:=RU;have h2:=g5 r cc;have HR:=zH cc;have e2:=zH db;have b7:=zH (GP.trans bp);have gm:=zH (bR a5 bp (by have:=ba.o;omega));have e8:=zH (At.drawn a0 bp TN);clear db bp cb cc)
       have bv:=bR cn b7 TN;have c8:=At.drawn ej b7 TN;have ci:=du bv 0 rfl;have Y:=du gm.o 0 rfl;obtain⟨c0,gw,f5⟩:=d_ (show J+1<=(a7.drew:Nat) from(aM.1 bv).1) bv c8;clear bv c8;refine bJ (S:=fun V=>ah V J 0 (.slice A L c)/\ah V y 0 (.slice A3 1 c3)) 10 Si ⟨ci,Y⟩ (fun hHeld=>?_);refine aC 0 ?_;refine aC 1 ?_;refine aC 2 ?_;refine aC 3 ?_;refine aC 4 ?_;refine aC 5 ?_;refine aC 6 ?_;refine aC 7 ?_;refine aC 8 ?_;refine bM 9 fun K hK=>?_
       go_simp
       (with_reducible refine(yi p k 0 A3 c3 (J+1) r (d-r) F Q a7.drew c0.o (At.ext e8.o (aI a7)) cj.o gc.o Wu WK).mono ?_)
       rintro e ab ⟨c7,e0,gV,rfl,dl,d4,ad,D,z⟩;have R:=zH ((aI a7).trans z);obtain⟨gb,f1,FT,a4,f2⟩:=lv (show J+1<=(ab:Nat) from bc (show J+1<=(a7:Nat) from c0.o) R.o.size) dl d4 (show kS p c7 (u,v) by have hu:=HR.o;have hv:=HD.o;have hP:=ea.o;rw[show u=r+F+(d-r) by omega,show v=r+Q+(d-r) by omega];exact ad) D;clear dl d4 ad D z;go_simp;refine hK.out _ _ (fun _=>⟨av R.o ci,av R.o Y⟩) (fun hHeld=>?_);clear hK K;try simp only[Act.put,zA]
       have hHeld:=hHeld RX;refine bM 10 fun K hK=>?_
       go_simp
       (with_reducible refine(Dh C b _ ab p L c7 A e0 c gV ((w:Nat)+1) (J+1) ao u v (e2.o.ext R.o) TO TM TN gb.o (At.ext f5.o R.o) f2.o f1.o em.o a4.o Vq).mono ?_)
       rintro e b3 ⟨h5,rfl,⟨gB,eA,gL,rfl,d1,d3,d6,d5⟩,dc,b9⟩;have ce:=bR (ak gw R.o) b9 TN;obtain⟨ev,f0,-⟩:=ec (.slice eA gB gL) ce;obtain⟨gA,fo,fz,gd,f6,e3,gi⟩:=zH7 ce d1 d3 d6 d5 dc ((b7.trans (aN R.o)).trans b9);clear ce d1 d3 d6 d5 dc b9;go_simp;refine hK.out _ _ (fun h=>absurd h RX) (fun hHeld=>?_);clear hK K;try simp only[Act.put,zA]
       refine bM 11 fun K hK=>?_
       go_simp;refine hK.out _ _ (fun h=>absurd h RX) (fun hHeld=>?_);clear hK K;try simp only[Act.put,zA]
       refine eC Si ?_ _;clear ev f0 ci Y;have b5:=zH (zT.store (u:=v) (N:=43+6*(6-dst v I)) (K:=m+58+8*(6-dst v I)) ei gi bz ER gA (e3.mono (by have:=eg.o;have:=Hc.o;omega)) fo (by have:=fz.o;have:=Km.o;have:=FT.o;have:=f3.o;have:=eg.o;omega) gd f6);generalize b3.setCell ⟨J,0,none⟩ _=hO at b5 ⊢;go_wp2;go_roundw
       case rel=>exact⟨v,TL,zH (by have:=eg.o;omega),b5⟩
       case measure=>(try simp[intOf]);have:=eg.o;omega
  .have hB:0 < (j:Int):=RU;have i0:IntKind.i64.wrap ((j:Int)-1)=((j:Int)-1):=by have:=FP.o;rw[aZ];omega
   clear ht;have a6:=HI.o;unfold zT at a6;obtain⟨L,A,c,b1,br,es,d2,ad,D,H,O⟩:=a6;obtain⟨cn,bz,Km,f3,em,ej,eb,ei,E_⟩:=zH9 b1 br (show L.length<=43 by have:=FP.o;omega) d2 ad D H O (show m+2+8*(b2-j)<=549755813000 by have:=FP.o;omega);clear b1 br es d2 ad D H O;obtain⟨a8,rfl⟩:∃a8,a8=wr:=⟨wr,rfl⟩;go_upto_region 7 with(go_at_call 180;(with_reducible refine(zf2 C b _ a8 p eb.o TO hT hU).mono ?_);rintro e Z ⟨v,rfl,⟨k,x,g8,d0,rfl,U,hC,hR,ad,D⟩,da,dT⟩;have cj:=zH U;have Hc:=zH hC;have c5:=zH ad;have cI:=zH D;have b4:=zH da;have cO:=zH dT;clear U hC hR ad D da dT)
   have E:=az Z (.cells (fK g8 d0) 176) rfl;have bo:=aD Z (.cells (fK g8 d0) 176);obtain⟨a5,ba,a0,GQ,GP⟩:=lv E (show b < (Z:Nat) by have:=(b4.o).lt;exact this) (At.mono (lo':=J+1) (At.ext cI bo) (by have:=(aM.1 cn).1;exact this)) (b4.ext bo) (cO.trans (aN bo));generalize Z.alloc _=V at E a5 a0 GQ GP ⊢;generalize (Z:Nat)=y at E a5 ba ⊢;have Y:=du E 0 rfl;obtain⟨q,o,bd,bi,c1,c2⟩:=jK a0.o.now (k:=0) rfl;simp only[r7,jz,lJ]at bi c1 c2;subst bd;obtain⟨F,bm⟩:=aO (nP k);obtain⟨Q,b0⟩:=aO (qq k);have co:=zhg k;rw[<-bm,<-b0]at co;obtain⟨gc,cu⟩:=bS (by rw[bm,b0];exact c5:kS p [lJ k x] (F,Q)) (fun W=>(by have:=pr k x (ByteArray.mk #[]) W Hc;rw[<-bm,<-b0]at this;exact this:aw 181 (cJ (gY k x (ByteArray.mk #[]))) W fun e w'=>e=.returned (.tuple (bP F Q))/\ai W w'));clear E bo cI b4 cO bm b0 c5 Z;go_upto_region 8 with(go_at_call 181;(with_reducible refine(cu.o V).mono ?_);rintro e hL ⟨rfl,z⟩;have hq:=zH (ak a5 z);have cF:=zH (At.ext a0 z);have cy:=zH (GQ.ext z);have b6:=zH (GP.trans (aN z));clear z)
   clear a5 a0 GQ GP Y bi c1 c2 cu V;have a5:=hq;have a0:=cF;have GQ:=cy;have GP:=b6;clear hq cF cy b6;by_cases a3:u<F
   .have cr:(u:Int) < (F:Int):=RU;clear a3;exact Y6
   .have cr:¬(u:Int) < (F:Int):=RU;have h3:IntKind.i64.wrap ((u:Int)-(F:Int))=(u:Int)-(F:Int):=by have:=HU.o;rw[aZ];omega
    have h4:IntKind.i64.wrap ((u:Int)-(F:Int)+(Q:Int))=(u:Int)-(F:Int)+(Q:Int):=by have:=HU.o;rw[aZ];omega
    by_cases hw:(6:Int) < (u:Int)-(F:Int)+(Q:Int)
    .exact Y6
    .have ia:¬(6:Int) < (u:Int)-(F:Int)+(Q:Int):=hw;go_upto_region 9 with(fail)
     obtain⟨ea,Kl⟩:=bS (RU:F<=u) (RU:u-F+Q<=6);have hW:=HU.o;have g3:=ea.o;clear a3 cr hw h3 h4;obtain⟨d,a2⟩:∃d:Nat,d=u-F:=⟨_,rfl⟩;obtain⟨v,ct⟩:∃v:Nat,v=d+Q:=⟨_,rfl⟩;have hY:IntKind.i64.wrap ((u:Int)-(F:Int))=(d:Int):=SQ;have hZ:IntKind.i64.wrap ((d:Int)+1)=(d:Int)+1:=SQ;have g5:∀r:Nat,r<=d->IntKind.i64.wrap ((d:Int)-(r:Int))=((d-r:Nat):Int):=fun r cb=>SQ
     have h0:IntKind.i64.wrap ((Q:Int)-(F:Int))=(Q:Int)-(F:Int):=SQ;have h1:IntKind.i64.wrap ((u:Int)+((Q:Int)-(F:Int)))=(v:Int):=SQ;have HD:=zH (bn a2 ct);clear a2 ct;go_upto_region 10 with(go_at_call 88;(with_reducible refine(dg C b _ hL ((d:Int)+1) GQ.o TO).mono ?_);rintro e a7 ⟨v4,rfl,⟨r,rfl,cb,-⟩,db,bp⟩;have cc:r<=d:=RU;have h2:=g5 r cc;have HR:=zH cc;have e2:=zH db;have b7:=zH (GP.trans bp);have gm:=zH (bR a5 bp (by have:=ba.o;omega));have e8:=zH (At.drawn a0 bp TN);clear db bp cb cc)
     have bv:=bR cn b7 TN;have c8:=At.drawn ej b7 TN;have ci:=du bv 0 rfl;have Y:=du gm.o 0 rfl;obtain⟨c0,gw,f5⟩:=d_ (show J+1<=(a7.drew:Nat) from(aM.1 bv).1) bv c8;clear bv c8;refine bJ (S:=fun V=>ah V J 0 (.slice A L c)/\ah V y 0 (.slice (some ⟨q,o,none⟩) 1 d0)) 10 Si ⟨ci,Y⟩ (fun hHeld=>?_);refine aC 0 ?_;refine aC 1 ?_;refine aC 2 ?_;refine aC 3 ?_;refine aC 4 ?_;refine aC 5 ?_;refine aC 6 ?_;refine aC 7 ?_;refine aC 8 ?_;refine bM 9 fun K hK=>?_
     go_simp
     (with_reducible refine(yi p k x (some ⟨q,o,none⟩) d0 (J+1) r (d-r) F Q a7.drew c0.o (At.ext e8.o (aI a7)) cj.o gc.o Wu WK).mono ?_)
     rintro e ab ⟨c7,e0,gV,rfl,dl,d4,ad,D,z⟩;have R:=zH ((aI a7).trans z);obtain⟨gb,f1,FT,a4,f2⟩:=lv (show J+1<=(ab:Nat) from bc (show J+1<=(a7:Nat) from c0.o) R.o.size) dl d4 (show kS p c7 (u,v) by have hu:=HR.o;have hv:=HD.o;have hP:=ea.o;rw[show u=r+F+(d-r) by omega,show v=r+Q+(d-r) by omega];exact ad) D;clear dl d4 ad D z;go_simp;refine hK.out _ _ (fun _=>⟨av R.o ci,av R.o Y⟩) (fun hHeld=>?_);clear hK K;try simp only[Act.put,zA]
     have hHeld:=hHeld RX;refine bM 10 fun K hK=>?_
     go_simp
     (with_reducible refine(Dh C b _ ab p L c7 A e0 c gV ((w:Nat)+1) (J+1) ao u v (e2.o.ext R.o) TO TM TN gb.o (At.ext f5.o R.o) f2.o f1.o em.o a4.o Vq).mono ?_)
     rintro e b3 ⟨h5,rfl,⟨gB,eA,gL,rfl,d1,d3,d6,d5⟩,dc,b9⟩;have ce:=bR (ak gw R.o) b9 TN;obtain⟨ev,f0,-⟩:=ec (.slice eA gB gL) ce;obtain⟨gA,fo,fz,gd,f6,e3,gi⟩:=zH7 ce d1 d3 d6 d5 dc ((b7.trans (aN R.o)).trans b9);clear ce d1 d3 d6 d5 dc b9;go_simp;refine hK.out _ _ (fun h=>absurd h RX) (fun hHeld=>?_);clear hK K;try simp only[Act.put,zA]
     refine bM 11 fun K hK=>?_
     go_simp;refine hK.out _ _ (fun h=>absurd h RX) (fun hHeld=>?_);clear hK K;try simp only[Act.put,zA]
     refine eC Si ?_ _;clear ev f0 ci Y;have b5:=zH (zT.store (u:=v) (N:=1+6*(b2-(j-1))) (K:=m+2+8*(b2-(j-1))) ei gi bz ER gA (e3.mono RU) fo (by have:=fz.o;have:=Km.o;have:=FT.o;have:=f3.o;omega) gd f6);generalize b3.setCell ⟨J,0,none⟩ _=hO at b5 ⊢;go_wp2;go_roundw
     case rel=>exact⟨v,j-1,RU,rfl,RW,zH (by have:=Kl.o;have:=HD.o;omega),b5⟩
     case measure=>simp[intOf];omega
def ou(C:Code)(b m:Nat)(w:aa)(p q:Int)(z D E:Nat)(R:q=(E:Int))(F:cH C b m w)(H:m<=549755800000)(O:2<=p)(Q:p<=97)(hi:z<=6)(J:D<=6)(I:E<=7):aw 169 #[.pointer (aY b),p,z,D,q,.bool false] w (kM C b (m+300) (TmP p (z,D) 79 w) w):=by subst R;exact zaI C b m w p z D E F H O Q hi J I
def zbM(C:Code)(b m:Nat)(w:aa)(p:Int)(F E:Nat)(b6:cH C b m w)(ga:m<=549755790000)(a9:2<=p)(ba:p<=97)(hi:F<=4)(gb:E<=4):aw 156 #[.pointer (aY b),p,F,E,.bool false] w (kM C b (m+1000) (TmP p (F,E) 400 w) w):=by
 have cc:=az w (.cells fm 176) rfl;have b5:=aD w (.cells fm 176);have f9:(F:Int)<=4:=RU;have gc:(E:Int)<=4:=RU;have ev:IntKind.i64.wrap ((F:Int)+1)=(F:Int)+1:=SQ;have eA:IntKind.i64.wrap ((E:Int)+1)=(E:Int)+1:=SQ;have ce:∀r:Nat,r<=F->IntKind.i64.wrap ((F:Int)-(r:Int))=((F-r:Nat):Int):=fun r ao=>SQ
 have ch:∀r:Nat,r<=E->IntKind.i64.wrap ((E:Int)-(r:Int))=((E-r:Nat):Int):=fun r ao=>SQ
 obtain⟨Ew,e6⟩:=bS b6.lt b6;clear b6;go_enter func156,ntmps156
 go_upto_region 1 with(fail)
 generalize w.alloc _=W at b5 cc ⊢;obtain⟨fn,ct⟩:=bS cc b5;clear cc b5;go_upto_if 23 with(go_at_call 46;(with_reducible refine(gX C b m W 3 (e6.o.ext ct.o) RU).mono ?_);rintro e cn ⟨v,rfl,⟨y,rfl⟩,ei,b7⟩;have cu:=zH ei;have cO:=zH ((aN (row:=some b) ct).trans b7);have a6:=zH (bR fn b7 Ew);clear ei b7;cases y)
 .clear ev eA ce ch;go_wp2_with (go_at_call 169;(with_reducible refine(ou C b (m+2) cn p 7 F E 7 rfl cu.o RU a9 ba RU RU RX).mono ?_);rintro e e0 ⟨v,rfl,⟨L,A,c,rfl,Q,J,O,D⟩,ad,Z⟩;obtain⟨cr,f0,f3⟩:=ec (.slice A L c) (bR a6 Z Ew);have bi:=zH Q;have HL:=zH J;have ab:=zH O;have fb:=zH D;have d6:=zH (show(w:Nat)<cn from(aM.1 a6).1);have a1:=zH ad;have a3:=zH (cO.trans Z);clear Q J O D ad Z)
  refine ax (v:=.agg (bL A L c)) VH rfl ⟨_,rfl,?_,(a1.mono RU).iP (a:=⟨w,0,none⟩) Ew _,bW a3 (a:=⟨w,0,none⟩) (ag _) _⟩;exact⟨L,A,c,rfl,bi,Tq,ab,(At.setCell fb (a:=⟨w,0,none⟩) d6 _).mono (by have:=d6.o;omega)⟩
 .go_upto_region 3 with(first
   |(go_at_call 88;(with_reducible refine(dg C b (m+2) cn ((F:Int)+1) cu.o RU).mono ?_);rintro e e0 ⟨v,rfl,⟨i,rfl,ao,-⟩,ad,Z⟩;have ca:i<=F:=RU;have c7:=zH ca;have gd:=ce i ca;have a1:=zH ad;have a3:=zH (cO.trans Z);have d1:=zH (bR a6 Z Ew);clear ad Z ca ao)
   |(go_at_call 88;(with_reducible refine(dg C b (m+4) e0 ((E:Int)+1) a1.o RU).mono ?_);rintro e e1 ⟨v,rfl,⟨o,rfl,ao,-⟩,ej,b8⟩;have cb:o<=E:=RU;have d0:=zH cb;have gf:=ch o cb;have be:=zH ej;have cR:=zH (a3.trans b8);have d2:=zH (bR d1 b8 Ew);clear ej b8 cb ao))
  clear ev eA ce ch a6 d1;go_upto_region 4 with(first
   |(go_at_call 169;(with_reducible refine(ou C b (m+6) e1 p 3 i o 3 rfl be.o RU a9 ba (by have:=c7.o;omega) (by have:=d0.o;omega) RX).mono ?_);rintro e f2 ⟨v,rfl,⟨ea,A1,c1,rfl,-,J,O,D⟩,ek,b9⟩;have bm:=zH J;have bv:=zH O;have da:=zH D;have cy:=zH ek;have c0:=zH (cR.trans b9);have d3:=zH (bR d2 b9 Ew);have e5:=zH (show b < (e1:Nat) from be.lt);clear J O D ek b9)
   |(go_at_call 169;(with_reducible refine(ou C b (m+306) f2 p 3 (F-i) (E-o) 3 rfl cy.o RU a9 ba RU RU RX).mono ?_);rintro e e2 ⟨v,rfl,⟨eb,A2,c2,rfl,-,J,O,D⟩,em,a8⟩;have bo:=zH J;have bz:=zH O;have dc:=zH D;have db:=zH (At.drawn da a8 e5);have cz:=zH em;have c4:=zH (c0.trans a8);have bp:=zH (bR d3 a8 Ew);clear J O D em a8)
   |(go_at_call 168;(with_reducible refine(vQ ea eb A1 A2 c1 c2 e2 db.o.now dc.o.now bv.o.pos bz.o.pos (by have:=bm.o;have:=bo.o;omega)).mono ?_);rintro e ap ⟨A,c,rfl,Q,D,I⟩;obtain⟨M,Y⟩:∃M,M=ea++eb++[lJ 16 0]:=⟨_,rfl⟩;rw[<-Y]at Q D ⊢;have bi:=zH Q;have a5:=zH D;have HL:=zH (show M.length<=159 by have:=bm.o;have:=bo.o;rw[Y];simp;omega);have ab:=zH (show kS p M (F,E) by have f7:=c7.o;have f8:=d0.o;rw[Y,show F=i+(F-i) by omega,show E=o+(E-o) by omega];exact bv.par bz RU RU);have a2:=zH (cz.ext I);have a4:=zH (c4.trans (aN I));have br:=zH (ak bp I);have Ge:=zH (show(w:Nat)<e2 from(aM.1 bp).1);have f4:=zH I.size;clear Q D I Y))
  have bb:=az ap (.cells (bL A M c) 176) rfl;have ac:=aD ap (.cells (bL A M c) 176);obtain⟨b0,ER,dl,cF,c5,d4⟩:=mA bb (show b < (w:Nat)/\(w:Nat)<ap from⟨Ew,(aM.1 br).1⟩) (At.ext a5 ac) (a2.ext ac) (a4.trans (aN (row:=some b) ac)) (ak br ac);generalize ap.alloc _=V at bb b0 dl cF c5 d4 ⊢;generalize (ap:Nat)=z at bb b0 ER ⊢;clear bb ac a5 a2 a4 br bp cz c4 db dc bo bz d3 cy c0 da bm bv d2 be cR a3 a1;go_upto_if 50 with(go_at_call 46;(with_reducible refine(gX C b (m+606) V 2 cF.o RU).mono ?_);rintro e a0 ⟨v,rfl,⟨y,rfl⟩,en,am⟩;have cI:=zH en;have c6:=zH (c5.trans am);have d5:=zH (bR d4 am Ew);have b1:=zH (bR b0 am TN);have dT:=zH (At.drawn dl am Vj);clear en am;cases y)
  .have e4:=du b1.o 0 rfl;obtain⟨cr,f0,f3⟩:=ec (.slice A M c) d5;have f1:(M:Int)<=400:=Tq;go_wp2;refine ax (v:=.agg (bL A M c)) VH rfl ⟨_,rfl,?_,(cI.mono RU).iP (a:=⟨w,0,none⟩) Ew _,bW c6 (a:=⟨w,0,none⟩) (ag _) _⟩;exact⟨M,A,c,rfl,bi,Tq,ab,(At.setCell dT (a:=⟨w,0,none⟩) Ge _).mono (by have:=Ge.o;omega)⟩
  .have ci:ah a0.drew z 0 (.slice A M c):=du b1.o 0 rfl;have e4:ah a0 z 0 (.slice A M c):=ci;go_upto_region 5 with(fail)
   refine bJ (S:=fun V=>ah V z 0 (.slice A M c)) 7 Si ci (fun hHeld=>?_);refine aC 0 ?_;refine aC 1 ?_;refine aC 2 ?_;refine aC 3 ?_;refine aC 4 ?_;refine aC 5 ?_;refine bM 6 fun K hK=>?_
   go_simp
   (with_reducible refine(ou C b (m+608) a0.drew p 2 E E 2 rfl (cI.o.ext (aI a0)) RU a9 ba RU RU RX).mono ?_)
   rintro e e3 ⟨v,rfl,⟨eg,A3,c3,rfl,-,J,O,D⟩,eo,es⟩;obtain⟨a7,c8,d8,fd,e8⟩:=lv ((aN (row:=some b) (aI a0)).trans es) J O D eo;obtain⟨fl,b2,fs⟩:=d_ (At.drawn dT a7 Vj) (bR b1 a7 TN) (bR d5 a7 Ew);clear J O D eo es;go_simp;refine hK.out _ _ (fun _=>du b2.o 0 rfl) (fun hHeld=>?_);clear hK K;try simp only[Act.put,zA]
   have hHeld:=hHeld RX;refine bM 7 fun K hK=>?_
   go_simp
   (with_reducible refine(AK M eg A A3 c c3 e3 fl.o.now fd.o.now ab.o.pos d8.o.pos (by have:=HL.o;have:=c8.o;omega)).mono ?_)
   rintro e co ⟨R,U,rfl,Q,D,I⟩;obtain⟨H,Y⟩:=aO (M++eg++[lJ 15 0]);rw[<-Y]at Q D ⊢;obtain⟨fa,fi,c9,fz,d9,fo⟩:=mA Q D (show H.length<=400 by have:=HL.o;have:=c8.o;rw[Y];simp;omega) (by rw[Y];exact ab.seq d8:kS p H (F,E)) (ak b2 I) (ak fs I);obtain⟨cr,f0,-⟩:=ec (.slice R H U) d9;obtain⟨e7,e9,d7⟩:=d_ (e8.ext I) ((c6.trans a7).trans (aN (row:=some b) I)) (show z < (e3:Nat) from(aM.1 b2).1);clear Q D I Y;go_simp;refine hK.out _ _ (fun h=>absurd h RX) (fun hHeld=>?_);clear hK K;try simp only[Act.put,zA]
   refine bM 8 fun K hK=>?_
   go_simp;refine hK.out _ _ (fun h=>absurd h RX) (fun hHeld=>?_);clear hK K;try simp only[Act.put,zA]
   refine eC Si ?_ _;have bd:=bs co z 0 _ _ (.slice R H U) d9;simp only[mZ,jA]at bd;have ck:=(bw co ⟨z,0,none⟩ (.slice R H U) w Wk).trans fo;have b4:=bW e9 (a:=⟨z,0,none⟩) Wj (.slice R H U);have b3:=e7.iP (a:=⟨z,0,none⟩) U2 (.slice R H U);have cj:=(At.setCell fi (a:=⟨z,0,none⟩) d7 (.slice R H U)).mono (lo':=(w:Nat)+1) (by have:=ER.o;have:=d7.o;omega);generalize co.setCell ⟨z,0,none⟩ _=f5 at bd ck b4 b3 cj ⊢;have gi:=du bd 0 rfl;obtain⟨gm,f6,gn⟩:=ec (.slice R H U) ck;obtain⟨a4,a2,a5⟩:=d_ b4 b3 cj;clear bd ck b4 b3 cj e4 ci cr f0;have f1:(H:Int)<=400:=by have:=c9.o;omega
   go_wp2;refine ax (v:=.agg (bL R H U)) VH rfl ⟨_,rfl,?_,(a2.mono RU).iP (a:=⟨w,0,none⟩) Ew _,bW a4 (a:=⟨w,0,none⟩) (ag _) _⟩;exact⟨H,R,U,rfl,fa,c9,fz,(At.setCell a5 (a:=⟨w,0,none⟩) (iV _) _).mono RU⟩
def zf_(C:Code)(b m:Nat)(w:aa)(p:Int)(z D:Nat)(F:cH C b m w)(a3:m<=549755790000)(a5:2<=p)(a6:p<=97)(hi:z<=4)(a4:D<=4):aw 149 (xL (aY b) p z D) w (kM C b (m+1000) (TmP p (z,D) 400 w) w):=by
 have I:=az w (.cells fm 176) rfl;have E:=aD w (.cells fm 176);obtain⟨O,ac⟩:=bS F.lt F;clear F;go_enter func149,ntmps149
 go_upto_region 1 with(fail)
 generalize w.alloc _=W at E I ⊢;obtain⟨Q,J⟩:=bS I E;clear I E;go_wp2_with (go_at_call 156;(with_reducible refine(zbM C b m W p z D (ac.o.ext J.o) a3 a5 a6 hi a4).mono ?_);rintro e a7 ⟨v,rfl,⟨L,A,c,rfl,U,Y,ab,Z⟩,R,H⟩;obtain⟨a9,f0,a8⟩:=ec (.slice A L c) (bR Q.o H O);have ao:=zH U;have ap:=zH Y;have a2:=zH ab;have a0:=zH Z;have ad:=zH R;have am:=zH ((aN (row:=some b) J.o).trans H);clear U Y ab Z R H)
 have a1:(w:Nat)<W:=(aM.1 Q.o).1;refine ax (v:=.agg (bL A L c)) (by simp[results,results149,go_sem, *]) rfl ⟨_,rfl,?_,ad.iP (a:=⟨w,0,none⟩) O _,bW am (a:=⟨w,0,none⟩) (ag _) _⟩;exact⟨L,A,c,rfl,ao,ap,a2,(At.setCell a0 (a:=⟨w,0,none⟩) a1 _).mono RU⟩
end Go.Proofs.YtdpgblncijojiaaGreatDoor
