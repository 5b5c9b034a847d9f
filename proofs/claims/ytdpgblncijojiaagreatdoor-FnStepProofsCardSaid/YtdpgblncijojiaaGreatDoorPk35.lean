/- Parts of the walks. Conditions: as stated with each. -/
import Derived.Test.YtdpgblncijojiaaGreatDoorPk33
import Derived.Test.YtdpgblncijojiaaGreatDoorPk34
namespace Go.Proofs.YtdpgblncijojiaaGreatDoor
open Go.RowKit Tryz
set_option linter.all false
set_option maxHeartbeats 16000000
set_option maxRecDepth 100000
variable{C:Code}{D J K K' N N' b i:Nat}{E V w wr:aa}{Re:List jR}{Ri:aq}{p:Int}{v0:av}
def Bf(C:Code)(b K z:Nat)(p:Int)(i u N:Nat)(w wr:aa):Prop:=∃L A c,aW wr z (bJ A L c) 176/\aW wr w fg 176/\L.length<=c/\L.length<=N/\ll p L (i,u)/\n_ ((w:Nat)+1) L A wr/\cy C b K wr/\w.grownBy wr (some b)
def Bf.store{u:Nat}(F:w.grownBy wr (some b))(B:wr.grownBy E (some b))(T:aW wr w fg 176)(Z:b < (w:Nat)/\(w:Nat)<D)(H:aW E D #[v0] 176)(I:cy C b K E)(O:Re.length<=J)(Q:Re.length<=N)(U:ll p Re (i,u))(R:n_ (D+1) Re Ri E):Bf C b K D p i u N w (E.setCell ⟨D,0,none⟩ (.slice Ri Re J)):=by have z:=bw E D 0 _ _ (.slice Ri Re J) H;simp only[nm,jK]at z;refine⟨Re,Ri,J,z,?_,O,Q,U,(At.setCell R (a:=⟨D,0,none⟩) (jL D) _).mono Ry,I.iM (a:=⟨D,0,none⟩) (by show b<D;omega) _,bV (F.trans B) (a:=⟨D,0,none⟩) (by show(w:Nat)<=D;omega) _⟩;exact(bx E ⟨D,0,none⟩ _ w.heap.size (by show w.heap.size≠D;omega)).trans (bD T B Z.1)
def Bf.cur{u:Nat}(h:Bf C b K D p i u N w wr):cy C b K wr:=by obtain⟨L,A,c,-,-,-,-,-,-,h,-⟩:=h;exact h
def Bf.wait{u:Nat}(h:Bf C b K D p i u N w wr)(Q:b < (w:Nat)/\(w:Nat)<D)(O:cy C b K' V)(z:wr.grownBy V (some b))(T:N<=N'):Bf C b K' D p i u N' w V:=by obtain⟨L,A,c,B,E,F,R,H,I,-,J⟩:=h;exact⟨L,A,c,bD B z Ry,bD E z Q.1,F,Ry,H,At.drawn I z Ry,O,J.trans z⟩
def Bf.go{u:Nat}(h:Bf C b K D p i u N w wr)(E:b < (w:Nat)/\(w:Nat)<D)(z:cy C b K' V)(B:wr.grownBy V (some b)):Bf C b K' D p i u N w V:=h.wait E z B (ah _)
def zv(p k x:Int)(z:aq)(d lo f g i o:Nat)(w:aa)(D:lo<=(w:Nat))(B:n_ lo [me k x] z w)(F:1<=d)(t1:ll p [me k x] (i,o))(hi:f+i+g<=12)(E:f+o+g<=12):ax 183 #[f,.agg (fH z d),g] w (zje p (f+i+g,f+o+g) 5 lo w):=zaS p [me k x] z d lo f g i o w D B F t1 hi E Rx
def pX(k x:Int)(s:ByteArray)(w:aa)(h:2<=k):ax 181 (cB (g_ k x s)) w fun e w'=>e=.returned (.tuple (bI (oB k:Nat) (qT k:Nat)))/\aj w w':=by have:=rO k x s w;rw[show taI k x=(oB k:Nat) by unfold taI;rw[ak Ry],show taO k x=(qT k:Nat) by unfold taO;rw[ak Ry]]at this;exact this
def zhH(k:Int):oB k<=2/\qT k<=2:=WZ
def dst(a b:Nat):Nat:=(a-b)+(b-a)
def kdB(u z:Nat)(k:Int):Bool:=if u<z then decide (k∈[(10:Int),6,3,11]) else decide (k∈[(4:Int),12,5,9])
def ziU{u:Nat}{k:Int}(h:kdB u D k=true)(z:u<D):qT k=oB k+1/\oB k<=1:=by unfold kdB at h;rw[ar z]at h;exact W9
def ziV{u:Nat}{k:Int}(h:kdB u D k=true)(z:D<u):oB k=qT k+1/\oB k<=2:=by unfold kdB at h;rw[ak Ry]at h;exact W9
def zhI{u:Nat}{k:Int}(p:Int)(h:kdB u D k=true):2<=k/\ll p [me k 0] (oB k,qT k):=by unfold kdB at h;split at h <;>simp at h <;>rcases h with rfl|rfl|rfl|rfl <;>exact⟨RC,zdc RC RC RC RC RC⟩
def zbe(C:Code)(b m:Nat)(w:aa)(p:Int)(am H d8:Nat)(F:cy C b m w)(ib:m<=549755800000)(hR:2<=p)(hS:p<=97)(hi:am<=6)(ip:H<=6)(ii:d8<=7):ax 169 #[.pointer (aX b),p,am,H,d8,.bool false] w (kQ C b (m+300) (TmP p (am,H) 79 w) w):=by
 have bp:=aD w (.cells fg 176) rfl;have gV:=aE w (.cells fg 176);have hV:IntKind.i64.wrap ((d8:Int)+1)=(d8:Int)+1:=Sq;obtain⟨Ez,g9,hl⟩:=dD F.lt F (ll.id p (n:=am) Ry);clear F;go_enter func169,ntmps169
 go_upto_region 1 with(fail)
 generalize w.alloc _=W at gV bp ⊢;obtain⟨bv,g8⟩:=bL bp gV;clear bp gV;go_upto_region 2 with(go_at_call 179;(with_reducible refine(rB am W).mono ?_);rintro e ce ⟨A,c,rfl,F,hv,z⟩;have g7:=zH hv;have hh:=zH F;have e0:=zH (bQ g8 z);have f9:=zH (aA bv z);clear F hv z)
 have b0:=aD ce (.cells (fH A c) 176) rfl;have c9:=aE ce (.cells (fH A c) 176);obtain⟨hm,ET⟩:=bL (show(w:Nat)<W from(aP.1 bv).1) (show b < (w:Nat)/\(w:Nat)<ce from⟨Ez,(aP.1 f9).1⟩);have a5:Bf C b m ce.heap.size p am am 1 w (ce.alloc (.cells (fH A c) 176)):=⟨[me 1 am],A,c,b0,aA f9 c9,hh,ah _,hl,At.mono (At.ext g7 c9) hm,(g9.ext e0).ext c9,(aN e0).trans (aN c9)⟩;generalize ce.alloc _=hL at a5 ⊢;generalize (ce:Nat)=I at a5 ET ⊢;have fn:=zH a5;clear b0 c9 a5 g7 hh e0 f9 hm bv g8 g9 hl W;go_wp2_with (go_at_call 88;(with_reducible refine(cY C b m hL ((d8:Int)+1) fn.o.cur Ry).mono ?_);rintro e U ⟨v,rfl,⟨b1,rfl,ca,-⟩,da,dT⟩;have F_:=zH (show b1<=7 from Ry);have hf:=zH (Bf.go fn ET da dT);clear da dT ca)
 clear fn hV;go_loopw [14,15] (fun d9 kv wr=>∃(u j:Nat),j<=b1/\d9=.int .i64 u/\kv=.int .i64 j/\Hd (u<=6)/\Hd (Bf C b (m+2+8*(b1-j)) I p am u (1+6*(b1-j)) w wr)) (fun _ kv _=>(intOf kv).toNat)
 case atStart=>exact⟨am,b1,ah _,rfl,rfl,zH hi,zH (by simpa using hf.o)⟩
 case round=>
  obtain⟨u,j,ia,rfl,rfl,HU,HI⟩:=hrel;clear hf;by_cases hr:j=0
  .have hz:¬0 < (j:Int):=Ry;clear hr;have hg:=zH (Bf.wait (N':=43+6*(6-dst u H)) (K':=m+58+8*(6-dst u H)) HI ET (HI.cur.mono TA) (vB _ _) TA);go_wp2;go_loopw [14] (fun d9 wr=>∃u:Nat,d9=.int .i64 u/\Hd (u<=6)/\Hd (Bf C b (m+58+8*(6-dst u H)) I p am u (43+6*(6-dst u H)) w wr)) (fun d9 _=>dst (intOf d9).toNat H)
   case atStart=>exact⟨u,rfl,HU,hg⟩
   case round=>
    clear HU HI hg hz;obtain⟨u,rfl,HU,HI⟩:=hrel;obtain⟨c6,g0⟩:=aK (m+58+8*(6-dst u H));have I0:=zH g0;have a5:=HI.o;rw[<-g0]at a5 HI;unfold Bf at a5;obtain⟨L,A,c,b0,bp,eo,d2,ac,B,F,J⟩:=a5;obtain⟨cn,bv,KH,f3,hF,ek,ei,eb,eg,FH⟩:=zjl b0 bp (Ry:L.length<=79) d2 eo ac B F J (Ry:c6<=549755812000);clear b0 bp eo d2 ac B F J g0;obtain⟨a7,rfl⟩:∃a7,a7=wr:=⟨wr,rfl⟩;by_cases en:u=H
    .have h9:((u:Int)!=(H:Int))=false:=by simp[en]
     have b4:=zH en;have it:=di cn.o 0 rfl;obtain⟨es,f0,i0⟩:=dW (.slice A L c) bv;clear en;go_wp2;refine az (v:=.agg (bJ A L c)) (by simp[results,results169,go_sem, *]) rfl ⟨_,rfl,?_,(eb.mono Tz).iM (a:=⟨w,0,none⟩) Ez _,bV eg (a:=⟨w,0,none⟩) (ah _) _⟩;exact⟨L,A,c,rfl,hF,KH,by rw[<-b4.o];exact ek,(At.setCell ei (a:=⟨w,0,none⟩) (jL _) _).mono Ry⟩
    .have io:((u:Int)!=(H:Int))=true:=RX;go_upto_region 14 with(first
      |(go_at_call 85;refine(iw C b c6 a7 [4,12,5,9] _ eb Ty rfl RC RC 4 rfl).mono ?_;rintro e h4 ⟨v,rfl,⟨x,d7,rfl⟩,hw,hy⟩;have hn:=zH d7;have cz:=zH hw;have b5:=zH hy;clear hw hy d7)
      |(go_at_call 184;(with_reducible refine(iZ x 0 h4).mono ?_);rintro e U ⟨A2,c2,rfl,R,B,z⟩;have hb:=zH R;have cK:=zH B;have b3:=zH (cz.ext z);have cO:=zH (b5.trans (aN (row:=some b) z));have ga:=zH (bE b5.size z.size);have hk:=zH b5.size;clear R B z))
     have D:=aD U (.cells (fH A2 c2) 176) rfl;have bm:=aE U (.cells (fH A2 c2) 176);have g4:I < (a7:Nat):=(aP.1 cn).1;obtain⟨ab,a9,e9,Il,Ij⟩:=l_ D (show b < (U:Nat)/\(a7:Nat)<=U/\I < (U:Nat) from⟨(b3.o).lt,ga,gz g4 ga⟩) (At.mono (lo':=I+1) (At.ext cK bm) (bE g4 hk)) (b3.ext bm) (cO.trans (aN bm));generalize U.alloc _=V at D ab e9 Il Ij ⊢;generalize (U:Nat)=y at D a9 ab ⊢;clear D bm g4 cK b3 cO ga cz b5 hk;go_upto_if 89 with(fail)
     go_cut [] from 89 to 94 (fun bd=>∃k A3 c3,aW bd y (fH A3 c3) 176/\1<=c3/\n_ (I+1) [me k 0] A3 bd/\kdB u H k=true/\cy C b (c6+4) bd/\a7.grownBy bd (some b))
     case first=>
      by_cases a2:u<H
      .have cr:(u:Int) < (H:Int):=Ry;have a3:=zH a2;clear a2;go_wp2_with (first
        |(go_at_call 85;refine(iw C b (c6+2) V [10,6,3,11] _ Il Ty rfl RC RC 4 rfl).mono ?_;rintro e Z ⟨v,rfl,⟨hB,d7,rfl⟩,hx,g2⟩;have Q:=zH d7;have cF:=zH hx;have cR:=zH (Ij.trans g2);have b7:=zH (bD ab g2 a9.1);clear hx g2 d7)
        |(go_at_call 184;(with_reducible refine(iZ hB 0 Z).mono ?_);rintro e b2 ⟨a8,ba,rfl,R,B,z⟩;obtain⟨hC,hq,-⟩:=dW (.slice a8 1 ba) (aA b7 z);have gs:=zH (aA b7 z);have e6:=zH R;have f8:=zH B;have e5:=zH (cF.ext z);have fl:=zH (cR.trans (aN (row:=some b) z));have ej:=zH (show y < (Z:Nat) from(aP.1 b7).1);clear R B z))
       go_meet
       have ad:=a9.o;have hT:y < (Z:Nat):=ej.o;exact⟨hB,a8,ba,by have h:=bw b2 y 0 _ _ (.slice a8 1 ba) gs;simpa using h,e6,(At.setCell f8 (a:=⟨y,0,none⟩) hT _).mono Ry,by unfold kdB;rw[ar a3.o];exact fJ Q.o,(e5.iM (a:=⟨y,0,none⟩) ad.1 _).mono Ry,bV fl (a:=⟨y,0,none⟩) ad.2.1 _⟩
      .have cr:¬(u:Int) < (H:Int):=Ry;have a3:=zH a2;clear a2;go_wp2_with fail
       go_meet
       exact⟨x,A2,c2,ab,hb,e9,by unfold kdB;rw[ak a3.o];exact fJ hn.o,Il.mono Ry,Ij⟩
     case rest=>
      clear ab e9 Il Ij hb hn;obtain⟨k,A3,c3,D,a1,B,b9,F,J⟩:=hcut;obtain⟨V,rfl⟩:∃V,V=wc:=⟨wc,rfl⟩;obtain⟨a4,ci,ap,fs,Il,Ij⟩:=lq D a1 B b9 F J;have T:=di D 0 rfl;clear D a1 B b9 F J;obtain⟨q,o,bb,be,c1,c2⟩:=jS ap.o.now (k:=0) rfl;simp only[ta,jJ,me]at be c1 c2;rw[bb]at T;clear bb;have cu:=zH (fun W=>pX k 0 (ByteArray.mk #[]) W (zhI p fs).1);obtain⟨gC,rfl⟩:∃gC,gC=V:=⟨V,rfl⟩;go_upto_if 104 with(go_at_call 181;(with_reducible refine(cu.o gC).mono ?_);rintro e V ⟨rfl,z⟩;have ab:=zH (aA a4 z);have cI:=zH (At.ext ap z);have ha:=zH (Il.ext z);have he:=zH (Ij.trans (aN (row:=some b) z));clear z)
      clear T be c1 c2 cu a4 ap Il Ij;have Il:=ha;have Ij:=he;clear ha he;go_cut [21,22] from 104 to 118 (fun h6 h7 bd=>∃k A3 c3,h6=.int .i64 (oB k:Nat)/\h7=.int .i64 (qT k:Nat)/\oB k<=u/\aW bd y (fH A3 c3) 176/\1<=c3/\n_ (I+1) [me k 0] A3 bd/\kdB u H k=true/\cy C b (c6+4) bd/\a7.grownBy bd (some b))
      case first=>
       by_cases co:oB k<=u
       .have hQ:¬(u:Int) < (oB k:Nat):=Ry;have hj:=zH co;clear co;go_wp2_with fail
        go_meet
        exact⟨k,A3,c3,rfl,rfl,hj,ab,ci,cI,fs,Il,Ij⟩
       .have hQ:(u:Int) < (oB k:Nat):=Ry;have hj:=zH co;clear co;by_cases a2:u<H
        .have cr:(u:Int) < (H:Int):=Ry;have a3:=zH a2;clear a2;have gf:=zH (show oB 6<=u from aT u);go_upto_region 19 with(go_at_call 184;(with_reducible refine(iZ 4 0 V).mono ?_);rintro e Z ⟨ao,a0,rfl,R,B,z⟩;obtain⟨g5,gR,-⟩:=dW (.slice ao 1 a0) (aA ab z);have b7:=zH (aA ab z);have hc:=zH R;have f7:=zH B;have cF:=zH (Il.ext z);have cR:=zH (Ij.trans (aN (row:=some b) z));have c4:=zH (show y < (V:Nat) from(aP.1 ab).1);clear R B z)
         have ad:=a9.o;have D:=bw Z y 0 _ _ (.slice ao 1 a0) b7;simp only[nm,jK]at D;have B:=(At.setCell f7 (a:=⟨y,0,none⟩) c4 (.slice ao 1 a0)).mono (lo':=I+1) (by have:=c4.o;omega);have F:=cF.iM (a:=⟨y,0,none⟩) ad.1 (.slice ao 1 a0);have J:=bV cR (a:=⟨y,0,none⟩) ad.2.1 (.slice ao 1 a0);generalize Z.setCell ⟨y,0,none⟩ _=em at D B F J ⊢;obtain⟨cj,fa,e4,fd⟩:=fS D B F J;clear D B F J g5 gR ad;go_upto_region 21 with(go_at_call 184;(with_reducible refine(iZ 6 0 em).mono ?_);rintro e b2 ⟨a8,ba,rfl,R,B,z⟩;obtain⟨hC,hq,-⟩:=dW (.slice a8 1 ba) (aA cj z);have gs:=zH (aA cj z);have e6:=zH R;have f8:=zH B;have e5:=zH (e4.ext z);have fl:=zH (fd.trans (aN (row:=some b) z));have ej:=zH (show y < (em:Nat) from(aP.1 cj).1);clear R B z)
         have ad:=a9.o;have D:=bw b2 y 0 _ _ (.slice a8 1 ba) gs;simp only[nm,jK]at D;have B:=(At.setCell f8 (a:=⟨y,0,none⟩) ej (.slice a8 1 ba)).mono (lo':=I+1) (by have:=ej.o;omega);have F:=e5.iM (a:=⟨y,0,none⟩) ad.1 (.slice a8 1 ba);have J:=bV fl (a:=⟨y,0,none⟩) ad.2.1 (.slice a8 1 ba);generalize b2.setCell ⟨y,0,none⟩ _=hI at D B F J ⊢;obtain⟨hp,hd,hD,hE⟩:=fS D B F J;clear D B F J hC hq ad;have T:=di hp.o 0 rfl;obtain⟨q,o,bb,be,c1,c2⟩:=jS hd.o.now (k:=0) rfl;simp only[ta,jJ,me]at be c1 c2;rw[bb]at T;clear bb;go_wp2_with (go_at_call 181;(with_reducible refine(pX 6 0 _ hI RC).mono ?_);rintro e h5 ⟨rfl,z⟩;have gn:=zH (aA hp z);have e8:=zH (At.ext hd z);have e3:=zH (hD.ext z);have fb:=zH (hE.trans (aN (row:=some b) z));clear z)
         go_meet
         exact⟨6,a8,ba,rfl,rfl,by have:=gf.o;exact this,gn,e6,e8,by unfold kdB;rw[ar a3.o];decide,e3,fb⟩
        .have cr:¬(u:Int) < (H:Int):=Ry;obtain⟨a3,gf⟩:=bL a2 (show oB 4<=u by show 1<=u;omega);clear a2;go_upto_region 19 with(go_at_call 184;(with_reducible refine(iZ 4 0 V).mono ?_);rintro e Z ⟨ao,a0,rfl,R,B,z⟩;obtain⟨g5,gR,-⟩:=dW (.slice ao 1 a0) (aA ab z);have b7:=zH (aA ab z);have hc:=zH R;have f7:=zH B;have cF:=zH (Il.ext z);have cR:=zH (Ij.trans (aN (row:=some b) z));have c4:=zH (show y < (V:Nat) from(aP.1 ab).1);clear R B z)
         have ad:=a9.o;have D:=bw Z y 0 _ _ (.slice ao 1 a0) b7;simp only[nm,jK]at D;have B:=(At.setCell f7 (a:=⟨y,0,none⟩) c4 (.slice ao 1 a0)).mono (lo':=I+1) (by have:=c4.o;omega);have F:=cF.iM (a:=⟨y,0,none⟩) ad.1 (.slice ao 1 a0);have J:=bV cR (a:=⟨y,0,none⟩) ad.2.1 (.slice ao 1 a0);generalize Z.setCell ⟨y,0,none⟩ _=em at D B F J ⊢;obtain⟨cj,fa,e4,fd⟩:=fS D B F J;clear D B F J g5 gR ad;have T:=di cj.o 0 rfl;obtain⟨q,o,bb,be,c1,c2⟩:=jS fa.o.now (k:=0) rfl;simp only[ta,jJ,me]at be c1 c2;rw[bb]at T;clear bb;go_wp2_with (go_at_call 181;(with_reducible refine(pX 4 0 _ em RC).mono ?_);rintro e h5 ⟨rfl,z⟩;have gn:=zH (aA cj z);have e8:=zH (At.ext fa z);have e3:=zH (e4.ext z);have fb:=zH (fd.trans (aN (row:=some b) z));clear z)
         go_meet
         exact⟨4,ao,a0,rfl,rfl,by have:=gf.o;exact this,gn,hc,e8,by unfold kdB;rw[ak a3.o];decide,e3,fb⟩
      case rest=>
       clear ab cI Il Ij ci fs;obtain⟨k,A3,c3,rfl,rfl,g1,D,a1,B,b9,F,J⟩:=hcut;obtain⟨V,rfl⟩:∃V,V=wc:=⟨wc,rfl⟩;obtain⟨a4,ci,ap,Il,Ij⟩:=l_ D a1 B F J;have c5:=zH (zhI p b9).2;have f4:=zH (show(u<H/\qT k=oB k+1)∨(H<u/\oB k=qT k+1) by
        rcases Nat.lt_or_gt_of_ne en with h|h
        .exact aG ⟨h,(ziU b9 h).1⟩
        .exact aB ⟨h,(ziV b9 h).1⟩)
       clear D a1 B F J b9;obtain⟨E,bi⟩:=aK (oB k);obtain⟨O,bz⟩:=aK (qT k);have hO:=zhH k;rw[<-bi,<-bz]at c5 f4 hO;rw[<-bi]at g1;rw[<-bi,<-bz];have hU:=HU.o;have gc:=c5;obtain⟨ea,KG⟩:=bL g1 (show u-E+O<=6 by have:=f4.o;omega);clear bi bz;have hG:=zH (show ∀d v:Nat,d=u-E->v=d+O->dst v H+1=dst u H/\dst u H<=6/\v<=6 from fun d v hs ht=>by have:=f4.o;unfold dst;omega);obtain⟨d,a1⟩:∃d:Nat,d=u-E:=⟨_,rfl⟩;obtain⟨v,ct⟩:∃v:Nat,v=d+O:=⟨_,rfl⟩;have hW:IntKind.i64.wrap ((u:Int)-(E:Int))=(d:Int):=Sq;have hX:IntKind.i64.wrap ((d:Int)+1)=(d:Int)+1:=Sq;have g3:∀r:Nat,r<=d->IntKind.i64.wrap ((d:Int)-(r:Int))=((d-r:Nat):Int):=fun r ca=>Sq
       have hY:IntKind.i64.wrap ((O:Int)-(E:Int))=(O:Int)-(E:Int):=Sq;have hZ:IntKind.i64.wrap ((u:Int)+((O:Int)-(E:Int)))=(v:Int):=Sq;obtain⟨HD,ee⟩:=bL (aY a1 ct) (show dst v H+1=dst u H/\dst u H<=6/\v<=6 from hG d v a1 ct);clear a1 ct;go_upto_region 23 with(go_at_call 88;(with_reducible refine(cY C b _ V ((d:Int)+1) Il.o Ty).mono ?_);rintro e a6 ⟨v4,rfl,⟨r,rfl,ca,-⟩,db,bo⟩;have cb:r<=d:=Ry;have h0:=g3 r cb;have HR:=zH cb;have e1:=zH db;have b6:=zH (Ij.trans bo);have gm:=zH (bD a4 bo (by have:=a9.o;omega));have e7:=zH (At.drawn ap bo Tx);clear db bo ca cb)
       have br:=bD cn b6 Tx;have c8:=At.drawn ei b6 Tx;have ch:=di br 0 rfl;have T:=di gm.o 0 rfl;obtain⟨c0,gw,f5⟩:=dD (show I+1<=(a6.drew:Nat) from(aP.1 br).1) br c8;clear br c8;refine bk (S:=fun V=>af V I 0 (.slice A L c)/\af V y 0 (.slice A3 1 c3)) 10 RU ⟨ch,T⟩ (fun hHeld=>?_);refine ay 0 ?_;refine ay 1 ?_;refine ay 2 ?_;refine ay 3 ?_;refine ay 4 ?_;refine ay 5 ?_;refine ay 6 ?_;refine ay 7 ?_;refine ay 8 ?_;refine bu 9 fun K hK=>?_
       go_simp
       (with_reducible refine(zv p k 0 A3 c3 (I+1) r (d-r) E O a6.drew c0.o (At.ext e7.o (aF a6)) ci.o gc.o Wc Wt).mono ?_)
       rintro e Z ⟨c7,eA,gL,rfl,dl,d4,ac,B,z⟩;have Q:=zH ((aF a6).trans z);obtain⟨gb,f1,Gd,a3,f2⟩:=l_ (show I+1<=(Z:Nat) from bE (show I+1<=(a6:Nat) from c0.o) Q.o.size) dl d4 (show ll p c7 (u,v) by have hs:=HR.o;have ht:=HD.o;have hN:=ea.o;rw[show u=r+E+(d-r) by omega,show v=r+O+(d-r) by omega];exact ac) B;clear dl d4 ac B z;go_simp;refine hK.out _ _ (fun _=>⟨ag Q.o ch,ag Q.o T⟩) (fun hHeld=>?_);clear hK K;try simp only[Act.put,zA]
       have hHeld:=hHeld RC;refine bu 10 fun K hK=>?_
       go_simp
       (with_reducible refine(D4 C b _ Z p L c7 A eA c gL ((w:Nat)+1) (I+1) am u v (e1.o.ext Q.o) Ty Tw Tx gb.o (At.ext f5.o Q.o) f2.o f1.o ek.o a3.o U_).mono ?_)
       rintro e b2 ⟨h3,rfl,⟨gB,ev,gK,rfl,d1,d3,d6,d5⟩,dc,b8⟩;have cc:=bD (aA gw Q.o) b8 Tx;obtain⟨es,f0,-⟩:=dW (.slice ev gB gK) cc;obtain⟨gA,fo,fz,gd,f6,e2,gi⟩:=zH7 cc d1 d3 d6 d5 dc ((b6.trans (aN Q.o)).trans b8);clear cc d1 d3 d6 d5 dc b8;go_simp;refine hK.out _ _ (fun h=>absurd h RC) (fun hHeld=>?_);clear hK K;try simp only[Act.put,zA]
       refine bu 11 fun K hK=>?_
       go_simp;refine hK.out _ _ (fun h=>absurd h RC) (fun hHeld=>?_);clear hK K;try simp only[Act.put,zA]
       refine dS RU ?_ _;clear es f0 ch T;have b4:=zH (Bf.store (u:=v) (N:=43+6*(6-dst v H)) (K:=m+58+8*(6-dst v H)) eg gi bv ET gA (e2.mono (by have:=ee.o;have:=I0.o;omega)) fo (by have:=fz.o;have:=KH.o;have:=Gd.o;have:=f3.o;have:=ee.o;omega) gd f6);generalize b2.setCell ⟨I,0,none⟩ _=hM at b4 ⊢;go_wp2;go_roundw
       case rel=>exact⟨v,Tv,zH (by have:=ee.o;omega),b4⟩
       case measure=>(try simp[intOf]);have:=ee.o;omega
  .have hz:0 < (j:Int):=Ry;have is:IntKind.i64.wrap ((j:Int)-1)=((j:Int)-1):=by have:=F_.o;rw[aZ];omega
   clear hr;have a5:=HI.o;unfold Bf at a5;obtain⟨L,A,c,b0,bp,eo,d2,ac,B,F,J⟩:=a5;obtain⟨cn,bv,KH,f3,ek,ei,eb,eg,FH⟩:=zH9 b0 bp (show L.length<=43 by have:=F_.o;omega) d2 ac B F J (show m+2+8*(b1-j)<=549755813000 by have:=F_.o;omega);clear b0 bp eo d2 ac B F J;obtain⟨a7,rfl⟩:∃a7,a7=wr:=⟨wr,rfl⟩;go_upto_region 7 with(go_at_call 180;(with_reducible refine(zgz C b _ a7 p eb.o Ty hR hS).mono ?_);rintro e U ⟨v,rfl,⟨k,x,g6,d0,rfl,R,hA,hP,ac,B⟩,da,dT⟩;have ci:=zH R;have I0:=zH hA;have c5:=zH ac;have cK:=zH B;have b3:=zH da;have cO:=zH dT;clear R hA hP ac B da dT)
   have D:=aD U (.cells (fH g6 d0) 176) rfl;have bm:=aE U (.cells (fH g6 d0) 176);obtain⟨a4,a9,ap,Il,Ij⟩:=l_ D (show b < (U:Nat) by have:=(b3.o).lt;exact this) (At.mono (lo':=I+1) (At.ext cK bm) (by have:=(aP.1 cn).1;exact this)) (b3.ext bm) (cO.trans (aN bm));generalize U.alloc _=V at D a4 ap Il Ij ⊢;generalize (U:Nat)=y at D a4 a9 ⊢;have T:=di D 0 rfl;obtain⟨q,o,bb,be,c1,c2⟩:=jS ap.o.now (k:=0) rfl;simp only[ta,jJ,me]at be c1 c2;subst bb;obtain⟨E,bi⟩:=aK (oB k);obtain⟨O,bz⟩:=aK (qT k);have co:=zhH k;rw[<-bi,<-bz]at co;obtain⟨gc,cu⟩:=bL (by rw[bi,bz];exact c5:ll p [me k x] (E,O)) (fun W=>(by have:=pX k x (ByteArray.mk #[]) W I0;rw[<-bi,<-bz]at this;exact this:ax 181 (cB (g_ k x (ByteArray.mk #[]))) W fun e w'=>e=.returned (.tuple (bI E O))/\aj W w'));clear D bm cK b3 cO bi bz c5 U;go_upto_region 8 with(go_at_call 181;(with_reducible refine(cu.o V).mono ?_);rintro e hH ⟨rfl,z⟩;have ho:=zH (aA a4 z);have cI:=zH (At.ext ap z);have cz:=zH (Il.ext z);have b5:=zH (Ij.trans (aN z));clear z)
   clear a4 ap Il Ij T be c1 c2 cu V;have a4:=ho;have ap:=cI;have Il:=cz;have Ij:=b5;clear ho cI cz b5;by_cases a2:u<E
   .have cr:(u:Int) < (E:Int):=Ry;clear a2;exact YX
   .have cr:¬(u:Int) < (E:Int):=Ry;have h1:IntKind.i64.wrap ((u:Int)-(E:Int))=(u:Int)-(E:Int):=by have:=HU.o;rw[aZ];omega
    have h2:IntKind.i64.wrap ((u:Int)-(E:Int)+(O:Int))=(u:Int)-(E:Int)+(O:Int):=by have:=HU.o;rw[aZ];omega
    by_cases hu:(6:Int) < (u:Int)-(E:Int)+(O:Int)
    .exact YX
    .have h8:¬(6:Int) < (u:Int)-(E:Int)+(O:Int):=hu;go_upto_region 9 with(fail)
     obtain⟨ea,KG⟩:=bL (Ry:E<=u) (Ry:u-E+O<=6);have hU:=HU.o;have g1:=ea.o;clear a2 cr hu h1 h2;obtain⟨d,a1⟩:∃d:Nat,d=u-E:=⟨_,rfl⟩;obtain⟨v,ct⟩:∃v:Nat,v=d+O:=⟨_,rfl⟩;have hW:IntKind.i64.wrap ((u:Int)-(E:Int))=(d:Int):=Sq;have hX:IntKind.i64.wrap ((d:Int)+1)=(d:Int)+1:=Sq;have g3:∀r:Nat,r<=d->IntKind.i64.wrap ((d:Int)-(r:Int))=((d-r:Nat):Int):=fun r ca=>Sq
     have hY:IntKind.i64.wrap ((O:Int)-(E:Int))=(O:Int)-(E:Int):=Sq;have hZ:IntKind.i64.wrap ((u:Int)+((O:Int)-(E:Int)))=(v:Int):=Sq;have HD:=zH (aY a1 ct);clear a1 ct;go_upto_region 10 with(go_at_call 88;(with_reducible refine(cY C b _ hH ((d:Int)+1) Il.o Ty).mono ?_);rintro e a6 ⟨v4,rfl,⟨r,rfl,ca,-⟩,db,bo⟩;have cb:r<=d:=Ry;have h0:=g3 r cb;have HR:=zH cb;have e1:=zH db;have b6:=zH (Ij.trans bo);have gm:=zH (bD a4 bo (by have:=a9.o;omega));have e7:=zH (At.drawn ap bo Tx);clear db bo ca cb)
     have br:=bD cn b6 Tx;have c8:=At.drawn ei b6 Tx;have ch:=di br 0 rfl;have T:=di gm.o 0 rfl;obtain⟨c0,gw,f5⟩:=dD (show I+1<=(a6.drew:Nat) from(aP.1 br).1) br c8;clear br c8;refine bk (S:=fun V=>af V I 0 (.slice A L c)/\af V y 0 (.slice (some ⟨q,o,none⟩) 1 d0)) 10 RU ⟨ch,T⟩ (fun hHeld=>?_);refine ay 0 ?_;refine ay 1 ?_;refine ay 2 ?_;refine ay 3 ?_;refine ay 4 ?_;refine ay 5 ?_;refine ay 6 ?_;refine ay 7 ?_;refine ay 8 ?_;refine bu 9 fun K hK=>?_
     go_simp
     (with_reducible refine(zv p k x (some ⟨q,o,none⟩) d0 (I+1) r (d-r) E O a6.drew c0.o (At.ext e7.o (aF a6)) ci.o gc.o Wc Wt).mono ?_)
     rintro e Z ⟨c7,eA,gL,rfl,dl,d4,ac,B,z⟩;have Q:=zH ((aF a6).trans z);obtain⟨gb,f1,Gd,a3,f2⟩:=l_ (show I+1<=(Z:Nat) from bE (show I+1<=(a6:Nat) from c0.o) Q.o.size) dl d4 (show ll p c7 (u,v) by have hs:=HR.o;have ht:=HD.o;have hN:=ea.o;rw[show u=r+E+(d-r) by omega,show v=r+O+(d-r) by omega];exact ac) B;clear dl d4 ac B z;go_simp;refine hK.out _ _ (fun _=>⟨ag Q.o ch,ag Q.o T⟩) (fun hHeld=>?_);clear hK K;try simp only[Act.put,zA]
     have hHeld:=hHeld RC;refine bu 10 fun K hK=>?_
     go_simp
     (with_reducible refine(D4 C b _ Z p L c7 A eA c gL ((w:Nat)+1) (I+1) am u v (e1.o.ext Q.o) Ty Tw Tx gb.o (At.ext f5.o Q.o) f2.o f1.o ek.o a3.o U_).mono ?_)
     rintro e b2 ⟨h3,rfl,⟨gB,ev,gK,rfl,d1,d3,d6,d5⟩,dc,b8⟩;have cc:=bD (aA gw Q.o) b8 Tx;obtain⟨es,f0,-⟩:=dW (.slice ev gB gK) cc;obtain⟨gA,fo,fz,gd,f6,e2,gi⟩:=zH7 cc d1 d3 d6 d5 dc ((b6.trans (aN Q.o)).trans b8);clear cc d1 d3 d6 d5 dc b8;go_simp;refine hK.out _ _ (fun h=>absurd h RC) (fun hHeld=>?_);clear hK K;try simp only[Act.put,zA]
     refine bu 11 fun K hK=>?_
     go_simp;refine hK.out _ _ (fun h=>absurd h RC) (fun hHeld=>?_);clear hK K;try simp only[Act.put,zA]
     refine dS RU ?_ _;clear es f0 ch T;have b4:=zH (Bf.store (u:=v) (N:=1+6*(b1-(j-1))) (K:=m+2+8*(b1-(j-1))) eg gi bv ET gA (e2.mono Ry) fo (by have:=fz.o;have:=KH.o;have:=Gd.o;have:=f3.o;omega) gd f6);generalize b2.setCell ⟨I,0,none⟩ _=hM at b4 ⊢;go_wp2;go_roundw
     case rel=>exact⟨v,j-1,Ry,rfl,RB,zH (by have:=KG.o;have:=HD.o;omega),b4⟩
     case measure=>simp[intOf];omega
def oQ(C:Code)(b m:Nat)(w:aa)(p q:Int)(z B D:Nat)(Q:q=(D:Int))(E:cy C b m w)(F:m<=549755800000)(J:2<=p)(O:p<=97)(hi:z<=6)(I:B<=6)(H:D<=7):ax 169 #[.pointer (aX b),p,z,B,q,.bool false] w (kQ C b (m+300) (TmP p (z,B) 79 w) w):=by subst Q;exact zbe C b m w p z B D E F J O hi I H
def zcr(C:Code)(b m:Nat)(w:aa)(p:Int)(E D:Nat)(b5:cy C b m w)(ga:m<=549755790000)(a8:2<=p)(a9:p<=97)(hi:E<=4)(gb:D<=4):ax 156 #[.pointer (aX b),p,E,D,.bool false] w (kQ C b (m+1000) (TmP p (E,D) 400 w) w):=by
 have cb:=aD w (.cells fg 176) rfl;have b4:=aE w (.cells fg 176);have f9:(E:Int)<=4:=Ry;have gc:(D:Int)<=4:=Ry;have es:IntKind.i64.wrap ((E:Int)+1)=(E:Int)+1:=Sq;have ev:IntKind.i64.wrap ((D:Int)+1)=(D:Int)+1:=Sq;have cc:∀r:Nat,r<=E->IntKind.i64.wrap ((E:Int)-(r:Int))=((E-r:Nat):Int):=fun r am=>Sq
 have ce:∀r:Nat,r<=D->IntKind.i64.wrap ((D:Int)-(r:Int))=((D-r:Nat):Int):=fun r am=>Sq
 obtain⟨Ez,e5⟩:=bL b5.lt b5;clear b5;go_enter func156,ntmps156
 go_upto_region 1 with(fail)
 generalize w.alloc _=W at b4 cb ⊢;obtain⟨fn,ct⟩:=bL cb b4;clear cb b4;go_upto_if 23 with(go_at_call 46;(with_reducible refine(gH C b m W 3 (e5.o.ext ct.o) Ry).mono ?_);rintro e cn ⟨v,rfl,⟨y,rfl⟩,eg,b6⟩;have cu:=zH eg;have cO:=zH ((aN (row:=some b) ct).trans b6);have a5:=zH (bD fn b6 Ez);clear eg b6;cases y)
 .clear es ev cc ce;go_wp2_with (go_at_call 169;(with_reducible refine(oQ C b (m+2) cn p 7 E D 7 rfl cu.o Ry a8 a9 Ry Ry RC).mono ?_);rintro e eA ⟨v,rfl,⟨L,A,c,rfl,O,I,J,B⟩,ac,U⟩;obtain⟨cr,f0,f3⟩:=dW (.slice A L c) (bD a5 U Ez);have be:=zH O;have HL:=zH I;have Z:=zH J;have fa:=zH B;have d6:=zH (show(w:Nat)<cn from(aP.1 a5).1);have a0:=zH ac;have a2:=zH (cO.trans U);clear O I J B ac U)
  refine az (v:=.agg (bJ A L c)) Vm rfl ⟨_,rfl,?_,(a0.mono Ry).iM (a:=⟨w,0,none⟩) Ez _,bV a2 (a:=⟨w,0,none⟩) (ah _) _⟩;exact⟨L,A,c,rfl,be,S7,Z,(At.setCell fa (a:=⟨w,0,none⟩) d6 _).mono (by have:=d6.o;omega)⟩
 .go_upto_region 3 with(first
   |(go_at_call 88;(with_reducible refine(cY C b (m+2) cn ((E:Int)+1) cu.o Ry).mono ?_);rintro e eA ⟨v,rfl,⟨i,rfl,am,-⟩,ac,U⟩;have b9:i<=E:=Ry;have c7:=zH b9;have gd:=cc i b9;have a0:=zH ac;have a2:=zH (cO.trans U);have d1:=zH (bD a5 U Ez);clear ac U b9 am)
   |(go_at_call 88;(with_reducible refine(cY C b (m+4) eA ((D:Int)+1) a0.o Ry).mono ?_);rintro e e0 ⟨v,rfl,⟨o,rfl,am,-⟩,ei,b7⟩;have ca:o<=D:=Ry;have d0:=zH ca;have gf:=ce o ca;have bd:=zH ei;have cR:=zH (a2.trans b7);have d2:=zH (bD d1 b7 Ez);clear ei b7 ca am))
  clear es ev cc ce a5 d1;go_upto_region 4 with(first
   |(go_at_call 169;(with_reducible refine(oQ C b (m+6) e0 p 3 i o 3 rfl bd.o Ry a8 a9 (by have:=c7.o;omega) (by have:=d0.o;omega) RC).mono ?_);rintro e f2 ⟨v,rfl,⟨ea,A1,c1,rfl,-,I,J,B⟩,ej,b8⟩;have bi:=zH I;have br:=zH J;have da:=zH B;have cz:=zH ej;have c0:=zH (cR.trans b8);have d3:=zH (bD d2 b8 Ez);have e4:=zH (show b < (e0:Nat) from bd.lt);clear I J B ej b8)
   |(go_at_call 169;(with_reducible refine(oQ C b (m+306) f2 p 3 (E-i) (D-o) 3 rfl cz.o Ry a8 a9 Ry Ry RC).mono ?_);rintro e e1 ⟨v,rfl,⟨eb,A2,c2,rfl,-,I,J,B⟩,ek,a7⟩;have bm:=zH I;have bv:=zH J;have dc:=zH B;have db:=zH (At.drawn da a7 e4);have cF:=zH ek;have c4:=zH (c0.trans a7);have bo:=zH (bD d3 a7 Ez);clear I J B ek a7)
   |(go_at_call 168;(with_reducible refine(wX ea eb A1 A2 c1 c2 e1 db.o.now dc.o.now br.o.pos bv.o.pos (by have:=bi.o;have:=bm.o;omega)).mono ?_);rintro e ao ⟨A,c,rfl,O,B,H⟩;obtain⟨M,T⟩:∃M,M=ea++eb++[me 16 0]:=⟨_,rfl⟩;rw[<-T]at O B ⊢;have be:=zH O;have a4:=zH B;have HL:=zH (show M.length<=159 by have:=bi.o;have:=bm.o;rw[T];simp;omega);have Z:=zH (show ll p M (E,D) by have f7:=c7.o;have f8:=d0.o;rw[T,show E=i+(E-i) by omega,show D=o+(D-o) by omega];exact br.par bv Ry Ry);have a1:=zH (cF.ext H);have a3:=zH (c4.trans (aN H));have bp:=zH (aA bo H);have Fo:=zH (show(w:Nat)<e1 from(aP.1 bo).1);have f4:=zH H.size;clear O B H T))
  have ba:=aD ao (.cells (bJ A M c) 176) rfl;have ab:=aE ao (.cells (bJ A M c) 176);obtain⟨bz,ET,dl,cI,c5,d4⟩:=lq ba (show b < (w:Nat)/\(w:Nat)<ao from⟨Ez,(aP.1 bp).1⟩) (At.ext a4 ab) (a1.ext ab) (a3.trans (aN (row:=some b) ab)) (aA bp ab);generalize ao.alloc _=V at ba bz dl cI c5 d4 ⊢;generalize (ao:Nat)=z at ba bz ET ⊢;clear ba ab a4 a1 a3 bp bo cF c4 db dc bm bv d3 cz c0 da bi br d2 bd cR a2 a0;go_upto_if 50 with(go_at_call 46;(with_reducible refine(gH C b (m+606) V 2 cI.o Ry).mono ?_);rintro e ap ⟨v,rfl,⟨y,rfl⟩,em,ad⟩;have cK:=zH em;have c6:=zH (c5.trans ad);have d5:=zH (bD d4 ad Ez);have b0:=zH (bD bz ad Tx);have dT:=zH (At.drawn dl ad U1);clear em ad;cases y)
  .have e3:=di b0.o 0 rfl;obtain⟨cr,f0,f3⟩:=dW (.slice A M c) d5;have f1:(M:Int)<=400:=S7;go_wp2;refine az (v:=.agg (bJ A M c)) Vm rfl ⟨_,rfl,?_,(cK.mono Ry).iM (a:=⟨w,0,none⟩) Ez _,bV c6 (a:=⟨w,0,none⟩) (ah _) _⟩;exact⟨M,A,c,rfl,be,S7,Z,(At.setCell dT (a:=⟨w,0,none⟩) Fo _).mono (by have:=Fo.o;omega)⟩
  .have ch:af ap.drew z 0 (.slice A M c):=di b0.o 0 rfl;have e3:af ap z 0 (.slice A M c):=ch;go_upto_region 5 with(fail)
   refine bk (S:=fun V=>af V z 0 (.slice A M c)) 7 RU ch (fun hHeld=>?_);refine ay 0 ?_;refine ay 1 ?_;refine ay 2 ?_;refine ay 3 ?_;refine ay 4 ?_;refine ay 5 ?_;refine bu 6 fun K hK=>?_
   go_simp
   (with_reducible refine(oQ C b (m+608) ap.drew p 2 D D 2 rfl (cK.o.ext (aF ap)) Ry a8 a9 Ry Ry RC).mono ?_)
   rintro e e2 ⟨v,rfl,⟨ee,A3,c3,rfl,-,I,J,B⟩,en,eo⟩;obtain⟨a6,c8,d8,fb,e7⟩:=l_ ((aN (row:=some b) (aF ap)).trans eo) I J B en;obtain⟨fl,b1,fs⟩:=dD (At.drawn dT a6 U1) (bD b0 a6 Tx) (bD d5 a6 Ez);clear I J B en eo;go_simp;refine hK.out _ _ (fun _=>di b1.o 0 rfl) (fun hHeld=>?_);clear hK K;try simp only[Act.put,zA]
   have hHeld:=hHeld RC;refine bu 7 fun K hK=>?_
   go_simp
   (with_reducible refine(Bz M ee A A3 c c3 e2 fl.o.now fb.o.now Z.o.pos d8.o.pos (by have:=HL.o;have:=c8.o;omega)).mono ?_)
   rintro e co ⟨Q,R,rfl,O,B,H⟩;obtain⟨F,T⟩:=aK (M++ee++[me 15 0]);rw[<-T]at O B ⊢;obtain⟨e9,fd,c9,fz,d9,fo⟩:=lq O B (show F.length<=400 by have:=HL.o;have:=c8.o;rw[T];simp;omega) (by rw[T];exact Z.seq d8:ll p F (E,D)) (aA b1 H) (aA fs H);obtain⟨cr,f0,-⟩:=dW (.slice Q F R) d9;obtain⟨e6,e8,d7⟩:=dD (e7.ext H) ((c6.trans a6).trans (aN (row:=some b) H)) (show z < (e2:Nat) from(aP.1 b1).1);clear O B H T;go_simp;refine hK.out _ _ (fun h=>absurd h RC) (fun hHeld=>?_);clear hK K;try simp only[Act.put,zA]
   refine bu 8 fun K hK=>?_
   go_simp;refine hK.out _ _ (fun h=>absurd h RC) (fun hHeld=>?_);clear hK K;try simp only[Act.put,zA]
   refine dS RU ?_ _;have bb:=bw co z 0 _ _ (.slice Q F R) d9;simp only[nm,jK]at bb;have cj:=(bx co ⟨z,0,none⟩ (.slice Q F R) w VR).trans fo;have b3:=bV e8 (a:=⟨z,0,none⟩) VQ (.slice Q F R);have b2:=e6.iM (a:=⟨z,0,none⟩) UH (.slice Q F R);have ci:=(At.setCell fd (a:=⟨z,0,none⟩) d7 (.slice Q F R)).mono (lo':=(w:Nat)+1) (by have:=ET.o;have:=d7.o;omega);generalize co.setCell ⟨z,0,none⟩ _=f5 at bb cj b3 b2 ci ⊢;have gi:=di bb 0 rfl;obtain⟨gm,f6,gn⟩:=dW (.slice Q F R) cj;obtain⟨a3,a1,a4⟩:=dD b3 b2 ci;clear bb cj b3 b2 ci e3 ch cr f0;have f1:(F:Int)<=400:=by have:=c9.o;omega
   go_wp2;refine az (v:=.agg (bJ Q F R)) Vm rfl ⟨_,rfl,?_,(a1.mono Ry).iM (a:=⟨w,0,none⟩) Ez _,bV a3 (a:=⟨w,0,none⟩) (ah _) _⟩;exact⟨F,Q,R,rfl,e9,c9,fz,(At.setCell a4 (a:=⟨w,0,none⟩) (jL _) _).mono Ry⟩
def zgI(C:Code)(b m:Nat)(w:aa)(p:Int)(z B:Nat)(E:cy C b m w)(a2:m<=549755790000)(a4:2<=p)(a5:p<=97)(hi:z<=4)(a3:B<=4):ax 149 (yU (aX b) p z B) w (kQ C b (m+1000) (TmP p (z,B) 400 w) w):=by
 have H:=aD w (.cells fg 176) rfl;have D:=aE w (.cells fg 176);obtain⟨J,ab⟩:=bL E.lt E;clear E;go_enter func149,ntmps149
 go_upto_region 1 with(fail)
 generalize w.alloc _=W at D H ⊢;obtain⟨O,I⟩:=bL H D;clear H D;go_wp2_with (go_at_call 156;(with_reducible refine(zcr C b m W p z B (ab.o.ext I.o) a2 a4 a5 hi a3).mono ?_);rintro e a6 ⟨v,rfl,⟨L,A,c,rfl,R,T,Z,U⟩,Q,F⟩;obtain⟨a8,f0,a7⟩:=dW (.slice A L c) (bD O F J.o);have am:=zH R;have ao:=zH T;have a1:=zH Z;have ap:=zH U;have ac:=zH Q;have ad:=zH ((aN (row:=some b) I).trans F);clear R T Z U Q F)
 have a0:(w:Nat)<W:=(aP.1 O).1;refine az (v:=.agg (bJ A L c)) (by simp[results,results149,go_sem, *]) rfl ⟨_,rfl,?_,ac.iM (a:=⟨w,0,none⟩) J.o _,bV ad (a:=⟨w,0,none⟩) (ah _) _⟩;exact⟨L,A,c,rfl,am,ao,a1,(At.setCell ap (a:=⟨w,0,none⟩) a0 _).mono Ry⟩
def AT(p:Int)(M:aC)(a8:aq)(cK N n:Nat)(w:aa)(am:cP p=true)(cO:aL w a8 M)(s:gZ p N n M)(e2:N<=1048576)(dT:n<=1048576):ax 123 (dp p n a8 N cK) w (yv (nW p n M) w):=by
 obtain⟨d7,hi,d5,d6,Ev⟩:=cM fq;obtain⟨p2,e9⟩:=et am;obtain⟨fa,f8,f3,Z,cI,_⟩:=j7 am p2 s;have br:=zH (vc p M a8 cK N n w am cO s e2 dT);have ca:nW p n M=jM p n (nV p n (jM p n M)):=rfl;have a3:=zH (zcA Z cI);obtain⟨z,cR⟩:=aK (jM p n M);rw[<-cR]at Z a3 br ca;have e8:=Z.1;obtain rfl:z.length=fa:=e8;obtain⟨bm,ej,co⟩:=dD Z am ca;have f4:z.length<=1048576:=Ry;clear Z cI cR s am cO ca;go_enter func123,ntmps123
 go_wp2_with fail
 refine br.mono ?_;rintro e D ⟨A1,c1,rfl,d0,c0⟩;obtain⟨cu,ce⟩:=bL d0.at c0;clear d0 c0 br;go_wp2_with ((at_make;refine iJ _ rfl _ _ 27 rfl D.heap.size 3 d7 (zI 0) 1 dA hi d5 d6 .i64 .i64 n n n rfl rfl rfl rfl SB TB (ah _) ?_;intro fb Es db))
 have ch:=zH (bT db);rw[gl]at Es;have cr:=zH (by rw[jd,iU];exact Es:fb.ownsRow D 3 1 (.slice (aX D) n n) n ((eV (List.replicate n (-1)) 0 0).map (Value.int .i64)));clear Es db;go_loopw [25] (fun i wr=>∃k:Nat,k<=n/\i=.int .i64 k/\wr.ownsRow D 3 1 (.slice (aX D) n n) n ((eV (List.replicate n (-1:Int)) 0 k).map (Value.int .i64))/\aj D wr) (fun i _=>n-(intOf i).toNat)
 case atStart=>exact⟨0,aT _,rfl,cr,ch⟩
 case round=>
  obtain⟨k,ao,rfl,Es,F⟩:=hrel;clear cr ch;by_cases b6:k<n
  .have c6:af wr D k (zI 0):=by rw[Es.cellAt k Ry,bR,l7 _ _ _ (by rw[iU];exact b6)];rfl
   have da:=Es.frozenAt k;have Fj:=(Es.stored k (zI (-1))).1;rw[<-fQ,j4 _ _ _ _ (by rw[fR,ar b6]:(List.replicate n (-1:Int))[k]?=some (-1))]at Fj;obtain⟨HS,HB⟩:=bL Fj (F.setCell (p:=⟨D,k,none⟩) (ah _) (zI (-1)));exact Yv
  .rw[j3 _ _ _ (by rw[iU];omega)]at Es;obtain⟨ct,ci⟩:=bL Es F;clear Es F;go_wp2;go_loopw [34] (fun i wr=>∃k:Nat,k<=z.length/\i=.int .i64 k/\wr.ownsRow D 3 1 (.slice (aX D) n n) n ((ldA n z k).map (Value.int .i64))/\aj D wr) (fun i _=>z.length-(intOf i).toNat)
   case atStart=>exact⟨0,aT _,rfl,ct,ci⟩
   case round=>
    obtain⟨E,f1,rfl,Es,F⟩:=hrel;clear ct ci b6 ao;by_cases b7:E<z.length
    .obtain⟨I,J⟩:=aw b7;obtain⟨bv,o,rfl,ac⟩:=(cu.ext F).here b7;obtain⟨a7,T,ad,U⟩:=ac E I J;have R:=bm.row I (aR J);have ap:pw z E=kG I:=by unfold pw;rw[getD_some J]
     have b5:=a3.ln E b7;have bp:=zH (fun W (b0:aj wr W)=>(by
      have:=zQ I a7 T W (U.ext b0) Ry;rw[<-ap,R]at this;exact this:ax 142 (ey a7 n T) W fun e w'=>e=.returned (zI (pw z E))/\aj W w'))
     rw[R]at ad;obtain⟨bi,ba,bd⟩:=dD Es F (show(ldA n z E).set (pw z E) E=ldA n z (E+1) from rfl);clear J ac U R ap Es F;go_wp2_with ((go_at_call 142;refine(bp.o _ (ai _ _)).mono ?_;rintro e w' ⟨rfl,H⟩;have GW:=ic bi (row:=none) ⟨H.os,H.tape,H.output,H.size,fun k ao _=>H.block k ao⟩ TE;have a1:=bd.o;obtain⟨d,hd⟩:=aw (by rw[CW];exact b5:pw z E < (ldA n z E).length);have c6:af w' D (pw z E) (zI d):=VL;have da:=GW.frozenAt (pw z E);have Fj:=(GW.stored (pw z E) (zI E)).1;rw[<-fQ,a1]at Fj;have HS:=zH Fj;have HB:=zH ((bQ ba H).setCell (p:=⟨D,pw z E,none⟩) (ah _) (zI E));clear Fj GW a1 hd H))
     go_roundw
     case rel=>exact⟨E+1,Ry,RB,HS,HB⟩
     case measure=>simp[intOf];omega
    .have b4:E=z.length:=Ry;subst b4;obtain⟨be,a9⟩:=bL Es F;obtain⟨d8,d3⟩:=aK wr;rw[<-d3]at be a9 ⊢;clear Es F d3;go_wp2;have fz:(D:Nat)<d8:=(b_ be.o D rfl).2;go_loopw [12,13] (fun u12 u13 wr=>∃j:Nat,j<=n/\u13=.int .i64 j/\aI wr ((D:Nat)+1) u12 ((frJ n z j).map (iR p n z))/\Below ((D:Nat)+1) d8 wr) (fun _ u _=>n-(intOf u).toNat)
     case atStart=>exact⟨0,aT _,rfl,aI.empty (kX _ _ _ _),ai _ _⟩
     case round=>
      obtain⟨j,f0,rfl,Es,F⟩:=hrel;obtain⟨B,rfl⟩:∃B,B=wr:=⟨wr,rfl⟩;obtain⟨bo,cn⟩:=bL Es F;have f5:=F.size;clear Es;have ev:=zH (cu.ext ((a9.trans (F.mono Ry))));by_cases b8:j<n
      .obtain⟨x,cc⟩:=aw (by rw[CW];exact b8:j < (ldA n z z).length);obtain⟨a5,f6,f7⟩:=zcP cc;have e5:af B D j (zI x):=(F.cell (p:=⟨D,j,none⟩) Rx).trans (by rw[be.o.cellAt j Ry,bR,cc];rfl);clear cc F;by_cases d4:0<=x
       .have bb:=zH (zid (n:=n) (a5.1 d4));clear a5;go_wp2;go_roundw
        case rel=>exact⟨j+1,Ry,RB,by rw[bb.o];exact bo,cn⟩
        case measure=>simp[intOf];omega
       .have b3:lG (pw z) z j:=fun i hi e=>d4 (a5.2 ⟨i,hi,e⟩)
        obtain⟨bb,ek⟩:=bL (zg7 (n:=n) b3) (zic p2 rfl a3.o b8 b3);clear a5 b3;go_wp2_with ((at_make;refine iJ _ rfl _ _ 27 rfl B.heap.size 3 d7 (zI 0) 1 dA hi d5 d6 .i64 .i64 n n n rfl rfl rfl rfl SB TB (ah _) ?_;intro d9 a0 dc;have c4:=bT dc;rw[gl]at a0;have e4:af d9 B j (zI 0):=(by rw[a0.cellAt j Ry,bR,fR,ar b8];rfl);have e6:=a0.frozenAt j;have cb:=(a0.stored j (zI 1)).1;rw[<-fQ]at cb;have cz:=zH (show(d9.setCell ⟨B,j,none⟩ (zI 1)).ownsRow B 3 1 (.slice (aX B) n n) n ((frA p n z j 0).map (Value.int .i64)) from cb);have cj:=zH (c4.setCell (p:=⟨B,j,none⟩) (ah _) (zI 1));clear cb a0 dc c4))
        clear e4 e6;go_loopw [62] (fun u ea=>∃k:Nat,k<=z.length/\u=.int .i64 k/\ea.ownsRow B 3 1 (.slice (aX B) n n) n ((frA p n z j k).map (Value.int .i64))/\aj B ea) (fun u _=>z.length-(intOf u).toNat)
        case atStart=>exact⟨0,aT _,rfl,cz,cj⟩
        case round=>
         obtain⟨k,f2,rfl,a4,Q⟩:=hrel;clear cz cj e5;by_cases b9:k<z.length
         .obtain⟨I,J⟩:=aw b9;obtain⟨bv,o,rfl,ac⟩:=ev.here b9;obtain⟨a7,T,b2,U⟩:=ac k I J;have fo:bv < (B:Nat):=iC b2;have ad:=ag Q b2;have R:=bm.row I (aR J);have ap:pw z k=kG I:=by unfold pw;rw[getD_some J]
          have b5:=a3.ln k b9;obtain⟨y,a2⟩:=aw (Ry:j<I.length);obtain⟨ab,a6,rfl,b1⟩:=U.here (Ry:j<I.length);have fn:ab < (B:Nat):=iC (b1 _ _ a2);have c7:=ag Q (b1 _ _ a2);have c8:eM z k j=y:=by unfold eM;rw[getD_some J,getD_some a2]
          obtain⟨fd,fl⟩:=bm.el I (aR J) y (aR a2);have bp:=zH (fun W (b0:aj wr W)=>(by
           have:=zQ I (some ⟨ab,a6,none⟩) T W ((U.ext Q).ext b0) Ry;rw[<-ap,R]at this;exact this:ax 142 (ey (some ⟨ab,a6,none⟩) n T) W fun e w'=>e=.returned (zI (pw z k))/\aj W w'))
          rw[R]at ad;obtain⟨bi,ba,bd⟩:=dD a4 Q (by rw[<-c8,<-zae];rfl:(frA p n z j k).set (pw z k) (-y%p)=frA p n z j (k+1));clear J ac U b2 R ap a4 Q b1 a2 c8;go_wp2_with fail
          go_region_held3 (fun W=>af W bv (o+k) (.slice (some ⟨ab,a6,none⟩) n T)/\af W ab (a6+j) (zI y))
           (first|exact bz|exact⟨ad,c7⟩|(refine⟨?_,?_⟩<;>(first|(refine(cD Sn).trans ?_;first|exact bz.1|exact bz.2)|trace_state)))
           ((first|(go_at_call 142;refine(bp.o _ (ai _ _).drew).mono ?_;rintro e w' ⟨rfl,H⟩;have bz:=aY (ag H ad) (ag H c7);have O:=(ai wr wr).drew.trans H;have GW:=ic bi (row:=none) ⟨O.os,O.tape,O.output,O.size,fun k ao _=>O.block k ao⟩ TE;have a1:=bd.o;obtain⟨d,hd⟩:=aw (by rw[yG];exact b5:pw z k < (frA p n z j k).length);have c6:af w' B (pw z k) (zI d):=VL;have da:=GW.frozenAt (pw z k);have Fj:=(GW.stored (pw z k) (zI (-y%p))).1;rw[<-fQ,a1]at Fj;have HS:=zH Fj;have HB:=zH ((bQ ba O).setCell (p:=⟨B,pw z k,none⟩) (ah _) (zI (-y%p)));clear Fj GW a1 hd H O)|(go_at_call 119;refine(sl p y _ p2 e9 fd fl).mono ?_;rintro e ga ⟨rfl,rfl⟩)))
          all_goals go_wp2
          all_goals go_roundw
          all_goals try (case rel=>exact⟨k+1,Ry,RB,HS,HB⟩)
          all_goals (try (simp[intOf];omega))
         .have b4:k=z.length:=Ry;subst b4;have eo:=zH (show au wr B (.slice (aX B) n n) (iR p n z j) by have h:=a4;rw[ek.o]at h;unfold au;rw[show(iR p n z j).length=n by simp[iR]];exact h)
          obtain⟨ei,em,en⟩:=dD Q (show((frJ n z j).map (iR p n z)).length+1<=1073741824 by rw[bl];have:=zcR n z j;omega) (by rw[bb.o,wM];rfl:(frJ n z (j+1)).map (iR p n z)=(frJ n z j).map (iR p n z)++[iR p n z j]);clear a4 Q;go_wp2_with ((at_builtin;refine j5 rfl _ _ rfl ((D:Nat)+1) B _ _ _ _ _ bo ei.o eo.o em.o Ry rfl rfl ?_;intro f9 gb e7 e3))
          go_roundw
          case rel=>exact⟨j+1,Ry,RB,by rw[en.o];exact e7,cn.trans e3⟩
          case measure=>simp[intOf];omega
      .have dl:j=n:=Ry;have Es:=bo.o;rw[dl,zg6]at Es;have c9:(xS n z).map (iR p n z)=nV p n z:=rfl;rw[c9]at Es;obtain⟨eb,e0,rfl,d1,_⟩:=Es.view;have fs:(nV p n z).length<=n:=by unfold nV;rw[bl];exact zcR n z n
       obtain⟨eA,cF⟩:=bL (vc p (nV p n z) eb e0 (nV p n z) n B ej d1 (by rw[wY p2 |>.1];exact wY p2) Ry dT) (ce.trans ((a9.trans (F.mono Ry)).mono ce.size));clear Es d1 c9 dl F;go_wp2_with fail
       refine eA.mono ?_;rintro e gc ⟨ee,e1,rfl,d2,c5⟩;obtain⟨es,eg⟩:=bL d2 c5;clear d2 c5;go_wp2;go_ret
       exact⟨ee,e1,by rw[co.o];rfl,by rw[co.o];exact es.mono cF.size,bQ cF eg⟩
end Go.Proofs.YtdpgblncijojiaaGreatDoor
