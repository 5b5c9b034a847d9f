/- Parts of the walks. Conditions: as stated with each. -/
import Derived.Test.YtdpgblncijojiaaGreatDoorPk46
import Derived.Test.YtdpgblncijojiaaGreatDoorPk48
namespace Go.Proofs.YtdpgblncijojiaaGreatDoor
open Go.RowKit Tryz
set_option linter.all false
set_option maxHeartbeats 16000000
set_option maxRecDepth 100000
variable{A A1 A2 A3:an}{B D K K' b c c1 c2 c3 j k lo m x:Nat}{C:Code}{E V w w':aa}{G:Gr}{H R RR U u v v0 v1 v2 z2:au}{P:iS}{RM:aG}{cs:gh}{h h' p:Int}{row:Option Nat}{t:dG}
def tj(C:Code)(b K D:Nat)(p:Int)(w V:aa):Prop:=∃G A1 c1 A2 c2 A3 c3,aU V D (bI G A1 c1 A2 c2 A3 c3) 151/\aU V w cw 151/\wG p G/\At ((w:Nat)+1) (fun z=>nX z A1 A2 A3 G) V/\cH C b K V/\w.grownBy V (some b)
def tj.cur(h:tj C b K D p w V):cH C b K V:=by obtain⟨G,A1,c1,A2,c2,A3,c3,-,-,-,-,h,-⟩:=h;exact h
def tj.go(h:tj C b K D p w V)(R:b < (w:Nat)/\(w:Nat)<D)(Q:cH C b K' E)(z:V.grownBy E (some b)):tj C b K' D p w E:=by obtain⟨G,A1,c1,A2,c2,A3,c3,F,H,I,J,-,O⟩:=h;exact⟨G,A1,c1,A2,c2,A3,c3,bR F z RU,bR H z R.1,I,At.drawn J z RU,Q,O.trans z⟩
def tj.mono(h:tj C b K D p w V)(O:K<=K'):tj C b K' D p w V:=by obtain⟨G,A1,c1,A2,c2,A3,c3,z,E,F,H,I,J⟩:=h;exact⟨G,A1,c1,A2,c2,A3,c3,z,E,F,H,I.mono O,J⟩
def tj.store(I:wG p G)(Y:aU V D #[H,R,U,RR] 151)(O:aU V w cw 151)(Z:b < (w:Nat)/\(w:Nat)<D)(F:Fr V lo V (fun z=>nX z A1 A2 A3 G))(J:D<lo)(E:cH C b K V)(Q:w.grownBy V (some b)):tj C b K D p w (eh V D (zI (G.w:Nat)) (.slice A1 G.es c1) (.slice A2 G.i c2) (.slice A3 G.o c3)):=⟨G,A1,c1,A2,c2,A3,c3,cT Y,(jW RU).trans O,I,⟨_,by rw[ey];exact ag _,(F.eh J).to RU (ag _)⟩,zG E RU,tJ Q RU⟩
def tj.new(F:wG p G)(H:aU V w cw 151)(E:At ((w:Nat)+1) (fun z=>nX z A1 A2 A3 G) V)(D:cH C b K V)(I:w.grownBy V (some b)):tj C b K V p w (V.alloc (.cells (bI G A1 c1 A2 c2 A3 c3) 151)):=⟨G,A1,c1,A2,c2,A3,c3,az V _ rfl,ak H (aD V _),F,At.ext E (aD V _),D.ext (aD V _),I.trans (aN (aD V _))⟩
def tj.back(J:wG p G)(I:At ((w:Nat)+1) (fun z=>nX z A1 A2 A3 G) V)(H:cH C b K V)(O:w.grownBy V (some b))(F:b < (w:Nat)):kM C b K (GdP p w) w (.returned (.agg (bI G A1 c1 A2 c2 A3 c3))) (eh V w (zI (G.w:Nat)) (.slice A1 G.es c1) (.slice A2 G.i c2) (.slice A3 G.o c3)):=by refine⟨_,rfl,⟨G,A1,c1,A2,c2,A3,c3,rfl,J,?_⟩,zG H F,tJ O (ag _)⟩;obtain⟨hi,D,E⟩:=I;exact⟨hi,by rw[ey];exact D,(E.eh (iV _)).to RU (ag _)⟩
def zc7(h:aU V b (cG x) 3):aT V (some ⟨b,0,none⟩) (bF [x]):=DC h rfl
def zc8(a c:Nat)(w:aa):aw 151 (bP a c) w fun e w'=>e=.returned (zI (min a c:Nat))/\w=w':=by have:=wR a c w;rw[show min (a:Int) c=((min a c:Nat):Int) by omega]at this;exact this
def At.fr(h:At lo P w):Fr w lo w P:=by obtain⟨hi,z,D⟩:=h;exact D.to (ag _) z
def zZ(C:Code)(b m:Nat)(w:aa)(p:Int)(F:cH C b m w)(e1:m<=274877800000)(c7:2<=p)(eb:p<=97):aw 137 (lO (aY b) p) w (kM C b (m+10000) (GdP p w) w):=by
 have E:=az w (.cells cw 151) rfl;have bm:=aD w (.cells cw 151);obtain⟨Ew,b5⟩:=bS F.lt F;clear F;go_enter func137,ntmps137
 go_upto_region 1 with(fail)
 generalize w.alloc _=W at bm E ⊢;obtain⟨cj,a5⟩:=bS E bm;clear E bm;go_upto_region 2 with(first
  |(go_at_call 88;(with_reducible refine(dg C b m W 4 (b5.o.ext a5.o) RU).mono ?_);rintro e eg ⟨v,rfl,⟨i,rfl,am,-⟩,Q,J⟩;have cr:=zH (RU:i<=4);have b6:=zH Q;have b9:=zH ((aN (row:=some b) a5.o).trans J);have ck:=zH (bR cj.o J Ew.o);clear Q J am)
  |(go_at_call 88;(with_reducible refine(dg C b (m+2) eg 4 b6.o RU).mono ?_);rintro e ei ⟨v,rfl,⟨o,rfl,am,-⟩,cF,bo⟩;have ct:=zH (RU:o<=4);have b7:=zH cF;have ca:=zH (b9.o.trans bo);have cn:=zH (bR ck.o bo Ew.o);clear cF bo am)
  |(go_at_call 149;(with_reducible refine(zf_ C b (m+4) ei p i o b7.o RU c7 eb cr.o ct.o).mono ?_);rintro e ej ⟨v,rfl,⟨L,A,c,rfl,c4,c5,c8,c6⟩,cI,bp⟩;have cc:=zH c4;have ce:=zH c5;have cu:=zH c8;have ci:=zH c6;have b8:=zH cI;have cb:=zH (ca.o.trans bp);have a1:=zH (bR cn.o bp Ew.o);clear c4 c5 c8 c6 cI bp)
  |(go_at_call 148;(with_reducible refine(zf3 p L (i,o) A c ej c7 ci.o.now cu.o ce.o cc.o).mono ?_);rintro e b0 ⟨G,U,A1,c1,A2,c2,A3,c3,rfl,D,H⟩;have I:=zH (tj.new (c1:=c1) (c2:=c2) (c3:=c3) U (ak a1.o H) ⟨_,ag _,D.to (aM.1 a1.o).1 (ag _)⟩ (b8.o.ext H) (cb.o.trans (aN H)));have ER:=zH (show b < (w:Nat)/\(w:Nat)<b0 from⟨Ew.o,(aM.1 (ak a1.o H)).1⟩);clear U D H))
 generalize b0.alloc _=ad at I ⊢;generalize (b0:Nat)=Z at I ER ⊢;clear cc ce cu ci b8 cb a1 b7 ca cn ct b6 b9 ck cr a5 cj b5;go_upto_if 15 with(go_at_call 46;(with_reducible refine(gX C b (m+4+1000) ad 4 I.o.cur RU).mono ?_);rintro e ac ⟨v,rfl,⟨y,rfl⟩,Q,J⟩;have HI:=zH (I.o.go ER.o Q J);clear Q J)
 clear I;go_cut [] from 15 to 28 (fun V=>tj C b (m+1010) Z p w V)
 case first=>
  cases y
  .exact Xi
  .have eA:m+4+1000+2<=m+1010:=RU;have O:=HI.o;unfold tj at O;obtain⟨G,A1,c1,A2,c2,A3,c3,z,E,R,D,F,Y⟩:=O;obtain⟨ab,bb,a0,a7,a6,bd⟩:=mA z E R D F Y;clear z E R D F Y HI;obtain⟨ap,a4⟩:=aO G.i.length;obtain⟨no,bv⟩:=aO G.o.length;obtain⟨a9,ba⟩:=bS a4 bv;have ea:min ap no<=12:=by have:=(Gr.gl.1 a0.o.ok).2.2.1;rw[<-a4]at this;omega
   obtain⟨ao,br⟩:=aO (min ap no);have e2:IntKind.i64.wrap (1+(ao:Int))=1+(ao:Int):=SQ;obtain⟨ch,d5⟩:=bS br (show ∀V,aw 151 (bP ap no) V fun e w'=>e=.returned (zI (ao:Nat))/\V=w' from fun V=>by rw[br];exact zc8 ap no V);have z:=ab.o;rw[<-a4,<-bv]at z;have bi:=aK (show ac.drew.heap[Z]?=_ from z);clear a4 bv ea br z;go_upto_region 3 with(fail)
   refine bJ (S:=fun V=>ah V Z 0 (zI (G.w:Nat))/\ah V Z 1 (.slice A1 G.es c1)/\ah V Z 2 (.slice A2 ap c2)/\ah V Z 3 (.slice A3 no c3)) 11 Si bi (fun hHeld=>?_);refine aC 0 ?_;refine aC 1 ?_;refine aC 2 ?_;refine aC 3 ?_;refine aC 4 ?_;refine aC 5 ?_;refine aC 6 ?_;refine aC 7 ?_;refine bM 8 fun K hK=>?_
   go_simp
   (with_reducible refine(d5.o _).mono ?_)
   rintro e e4 ⟨rfl,rfl⟩;go_simp;refine hK.out _ _ (fun _=>bi) (fun hHeld=>?_);clear hK K;try simp only[Act.put,zA]
   have hHeld:=hHeld RX;refine aC 9 ?_;refine bM 10 fun K hK=>?_
   go_simp
   (with_reducible refine(dg C b (m+4+1000+2) ac.drew (1+(ao:Int)) (a6.o.ext (aI ac)) RU).mono ?_)
   rintro e ek ⟨v,rfl,⟨r,rfl,am,-⟩,cO,c0⟩;obtain⟨co,a2⟩:=bS (RU:r<=ao) ((aN (row:=some b) (aI ac)).trans c0);obtain⟨be,d6,d0,dl,d4⟩:=lv (bR ab.o a2.o TN) (bR bb.o a2.o Ew.o) (At.drawn a7.o a2.o TM) cO (bd.o.trans a2.o);have bz:=be.o;rw[<-a9.o,<-ba.o]at bz;have cy:=aK bz;clear cO c0 am bz;go_simp;refine hK.out _ _ (fun _=>cy) (fun hHeld=>?_);clear hK K;try simp only[Act.put,zA]
   have hHeld:=hHeld RX;refine bM 11 fun K hK=>?_
   go_simp;have cz:=zag p G A1 A2 A3 c1 c2 c3 r ek d0.o.now a0.o (by have d7:=co.o;have d8:=ch.o;have d9:=a9.o;omega) (by have d7:=co.o;have d8:=ch.o;have d9:=ba.o;omega);rw[<-a9.o,<-ba.o]at cz
   (with_reducible refine cz.mono ?_)
   rintro e em ⟨b4,U,b1,d1,b2,d2,b3,d3,rfl,D,H⟩;have z:=ak be.o H;obtain⟨c9,da,db,dc⟩:=aK z;obtain⟨f0,f1,f2,f3⟩:=cP z;have a8:=zH (tj.store (G:=b4) (A1:=b1) (A2:=b2) (A3:=b3) (c1:=d1) (c2:=d2) (c3:=d3) U z (ak d6.o H) ER.o (D.to (ag _) (ag _)) (aM.1 be.o).1 (dl.o.ext H) (d4.o.trans (aN H)));clear z U D H;go_simp;refine hK.out _ _ (fun h=>absurd h RX) (fun hHeld=>?_);clear hK K;try simp only[Act.put,zA]
   refine bM 12 fun K hK=>?_
   go_simp;refine hK.out _ _ (fun h=>absurd h RX) (fun hHeld=>?_);clear hK K;try simp only[Act.put,zA]
   refine eC Si ?_ _;clear bi cy;go_wp2_with fail
   go_meet
   exact a8.o.mono RU
 case rest=>
  clear HI;have I:=zH hcut;clear hcut;obtain⟨ad,rfl⟩:∃ad,ad=wc:=⟨wc,rfl⟩;go_upto_if 29 with(go_at_call 46;(with_reducible refine(gX C b (m+1010) ad 2 I.o.cur RU).mono ?_);rintro e ac ⟨v,rfl,⟨y,rfl⟩,Q,J⟩;have HI:=zH (I.o.go ER.o Q J);clear Q J)
  clear I;go_cut [] from 29 to 33 (fun V=>tj C b (m+10000) Z p w V)
  case first=>
   cases y
   .exact Xi
   .have e0:m+1012<=m+10000:=RU;have O:=HI.o;unfold tj at O;obtain⟨G,A1,c1,A2,c2,A3,c3,z,E,R,D,F,Y⟩:=O;obtain⟨ab,bb,a0,a7,a6,bd⟩:=mA z E R D F Y;clear z E R D F Y HI;obtain⟨e5,e6,e7,e8⟩:=aK ab.o;go_wp2_with (go_at_call 152;(with_reducible refine(CK C b (m+1010+2) ((w:Nat)+1) ac p G A1 A2 A3 c1 c2 c3 a6.o RU TM a7.o a0.o).mono ?_);rintro e em ⟨e3,rfl,⟨b4,b1,d1,b2,d2,b3,d3,rfl,U,D⟩,cR,a3⟩;have z:=bR ab.o a3 TN;obtain⟨c9,da,db,dc⟩:=aK z;obtain⟨f0,f1,f2,f3⟩:=cP z;have a8:=zH (tj.store (c1:=d1) (c2:=d2) (c3:=d3) U z (bR bb.o a3 Ew.o) ER.o (At.fr D) (aM.1 ab.o).1 cR (bd.o.trans a3));clear z U D cR a3)
    go_meet
    exact a8.o.mono RU
  case rest=>
   clear HI;have HI:=zH hcut;clear hcut;have O:=HI.o;unfold tj at O;obtain⟨G,A1,c1,A2,c2,A3,c3,z,E,R,D,F,Y⟩:=O;obtain⟨e9,fa,z2,fb⟩:=aK z;obtain⟨c9,da,db,dc⟩:=aK E;obtain⟨f0,f1,f2,f3⟩:=cP E;have y:=cT (v0:=.int .i64 (G.w:Nat)) (v1:=.slice A1 G.es c1) (v2:=.slice A2 G.i c2) (v3:=.slice A3 G.o c3) E;obtain⟨en,eo,es,ev⟩:=aK y;unfold eh at en eo es ev;have dT:=zH (tj.back (c1:=c1) (c2:=c2) (c3:=c3) R D (F.mono (ag _)) Y ER.o.1:kM C b (m+10000) _ _ _ _);clear z E R D F Y y;go_wp2;exact ax (v:=.agg (bI G A1 c1 A2 c2 A3 c3)) (by simp[results,results137,go_sem, *]) rfl dT.o
def zc9(C:Code)(b m:Nat)(w:aa)(p:Int)(hc:cH C b m w)(co:m<=274877700000)(b7:2<=p)(b8:p<=97):aw 116 (lO (aY b) p) w (kM C b (m+10100) (GdP p w) w):=by
 have hq:=az w (.cells cw 151) rfl;have a3:=aD w (.cells cw 151);have b1:∀r:Nat,r<5->IntKind.i64.wrap ((r:Int)-2)=(r:Int)-2:=fun r ao=>SQ
 obtain⟨Ew,ba⟩:=bS hc.lt hc;clear hc;go_enter func116,ntmps116
 go_upto_region 1 with(fail)
 generalize w.alloc _=W at a3 hq ⊢;obtain⟨a0,ap,bm⟩:=d_ hq a3 (show(w:Nat)<W from(aM.1 hq).1);clear hq a3;go_upto_region 2 with(go_at_call 137;(with_reducible refine(zZ C b m W p (ba.o.ext ap.o) RU b7 b8).mono ?_);rintro e E ⟨v,rfl,⟨G,A1,c1,A2,c2,A3,c3,rfl,b0,hf⟩,U,O⟩;have Z:=zH (tj.new (c1:=c1) (c2:=c2) (c3:=c3) b0 (bR a0.o O Ew.o) (At.mono hf bm.o) U ((aN (row:=some b) ap.o).trans O));have ER:=zH (show b < (w:Nat)/\(w:Nat)<E from⟨Ew.o,(aM.1 (bR a0.o O Ew.o)).1⟩);clear b0 hf U O)
 generalize E.alloc _=b6 at Z ⊢;generalize (E:Nat)=Q at Z ER ⊢;clear bm ap a0 ba;go_wp2_with (go_at_call 88;(with_reducible refine(dg C b (m+10000) b6 5 Z.o.cur RU).mono ?_);rintro e ch ⟨v,rfl,⟨r0,rfl,ao,-⟩,bv,bz⟩;have a4:r0<5:=RU;have b9:=b1 r0 a4;have FP:=zH a4;have be:=zH (Z.o.go ER.o bv bz);clear bv bz ao a4)
 clear Z b1;go_loopw [6] (fun kv wr=>∃kk:Int,-2<=kk/\kk<=2/\kv=.int .i64 kk/\Hd (tj C b (m+10002+4*(2-kk).toNat) Q p w wr)) (fun kv _=>(intOf kv).toNat)
 case atStart=>exact⟨(r0:Int)-2,TQ,TQ,TL,zH (be.o.mono RU)⟩
 case round=>
  obtain⟨kk,ck,cn,rfl,ad⟩:=hrel;clear be b9;by_cases ci:0<kk
  .obtain⟨I,br⟩:=aO (m+10002+4*(2-kk).toNat);have E_:=zH (RU:I<=274877800000/\I=m+10002+4*(2-kk).toNat/\I<=m+10018);by_cases am:∃G A1 c1 A2 c2 A3 c3,1 < (G.w:Int)/\aU wr Q (bI G A1 c1 A2 c2 A3 c3) 151/\aU wr w cw 151/\wG p G/\At ((w:Nat)+1) (fun b5=>nX b5 A1 A2 A3 G) wr/\cH C b I wr/\w.grownBy wr (some b)
   .obtain⟨G,A1,c1,A2,c2,A3,c3,am,hz,hq,hg,hf,hc,hw⟩:=am;obtain⟨a2,bi,D,bd,b3,bo⟩:=mA hz hq hg hf hc hw;have cj:=E_.o.2;obtain⟨ca,-,-,-⟩:=aK hz;have S0:=aK (show wr.drew.heap[Q]?=_ from hz);have ct:IntKind.i64.wrap (kk-1)=kk-1:=SQ;clear hz hq hg hf hc hw ad br;go_upto_region 5 with(fail)
    clear ca;refine bJ (S:=fun V=>ah V Q 0 (zI (G.w:Nat))/\ah V Q 1 (.slice A1 G.es c1)/\ah V Q 2 (.slice A2 G.i c2)/\ah V Q 3 (.slice A3 G.o c3)) 11 Si S0 (fun hHeld=>?_);refine aC 0 ?_;refine aC 1 ?_;refine aC 2 ?_;refine aC 3 ?_;refine aC 6 ?_;refine aC 7 ?_;refine aC 8 ?_;refine bM 4 fun K hK=>?_
    go_simp
    (with_reducible refine(dg C b I wr.drew (G.w:Nat) (b3.o.ext (aI wr)) TO).mono ?_)
    rintro e E ⟨v,rfl,⟨r,rfl,ao,-⟩,U,O⟩;obtain⟨HR,a1,bb,b2⟩:=fU (RU:r<G.w) ((aN (row:=some b) (aI wr)).trans O) U U.lt;have bp:=aK (bR a2.o a1.o TN);clear U O ao;go_simp;refine hK.out _ _ (fun _=>bp) (fun hHeld=>?_);clear hK K;try simp only[Act.put,zA]
    have hHeld:=hHeld RX;refine zbs (i:=5) (j:=9) Si rfl rfl (fun K hK=>?_) (fun K hK=>?_)
    .go_simp;refine hK.out _ _ (fun _=>zaW (aD E _) bp) (fun hHeld=>?_);clear hK K;try simp only[Act.put,zA]
     have hHeld:=hHeld RX;refine bM 9 fun K hK=>?_
     go_simp
     (with_reducible refine(dg C b (I+2) (E.alloc (.cells (cG r) 3)) (G.w:Nat) (bb.o.ext (aD E _)) TO).mono ?_)
     rintro e z ⟨v,rfl,⟨s,rfl,a5,-⟩,ab,Y⟩;obtain⟨HS,F⟩:=bS (RU:s<G.w) ((a1.o.trans (aN (row:=some b) (aD E _))).trans Y);obtain⟨Jm,Ji,ac,GQ,GP⟩:=lv (bR a2.o F.o TN) (bR bi.o F.o Ew.o) (At.drawn bd.o F.o TM) ab (bo.o.trans F.o);have H:=aK Jm.o;obtain⟨G6,J⟩:=aO (iK G [(r,s)]);obtain⟨Jg,Jh⟩:=bS J (show wG p G6 by rw[J];exact D.o.glue ⟨(Gr.gl.1 D.o.ok).2.2.1,fun x hx=>Gr.lE D.o.ok x (aF hx)⟩ ⟨(Gr.gl.1 D.o.ok).2.2.2.1,fun x hx=>Gr.lE D.o.ok x (aA (aF hx))⟩ (fun q hq=>U0));clear J;have b4:=zH (bR (az E (.cells (cG r) 3) rfl) Y b2.o);clear ab Y a5;go_simp;refine hK.out _ _ (fun _=>H) (fun hHeld=>?_);clear hK K;try simp only[Act.put,zA]
     have hHeld:=hHeld RX;refine bM 10 fun K hK=>?_
     go_simp;refine hK.out _ _ (fun _=>zaW (aD z _) H) (fun hHeld=>?_);clear hK K;try simp only[Act.put,zA]
     have hHeld:=hHeld RX;have hV:Below z z (z.alloc (.cells (cG s) 3)):=aD z _;have Jf:aw 138 #[.agg (bI G A1 c1 A2 c2 A3 c3),.slice (aY E) 1 1,.slice (aY z) 1 1] (z.alloc (.cells (cG s) 3)) (mP (iK G [(r,s)]) (z.alloc (.cells (cG s) 3))):=nG G [r] [s] A1 A2 A3 (some ⟨E,0,none⟩) (some ⟨z,0,none⟩) c1 c2 c3 1 1 (z.alloc (.cells (cG s) 3)) (At.ext ac.o hV).now (rC.of D.o.ok) rfl RS (zc7 (ak b4.o (aD z _))) (zc7 (az z _ rfl)) (fun x hx=>Uk) (fun x hx=>Uj);exact Z1
    .go_simp
     (with_reducible refine(dg C b (I+2) E (G.w:Nat) bb.o TO).mono ?_)
     rintro e z ⟨v,rfl,⟨s,rfl,a5,-⟩,ab,Y⟩;obtain⟨HS,F⟩:=bS (RU:s<G.w) ((a1.o.trans (aN (row:=some b) (aj _ _))).trans Y);obtain⟨Jm,Ji,ac,GQ,GP⟩:=lv (bR a2.o F.o TN) (bR bi.o F.o Ew.o) (At.drawn bd.o F.o TM) ab (bo.o.trans F.o);have H:=aK Jm.o;obtain⟨G6,J⟩:=aO (iK G [(r,s)]);obtain⟨Jg,Jh⟩:=bS J (show wG p G6 by rw[J];exact D.o.glue ⟨(Gr.gl.1 D.o.ok).2.2.1,fun x hx=>Gr.lE D.o.ok x (aF hx)⟩ ⟨(Gr.gl.1 D.o.ok).2.2.2.1,fun x hx=>Gr.lE D.o.ok x (aA (aF hx))⟩ (fun q hq=>U0));clear J;clear ab Y a5;go_simp;refine hK.out _ _ (fun _=>H) (fun hHeld=>?_);clear hK K;try simp only[Act.put,zA]
     have hHeld:=hHeld RX;refine zbs (i:=5) (j:=10) Si rfl rfl (fun K hK=>?_) (fun K hK=>?_)
     .go_simp;refine hK.out _ _ (fun _=>zaW (aD z _) H) (fun hHeld=>?_);clear hK K;try simp only[Act.put,zA]
      have hHeld:=hHeld RX;refine bM 10 fun K hK=>?_
      go_simp;refine hK.out _ _ (fun _=>zaW ((aD z _).alloc (aD z _).size _) H) (fun hHeld=>?_);clear hK K;try simp only[Act.put,zA]
      have hHeld:=hHeld RX;have hV:Below z z ((z.alloc (.cells (cG r) 3)).alloc (.cells (cG s) 3)):=(aD z _).alloc (aD z _).size _;have Jf:aw 138 #[.agg (bI G A1 c1 A2 c2 A3 c3),.slice (aY z) 1 1,.slice (some ⟨(z:Nat)+1,0,none⟩) 1 1] ((z.alloc (.cells (cG r) 3)).alloc (.cells (cG s) 3)) (mP (iK G [(r,s)]) ((z.alloc (.cells (cG r) 3)).alloc (.cells (cG s) 3))):=nG G [r] [s] A1 A2 A3 (some ⟨z,0,none⟩) (some ⟨(z:Nat)+1,0,none⟩) c1 c2 c3 1 1 ((z.alloc (.cells (cG r) 3)).alloc (.cells (cG s) 3)) (At.ext ac.o hV).now (rC.of D.o.ok) rfl RS (zc7 ((b_ _ _ RS).trans (az z (.cells (cG r) 3) rfl))) (zc7 (az (z.alloc (.cells (cG r) 3)) (.cells (cG s) 3) RS)) (fun x hx=>Uk) (fun x hx=>Uj);exact Z1
     .go_simp;refine hK.out _ _ (fun _=>zaW (aD z _) H) (fun hHeld=>?_);clear hK K;try simp only[Act.put,zA]
      have hHeld:=hHeld RX;refine bM 5 fun K hK=>?_
      go_simp;refine hK.out _ _ (fun _=>zaW ((aD z _).alloc (aD z _).size _) H) (fun hHeld=>?_);clear hK K;try simp only[Act.put,zA]
      have hHeld:=hHeld RX;have hV:Below z z ((z.alloc (.cells (cG s) 3)).alloc (.cells (cG r) 3)):=(aD z _).alloc (aD z _).size _;have Jf:aw 138 #[.agg (bI G A1 c1 A2 c2 A3 c3),.slice (some ⟨(z:Nat)+1,0,none⟩) 1 1,.slice (aY z) 1 1] ((z.alloc (.cells (cG s) 3)).alloc (.cells (cG r) 3)) (mP (iK G [(r,s)]) ((z.alloc (.cells (cG s) 3)).alloc (.cells (cG r) 3))):=nG G [r] [s] A1 A2 A3 (some ⟨(z:Nat)+1,0,none⟩) (some ⟨z,0,none⟩) c1 c2 c3 1 1 ((z.alloc (.cells (cG s) 3)).alloc (.cells (cG r) 3)) (At.ext ac.o hV).now (rC.of D.o.ok) rfl RS (zc7 (az (z.alloc (.cells (cG s) 3)) (.cells (cG r) 3) RS)) (zc7 ((b_ _ _ RS).trans (az z (.cells (cG s) 3) rfl))) (fun x hx=>Uk) (fun x hx=>Uj);exact Z1
   .have R:=ad.o;rw[<-br]at R;unfold tj at R;obtain⟨G,A1,c1,A2,c2,A3,c3,hz,hq,hg,hf,hc,hw⟩:=R;have cr:¬1 < (G.w:Int):=fun h=>am ⟨G,A1,c1,A2,c2,A3,c3,h,hz,hq,hg,hf,hc,hw⟩
    clear ad am;obtain⟨cb,cc,z2,ce⟩:=aK hz;obtain⟨r0,r1,r2,r3⟩:=aK hq;obtain⟨f0,f1,f2,f3⟩:=cP hq;have y:=cT (v0:=.int .i64 (G.w:Nat)) (v1:=.slice A1 G.es c1) (v2:=.slice A2 G.i c2) (v3:=.slice A3 G.o c3) hq;obtain⟨a6,a7,a8,a9⟩:=aK y;unfold eh at a6 a7 a8 a9;have HD:=zH (tj.back (c1:=c1) (c2:=c2) (c3:=c3) hg hf (hc.mono TO) hw ER.o.1:kM C b (m+10100) _ _ _ _);exact YM
  .have E_:=zH (RU:m+10002+4*(2-kk).toNat<=m+10100);have R:=ad.o;unfold tj at R;obtain⟨G,A1,c1,A2,c2,A3,c3,hz,hq,hg,hf,hc,hw⟩:=R;obtain⟨cb,cc,z2,ce⟩:=aK hz;obtain⟨r0,r1,r2,r3⟩:=aK hq;obtain⟨f0,f1,f2,f3⟩:=cP hq;have y:=cT (v0:=.int .i64 (G.w:Nat)) (v1:=.slice A1 G.es c1) (v2:=.slice A2 G.i c2) (v3:=.slice A3 G.o c3) hq;obtain⟨a6,a7,a8,a9⟩:=aK y;unfold eh at a6 a7 a8 a9;have HD:=zH (tj.back (c1:=c1) (c2:=c2) (c3:=c3) hg hf (hc.mono (E_.o)) hw ER.o.1:kM C b (m+10100) _ _ _ _);exact YM
def SyP(p:Int)(lo:Nat)(w':aa)(v:au):Prop:=∃(S:Sy) (A:an) (c:Nat),v=.agg (ae S.v S.h A S.rows c)/\S.Ok p/\aJ w' lo (.slice A S.rows c) S.rows
def Ej{v h:Nat}{rows:aE}(D:dr p=true)(J:v<=24)(I:h<=100)(F:rows.length<=160)(E:CC p (v+h) rows):Sy.Ok p ⟨(v:Nat),(h:Nat),rows⟩:=by have z:=eY D;exact⟨D,z.1,z.2,Tg,Tg,Tg,Tg,F,fun r h=>by have:=(E r h).1;dsimp only;omega,fun r h x H=>by have:=(E r h).2 x H;omega⟩
def CF(v0 v1:au)(w:aa):(Instr.field 154 (.agg #[v0,v1]) 1).run prog w=.ok v1 w:=Si
def iA(w:aa)(b:Nat)(v0 v1 v2:au):World:=((w.setCell ⟨b,0,none⟩ v0).setCell ⟨b,1,none⟩ v1).setCell ⟨b,2,none⟩ v2
def mx(h:cH C b m V)(z:b<x):cH C b m (iA V x v0 v1 v2):=((h.iP (a:=⟨x,0,none⟩) z v0).iP (a:=⟨x,1,none⟩) z v1).iP (a:=⟨x,2,none⟩) z v2
def jQ(h:w.grownBy V row)(z:(w:Nat)<=x):w.grownBy (iA V x v0 v1 v2) row:=bW (bW (bW h (a:=⟨x,0,none⟩) z v0) (a:=⟨x,1,none⟩) z v1) (a:=⟨x,2,none⟩) z v2
def nC{rows:aE}(h:aJ V B v rows)(z:x<B):aJ (iA V x v0 v1 v2) B v rows:=((h.setCell (a:=⟨x,0,none⟩) z v0).setCell (a:=⟨x,1,none⟩) z v1).setCell (a:=⟨x,2,none⟩) z v2
def gH(h:aU V b #[H,R,z2] t):(iA V b v0 v1 v2).heap[b]?=some (.cells #[v0,v1,v2] t (0,0)):=f_ h
def zdP(C:Code)(b m:Nat)(w:aa)(p q:Int)(size n:Nat)(F:q=(n:Int))(z:cH C b m w)(D:m<=274877906944)(H:size<=1024)(E:n<=1024):aw 89 (xL (aY b) p size q) w (kM C b (m+4194400) (fun w' v=>∃rows,rows.length<=n/\CC p size rows/\aJ w' w v rows) w):=by subst F;exact zfK C b m w p size n z D H E
def zl(C:Code)(b m:Nat)(w:aa)(p:Int)(bv:cH C b m w)(ea:m<=274877600000)(ao:dr p=true):aw 87 (lO (aY b) p) w (kM C b (m+60000) (SyP p w) w):=by
 have b3:=(eY ao).1;have b4:=(eY ao).2;have a1:=az w (.cells aQ 26) rfl;have bp:=aD w (.cells aQ 26);obtain⟨cc,E,b9⟩:=d_ ao bv.lt bv;clear bv ao;go_enter func87,ntmps87
 go_upto_region 1 with(fail)
 generalize w.alloc _=W at bp a1 ⊢;obtain⟨ci,a5,cn⟩:=d_ a1 bp (show(w:Nat)<W from(aM.1 a1).1);clear a1 bp;go_upto_if 7 with(go_at_call 46;(with_reducible refine(gX C b m W 2 (b9.o.ext a5.o) RU).mono ?_);rintro e c6 ⟨v,rfl,⟨y,rfl⟩,cr,ap⟩;have a6:=zH cr;have a8:=zH ((aN (row:=some b) a5.o).trans ap);have bb:=zH (bR ci.o ap E.o);have d7:=zH (gZ cn.o ap.size);clear cr ap;cases y)
 .go_upto_region 4 with(first
   |(go_at_call 88;(with_reducible refine(dg C b (m+2) c6 5 a6.o RU).mono ?_);rintro e a4 ⟨v,rfl,⟨i,rfl,U,-⟩,Q,F⟩;have Fq:=zH (RU:i<=4);have ab:=zH Q;have ac:=zH (a8.o.trans F);have J:=zH (bR bb.o F E.o);clear Q F U)
   |(go_at_call 88;(with_reducible refine(dg C b (m+4) a4 4 ab.o RU).mono ?_);rintro e I ⟨v,rfl,⟨o,rfl,U,-⟩,ct,b0⟩;have FO:=zH (RU:o<=3);have ca:=zH ct;have ce:=zH (ac.o.trans b0);have bd:=zH (bR J.o b0 E.o);clear ct b0 U))
  have Z:=az I (.cells (vn i o) 26) rfl;have O:=aD I (.cells (vn i o) 26);obtain⟨bi,cj,cb,ch,ER⟩:=lv Z (ak bd.o O) (ca.o.ext O) (ce.o.trans (aN O)) (show b < (w:Nat)/\(w:Nat)<I from⟨E.o,(aM.1 bd.o).1⟩);generalize I.alloc _=V at Z O bi cj cb ch ⊢;generalize (I:Nat)=z at Z bi ER ⊢;obtain⟨b7,b8,-⟩:=aq (show V.drew.heap[z]?=_ from Z);have co:=bn b7 b8;obtain⟨c5,a2⟩:=aO (i+o);have Fc:=zH a2;have ei:IntKind.i64.wrap ((i:Int)+(o:Int))=(c5:Int):=Wn;clear a2;clear Z O ca ce bd ab ac J a6 a8 bb a5 ci b9 cn b7 b8 W;refine bJ (S:=fun V=>ah V z 0 (zI (i:Nat))/\ah V z 1 (zI (o:Nat))) 12 Si co (fun hHeld=>?_);refine aC 0 ?_;refine aC 1 ?_;refine aC 2 ?_;refine aC 4 ?_;refine aC 5 ?_;refine aC 6 ?_;refine aC 7 ?_;refine aC 8 ?_;refine bM 3 fun K hK=>?_
  go_simp
  (with_reducible refine(dg C b (m+6) V.drew 6 (cb.o.ext (aI V)) RU).mono ?_)
  rintro e b5 ⟨v,rfl,⟨r,rfl,U,-⟩,cu,cF⟩;obtain⟨ck,be,c7⟩:=d_ (RU:r<=5) ((aN (row:=some b) (aI V)).trans cF) cu;have bm:=zH (bR bi.o be.o TN);obtain⟨c0,c4,-⟩:=aq bm.o;clear cu cF U;go_simp;refine hK.out _ _ (fun _=>⟨c0,c4⟩) (fun hHeld=>?_);clear hK K;try simp only[Act.put,zA]
  have hHeld:=hHeld RX;refine bM 9 fun K hK=>?_
  go_simp
  (with_reducible refine(za2 C b (m+6+2) b5 p r c5 c7.o RU b3 b4 (by have:=ck.o;omega) Wx).mono ?_)
  rintro e b6 ⟨v,rfl,⟨g,rfl,rows,H,cR,cO⟩,cy,a0⟩;obtain⟨bo,dT,Ge,c8,da,db,d0,dl⟩:=zH8 (bR bm.o a0 TN) (bR cj.o (be.o.trans a0) E.o) (show z < (b5:Nat) from(aM.1 bm.o).1) cy ((ch.o.trans be.o).trans a0) H cR cO;obtain⟨t0,t1,t2⟩:=aq bo.o;have f2:=aP bo.o 2;clear cy a0 H cR cO c0 c4;go_simp;refine hK.out _ _ (fun _=>⟨t0,t1⟩) (fun hHeld=>?_);clear hK K;try simp only[Act.put,zA]
  have hHeld:=hHeld RX;have d2:=CF;refine aC 10 ?_;refine aC 11 ?_;clear d2;refine bM 12 fun K hK=>?_
  go_simp;refine hK.out _ _ (fun h=>absurd h RX) (fun hHeld=>?_);clear hK K;try simp only[Act.put,zA]
  refine eC Si ?_ _;have a3:=bs b6 z 2 _ _ (.slice (aY g) r r) bo.o;simp only[zA]at a3;have D:=(bw b6 ⟨z,2,none⟩ (.slice (aY g) r r) w Wk).trans dT.o;have b2:=dl.o.setCell (a:=⟨z,2,none⟩) (by have:=Ge.o;show z < (b5:Nat)+1;omega) (.slice (aY g) r r);have bz:=c8.o.iP (a:=⟨z,2,none⟩) U2 (.slice (aY g) r r);have b1:=bW da.o (a:=⟨z,2,none⟩) Wj (.slice (aY g) r r);generalize b6.setCell ⟨z,2,none⟩ _=ek at a3 D b2 bz b1 ⊢;clear co t0 t1 t2 f2 hHeld;obtain⟨b7,b8,em⟩:=aq a3;obtain⟨d4,d5,d6⟩:=aq D;obtain⟨f0,f1,f2⟩:=bU D;have Y:=gH (v0:=.int .i64 (i:Nat)) (v1:=.int .i64 (o:Nat)) (v2:=.slice (aY g) r r) D;obtain⟨u0,u1,u2⟩:=aq Y;unfold iA at u0 u1 u2;obtain⟨ad,a7,a9⟩:=d_ (nC (x:=w.heap.size) (v0:=.int .i64 (i:Nat)) (v1:=.int .i64 (o:Nat)) (v2:=.slice (aY g) r r) b2 Vm) (mx (x:=w.heap.size) (v0:=.int .i64 (i:Nat)) (v1:=.int .i64 (o:Nat)) (v2:=.slice (aY g) r r) bz E.o) (jQ (x:=w.heap.size) (v0:=.int .i64 (i:Nat)) (v1:=.int .i64 (o:Nat)) (v2:=.slice (aY g) r r) b1 (ag _));clear a3 D b2 bz b1 Y;go_wp2;refine ax (v:=.agg (xK i o (aY g) r r)) Vw rfl ⟨_,rfl,?_,a7.o.mono RU,a9.o⟩;have H:=db.o;have eb:=ck.o;have d8:=Fq.o;have d9:=FO.o;have a2:=Fc.o;have eg:=Ge.o;have ej:=ER.o;have R:=ad.o;rw[<-H]at R;refine⟨⟨(i:Nat),(o:Nat),rows⟩,some ⟨g,0,none⟩,r,by rw[H],Ej cc.o RU RU RU (by rw[<-a2];exact d0.o),?_⟩;exact aJ.mono (by have h:=ad.o;rw[show(⟨(i:Nat),(o:Nat),rows⟩:Sy).rows.length=r from H];exact h) RU
 .go_wp2_with (first
   |(go_at_call 116;(with_reducible refine(zc9 C b (m+2) c6 p a6.o RU b3 b4).mono ?_);rintro e a4 ⟨v,rfl,⟨G,A1,c1,A2,c2,A3,c3,rfl,cI,cz⟩,Q,F⟩;have ba:=zH cI;have c9:=zH cz;have ab:=zH Q;have ac:=zH (a8.o.trans F);have J:=zH (bR bb.o F E.o);clear cI cz Q F)
   |(go_at_call 115;(with_reducible refine(zdJ p G A1 A2 A3 c1 c2 c3 a4 b3 b4 c9.o.now ba.o.ok ba.o.val).mono ?_);intro e I h;unfold zgY at h;obtain⟨A,c,d1,R,am,d3⟩:=h;subst d1;obtain⟨S,br⟩:∃S,S=G.sys p:=⟨_,rfl⟩;rw[<-br]at R ⊢;have dc:=zH (by rw[br];exact Gr.zfe cc.o ba.o.ok:S.Ok p);have D:=ak J.o am;obtain⟨d4,d5,d6⟩:=aq D;have f0:=aP D 0;have f1:=aP D 1;have f2:=aP D 2;have Y:=gH (v0:=.int .i64 S.v) (v1:=.int .i64 S.h) (v2:=.slice A S.rows c) D;obtain⟨u0,u1,u2⟩:=aq Y;unfold iA at u0 u1 u2;have Hp:=zH (show(w:Nat)<a4 from(aM.1 J.o).1);have ad:=zH (nC (x:=w.heap.size) (v0:=.int .i64 S.v) (v1:=.int .i64 S.h) (v2:=.slice A S.rows c) R TK);have a7:=zH (mx (x:=w.heap.size) (v0:=.int .i64 S.v) (v1:=.int .i64 S.h) (v2:=.slice A S.rows c) (ab.o.ext am) E.o);have a9:=zH (jQ (x:=w.heap.size) (v0:=.int .i64 S.v) (v1:=.int .i64 S.h) (v2:=.slice A S.rows c) (ac.o.trans (aN am)) (ag _));clear br R am d3 D Y))
  refine ax (v:=.agg (ae S.v S.h A S.rows c)) Vw rfl ⟨_,rfl,?_,a7.o.mono RU,a9.o⟩;exact⟨S,A,c,rfl,dc.o,ad.o.mono TK⟩
def qp(C:Code)(b m:Nat)(w:aa)(p:Int)(a7:cH C b m w)(c5:m<=274877500000)(ca:dr p=true):aw 44 (lO (aY b) p) w (kM C b (m+4300000) (SyP p w) w):=by
 have Z:=az w (.cells aQ 26) rfl;have a6:=aD w (.cells aQ 26);obtain⟨bz,E,bo⟩:=d_ ca a7.lt a7;clear a7 ca;go_enter func44,ntmps44
 go_upto_region 1 with(fail)
 generalize w.alloc _=W at a6 Z ⊢;obtain⟨b3,ad,b6⟩:=d_ Z a6 (show(w:Nat)<W from(aM.1 Z).1);clear Z a6;go_upto_if 7 with(go_at_call 46;(with_reducible refine(gX C b m W 3 (bo.o.ext ad.o) RU).mono ?_);rintro e ci ⟨v,rfl,⟨y,rfl⟩,b7,U⟩;have am:=zH b7;have ap:=zH ((aN (row:=some b) ad.o).trans U);have a2:=zH (bR b3.o U E.o);have a4:=zH (gZ b6.o U.size);clear b7 U;cases y)
 .go_upto_region 4 with(first
   |(go_at_call 88;(with_reducible refine(dg C b (m+2) ci 4 am.o RU).mono ?_);rintro e cF ⟨v,rfl,⟨i,rfl,bi,-⟩,J,F⟩;have Fq:=zH (RU:i<=3);have bp:=zH J;have b0:=zH (ap.o.trans F);have b4:=zH (bR a2.o F E.o);clear J F bi)
   |(go_at_call 88;(with_reducible refine(dg C b (m+4) cF 4 bp.o RU).mono ?_);rintro e H ⟨v,rfl,⟨o,rfl,bi,-⟩,b8,a9⟩;have FO:=zH (RU:o<=3);have br:=zH b8;have b1:=zH (b0.o.trans a9);have a3:=zH (bR b4.o a9 E.o);clear b8 a9 bi))
  have Q:=az H (.cells (vn i o) 26) rfl;have I:=aD H (.cells (vn i o) 26);obtain⟨R,b5,bv,b2,ER⟩:=lv Q (ak a3.o I) (br.o.ext I) (b1.o.trans (aN I)) (show b < (w:Nat)/\(w:Nat)<H from⟨E.o,(aM.1 a3.o).1⟩);generalize H.alloc _=V at Q I R b5 bv b2 ⊢;generalize (H:Nat)=z at Q R ER ⊢;obtain⟨cj,ck,-⟩:=aq Q;obtain⟨ch,ab⟩:=aO (i+o);have Fc:=zH ab;have c7:IntKind.i64.wrap ((i:Int)+(o:Int))=(ch:Int):=Wn;clear ab Q I br b1 a3 bp b0 b4 am ap a2 a4 ad b3 bo b6 W;go_upto_region 5 with(go_at_call 89;(with_reducible refine(zdP C b (m+6) V p 5 ch 5 rfl bv.o RU Wx RX).mono ?_);rintro e bm ⟨v,rfl,⟨rows,bb,ce,be⟩,b9,Y⟩;obtain⟨A,c,rfl,-⟩:=be.view;have a5:=zH (bR R.o Y TN);have cy:=zH (bR b5.o Y E.o);have Ge:=zH (show z < (V:Nat) from(aM.1 R.o).1);have cn:=zH b9;have co:=zH (b2.o.trans Y);have cr:=zH bb;have cz:=zH ce;have cu:=zH be;obtain⟨t0,t1,t2⟩:=aq a5.o;have f2:=aP a5.o 2;clear b9 Y bb ce be)
  have ac:=bs bm z 2 _ _ (.slice A rows c) a5.o;simp only[zA]at ac;have D:=(bw bm ⟨z,2,none⟩ (.slice A rows c) w Wk).trans cy.o;have bd:=cu.o.setCell (a:=⟨z,2,none⟩) Ge.o (.slice A rows c);have a8:=cn.o.iP (a:=⟨z,2,none⟩) U2 (.slice A rows c);have ba:=bW co.o (a:=⟨z,2,none⟩) Wj (.slice A rows c);generalize bm.setCell ⟨z,2,none⟩ _=c9 at ac D bd a8 ba ⊢;clear t0 t1 t2 f2 cj ck;obtain⟨cj,ck,da⟩:=aq ac;obtain⟨cI,cO,cR⟩:=aq D;obtain⟨f0,f1,f2⟩:=bU D;have O:=gH (v0:=.int .i64 (i:Nat)) (v1:=.int .i64 (o:Nat)) (v2:=.slice A rows c) D;obtain⟨u0,u1,u2⟩:=aq O;unfold iA at u0 u1 u2;obtain⟨a1,ao,a0⟩:=d_ (nC (x:=w.heap.size) (v0:=.int .i64 (i:Nat)) (v1:=.int .i64 (o:Nat)) (v2:=.slice A rows c) bd Vm) (mx (x:=w.heap.size) (v0:=.int .i64 (i:Nat)) (v1:=.int .i64 (o:Nat)) (v2:=.slice A rows c) a8 E.o) (jQ (x:=w.heap.size) (v0:=.int .i64 (i:Nat)) (v1:=.int .i64 (o:Nat)) (v2:=.slice A rows c) ba (ag _));clear ac D bd a8 ba O;go_wp2;refine ax (v:=.agg #[(i:Nat),(o:Nat),.slice A rows c]) Vv rfl ⟨_,rfl,?_,ao.o.mono RU,a0.o⟩;have bb:=cr.o;have c0:=Fq.o;have c4:=FO.o;have ab:=Fc.o;have c6:=Ge.o;have c8:=ER.o;exact⟨⟨(i:Nat),(o:Nat),rows⟩,A,c,rfl,Ej bz.o RU RU RU (by rw[<-ab];exact cz.o),a1.o.mono RU⟩
 .go_wp2_with (go_at_call 87;(with_reducible refine(zl C b (m+2) ci p am.o RU bz.o).mono ?_);rintro e H ⟨v,rfl,⟨S,A,c,rfl,cc,cb⟩,J,F⟩;have ct:=zH cc;have D:=bR a2.o F E.o;obtain⟨cI,cO,cR⟩:=aq D;have f0:=aP D 0;have f1:=aP D 1;have f2:=aP D 2;have O:=gH (v0:=.int .i64 S.v) (v1:=.int .i64 S.h) (v2:=.slice A S.rows c) D;obtain⟨u0,u1,u2⟩:=aq O;unfold iA at u0 u1 u2;have a1:=zH (nC (x:=w.heap.size) (v0:=.int .i64 S.v) (v1:=.int .i64 S.h) (v2:=.slice A S.rows c) cb a4.o);have ao:=zH (mx (x:=w.heap.size) (v0:=.int .i64 S.v) (v1:=.int .i64 S.h) (v2:=.slice A S.rows c) J E.o);have a0:=zH (jQ (x:=w.heap.size) (v0:=.int .i64 S.v) (v1:=.int .i64 S.h) (v2:=.slice A S.rows c) (ap.o.trans F) (ag _));clear cc cb J F D O)
  refine ax (v:=.agg (ae S.v S.h A S.rows c)) Vv rfl ⟨_,rfl,?_,ao.o.mono RU,a0.o⟩;exact⟨S,A,c,rfl,ct.o,a1.o.mono (by have:=a4.o;omega)⟩
def AnP(lo:Nat)(w':aa)(u:au):Prop:=∃(S:Sy) (A:an) (c:Nat),u=.agg (ae S.v S.h A S.rows c)/\(S.rows.length<=1048576/\∀r∈S.rows,r.length<=1048576)/\aJ w' lo (.slice A S.rows c) S.rows
def SyP.any(h:SyP p lo w' u):AnP lo w' u:=by obtain⟨S,A,c,z,D,E⟩:=h;have hs:=D.small;exact⟨S,A,c,z,⟨Tt,fun r hr=>Uy⟩,E⟩
def lH{fr:gW}{rows:aE}(h:aJ w B v rows)(z:w.heap[b]?=some (.cells cs 26 fr)):aJ (w.setCell ⟨b,j,none⟩ u) B v rows:=by obtain⟨us,h⟩:=h;exact⟨us,h.jd z⟩
def AnI(C:Code)(b K z:Nat)(w V:aa):Prop:=∃(v h:Int) (rows:aE) (A:an) (c:Nat),aU V z (ae v h A rows c) 26/\aU V w aQ 26/\(rows.length<=1048576/\∀r∈rows,r.length<=1048576)/\aJ V ((w:Nat)+1) (.slice A rows c) rows/\cH C b K V/\w.grownBy V (some b)
def AnI.set{v v':Int}{rows:aE}(z:aU V D (ae v h A rows c) 26)(J:aU V w aQ 26)(Q:b < (w:Nat)/\(w:Nat)<D)(O:rows.length<=1048576/\∀r∈rows,r.length<=1048576)(I:aJ V ((w:Nat)+1) (.slice A rows c) rows)(E:cH C b K V)(F:w.grownBy V (some b))(H:(#[Value.int .i64 v,.int .i64 h,.slice A rows c].setIfInBounds j u)=#[Value.int .i64 v',.int .i64 h',.slice A rows c]):AnI C b K D w (V.setCell ⟨D,j,none⟩ u):=⟨v',h',rows,A,c,by rw[bs V D j _ _ u z,H],(bw _ _ _ _ (by show w.heap.size≠D;omega)).trans J,O,lH I z,E.iP (a:=⟨D,j,none⟩) (by show b<D;omega) _,bW F (a:=⟨D,j,none⟩) (by show(w:Nat)<=D;omega) _⟩
def zg6{z:Nat}{rows:aE}{fr:gW}(h:aJ V B v rows)(hz:V.heap[z]?=some (.cells cs 26 fr)):some z≠v.ownBlock:=by obtain⟨us,h⟩:=h;exact YW
def zcz{rows:aE}{x:Int}(h:aJ V B (.slice A rows c) rows)(E:rows[0]?=some RM)(ad:RM[0]?=some x):∃g z D,A=some ⟨g,0,none⟩/\ah V g 0 (.slice (aY z) RM D)/\ah V z 0 (zI x)/\V.frozen? ⟨z,0,none⟩=false/\B<=z/\(∃cur,aU V z cur 3)/\∀y:Int,aJ (V.setCell ⟨z,0,none⟩ (zI y)) B (.slice A rows c) (rows.set 0 (RM.set 0 y)):=by
 obtain⟨us,h⟩:=h;obtain⟨I,am,ao,e,ac,Q,-,-,-,Z⟩:=h.at E;obtain⟨z,D,F,R,U,O,-,-,ab⟩:=h.gS E ad;rw[ac]at F;cases F
 obtain⟨-,J|⟨ap,cap,cur,H,-,Y,-⟩⟩:=Z
 .cases J.1
 cases H
 exact⟨I,z,_,e,Q,R,U,O,⟨cur,Y⟩,fun y=>⟨us,(ab y).1⟩⟩
def zad(z:Nat)(V:aa):Nat:=match V.cell? ⟨z,2,none⟩with|some (.slice _ n _)=>n|_=>0
def AnL(C:Code)(b K z:Nat)(v h:Int)(w V:aa):Prop:=∃(rows:aE) (A:an) (c:Nat),rows.length<=161/\(∀r∈rows,r.length<=1048576)/\aU V z (ae v h A rows c) 26/\aU V w aQ 26/\aJ V ((w:Nat)+1) (.slice A rows c) rows/\cH C b (K+2*rows.length) V/\w.grownBy V (some b)
def kQ(h:k≠b):(iA V b v0 v1 v2).heap[k]?=V.heap[k]?:=(bw _ _ _ _ h).trans ((bw _ _ _ _ h).trans (bw _ _ _ _ h))
def Aw(C:Code)(b m:Nat)(w:aa)(p:Int)(ab:cH C b m w)(ho:m<=274877500000)(fa:dr p=true):aw 54 (lO (aY b) p) w (kM C b (m+61000) (AnP w) w):=by
 have D:=az w (.cells aQ 26) rfl;have b3:=aD w (.cells aQ 26);have d5:(w.alloc (.cells aQ 26):Nat)=w+1:=RS;obtain⟨gb,Ew,d7⟩:=d_ fa ab.lt ab;clear ab fa;go_enter func54,ntmps54
 go_upto_region 1 with(fail)
 generalize w.alloc _=W at b3 D d5 ⊢;obtain⟨ej,cy,en⟩:=d_ D b3 d5;clear D b3 d5;go_upto_region 2 with(go_at_call 87;(with_reducible refine(zl C b m W p (d7.o.ext cy.o) RU gb.o).mono ?_);rintro e br ⟨u,rfl,⟨⟨v,h,rows⟩,A,c,rfl,fo,bd⟩,e8,d1⟩;have Q:=zH (show Sys p v h rows from fo);have HO:=zH (show aJ br W (.slice A rows c) rows from bd);have d8:=zH e8;have ea:=zH ((aN (row:=some b) cy.o).trans d1);have c7:=zH (bR ej.o d1 Ew.o);clear fo bd e8 d1)
 have J:=az br (.cells (ae v h A rows c) 26) rfl;have bp:=aD br (.cells (ae v h A rows c) 26);obtain⟨HZ,ER,HQ,c4,cz,cO⟩:=mA J (show b < (w:Nat)/\(w:Nat)<br from⟨Ew.o,(aM.1 c7.o).1⟩) (ak c7.o bp) ((HO.o.mono (lr en.o.symm)).ext bp) (d8.o.ext bp) (ea.o.trans (aN bp));generalize br.alloc _=ev at J bp HZ HQ c4 cz cO ⊢;generalize (br:Nat)=z at J HZ ER ⊢;have Fk:=zH (show rows.length<=1048576/\∀r∈rows,r.length<=1048576 from⟨by have:=Q.o.n;omega,fun r hr=>by have:=Q.o.len r hr;have:=Q.o.v24;have:=Q.o.h100;omega⟩);have b9:0<=v/\v<=24/\0<=h/\h<=100:=⟨Q.o.v0,Q.o.v24,Q.o.h0,Q.o.h100⟩;clear J bp HO d8 ea c7 ej cy en d7 W;go_upto_block 0 with(go_at_call 88;(with_reducible refine(dg C b (m+60000) ev 30 cz.o RU).mono ?_);rintro e I ⟨u,rfl,⟨r,rfl,hr,-⟩,e9,b7⟩;have eo:=zH (bR HZ.o b7 TN);have ek:=zH (bR HQ.o b7 Ew.o);have ei:=zH (c4.o.drawn b7 TM);have d9:=zH e9;have eb:=zH (cO.o.trans b7);clear e9 b7 hr)
 clear HZ HQ c4 cz cO ev;have HZ:=eo;have HQ:=ek;have HO:=ei;have HC:=d9;have HG:=eb;clear eo ek ei d9 eb;go_cut [] from 11 to 81 (fun V=>AnI C b (m+61000) z w V)
 case first=>
  by_cases h0:r=0
  .subst h0;obtain⟨cc,ce,bv⟩:=aq HZ.o;have f0:=aP HZ.o 0;have f3:IntKind.i64.wrap (v+1)=v+1:=SQ;clear b9;go_wp2_with (go_at_call 85;refine(iE C b (m+60000+2) I [-1,v+1,25,4611686018427387904] _ HC.o RU rfl RS RS 4 rfl).mono ?_;rintro e dc ⟨u,rfl,⟨x,-,rfl⟩,ba,F⟩;have ao:=bR HZ.o F TN;obtain⟨f8,f9,z2⟩:=aq ao;have e1:=aP ao 0;have HE:=zH (AnI.set (j:=0) (u:=.int .i64 x) (v':=x) (h':=h) ao (bR HQ.o F Ew.o) ER.o Fk.o (HO.o.drawn F TM) ba (HG.o.trans F) rfl);clear ao ba F)
   exact Y4
  have dl:((r:Int)==0)=false:=Sx;by_cases ci:r=1
  .subst ci;clear dl h0;obtain⟨cc,ce,bv⟩:=aq HZ.o;have f0:=aP HZ.o 1;have f3:IntKind.i64.wrap (h+1)=h+1:=SQ;clear b9;go_wp2_with (go_at_call 85;refine(iE C b (m+60000+2) I [-1,h+1,101] _ HC.o RU rfl RS RS 3 rfl).mono ?_;rintro e dc ⟨u,rfl,⟨x,-,rfl⟩,ba,F⟩;have ao:=bR HZ.o F TN;obtain⟨f8,f9,z2⟩:=aq ao;have e1:=aP ao 1;have HE:=zH (AnI.set (j:=1) (u:=.int .i64 x) (v':=v) (h':=x) ao (bR HQ.o F Ew.o) ER.o Fk.o (HO.o.drawn F TM) ba (HG.o.trans F) rfl);clear ao ba F)
   exact Y4
  have eA:((r:Int)==1)=false:=Sk;by_cases dT:r=2
  .subst dT;clear dl h0 eA ci;obtain⟨cc,ce,bv⟩:=aq HZ.o;by_cases g6:0<rows.length
   .have g7:0 < (rows:Int):=RU;obtain⟨be,ck⟩:=aB g6;have g0:∃g bz bo,A=some ⟨g,0,none⟩/\ah I g 0 (.slice bz be bo)/\(w:Nat)+1<=g:=by obtain⟨us,ha⟩:=HO.o;obtain⟨g,bz,bo,bi,-,b5,-,b3,-,-⟩:=ha.at ck;exact⟨g,bz,bo,bi,b5,b3⟩
    obtain⟨g,bz,bo,bi,b5,g1⟩:=g0;subst bi;have gd:=zH (show b<g by have:=Ew.o;omega);clear g1;by_cases g4:0<be.length
    .have g5:0 < (be:Int):=RU;obtain⟨x,f4⟩:=aB g4;have g2:∃H,bz=some ⟨H,0,none⟩:=by
      obtain⟨hk,H,hg,bi,ca,-⟩:=zcz HO.o ck f4;cases bi
      rw[b5]at ca;cases ca
      exact⟨H,rfl⟩
     obtain⟨H,rfl⟩:=g2;go_upto_region 9 with(fail)
     have R:=bn (show ah I.drew z 2 (.slice (aY g) rows c) from bv) (show ah I.drew g 0 (.slice (aY H) be bo) from b5);obtain⟨ap,ad,Z,am,a0⟩:=lv (HC.o.ext (aI I)) (HO.o.ext (aI I)) (ak HZ.o (aI I)) (ak HQ.o (aI I)) (HG.o.trans (aN (aI I)));clear cc ce bv b5;refine bJ (S:=fun V=>ah V z 2 (.slice (aY g) rows c)/\ah V g 0 (.slice (aY H) be bo)) 9 Si R (fun hHeld=>?_);generalize I.drew=ac at R ap ad Z am a0 hHeld ⊢;clear R;refine aC 0 ?_;refine aC 1 ?_;refine aC 2 ?_;refine aC 3 ?_;refine aC 4 ?_;refine aC 5 ?_;refine bM 6 fun K hK=>?_
     go_simp;refine hK.out _ _ (fun _=>mC (aD ac _) hHeld) (fun e3=>?_);clear hK K;try simp only[Act.put,zA]
     have e3:=e3 RX;refine bM 7 fun K hK=>?_
     go_simp;refine(iE C b (m+60000+2) ac [p,-1] _ ap.o RU rfl RS RS 2 rfl).mono ?_;rintro e cb ⟨u,rfl,⟨y,-,rfl⟩,bb,E⟩;obtain⟨b2,hm,hh,bi,ca,hs,ht,hf,⟨cur,d6⟩,f6⟩:=zcz (ad.o.drawn E TM) ck f4;cases bi
     have d4:=ik (W:=cb) (p:=⟨g,0,none⟩) (E.block g (iN _ _ hHeld.2) (fun e=>by have e:=eH e;have:=gd.o;omega)) hHeld.2;rw[d4]at ca;cases ca
     have U:=bR Z.o E TN;have fs:=bR am.o E Ew.o;obtain⟨-,-,t2⟩:=aq U;have gB:=bn t2 d4;have fl:z≠H:=fun e=>by subst e;rw[U]at d6;simp at d6
     have HE:=zH (show AnI C b (m+60000+2+2) z w (cb.setCell ⟨H,0,none⟩ (zI y)) from⟨v,h,rows.set 0 (be.set 0 y),_,c,by rw[fP];exact(bw _ _ _ _ (by show z≠H;exact fl)).trans U,(bw _ _ _ _ (by show w.heap.size≠H;omega)).trans fs,⟨by rw[fP];exact Fk.o.1,fun q D=>(by rcases vD D with D|rfl;exact Fk.o.2 q D;rw[fP];exact Fk.o.2 be (a_ ck))⟩,by rw[fP];exact f6 y,bb.iP (a:=⟨H,0,none⟩) (by have:=Ew.o;show b<H;omega) _,bW (a0.o.trans E) (a:=⟨H,0,none⟩) (by show(w:Nat)<=H;omega) _⟩);clear bb E hf d6 f6 U fs fl t2 d4;go_simp;refine hK.out _ _ (fun _=>gB) (fun hHeld=>?_);clear hK K;try simp only[Act.put,zA]
     have hHeld:=hHeld RX;refine aC 8 ?_;refine bM 9 fun K hK=>?_
     go_simp;refine hK.out _ _ (fun h=>absurd h RX) (fun hHeld=>?_);clear hK K;try simp only[Act.put,zA]
     refine eC Si ?_ _;clear hHeld;go_wp2_with fail
     exact Y4
    .have g5:¬0 < (be:Int):=RU;go_wp2_with fail
     go_meet
     exact⟨v,h,rows,_,c,HZ.o,HQ.o,Fk.o,HO.o,HC.o.mono RU,HG.o⟩
   .have g7:¬0 < (rows:Int):=RU;exact Yo
  have gL:((r:Int)==2)=false:=Sk;by_cases d0:r=3
  .have e0:((r:Int)==3)=true:=by simp[d0]
   clear h0 ci dT d0;obtain⟨he,g3,hb,hc,hd⟩:=cU fI;obtain⟨O,g9⟩:∃O:Nat,O=(v+h).toNat:=⟨_,rfl⟩;have b0:=zH (RU:v+h=(O:Int)/\O<=124);have hq:IntKind.i64.wrap (v+h)=v+h:=SQ;have e6:AnL C b (m+60002) z v h w I:=⟨rows,A,c,by have:=Q.o.n;omega,Fk.o.2,HZ.o,HQ.o,HO.o,HC.o.mono RU,HG.o⟩;have eg:=zH e6;clear e6 g9 b9 HZ HQ HO HC HG Q Fk;go_wp2;go_loopw [] (fun wr=>Hd (AnL C b (m+60002) z v h w wr)) (fun wr=>161-zad z wr)
   case atStart=>exact eg
   case round=>
    clear eg;have b4:=hrel.o;clear hrel;unfold AnL at b4;obtain⟨rows,A,c,cn,b8,J,D,bd,ab,b6⟩:=b4;obtain⟨db,e7⟩:=aO (m+60002+2*rows.length);rw[<-e7]at ab;obtain⟨E_,c9,Fk,ap,ad,Z,am,a0⟩:=zH8 (RU:db<=274877700000/\db=m+60002+2*rows.length) cn b8 (ab.ext (aI wr)) (bd.ext (aI wr)) (ak J (aI wr)) (ak D (aI wr)) (b6.trans (aN (aI wr)));obtain⟨-,-,R⟩:=aq (show wr.drew.heap[z]?=_ from J);have fi:zad z wr=rows.length:=by unfold zad;rw[(aq J).2.2]
    have gf:=zH fi;clear e7 cn b8 J D bd ab b6 fi;go_upto_region 11 with(fail)
    refine bJ (S:=fun V=>ah V z 2 (.slice A rows c)) 6 Si R (fun hHeld=>?_);generalize wr.drew=ac at R ap ad Z am a0 hHeld ⊢;clear R;refine aC 0 ?_;refine aC 1 ?_;refine aC 2 ?_;refine aC 3 ?_;refine bM 4 fun K hK=>?_
    go_simp
    (with_reducible refine(dg C b db ac 2 ap.o TO).mono ?_)
    rintro e cb ⟨u,rfl,⟨ct,rfl,hr,-⟩,bb,E⟩;have hp:ct<=1:=RU;have f3:IntKind.i64.wrap (160+(ct:Int))=160+(ct:Int):=SQ;obtain⟨b1,c8,c5,cF,cR⟩:=lv (bR Z.o E TN) (bR am.o E Ew.o) (ad.o.drawn E TM) bb (a0.o.trans E);obtain⟨-,-,t2⟩:=aq b1.o;clear bb E hr;go_simp;refine hK.out _ _ (fun _=>t2) (fun hHeld=>?_);clear hK K;try simp only[Act.put,zA]
    have hHeld:=hHeld RX;refine aC 5 ?_;refine bM 6 fun K hK=>?_
    go_simp;refine hK.out _ _ (fun h=>absurd h RX) (fun hHeld=>?_);clear hK K;try simp only[Act.put,zA]
    refine eC Si ?_ _;clear t2;by_cases hn:(rows:Int)<160+(ct:Int)
    .have cn:=c9.o;have em:=zH (RU:rows.length<=160);obtain⟨Y,rfl⟩:∃Y,Y=cb:=⟨cb,rfl⟩;obtain⟨ap,ad,Z,am,a0⟩:=lv (cF.o.ext (aI Y)) (c5.o.ext (aI Y)) (ak b1.o (aI Y)) (ak c8.o (aI Y)) (cR.o.trans (aN (aI Y)));have R:=aq (show Y.drew.heap[z]?=_ from b1.o);have da:=zH (show z < (Y.drew:Nat)/\(w:Nat)+1<=Y.drew from⟨(aM.1 Z.o).1,(aM.1 am.o).1⟩);go_upto_region 12 with(fail)
     refine bJ (S:=fun V=>ah V z 0 (zI v)/\ah V z 1 (zI h)/\ah V z 2 (.slice A rows c)) 9 Si R (fun hHeld=>?_);generalize Y.drew=ac at R ap ad Z am a0 da hHeld ⊢;clear R b1 c8 c5 cF cR;refine aC 0 ?_;refine aC 1 ?_;refine aC 2 ?_;refine aC 3 ?_;refine aC 4 ?_;refine aC 5 ?_;refine aC 6 ?_;refine bM 7 fun K hK=>?_
     refine rG _ rfl (.tmp 67) (.tmp 67) 27 rfl ac 3 he (zI 0) 1 dS g3 hb hc .i64 .i64 (v+h) (v+h) O rfl rfl b0.o.1 b0.o.1 (by rw[hd];have:=b0.o;omega) (by unfold maxLen;have:=b0.o;omega) (ag _) ?_;intro f7 FK fb;rw[ig]at FK;obtain⟨bm,gw⟩:=bS (cd fb) (T6:ar f7 ac (.slice (aY ac) O O) (List.replicate O 0));clear FK fb;refine hK.out _ _ (fun _=>qH bm.o hHeld) (fun e4=>?_);clear hK K;try simp only[Act.put,zA]
     have e4:=e4 RX;refine bM 8 fun K hK=>?_
     go_simp;refine hK.out _ _ (fun _=>qH (bm.o.alloc bm.o.size _) hHeld) (fun e5=>?_);clear hK K;try simp only[Act.put,zA]
     have e5:=e5 RX;refine bM 9 fun K hK=>?_
     refine lj rfl (.tmp 62) (.tmp 69) rfl ((w:Nat)+1) ac f7 (.slice A rows c) (.slice (aY ac) O O) rows (List.replicate O 0) ad.o bm.o gw.o (by have:=c9.o;omega) (by have:=da.o;omega) rfl rfl ?_;intro b2 ch cu fn cj g8 fd;have co:=(fd z (by have:=bm.o.size;have:=da.o;omega) (zg6 ad.o Z.o)).trans (ak Z.o bm.o);have fz:=(cj.block w (iV _)).trans am.o;obtain⟨t0,t1,t2⟩:=aq co;have e2:=aP co 2;obtain⟨es,gs,c6,cI,c0⟩:=lv co fz fn (ap.o.below cj TM) (je a0.o (cj.mono RU));clear co fz fn cj g8 fd;refine hK.out _ _ (fun h=>absurd h RX) (fun _=>?_);clear hK K;try simp only[Act.put,zA]
     refine bM 10 fun K hK=>?_
     go_simp;refine hK.out _ _ (fun h=>absurd h RX) (fun hHeld=>?_);clear hK K;try simp only[Act.put,zA]
     refine bM 11 fun K hK=>?_
     go_simp;refine hK.out _ _ (fun h=>absurd h RX) (fun hHeld=>?_);clear hK K;try simp only[Act.put,zA]
     refine eC Si ?_ _;have cr:=bs cu z 2 _ _ (.slice (aY b2) (rows.length+1) ch) es.o;simp only[zA]at cr;have d3:AnL C b (m+60002) z v h w (cu.setCell ⟨z,2,none⟩ (.slice (aY b2) (rows.length+1) ch)):=
      ⟨rows++[List.replicate O 0],some ⟨b2,0,none⟩,ch,by have:=em.o;simp;omega,fun q D=>by
       rcases fc.1 D with D|D
       .exact Fk.o q D
       .rw[gp.1 D,kj];have:=b0.o;omega,by rw[bQ];exact cr,(bw _ _ _ _ Wk).trans gs.o,by rw[bQ];exact lH c6.o es.o,(cI.o.iP (a:=⟨z,2,none⟩) U2 _).mono (by have:=E_.o;simp;omega),bW c0.o (a:=⟨z,2,none⟩) Wj _⟩
     have d2:zad z (cu.setCell ⟨z,2,none⟩ (.slice (aY b2) (rows.length+1) ch))=rows.length+1:=by unfold zad;rw[(aq cr).2.2]
     generalize cu.setCell ⟨z,2,none⟩ _=hv at d3 d2 ⊢;obtain⟨gm,gi⟩:=bS d3 d2;clear d3 d2 cr t0 t1 t2 e2 hHeld;go_wp2;go_roundw
     case rel=>exact gm
     case measure=>rw[gi.o,gf.o];have:=em.o;omega
    .have cn:=c9.o;go_wp2;go_meet
     exact⟨v,h,rows,A,c,b1.o,c8.o,⟨RU,Fk.o⟩,c5.o,cF.o.mono TO,cR.o⟩
  have e0:((r:Int)==3)=false:=Sk;by_cases gV:r=4
  .subst gV;clear dl h0 eA ci gL dT e0 d0;obtain⟨cc,ce,bv⟩:=aq HZ.o;clear b9;go_wp2_with (first
    |(go_at_call 85;refine(iE C b (m+60000+2+2) dc [0,100,101] _ ga.o RU rfl RS RS 3 rfl).mono ?_;rintro e gC ⟨u,rfl,⟨y,-,rfl⟩,bb,E⟩;have U:=bR gA.o E TN;obtain⟨f8,f9,z2⟩:=aq U;have e1:=aP U 0;have hl:=aP U 1;have e2:=aP U 2;have HE:=zH (show AnI C b (m+60000+2+2+2) z w (iA gC z (zI x) (zI y) (.slice none 0 0)) from⟨x,y,[],none,0,gH U,(kQ TN).trans (bR gn.o E Ew.o),⟨RS,fun r hr=>R5⟩,⟨[],m_ _ _ _ _,fun k u r h=>Sf,fun i j u hu b h=>Sf⟩,mx bb TN,jQ (gc.o.trans E) TN⟩);clear U bb E)
    |(go_at_call 85;refine(iE C b (m+60000+2) I [24,25] _ HC.o RU rfl RS RS 2 rfl).mono ?_;rintro e dc ⟨u,rfl,⟨x,-,rfl⟩,ba,F⟩;have gA:=zH (bR HZ.o F TN);have gn:=zH (bR HQ.o F Ew.o);have ga:=zH ba;have gc:=zH (HG.o.trans F);clear ba F))
   exact Y4
  have hj:((r:Int)==4)=false:=Sk;exact Yo
 case rest=>
  clear HZ HQ HO HC HG Fk Q;have b4:=hcut;clear hcut b9;unfold AnI at b4;obtain⟨v,h,rows,A,c,J,D,b8,bd,ab,b6⟩:=b4;obtain⟨V,rfl⟩:∃V,V=wc:=⟨wc,rfl⟩;obtain⟨cc,ce,bv⟩:=aq J;obtain⟨hw,hx,hy⟩:=aq D;obtain⟨f0,f1,f2⟩:=bU D;have f5:=gH (v0:=.int .i64 v) (v1:=.int .i64 h) (v2:=.slice A rows c) D;obtain⟨u0,u1,u2⟩:=aq f5;unfold iA at u0 u1 u2;obtain⟨Fk,c6,cI,c0⟩:=fU b8 (nC (x:=w.heap.size) (v0:=.int .i64 v) (v1:=.int .i64 h) (v2:=.slice A rows c) bd (iV _)) (mx (x:=w.heap.size) (v0:=.int .i64 v) (v1:=.int .i64 h) (v2:=.slice A rows c) ab Ew.o) (jQ (x:=w.heap.size) (v0:=.int .i64 v) (v1:=.int .i64 h) (v2:=.slice A rows c) b6 (ag _));clear J D b8 bd ab b6 f5;go_wp2;refine ax (v:=.agg (ae v h A rows c)) (by simp[results,results54,go_sem, *]) rfl ⟨_,rfl,?_,cI.o,c0.o⟩;exact⟨⟨v,h,rows⟩,A,c,rfl,Fk.o,c6.o.mono RU⟩
end Go.Proofs.YtdpgblncijojiaaGreatDoor
