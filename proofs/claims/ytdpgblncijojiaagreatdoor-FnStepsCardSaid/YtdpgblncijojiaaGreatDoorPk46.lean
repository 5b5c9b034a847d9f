/- Parts of the walks. Conditions: as stated with each. -/
import Derived.Test.YtdpgblncijojiaaGreatDoorPk41
import Derived.Test.YtdpgblncijojiaaGreatDoorPk44
import Derived.Test.YtdpgblncijojiaaGreatDoorPk45
namespace Go.Proofs.YtdpgblncijojiaaGreatDoor
open Go.RowKit Tryz
set_option linter.all false
set_option maxHeartbeats 4000000
set_option maxRecDepth 100000
variable{A1 A2 A3 RJ:an}{B D RP b c1 c2 c3 hi i j k lo m n r x:Nat}{C:Code}{E RL V w w':aa}{G g:Gr}{H R RR U v0 v1 v2 v3:au}{L:List jJ}{RN:List Ed}{RO l:bX}{e:Ending}{p:Int}{row:Option Nat}
def BM(l:bX)(n:Nat):bF (l.drop n)=(bF l).drop n:=by unfold bF;rw[vM]
def BN(l:bX)(n:Nat):bF (l.take n)=(bF l).take n:=by unfold bF;rw[sj]
def zif(p:Int)(w:aa)(e:Ending)(w':aa):Prop:=∃G,wG p G/\B9 G w e w'
def zig(F:2<=p)(h:g.xe p):∀e∈g.es,0<=e.v/\e.v<p:=fun e H=>by
 have E:=h e H;have D:=E.1;unfold Ed.mE at D;simp only[bC,cK]at D;have J:e.v<p:=D8 F D.1 Tg (fun I=>E.2.2.2.2 I);refine⟨?_,J⟩;have z:=D.1;unfold dZ at z;dsimp only at z;rw[bC]at z;have z:=z.2;split at z
 .omega
 .split at z <;>simp only[bC,cK]at z <;>omega
def kS.gr{c:gW}{t:Tm}(F:2<=p)(h:kS p L c)(D:dY L=t.flat)(E:t.ty=some c)(z:t.v_=true):wG p t.gr:=⟨Tm.ze z,zig F (Tm.zcj (h.over D E) z)⟩
def zih{t:Tm}(Q:t.v_=true->wG p t.gr)(h:xm t w e w'):∃(G:Gr) (D:an) (H:Nat) (E:an) (I:Nat) (F:an) (J:Nat),e=.returned (.tuple #[.agg (bI G D H E I F J),.bool t.v_])/\wG p G/\Fr w' w w' (fun V=>nX V D E F G)/\ai w w':=by
 rcases h with⟨h1,h2,z⟩|⟨h1,A1,c1,A2,c2,A3,c3,h2,z,O⟩
 .refine⟨gr0,none,0,none,0,none,0,S9,wG.nil p,Fr.all fun _=>⟨aF rfl,aF rfl,aF rfl⟩,z⟩
 .exact⟨t.gr,A1,c1,A2,c2,A3,c3,S9,Q h1,z,O⟩
def zf3(p:Int)(L:List jJ)(c:gW)(A:an)(cap:Nat)(w:aa)(bz:2<=p)(a3:dp 3 nl w A L)(bp:kS p L c)(a7:L.length<=400)(a6:L.length<=cap):aw 148 (cJ (bL A L cap)) w (zif p w):=by
 have Y:=((aj w w).alloc (ag _) (.cells (bL A L cap) 176)).alloc RS (.cells cw 151);have ab:=(b_ (w.alloc (.cells (bL A L cap) 176)) (.cells cw 151) (k:=w.heap.size) RS).trans (az w _ rfl);have ac:=az (w.alloc (.cells (bL A L cap) 176)) (.cells cw 151) (n:=(w:Nat)+1) RS;obtain⟨⟨t,Q,R⟩,a2⟩:=bp;obtain⟨bd,bi⟩:=bS (fun V (br:ai w V)=>tn t c L A cap V R Q a7 a6 (dI a3 br)) (fun bv=>kS.gr bz ⟨⟨t,Q,R⟩,a2⟩ Q R bv);clear a3 a7 a6 Q R a2;go_enter func148,ntmps148
 go_upto_region 1 with(fail)
 generalize (w.alloc _).alloc _=W at Y ab ac ⊢;have ca:=du ab 0 rfl;obtain⟨am,a0⟩:=bS Y ac;clear Y ab ac;go_upto_region 2 with(go_at_call 155;(with_reducible refine(bd.o W am.o).mono ?_);intro e ad h;obtain⟨G,z,F,D,H,E,I,bo,a5,a4,U⟩:=zih bi h;subst bo;have be:=zH a5;have bb:=zH a4;have a8:=zH (cC am U);have bm:=zH (ak a0 U);have EV:=zH (show(w:Nat)+1<W from(aM.1 a0).1);have b4:=zH U.size;clear U a4 a5 h)
 have Z:=az ad (.cells (bI G z F D H E I) 151) rfl;have J:=aD ad (.cells (bI G z F D H E I) 151);have ap:=zH (bb.ext J (ag _));have O:=ak bm J;obtain⟨ao,a1⟩:=bS (cC a8 J) J.size;generalize ad.alloc _=b9 at Z J ap O ao a1 ⊢;obtain⟨cb,cc,z2,ce⟩:=aK Z;obtain⟨b5,b6,b7,b8⟩:=aK O;obtain⟨f0,f1,f2,f3⟩:=cP O;have y:=cT (v0:=.int .i64 (G.w:Nat)) (v1:=.slice z G.es F) (v2:=.slice D G.i H) (v3:=.slice E G.o I) O;obtain⟨b0,b1,b2,b3⟩:=aK y;unfold eh at b0 b1 b2 b3;obtain⟨a9,ba⟩:=bS (de ao (b:=(w:Nat)+1) RU (zI (G.w:Nat)) (.slice z G.es F) (.slice D G.i H) (.slice E G.o I)) (ap.eh (b:=(w:Nat)+1) (v0:=.int .i64 (G.w:Nat)) (v1:=.slice z G.es F) (v2:=.slice D G.i H) (v3:=.slice E G.o I) EV);clear Z J O y;go_wp2;refine ax (v:=.agg (bI G z F D H E I)) (by simp[results,results148,go_sem, *]) rfl ?_;exact⟨G,be,z,F,D,H,E,I,rfl,ba.to TJ (by rw[ey];exact a1),a9⟩
def zag(p:Int)(g:Gr)(A1 A2 A3:an)(c1 c2 c3 k:Nat)(w:aa)(e2:nX w A1 A2 A3 g)(bb:wG p g)(g2:k<=g.i.length)(db:k<=g.o.length):aw 150 (iU (bI g A1 c1 A2 c2 A3 c3) k) w (zif p w):=by
 have bv:=rC.of bb.ok;have dc:=Gr.gl.1 bb.ok;have ei:=zH (fun V (ba:ai w V)=>AY g A1 A2 A3 c1 c2 c3 V (e2.ext ba) bv);obtain⟨ne,b6⟩:=aO g.es.length;obtain⟨I,be⟩:=aO g.i.length;obtain⟨no,bi⟩:=aO g.o.length;obtain⟨n,g5⟩:=aO (I-k);obtain⟨m,g4⟩:=aO (no-k);have hg:n<=I:=RU;have he:m<=no:=RU;have hj:I<=12:=by rw[be];exact dc.2.2.1
 have hk:no<=12:=by rw[bi];exact dc.2.2.2.1
 have hm:IntKind.i64.wrap ((I:Int)-(k:Int))=(n:Int):=SQ;have hl:IntKind.i64.wrap ((no:Int)-(k:Int))=(m:Int):=SQ;obtain⟨O,R⟩:∃O:Gr,O=⟨g.w,g.es,g.i.take n,g.o.take m⟩:=⟨_,rfl⟩;obtain⟨us,b8⟩:=aO (g.i.drop n);obtain⟨ab,ca⟩:=aO (g.o.drop m);have Y:=Gr.lE bb.ok;have bp:us.length=I-n:=by rw[b8,lR,be]
 have b9:ab.length=no-m:=by rw[ca,lR,bi]
 have dT:∀x∈us,x<g.w:=fun x H=>Y x (aF (by rw[b8]at H;exact km H))
 have d0:∀x∈ab,x<g.w:=fun x H=>Y x (aA (aF (by rw[ca]at H;exact km H)))
 have eg:=zH (show wG p (iK O (us.zip ab)) by rw[R];refine bb.glue ⟨Sw,fun x H=>Y x (aF (p_ H))⟩ ⟨Sw,fun x H=>Y x (aA (aF (p_ H)))⟩ fun q e4=>⟨dT _ (pT e4).1,d0 _ (pT e4).2⟩)
 have ga:=zH (show rC O by
  rw[R];refine⟨fun x H=>?_,bv.w,bv.es,by show(g.i.take n).length<=4096;rw[dH];omega,by show(g.o.take m).length<=4096;rw[dH];omega,bv.el⟩;rcases H with H|H|H
  .exact Y x (aF (p_ H))
  .exact Y x (aA (aF (p_ H)))
  .exact Y x (aA (aA H)))
 obtain⟨ea,fn,gi,gs,ev,eA⟩:=mA (fun V Q E z b0 b1 U F D f7 f8 (b5:nX V Q E z O) (ce:aT V b0 (bF us)) (ch:aT V b1 (bF ab))=>nG O us ab Q E z b0 b1 U F D f7 f8 V b5 ga (by rw[bp,b9];omega) (by rw[bp];omega) ce ch (by rw[R];exact dT) (by rw[R];exact d0)) R b8 ca bp b9;rw[show O.w=g.w by rw[R],show O.es.length=ne by rw[R,b6],show O.i.length=n by rw[R];show(g.i.take n).length=n;rw[dH];omega,show O.o.length=m by rw[R];show(g.o.take m).length=m;rw[dH];omega,bp,b9]at ea;obtain⟨fs,cz,cF⟩:=d_ b6 be bi;rw[<-b6,<-be,<-bi]at ei ⊢;have c6:=((aj w w).alloc (ag _) (.cells (fJ g.w A1 ne c1 A2 I c2 A3 no c3) 151)).alloc RS (.cells cw 151);have cn:=(b_ (w.alloc (.cells (fJ g.w A1 ne c1 A2 I c2 A3 no c3) 151)) (.cells cw 151) (k:=w.heap.size) RS).trans (az w _ rfl);have Z:=az (w.alloc (.cells (fJ g.w A1 ne c1 A2 I c2 A3 no c3) 151)) (.cells cw 151) (n:=(w:Nat)+1) RS;clear e2 bb g2 db bv dc b6 be bi g5 g4 R b8 ca Y bp b9 dT d0;go_enter func150,ntmps150
 go_upto_region 1 with(fail)
 generalize (w.alloc _).alloc _=W at c6 cn Z ⊢;obtain⟨g9,ha,cr,ct⟩:=aK cn;obtain⟨d7,gB,gC,EV⟩:=fU c6 cn Z (show(w:Nat)+1<W from(aM.1 Z).1);clear c6 cn Z;go_upto_region 2 with(go_at_call 157;(with_reducible refine(ei.o W d7.o).mono ?_);intro e fb h;unfold mP at h;obtain⟨Q,U,E,F,z,D,B,ad,bm,am⟩:=h;rw[<-fs.o,<-cz.o,<-cF.o]at ad;subst ad;have J:=ak gB am;obtain⟨e7,e8,e9,fa⟩:=aK J;obtain⟨f0,f1,f2,f3⟩:=cP J;have gA:=zH J;have fz:=zH bm;have cy:=zH am;clear J bm am)
 obtain⟨ao,br⟩:=aO (eh fb w (zI (g.w:Nat)) (.slice Q ne U) (.slice E I F) (.slice z no D));have y:=cT (v0:=.int .i64 (g.w:Nat)) (v1:=.slice Q ne U) (v2:=.slice E I F) (v3:=.slice z no D) gA;have dl:=fz.eh (b:=w.heap.size) (v0:=.int .i64 (g.w:Nat)) (v1:=.slice Q ne U) (v2:=.slice E I F) (v3:=.slice z no D) TJ;have Z:=(jW (w:=fb) (v0:=.int .i64 (g.w:Nat)) (v1:=.slice Q ne U) (v2:=.slice E I F) (v3:=.slice z no D) (RU:(w:Nat)+1≠w.heap.size)).trans (ak gC cy);have c9:=de (cC d7 cy) (b:=w.heap.size) (ag _) (zI (g.w:Nat)) (.slice Q ne U) (.slice E I F) (.slice z no D);have e5:(W:Nat)<=ao:=by rw[br,ey];exact cy.size
 rw[<-br]at y dl Z c9;unfold eh at br;rw[<-br];clear br g9 ha cr ct e7 e8 e9 fa f0 f1 f2 f3;obtain⟨-,-,cr,ct⟩:=aK y;have cO:=bn cr ct;obtain⟨fo,cI,f5,d8,f9⟩:=lv y dl Z c9 e5;clear y dl Z c9 cr ct e5;go_region_held3 (fun V=>ah V w 2 (.slice E I F)/\ah V w 3 (.slice z no D))
  (first|with_reducible exact cO|with_reducible exact mC (aI _) cO)
  ((fail))
 have b2:=zH (cI.ext (aI ao)).fr;have J:=ak fo (aI ao);obtain⟨eo,d9,es,gm,gn⟩:=lv (ak f5 (aI ao)) (d8.trans ((aI ao).mono d8.size)) (show(W:Nat)<=ao.drew from f9.o) cI.i.view cI.o.o.view;obtain⟨ac,e6⟩:=aO ao.drew;rw[<-e6]at b2 J d9 eo es ⊢;have gw:=zH J;have db:I<=F:=by have h:=gm.o;rw[bj,<-cz.o]at h;obtain⟨fd,gV,e,-,a9⟩:=h;cases e;exact a9.1
 have g3:no<=D:=by have h:=gn.o;rw[bj,<-cF.o]at h;obtain⟨fd,gV,e,-,a9⟩:=h;cases e;exact a9.1
 have hh:n<=F:=RU;have hf:m<=D:=RU;obtain⟨gL,c7⟩:=aO (Ck E F n);obtain⟨X3,c8⟩:=aO (Ck z D m);have em:=zH (fun V (ba:ai ac V)=>iH (Ck E F n) (F-n) (bF us) V (by
  rw[gi.o,BM];exact ud ((b2.ext ba (ag _)).now.i) (c:=F) (by rw[bj,<-cz.o];exact db) n) (by rw[bj,ev.o];omega))
 have en:=zH (fun V (ba:ai ac V)=>iH (Ck z D m) (D-m) (bF ab) V (by
  rw[gs.o,BM];exact ud ((b2.ext ba (ag _)).now.o) (c:=D) (by rw[bj,<-cF.o];exact g3) m) (by rw[bj,eA.o];omega))
 obtain⟨ej,ek⟩:=bS (show(bF us).length=I-n from(bj _).trans ev) (show(bF ab).length=no-m from(bj _).trans eA);rw[ej.o,<-c7]at em;rw[ek.o,<-c8]at en;have g0:(if F=n then E else Option.map (fun x=>x.add n) E)=gL:=c7.symm;have g1:(if D=m then z else Option.map (fun x=>x.add m) z)=X3:=c8.symm;obtain⟨-,-,z2,cu⟩:=aK J;have a8:=bn z2 cu;clear z2 cu cO J e6 c7 c8;go_upto_region 3 with(fail)
 go_region_held3 (fun V=>ah V w 2 (.slice E I F)/\ah V w 3 (.slice z no D))
  (first|with_reducible exact a8|with_reducible exact mC (aI _) a8|with_reducible exact mC b3.o a8|with_reducible exact mC a7.o a8)
  ((first|(go_at_call 80;(with_reducible refine(em.o _ (aI ac)).mono ?_);rintro e ho ⟨u7,rfl,bo,a0⟩;have b3:=zH ((aI ac).trans (a0.mono (aI ac).size));have gc:=zH bo;clear bo a0)|(go_at_call 80;(with_reducible refine(en.o _ b3.o).mono ?_);rintro e d6 ⟨u8,rfl,bo,a0⟩;have a7:=zH (cC b3 a0);have gf:=zH (bo.mono b3.size);have gd:=zH ((gc.ext a0));clear bo a0)))
 have cc:=ak gw a7;obtain⟨ci,cj,p2,ck⟩:=aK cc;obtain⟨cR,c0,c4,c5⟩:=cP cc;go_upto_region 5 with(fail)
 have ap:=bs d6 w 2 _ _ (.slice E n F) cc;simp only[zA]at ap;clear ci cj p2 ck cR c0 c4 c5;obtain⟨co,d4⟩:=aO (d6.setCell ⟨w,2,none⟩ (.slice E n F));rw[<-d4]at ap ⊢;have e0:=zH d4;obtain⟨ci,cj,p2,ck⟩:=aK ap;obtain⟨cR,c0,c4,c5⟩:=cP ap;clear d4 cc;go_upto_region 6 with(fail)
 have b4:=bs co w 3 _ _ (.slice z m D) ap;simp only[zA]at b4;clear ci cj p2 ck cR c0 c4 c5;have g8:=EV.o;have da:∀k,(w:Nat)<k->(co.setCell ⟨w,3,none⟩ (.slice z m D)).heap[k]?=d6.heap[k]?:=fun k h=>by refine(bw _ _ _ _ (by show k≠w.heap.size;omega)).trans ?_;rw[e0.o];exact bw _ _ _ _ (by show k≠w.heap.size;omega)
 have bd:=(b2.same (w':=co.setCell ⟨w,3,none⟩ (.slice z m D)) (fun k hd a9=>(da k RU).trans (a7.block k a9))).now;have cb:(w:Nat)<ac.drew:=by show(w:Nat)<ac;have:=es.o;omega
 have d5:(w:Nat)<ac:=cb;have a2:=gd.setCell (a:=⟨w,2,none⟩) cb (.slice E n F);have a3:=gf.setCell (a:=⟨w,2,none⟩) d5 (.slice E n F);have a1:=(cC d9 a7).setCell (p:=⟨w,2,none⟩) (ag _) (.slice E n F);rw[<-e0.o]at a2 a3 a1
 replace a2:=a2.setCell (a:=⟨w,3,none⟩) cb (.slice z m D)
 replace a3:=a3.setCell (a:=⟨w,3,none⟩) d5 (.slice z m D)
 replace a1:=a1.setCell (p:=⟨w,3,none⟩) (ag _) (.slice z m D)
 have b7:=(da ((w:Nat)+1) RU).trans (ak eo a7);generalize co.setCell ⟨w,3,none⟩ _=bz at b4 bd a2 a3 a1 b7 ⊢;obtain⟨b0,f7,e1,ce,-⟩:=a2.view;rw[ej.o]at e1;subst e1;obtain⟨b1,f8,ad,ch,-⟩:=a3.view;rw[ek.o]at ad;subst ad;have b5:nX bz Q E z O:=by rw[fn.o];exact⟨bd.es,by show aT bz E (bF (g.i.take n));rw[BN];exact mN bd.i n,by show aT bz z (bF (g.o.take m));rw[BN];exact mN bd.o m⟩
 have eb:=zH (ea bz Q E z b0 b1 U F D f7 f8 b5 ce ch);obtain⟨G,e3⟩:=aO (iK O (us.zip ab));rw[<-e3]at eb eg;obtain⟨fi,f6,gb⟩:=d_ a1 b7 (show(w:Nat)+1<bz from(aM.1 b7).1);obtain⟨ci,cj,p2,ck⟩:=aK b4;clear b5 a1 b7 ce ch a2 a3 bd da b4 ap e3 a8 g0 g1 cb d5 g8;go_wp2_with ((go_at_call 138;(with_reducible refine eb.o.mono ?_);intro e hn h;unfold mP at h;obtain⟨a4,d1,a5,d2,a6,d3,B',ad,bm,am⟩:=h;subst ad;have J:=ak f6 am;obtain⟨e7,e8,e9,fa⟩:=aK J;obtain⟨f0,f1,f2,f3⟩:=cP J;have y:=cT (v0:=.int .i64 (G.w:Nat)) (v1:=.slice a4 G.es d1) (v2:=.slice a5 G.i d2) (v3:=.slice a6 G.o d3) J;obtain⟨hb,hc,z2,cu⟩:=aK y;unfold eh at hb hc z2 cu;have f4:=zH bm;have fl:=zH (de (cC fi am) (b:=(w:Nat)+1) RU (zI (G.w:Nat)) (.slice a4 G.es d1) (.slice a5 G.i d2) (.slice a6 G.o d3));clear J y bm am))
 refine ax (v:=.agg (bI G a4 d1 a5 d2 a6 d3)) (by simp[results,results150,go_sem, *]) rfl ?_;have g7:=gb.o;have g6:=f4.eh (b:=(w:Nat)+1) (v0:=.int .i64 (G.w:Nat)) (v1:=.slice a4 G.es d1) (v2:=.slice a5 G.i d2) (v3:=.slice a6 G.o d3) g7;exact⟨G,eg,a4,d1,a5,d2,a6,d3,rfl,(g6.mono (B0':=w.heap.size) RU).fr,fl⟩
def zcV(h:l.Nodup)(hi:i<l.length)(D:j<l.length)(e:l[i]=l[j]):i=j:=by
 have h:=List.pairwise_iff_getElem.1 (List.nodup_iff_pairwise_ne.1 h);rcases vt i j with z|z|z
 .exact absurd e (h i j hi D z)
 .exact z
 .exact absurd e.symm (h j i D hi z)
def B6(xs:bG)(q:Nat)(a b c d:au):List Value:=(((xs.set q a).set (q+1) b).set (q+2) c).set (q+3) d
def zgr{xs:bG}{q:Nat}{a b c d:au}(h:q+3<xs.length):(B6 xs q a b c d)[q]?=some a/\(B6 xs q a b c d)[q+1]?=some b/\(B6 xs q a b c d)[q+2]?=some c/\(B6 xs q a b c d)[q+3]?=some d:=by
 unfold B6;refine⟨?_,?_,?_,?_⟩
 .rw[dz RU,dz RU,dz RU,eu RU]
 .rw[dz RU,dz RU,eu Sk]
 .rw[dz RU,eu Sk]
 .rw[eu Sk]
def zeM{xs:bG}{q:Nat}{a b c d:au}(h:r<q∨q+3<r):(B6 xs q a b c d)[r]?=xs[r]?:=by unfold B6;rw[dz RU,dz RU,dz RU,dz RU]
def ArE(B n z:Nat)(xs:bG)(V:aa):Prop:=V.ownsRow B 166 4 (.slice (aY z) n n) n xs
def ArE.put{xs:bG}(h:ArE B n D xs V)(q:Nat)(a b c d:au):ArE B n D (B6 xs q a b c d) ((((V.setCell ⟨D,q,none⟩ a).setCell ⟨D,q+1,none⟩ b).setCell ⟨D,q+2,none⟩ c).setCell ⟨D,q+3,none⟩ d):=by unfold ArE at h ⊢;exact((((h.stored q a).1.stored (q+1) b).1.stored (q+2) c).1.stored (q+3) d).1
def zaJ(V:aa)(z q:Nat)(a b c d:au):V.grownBy ((((V.setCell ⟨z,q,none⟩ a).setCell ⟨z,q+1,none⟩ b).setCell ⟨z,q+2,none⟩ c).setCell ⟨z,q+3,none⟩ d) (some z):=(((qR V z q a).trans (qR _ z (q+1) b)).trans (qR _ z (q+2) c)).trans (qR _ z (q+3) d)
def ArE.at{xs:bG}(h:ArE B n D xs V)(E:j<n*4):∃y,xs[j]?=some y/\ah V D j y/\V.frozen? ⟨D,j,none⟩=false:=by have F:xs.length=n*4:=h.1;obtain⟨y,z⟩:=aB (RU:j<xs.length);exact⟨y,z,(World.ownsRow.cellAt h j E).trans z,World.ownsRow.frozenAt h j⟩
def Df(D:bX)(E:aa)(b o j:Nat)(xs:bG):Prop:=∀z k,z<j->D[z]?=some k->∀i,i<4->xs[k*4+i]?=E.cell? ⟨b,o+z*4+i,none⟩
def Df.step{o:Nat}{xs:bG}(h:Df RO E b o j xs)(ao:RO.Nodup)(D:RO[j]?=some k)(ap:k*4+3<xs.length)(ab:ah E b (o+j*4) H)(ac:ah E b (o+j*4+1) R)(ad:ah E b (o+j*4+2) U)(am:ah E b (o+j*4+3) RR):Df RO E b o (j+1) (B6 xs (k*4) H R U RR):=by
 intro F I a3 z i hi;obtain⟨a0,a1,p2,a2⟩:=zgr (a:=H) (b:=R) (c:=U) (d:=RR) ap;by_cases e:F=j
 .subst e;rw[D]at z;cases z
  match i,hi with
  |0,_=>exact a0.trans ab.symm
  |1,_=>exact a1.trans ac.symm
  |2,_=>exact p2.trans ad.symm
  |3,_=>exact a2.trans am.symm
 .have a4:I≠k:=fun Z=>e (by
   subst Z;obtain⟨J,O⟩:=bA.1 z;obtain⟨Q,Y⟩:=bA.1 D;exact zcV ao J Q (O.trans Y.symm))
  rw[zeM RU];exact h F I RU z i hi
def zaK(D:bX)(z:List Ed):List Ed:=(List.range z).map fun k=>z.getD (D.idxOf k) ⟨0,0,[],[]⟩
def ym(D:bX)(z:List Ed):(zaK D z).length=z:=by simp[zaK]
def Dg{e:Ed}(E:RO.Nodup)(H:RO[j]?=some k)(F:RN[j]?=some e)(I:k<RN.length):(zaK RO RN)[k]?=some e:=by unfold zaK;rw[cp,lu I,sd];obtain⟨z,D⟩:=bA.1 H;rw[<-D,E.idxOf_getElem j z,bu,F];rfl
def zaL{ne:Nat}(h:tZ D B V A1 c1 A2 c2 A3 c3 g)(F:g.es.length=ne)(H:0<ne):∃b o,A1=some ⟨b,o,none⟩/\D<=b/\b < (V:Nat):=by
 obtain⟨b,cap,e,z,E⟩:=h.es.form RU;cases e
 exact⟨b,0,rfl,bc h.b z,E⟩
def zhE{z:Gr}{ne I:Nat}{J:an}{xs:bG}(bm:RO.Nodup)(Q:RO.Perm (List.range ne))(Z:G.es=zaK RO z.es)(bb:G.i=z.i)(bo:G.o=z.o)(H:z.es.length=ne)(a7:Fr E lo hi (fun F=>nX F (some ⟨RP,I,none⟩) RJ J z))(U:lo<=RP/\RP<hi)(a6:ArE B ne D xs RL)(a8:Df RO E RP I ne xs)(F:aa)(R:∀k,lo<=k->k<hi->F.heap[k]?=E.heap[k]?)(a9:F.heap[D]?=RL.heap[D]?):nX F (some ⟨D,0,none⟩) RJ J G:=by
 have h:=a7 F R;refine⟨aA ⟨D,0,rfl,fun k x am=>?_⟩,by rw[bb];exact h.i,by rw[bo];exact h.o⟩;have ao:k<ne:=by have:=(bA.1 am).1;rw[Z,ym,H]at this;exact this
 obtain⟨j,bi,be⟩:=vx.1 (Q.mem_iff.2 (et.2 ao));have ac:RO[j]?=some k:=by rw[dA bi,be]
 have ad:j<ne:=by have:=Q.length_eq;rw[g_]at this;omega
 obtain⟨e,Y⟩:=aB (by rw[H];exact ad:j<z.es.length);have bp:x=e:=by have:=Dg bm ac Y (by rw[H];exact ao);rw[<-Z,am]at this;exact eH this
 subst bp;obtain⟨bz,b2,ap,h'⟩:=h.es.here (RU:0<z.es.length);cases ap
 obtain⟨c,a3,O⟩:=h' j x Y;refine⟨c,fun i y ab=>?_,O⟩;have ba:c.length=4:=by obtain⟨br,b0,bv,b1,a2,-⟩:=O;rw[a2];rfl
 have bd:i<4:=by rw[<-ba];exact(bA.1 ab).1
 have a4:=a8 j k ad ac i bd;have a5:=a3 i y ab;rw[iw];have a0:RL.cell? ⟨D,k*4+i,none⟩=xs[k*4+i]?:=World.ownsRow.cellAt a6 _ RU;have a1:ah E RP (I+j*4+i) y:=ik (R RP U.1 U.2).symm a5;exact ik a9 (a0.trans (a4.trans a1))
def yo(p:Int)(g:Gr)(W R:bX)(A1 A2 A3 At eb:an)(c1 c2 c3 fn cR:Nat)(w:aa)(f9:nX w A1 A2 A3 g)(bo:wG p g)(da:W.Perm (List.range g.w))(a0:R.Perm (List.range g.es))(ga:aT w At (bF W))(gb:aT w eb (bF R)):aw 158 #[.agg (bI g A1 c1 A2 c2 A3 c3),.slice At g.w fn,.slice eb g.es cR] w (zif p w):=by
 have g5:=rC.of bo.ok;have gC:=Gr.gl.1 bo.ok;have gA:=Gr.lE bo.ok;obtain⟨f,dl⟩:∃f:gF,f=fun x=>W.getD x 0:=⟨_,rfl⟩
 have gd:W.length=g.w:=by rw[da.length_eq,g_]
 have f8:R.length=g.es:=by rw[a0.length_eq,g_]
 have gB:DX (bF W) f g:=fun x g3=>by have g3:=gA x g3;rw[dl,fv (x:=W.getD x 0) (by rw[bu,dA RU];rfl)]
 have e1:=zH (fun V (gc:ai w V)=>rE g g.w (bF W) f A1 A2 A3 At c1 c2 c3 fn V (f9.ext gc) (ga.ext gc) gB SF RU RU RU RU RU (fun e dc=>by have:=g5.el e dc;omega));obtain⟨ne,ab⟩:=aO g.es.length;obtain⟨E,bp⟩:=aO g.i.length;obtain⟨no,br⟩:=aO g.o.length;obtain⟨G,a1⟩:∃G:Gr,G=⟨g.w,zaK R (g.es.map (Ed.map f)),g.i.map f,g.o.map f⟩:=⟨_,rfl⟩;have d4:R.Nodup:=a0.nodup_iff.2 List.nodup_range;have es:=zH (show wG p G by
  rw[a1,dl];refine bo.ziu da a0 (by rw[ym,bt]) fun j k e ch dc=>?_
  have hw:k<g.es.length:=et.1 (a0.mem_iff.1 (a_ ch));exact Dg d4 ch (by rw[cp,dc];rfl) (by rw[bt];exact hw))
 obtain⟨e0,cy,eo,ev,ba,hg,hh,GL⟩:=zH8 (by rw[a1]:G.w=g.w) (show G.es.length=ne by rw[a1];show(zaK R _).length=ne;rw[ym,bt,ab]) (show G.i.length=E by rw[a1];show(g.i.map f).length=E;rw[bt,bp]) (show G.o.length=no by rw[a1];show(g.o.map f).length=no;rw[bt,br]) (by rw[ab];exact bt ..:(g.map g.w f).es.length=ne) (by rw[bp];exact bt ..:(g.map g.w f).i.length=E) (by rw[br];exact bt ..:(g.map g.w f).o.length=no) a1;have h4:ne<=60:=by rw[ab];exact gC.2.1
 obtain⟨ej,hb,e3,hc,hk⟩:=lv (by rw[ab];exact f8:R.length=ne) (show ∀(j k:Nat),R[j]?=some k->k<ne from fun j k ch=>by rw[ab];exact et.1 (a0.mem_iff.1 (a_ ch))) d4 (by rw[ab];exact a0:R.Perm (List.range ne)) gb;rw[bj,gd,<-ab,<-bp,<-br]at e1;rw[<-ab,<-bp,<-br];have c6:=((aj w w).alloc (ag _) (.cells (fJ g.w A1 ne c1 A2 E c2 A3 no c3) 151)).alloc RS (.cells cw 151);have cn:=(b_ (w.alloc (.cells (fJ g.w A1 ne c1 A2 E c2 A3 no c3) 151)) (.cells cw 151) (k:=w.heap.size) RS).trans (az w _ rfl);have co:=az (w.alloc (.cells (fJ g.w A1 ne c1 A2 E c2 A3 no c3) 151)) (.cells cw 151) (n:=(w:Nat)+1) RS;clear f9 bo da a0 ga gb g5 gC gA gd f8 gB ab bp br d4 a1 dl;go_enter func158,ntmps158
 go_upto_region 1 with(fail)
 generalize (w.alloc _).alloc _=fl at c6 cn co ⊢;obtain⟨hU,hV,hW,hX⟩:=aK cn;obtain⟨cr,hm,hn,EV⟩:=fU c6 cn co (show(w:Nat)+1<fl from(aM.1 co).1);clear c6 cn co;go_upto_region 2 with(go_at_call 161;(with_reducible refine(e1.o fl cr.o).mono ?_);intro e b1 h;unfold mP at h;obtain⟨eg,d1,J,d2,O,d3,B,f4,d5,Z⟩:=h;rw[ba.o,hg.o,hh.o,show(g.map g.w f).w=g.w from rfl]at f4;subst f4;have ek:=zH d5.fr;have en:=zH (zaL d5 ba.o);have ao:=zH Z;clear d5 Z)
 have bz:=az b1 (.cells (fJ g.w eg ne d1 J E d2 O no d3) 151) rfl;have a3:=aD b1 (.cells (fJ g.w eg ne d1 J E d2 O no d3) 151);obtain⟨a9,e6,a8,cz,cF⟩:=lv (ek.o.ext a3 (ag _)) ao.o.size ((cC cr.o ao.o).trans (a3.mono (cC cr.o ao.o).size)) (ak (ak hm.o ao.o) a3) (ak (ak hn.o ao.o) a3);generalize g1:b1.alloc _=H at bz a3 a9 a8 cz cF ⊢;have Hp:=zH (by rw[<-g1];simp:(b1:Nat)+1=H);generalize bv:(b1:Nat)=b3 at bz a9 e6 Hp en ⊢;have e9:=zH bz;obtain⟨hD,hE,hF,hG⟩:=aK bz;obtain⟨hH,hI,n2,hL⟩:=aK cz.o;clear g1 bv bz a3 hU hV hW hX;go_upto_region 3 with(fail)
 have cj:=az H (.cells #[(g.w:Nat),fe,.slice J E d2,.slice O no d3] 151) rfl;have Z:=aD H (.cells #[(g.w:Nat),fe,.slice J E d2,.slice O no d3] 151);obtain⟨cu,b7,fd,hl⟩:=fU (a9.o.ext Z TK) (cC a8.o Z) (ak cF.o Z) (ak e9.o Z);generalize g2:H.alloc _=Y at cj Z cu b7 fd hl ⊢;have b8:=zH (by rw[<-g2];simp:(H:Nat)+1=Y);obtain⟨F,bv⟩:=aO H.heap.size;rw[<-bv]at cj b8 Hp ⊢;obtain⟨b9,bb,ao⟩:=d_ cj bv (show ai H Y from Z);clear g2 bv cj Z hD hE hF hG hH hI n2 hL cz ek;by_cases f5:ne=0
 .subst f5;have hY:=cu;go_upto_region 5 with(fail)
  obtain⟨a2,rfl⟩:∃a2,a2=Y:=⟨Y,rfl⟩;go_wp2;go_loopw [32] (fun i wr=>i=.int .i64 0/\wr=a2) (fun _ _=>0)
  case atStart=>exact⟨rfl,rfl⟩
  case round=>
   obtain⟨rfl,rfl⟩:=hrel;obtain⟨b4,a5,z2,b5⟩:=aK b9.o;have ac:=fd.o;obtain⟨hQ,hR,hS,hT⟩:=aK ac;obtain⟨f0,f1,f2,f3⟩:=cP ac;have y:=cT (v0:=.int .i64 (g.w:Nat)) (v1:=fe) (v2:=.slice J E d2) (v3:=.slice O no d3) ac;obtain⟨d7,d8,d9,ea⟩:=aK y;unfold eh at d7 d8 d9 ea;have ct:=zH (de b7.o (b:=(w:Nat)+1) RU (zI (g.w:Nat)) (.slice none 0 0) (.slice J E d2) (.slice O no d3));clear ac y;go_wp2;refine ax (v:=.agg #[(g.w:Nat),fe,.slice J E d2,.slice O no d3]) VR rfl ?_;refine⟨G,es.o,none,0,J,d2,O,d3,by rw[e0.o,cy.o,eo.o,ev.o],fun cI ce=>?_,ct.o⟩;have hy:=EV.o;have gw:=cu.o cI fun k f6 f7=>(ce k RU (by show k < (eh wr ((w:Nat)+1) _ _ _ _:Nat);rw[ey];have:=Hp.o;have:=b8.o;omega)).trans (jW (w:=wr) (v0:=.int .i64 (g.w:Nat)) (v1:=fe) (v2:=.slice J E d2) (v3:=.slice O no d3) (RU:k≠(w:Nat)+1))
   exact⟨aF (eS cy.o),by rw[GL.o];exact gw.i,by rw[GL.o];exact gw.o⟩
 have h3:0 < (ne:Int):=RU;clear f5;obtain⟨cb,hM,ht,a4⟩:=(hk.o).here (by rw[bj,ej.o];omega:0 < (bF R).length);obtain⟨b4,a5,z2,b5⟩:=aK b9.o;obtain⟨f0,f1,f2,f3⟩:=cP b9.o;subst ht;have g9:=zH a4;clear a4;obtain⟨hC,hi,hz,hA,Es⟩:=cU zhJ.info;go_upto_region 5 with((at_make;refine jg _ rfl _ _ 149 rfl w.heap.size 166 hC (.agg #[(),(),fe,fe]) 4 underlying149 hi hz hA .i64 .i64 ne ne ne rfl rfl rfl rfl SW TS (by have:=b7.o.size;exact this) ?_;intro b2 g0 dT;have e8:=zH (cd dT);have e7:=zH g0;have ck:=ak b9.o (cd dT);obtain⟨b4,a5,z2,b5⟩:=aK ck;obtain⟨f0,f1,f2,f3⟩:=cP ck;have fa:=zH ck;clear g0 dT ck))
 obtain⟨D,Q,hu,gm,gn⟩:=en.o RU;subst hu;have g8:=zH (bn gm gn);have ha:=zH (show ∀(k:Nat) (x:Ed),(g.map g.w f).es[k]?=some x->∃c,(∀(j:Nat) (y:au),c[j]?=some y->ah H D (Q+k*4+j) y)/\EEd H x c by
  obtain⟨hZ,h7,hs,h'⟩:=a9.o.now.es.here (by rw[ba.o];omega:0 < (g.map g.w f).es.length);cases hs
  exact h')
 have b0:=bs b2 F 1 _ _ (.slice (aY Y) ne ne) fa.o;simp only[zA]at b0;have g4:F < (Y:Nat):=by have:=b8.o;omega
 have ca:ArE w ne Y _ (b2.setCell ⟨F,1,none⟩ (.slice (aY Y) ne ne)):=hJ e7.o (qR b2 F 1 _) (aA fun e=>by have e:(Y:Nat)=F:=eH e;omega);have d6:∀k,k<F->(b2.setCell ⟨F,1,none⟩ (.slice (aY Y) ne ne)).heap[k]?=H.heap[k]?:=fun k h=>(bw _ _ _ _ (by show k≠F;omega)).trans ((e8.o.block k RU).trans (ao.o.block k (by have:=b8.o;have:=bb.o;omega)))
 have cO:=(cC b7.o e8.o).setCell (p:=⟨F,1,none⟩) (by have:=a8.o.size;have:=bb.o;show(w:Nat)<=F;omega) (.slice (aY Y) ne ne);generalize b2.setCell ⟨F,1,none⟩ _=a2 at b0 ca d6 cO ⊢;generalize hB:(Y:Nat)=z at b0 ca g4 ⊢;obtain⟨e5,ei,he,g7,KP⟩:=lv b0 ca d6 cO (show b3<F/\F<z/\(w:Nat)+1<b3 by have:=Hp.o;have:=bb.o;have:=EV.o;have:=e6.o;omega);clear gm gn b0 ca d6 cO b4 a5 z2 b5 f0 f1 f2 f3 g4 hB fa e7;go_wp2;go_loopw [32] (fun i wr=>∃(j:Nat) (xs:bG),j<=ne/\i=.int .i64 j/\Hd (ArE w ne z xs wr)/\Hd (Df R H D Q j xs)/\Hd (a2.grownBy wr (some z))) (fun i _=>ne-(intOf i).toNat)
 case atStart=>exact⟨0,_,bf _,rfl,ei,zH (fun h6 k h=>absurd h (Nat.not_lt_zero _)),zH (uE _ _)⟩
 case round=>
  obtain⟨j,xs,h1,rfl,b6,e2,ad⟩:=hrel;have am:=zH (show ∀k,k<F->wr.heap[k]?=H.heap[k]? from fun k h=>by have h0:=KP.o;have h5:z < (a2:Nat):=(bZ ei.o z rfl).2;exact(ad.o.block k RU (fun e=>T5)).trans (he.o k h))
  have hx:aU wr F (fJ g.w (aY z) ne ne J E d2 O no d3) 151:=(ad.o.block F (aM.1 e5.o).1 (fun e=>VD)).trans e5.o;obtain⟨b4,a5,z2,b5⟩:=aK hx;obtain⟨I,rfl⟩:∃I,I=wr:=⟨wr,rfl⟩;by_cases gL:j<ne
  .have gV:=e2.o;obtain⟨U,ci⟩:=aB (by rw[ej.o];exact gL:j<R.length);have h2:=hb.o j U ci;obtain⟨em,gs⟩:=aB (by rw[ba.o];exact gL:j < (g.map g.w f).es.length);obtain⟨cl,bm,a6,bd,a7,be,hv,-,-⟩:=ha.o j em gs;subst hv;have cc:ah H D (Q+j*4) (zI em.k):=bm 0 _ rfl;have c0:ah H D (Q+j*4+1) (zI em.v):=bm 1 _ rfl;have c4:ah H D (Q+j*4+2) (.slice a6 em.i bd):=bm 2 _ rfl;have c5:ah H D (Q+j*4+3) (.slice a7 em.o be):=bm 3 _ rfl;have bi:D<F:=by have h:D < (H:Nat):=iN _ _ cc;have:=bb.o;omega
   have d0:ah I D (Q+j*4) (zI em.k):=ik (am.o D bi) cc;have fo:ah I D (Q+j*4+1) (zI em.v):=ik (am.o D bi) c0;have fs:ah I D (Q+j*4+2) (.slice a6 em.i bd):=ik (am.o D bi) c4;have fz:ah I D (Q+j*4+3) (.slice a7 em.o be):=ik (am.o D bi) c5;have hf:=zH (gV.step e3.o ci (by have h:xs.length=ne*4:=b6.o.1;omega) cc c0 c4 c5);have a4:=g9.o j _ (fv ci);have gi:cb < (w:Nat):=iN _ _ a4;have cR:ah I cb (hM+j) (zI (U:Nat)):=ik (w:=w) ((am.o cb (by have:=a8.o.size;have:=bb.o;omega)).trans (a8.o.block cb gi)) a4;obtain⟨-,t1,-,-⟩:=aK ((am.o b3 KP.o.1).trans e9.o);clear gV ci gs bm cc c0 c4 c5 bi a4 gi;go_upto_region 8 with(fail)
   have fi:=bn a5 (bn t1 (bn d0 (bn fo (bn fs fz))));clear b4 a5 z2 b5 t1 d0 fo fs fz;refine bJ (S:=fun V=>ah V F 1 (.slice (aY z) ne ne)/\ah V b3 1 (.slice (some ⟨D,Q,none⟩) ne d1)/\ah V D (Q+j*4) (zI em.k)/\ah V D (Q+j*4+1) (zI em.v)/\ah V D (Q+j*4+2) (.slice a6 em.i bd)/\ah V D (Q+j*4+3) (.slice a7 em.o be)) 9 Si fi (fun hHeld=>?_);have ap:ArE w ne z xs I.drew:=b6.o;have c8:=jP I (some z);generalize I.drew=g6 at ap c8 hHeld ⊢;obtain⟨v0,-,ho,hN⟩:=ap.at (j:=U*4) RU;obtain⟨v1,-,hp,hO⟩:=ap.at (j:=U*4+1) RU;obtain⟨v2,-,hq,p2⟩:=ap.at (j:=U*4+2) RU;obtain⟨v3,-,hr,hP⟩:=ap.at (j:=U*4+3) RU;obtain⟨e4,eA⟩:=bS (ap.put (U*4) (zI em.k) (zI em.v) (.slice a6 em.i bd) (.slice a7 em.o be)) (c8.trans (zaJ g6 z (U*4) (zI em.k) (zI em.v) (.slice a6 em.i bd) (.slice a7 em.o be)));clear ap c8 fi;refine aC 0 ?_;refine aC 1 ?_;refine aC 2 ?_;refine aC 3 ?_;refine aC 4 ?_;refine aC 5 ?_;refine aC 6 ?_;refine aC 7 ?_;refine aC 8 ?_;refine bM 9 fun K hK=>?_
   go_simp;refine hK.out _ _ (fun h=>absurd h RX) (fun hHeld=>?_);clear hK K;try simp only[Act.put,zA]
   refine eC Si ?_ _;clear ho hp hq hr hN hO p2 hP cR hHeld;have c9:=e4.o;have c7:=eA.o;generalize (((g6.setCell ⟨z,U*4,none⟩ _).setCell ⟨z,U*4+1,none⟩ _).setCell ⟨z,U*4+2,none⟩ _).setCell ⟨z,U*4+3,none⟩ _=h8 at c9 c7 ⊢;obtain⟨hj,hd⟩:=bS c9 (ad.o.trans c7);clear c9 c7 e4 eA;go_wp2;go_roundw
   case rel=>exact⟨j+1,_,RU,RW,hj,hf,hd⟩
   case measure=>simp[intOf];omega
  .obtain rfl:j=ne:=RU;have ac:=(am.o ((w:Nat)+1) (by have:=KP.o;omega)).trans cF.o;obtain⟨hQ,hR,hS,hT⟩:=aK ac;obtain⟨f0,f1,f2,f3⟩:=cP ac;have y:=cT (v0:=.int .i64 (g.w:Nat)) (v1:=.slice (aY z) j j) (v2:=.slice J E d2) (v3:=.slice O no d3) ac;obtain⟨d7,d8,d9,ea⟩:=aK y;unfold eh at d7 d8 d9 ea;have db:=g7.o;have gf:ai w I:=db.trans ⟨ad.o.os.symm ▸ rfl,ad.o.tape.symm ▸ rfl,ad.o.output.symm ▸ rfl,ad.o.size,fun k h=>ad.o.block k (by have:=db.size;omega) (fun e=>VD)⟩;obtain⟨ct,fb⟩:=bS (de gf (b:=(w:Nat)+1) RU (zI (g.w:Nat)) (.slice (aY z) j j) (.slice J E d2) (.slice O no d3)) (show z < (I:Nat)/\b3<=(I:Nat) by have f6:=(bZ b6.o z rfl).2;have f7:=KP.o;omega);clear ac y db gf;go_wp2;refine ax (v:=.agg (fJ g.w (aY z) j j J E d2 O no d3)) VR rfl ?_;refine⟨G,es.o,some ⟨z,0,none⟩,j,J,d2,O,d3,by rw[e0.o,cy.o,eo.o,ev.o],fun cI ce=>?_,ct.o⟩;have hy:=KP.o;refine zhE e3.o hc.o SV SV SV ba.o a9.o g8.o b6.o e2.o cI (fun k f6 f7=>?_) ?_
   .refine(ce k TJ ?_).trans ((jW (w:=I) (v0:=.int .i64 (g.w:Nat)) (v1:=.slice (aY z) j j) (v2:=.slice J E d2) (v3:=.slice O no d3) (show k≠(w:Nat)+1 by have:=EV.o;omega)).trans (am.o k RU))
    show k < (eh I ((w:Nat)+1) _ _ _ _:Nat)
    rw[ey];have:=fb.o;omega
   .refine(ce z RU ?_).trans (jW (w:=I) (v0:=.int .i64 (g.w:Nat)) (v1:=.slice (aY z) j j) (v2:=.slice J E d2) (v3:=.slice O no d3) (RU:z≠(w:Nat)+1))
    show z < (eh I ((w:Nat)+1) _ _ _ _:Nat)
    rw[ey];exact fb.o.1
def GdP(p:Int)(lo:Nat)(w':aa)(v:au):Prop:=∃G A1 c1 A2 c2 A3 c3,v=.agg (bI G A1 c1 A2 c2 A3 c3)/\wG p G/\At lo (fun V=>nX V A1 A2 A3 G) w'
def xA.ints_at{g:Nat}(h:xA B n g (pj l) V):aT V (some ⟨g,0,none⟩) (bF l):=by
 obtain⟨D,E,e,z,-⟩:=h.ints.view;rw[h.len]at e;cases e
 exact z
def zG(h:cH C b m V)(z:b<x):cH C b m (eh V x v0 v1 v2 v3):=(((h.iP (a:=⟨x,0,none⟩) z v0).iP (a:=⟨x,1,none⟩) z v1).iP (a:=⟨x,2,none⟩) z v2).iP (a:=⟨x,3,none⟩) z v3
def tJ(h:w.grownBy V row)(z:(w:Nat)<=x):w.grownBy (eh V x v0 v1 v2 v3) row:=bW (bW (bW (bW h (a:=⟨x,0,none⟩) z v0) (a:=⟨x,1,none⟩) z v1) (a:=⟨x,2,none⟩) z v2) (a:=⟨x,3,none⟩) z v3
def CK(C:Code)(b m lo:Nat)(w:aa)(p:Int)(g:Gr)(A1 A2 A3:an)(c1 c2 c3:Nat)(ac:cH C b m w)(c0:m<=274877900000)(cu:b<lo)(a8:At lo (fun V=>nX V A1 A2 A3 g) w)(ad:wG p g):aw 152 #[.pointer (aY b),.agg (bI g A1 c1 A2 c2 A3 c3)] w (kM C b (m+8192) (GdP p w) w):=by
 have ao:=Gr.gl.1 ad.ok;have cR:g.w<=100:=ao.1;have cO:g.es.length<=60:=ao.2.1;have ci:=zH (fun V W Z O Q bv bz (h:At lo (fun V=>nX V A1 A2 A3 g) V) (ct:W.Perm (List.range g.w)) (cr:Z.Perm (List.range g.es)) (cn:xA bv g.w O (pj W) V) (co:xA bz g.es Q (pj Z) V)=>yo p g W Z A1 A2 A3 (some ⟨O,0,none⟩) (some ⟨Q,0,none⟩) c1 c2 c3 g.w g.es V h.now ad ct cr cn.ints_at co.ints_at);obtain⟨Ew,a0,b9⟩:=d_ ac.lt ac a8;have ab:=((aj w w).alloc (ag _) (.cells (bI g A1 c1 A2 c2 A3 c3) 151)).alloc RS (.cells cw 151);have Y:=(b_ (w.alloc (.cells (bI g A1 c1 A2 c2 A3 c3) 151)) (.cells cw 151) (k:=w.heap.size) RS).trans (az w _ rfl);have ap:=az (w.alloc (.cells (bI g A1 c1 A2 c2 A3 c3) 151)) (.cells cw 151) (n:=(w:Nat)+1) RS;clear ac a8 ad ao;go_enter func152,ntmps152
 go_upto_region 1 with(fail)
 generalize (w.alloc _).alloc _=W at ab Y ap ⊢;obtain⟨bm,bo,bp,br⟩:=aK Y;have a5:=bn bm (bn bo (bn bp br));obtain⟨I,a4,cj⟩:=d_ ab Y ap;clear ab Y ap bm bo bp br;refine bJ (S:=fun V=>ah V w 0 (zI (g.w:Nat))/\ah V w 1 (.slice A1 g.es c1)/\ah V w 2 (.slice A2 g.i c2)/\ah V w 3 (.slice A3 g.o c3)) 10 Si a5 (fun hHeld=>?_);refine aC 0 ?_;refine aC 1 ?_;refine aC 2 ?_;refine aC 3 ?_;refine aC 5 ?_;refine aC 6 ?_;refine aC 7 ?_;refine aC 8 ?_;refine bM 4 fun K hK=>?_
 go_simp
 (with_reducible refine(zal C b m W.drew g.w ((a0.o.ext I.o).ext (aI W)) RU RU).mono ?_)
 rintro e cy ⟨v,rfl,⟨ck,O,H,rfl,F⟩,a9,bd⟩;obtain⟨a3,ce,b1,b5⟩:=fU ((aN (row:=some b) (aI W)).trans bd) H F a9;have a6:=aK (bR a4.o a3.o Ew.o);have b4:=zH (show b < (W.drew:Nat) from(a0.o.ext I.o).lt);clear H F a9 bd;go_simp;refine hK.out _ _ (fun _=>a6) (fun hHeld=>?_);clear hK K;try simp only[Act.put,zA]
 have hHeld:=hHeld RX;refine bM 9 fun K hK=>?_
 go_simp
 (with_reducible refine(zal C b (m+4096) cy g.es b5.o RU RU).mono ?_)
 rintro e bi ⟨v,rfl,⟨b0,Q,H,rfl,F⟩,ba,am⟩;obtain⟨J,ch,b3,b6,b2⟩:=lv (a3.o.trans am) H F ba (b1.o.drawn am b4.o);have a7:=aK (bR a4.o J.o Ew.o);obtain⟨ca,a1⟩:=bS (At.drawn (At.ext b9.o I.o) J.o cu) (bR cj.o J.o TM);clear H F ba am;go_simp;refine hK.out _ _ (fun _=>a7) (fun hHeld=>?_);clear hK K;try simp only[Act.put,zA]
 have hHeld:=hHeld RX;refine bM 10 fun K hK=>?_
 go_simp
 (with_reducible refine(ci.o bi ck b0 O Q _ _ ca.o ce.o ch.o b2.o b3.o).mono ?_)
 rintro e c9 ⟨G,be,z,d1,D,d2,E,d3,rfl,bb,R⟩;have U:=ak a1.o R;obtain⟨c5,c6,c7,c8⟩:=aK U;obtain⟨f0,f1,f2,f3⟩:=cP U;have y:=cT (v0:=.int .i64 (G.w:Nat)) (v1:=.slice z G.es d1) (v2:=.slice D G.i d2) (v3:=.slice E G.o d3) U;obtain⟨cz,cF,z2,cI⟩:=aK y;unfold eh at cz cF z2 cI;obtain⟨cc,a2⟩:=bS be (show(w:Nat)+1<bi from(aM.1 a1.o).1);obtain⟨b8,b7,cb⟩:=d_ (bb.eh (b:=(w:Nat)+1) (v0:=.int .i64 (G.w:Nat)) (v1:=.slice z G.es d1) (v2:=.slice D G.i d2) (v3:=.slice E G.o d3) a2.o) (zG (v0:=.int .i64 (G.w:Nat)) (v1:=.slice z G.es d1) (v2:=.slice D G.i d2) (v3:=.slice E G.o d3) (b6.o.ext R) (x:=(w:Nat)+1) TM) (tJ (v0:=.int .i64 (G.w:Nat)) (v1:=.slice z G.es d1) (v2:=.slice D G.i d2) (v3:=.slice E G.o d3) (((aN (row:=some b) I.o).trans J.o).trans (aN R)) (x:=(w:Nat)+1) RU);clear U y be bb R;go_simp;refine hK.out _ _ (fun h=>absurd h RX) (fun hHeld=>?_);clear hK K;try simp only[Act.put,zA]
 refine bM 11 fun K hK=>?_
 go_simp;refine hK.out _ _ (fun h=>absurd h RX) (fun hHeld=>?_);clear hK K;try simp only[Act.put,zA]
 refine eC Si ?_ _;clear a5 a6 a7;go_wp2;refine ax (v:=.agg (bI G z d1 D d2 E d3)) (by simp[results,results152,go_sem, *]) rfl ?_;refine⟨_,rfl,⟨G,z,d1,D,d2,E,d3,rfl,cc.o,?_⟩,b7.o,cb.o⟩;have c4:=a2.o;exact⟨_,by rw[ey];exact ag _,b8.o.to RU (ag _)⟩
end Go.Proofs.YtdpgblncijojiaaGreatDoor
