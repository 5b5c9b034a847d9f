/- Parts of the walks. Conditions: as stated with each. -/
import Derived.Test.YtdpgblncijojiaaGreatDoorPk35
import Derived.Test.YtdpgblncijojiaaGreatDoorPk39
import Derived.Test.YtdpgblncijojiaaGreatDoorPk40
namespace Go.Proofs.YtdpgblncijojiaaGreatDoor
open Go.RowKit Tryz
set_option linter.all false
set_option maxHeartbeats 16000000
set_option maxRecDepth 100000
variable{A1 A2 A3 Ri:aq}{C:Code}{D J K K' Rc b c1 c2 c3 hi i j k lo m n r x:Nat}{E Rh V w w':aa}{G g:Gr}{H Ro Ru Rw v0 v1 v2 v3:av}{L:List jR}{P:iQ}{Rr:List Ed}{Rs l:bW}{e:Ending}{p:Int}{row:Option Nat}
def Cs(l:bW)(n:Nat):bC (l.drop n)=(bC l).drop n:=by unfold bC;rw[wQ]
def Ct(l:bW)(n:Nat):bC (l.take n)=(bC l).take n:=by unfold bC;rw[List.map_take]
def ziB(p:Int)(w:aa)(e:Ending)(w':aa):Prop:=∃G,xQ p G/\CL G w e w'
def ziC(E:2<=p)(h:g.yo p):∀e∈g.es,0<=e.v/\e.v<p:=fun e F=>by
 have D:=h e F;have B:=D.1;unfold Ed.mT at B;simp only[bn,cw]at B;have I:e.v<p:=zaw E B.1 SP (fun H=>D.2.2.2.2 H);refine⟨?_,I⟩;have z:=B.1;unfold dV at z;dsimp only at z;rw[bn]at z;have z:=z.2;split at z
 .omega
 .split at z <;>simp only[bn,cw]at z <;>omega
def ll.gr{c:gY}{t:Tm}(E:2<=p)(h:ll p L c)(B:dR L=t.flat)(D:t.ty=some c)(z:t.xh=true):xQ p t.gr:=⟨Tm.As z,ziC E (Tm.zcW (h.over B D) z)⟩
def ziD{t:Tm}(O:t.xh=true->xQ p t.gr)(h:yx t w e w'):∃(G:Gr) (B:aq) (F:Nat) (D:aq) (H:Nat) (E:aq) (I:Nat),e=.returned (.tuple #[.agg (bF G B F D H E I),.bool t.xh])/\xQ p G/\Fr w' w w' (fun V=>oI V B D E G)/\aj w w':=by
 rcases h with⟨h1,h2,z⟩|⟨h1,A1,c1,A2,c2,A3,c3,h2,z,J⟩
 .refine⟨gr0,none,0,none,0,none,0,SI,xQ.nil p,Fr.all fun _=>⟨aG rfl,aG rfl,aG rfl⟩,z⟩
 .exact⟨t.gr,A1,c1,A2,c2,A3,c3,SI,O h1,z,J⟩
def zgC(p:Int)(L:List jR)(c:gY)(A:aq)(cap:Nat)(w:aa)(bv:2<=p)(a2:de 3 nH w A L)(bo:ll p L c)(a6:L.length<=400)(a5:L.length<=cap):ax 148 (cB (bJ A L cap)) w (ziB p w):=by
 have T:=((ai w w).alloc (ah _) (.cells (bJ A L cap) 176)).alloc Rx (.cells cf 151);have Z:=(bZ (w.alloc (.cells (bJ A L cap) 176)) (.cells cf 151) (k:=w.heap.size) Rx).trans (aD w _ rfl);have ab:=aD (w.alloc (.cells (bJ A L cap) 176)) (.cells cf 151) (n:=(w:Nat)+1) Rx;obtain⟨⟨t,O,Q⟩,a1⟩:=bo;obtain⟨bb,be⟩:=bL (fun V (bp:aj w V)=>uw t c L A cap V Q O a6 a5 (dB a2 bp)) (fun br=>ll.gr bv ⟨⟨t,O,Q⟩,a1⟩ O Q br);clear a2 a6 a5 O Q a1;go_enter func148,ntmps148
 go_upto_region 1 with(fail)
 generalize (w.alloc _).alloc _=W at T Z ab ⊢;have b9:=di Z 0 rfl;obtain⟨ad,ap⟩:=bL T ab;clear T Z ab;go_upto_region 2 with(go_at_call 155;(with_reducible refine(bb.o W ad.o).mono ?_);intro e ac h;obtain⟨G,z,E,B,F,D,H,bm,a4,a3,R⟩:=ziD be.o h;subst bm;have bd:=zH a4;have ba:=zH a3;have a7:=zH (bQ ad.o R);have bi:=zH (aA ap.o R);have EX:=zH (show(w:Nat)+1<W from(aP.1 ap.o).1);have b3:=zH R.size;clear R a3 a4 h)
 have U:=aD ac (.cells (bF G z E B F D H) 151) rfl;have I:=aE ac (.cells (bF G z E B F D H) 151);have ao:=zH (ba.o.ext I (ah _));have J:=aA bi.o I;obtain⟨am,a0⟩:=bL (bQ a7.o I) I.size;generalize ac.alloc _=b8 at U I ao J am a0 ⊢;obtain⟨ca,cb,z2,cc⟩:=aJ U;obtain⟨b4,b5,b6,b7⟩:=aJ J;obtain⟨f0,f1,f2,f3⟩:=cH J;have y:=cJ (v0:=.int .i64 (G.w:Nat)) (v1:=.slice z G.es E) (v2:=.slice B G.i F) (v3:=.slice D G.o H) J;obtain⟨bz,b0,b1,b2⟩:=aJ y;unfold ed at bz b0 b1 b2;obtain⟨a8,a9⟩:=bL (cX am.o (b:=(w:Nat)+1) Ry (zI (G.w:Nat)) (.slice z G.es E) (.slice B G.i F) (.slice D G.o H)) (ao.o.ed (b:=(w:Nat)+1) (v0:=.int .i64 (G.w:Nat)) (v1:=.slice z G.es E) (v2:=.slice B G.i F) (v3:=.slice D G.o H) EX.o);clear U I J y;go_wp2;refine az (v:=.agg (bF G z E B F D H)) (by simp[results,results148,go_sem, *]) rfl ?_;exact⟨G,bd.o,z,E,B,F,D,H,rfl,a9.o.to Tt (by rw[eu];exact a0.o),a8.o⟩
def zaT(p:Int)(g:Gr)(A1 A2 A3:aq)(c1 c2 c3 k:Nat)(w:aa)(e1:oI w A1 A2 A3 g)(ba:xQ p g)(g0:k<=g.i.length)(db:k<=g.o.length):ax 150 (jG (bF g A1 c1 A2 c2 A3 c3) k) w (ziB p w):=by
 have br:=sq.of ba.ok;have dc:=Gr.gx.1 ba.ok;have eg:=zH (fun V (a9:aj w V)=>BO g A1 A2 A3 c1 c2 c3 V (e1.ext a9) br);obtain⟨ne,b5⟩:=aK g.es.length;obtain⟨H,bd⟩:=aK g.i.length;obtain⟨no,be⟩:=aK g.o.length;obtain⟨n,g3⟩:=aK (H-k);obtain⟨m,g2⟩:=aK (no-k);have hf:n<=H:=Ry;have hd:m<=no:=Ry;have hh:H<=12:=by rw[bd];exact dc.2.2.1
 have hj:no<=12:=by rw[be];exact dc.2.2.2.1
 have hl:IntKind.i64.wrap ((H:Int)-(k:Int))=(n:Int):=Sq;have hk:IntKind.i64.wrap ((no:Int)-(k:Int))=(m:Int):=Sq;obtain⟨J,Q⟩:∃J:Gr,J=⟨g.w,g.es,g.i.take n,g.o.take m⟩:=⟨_,rfl⟩;obtain⟨us,b7⟩:=aK (g.i.drop n);obtain⟨Z,b9⟩:=aK (g.o.drop m);have T:=Gr.lX ba.ok;have bo:us.length=H-n:=by rw[b7,mh,bd]
 have b8:Z.length=no-m:=by rw[b9,mh,be]
 have dT:∀x∈us,x<g.w:=fun x F=>T x (aG (by rw[b7]at F;exact ky F))
 have d0:∀x∈Z,x<g.w:=fun x F=>T x (aB (aG (by rw[b9]at F;exact ky F)))
 have ee:=zH (show xQ p (iB J (us.zip Z)) by rw[Q];refine ba.glue ⟨Sd,fun x F=>T x (aG (qG F))⟩ ⟨Sd,fun x F=>T x (aB (aG (qG F)))⟩ fun q e3=>⟨dT _ (qB e3).1,d0 _ (qB e3).2⟩)
 have ga:=zH (show sq J by
  rw[Q];refine⟨fun x F=>?_,br.w,br.es,by show(g.i.take n).length<=4096;rw[dX];omega,by show(g.o.take m).length<=4096;rw[dX];omega,br.el⟩;rcases F with F|F|F
  .exact T x (aG (qG F))
  .exact T x (aB (aG (qG F)))
  .exact T x (aB (aB F)))
 obtain⟨ea,fn,gi,gs,es,ev⟩:=lq (fun V O D z bz b0 R E B f7 f8 (b4:oI V O D z J) (cc:aU V bz (bC us)) (ce:aU V b0 (bC Z))=>oq J us Z O D z bz b0 R E B f7 f8 V b4 ga.o (by rw[bo,b8];omega) (by rw[bo];omega) cc ce (by rw[Q];exact dT) (by rw[Q];exact d0)) Q b7 b9 bo b8;rw[show J.w=g.w by rw[Q],show J.es.length=ne by rw[Q,b5],show J.i.length=n by rw[Q];show(g.i.take n).length=n;rw[dX];omega,show J.o.length=m by rw[Q];show(g.o.take m).length=m;rw[dX];omega,bo,b8]at ea;obtain⟨fs,cF,cI⟩:=dD b5 bd be;rw[<-b5,<-bd,<-be]at eg ⊢;have c6:=((ai w w).alloc (ah _) (.cells (fG g.w A1 ne c1 A2 H c2 A3 no c3) 151)).alloc Rx (.cells cf 151);have cn:=(bZ (w.alloc (.cells (fG g.w A1 ne c1 A2 H c2 A3 no c3) 151)) (.cells cf 151) (k:=w.heap.size) Rx).trans (aD w _ rfl);have U:=aD (w.alloc (.cells (fG g.w A1 ne c1 A2 H c2 A3 no c3) 151)) (.cells cf 151) (n:=(w:Nat)+1) Rx;clear e1 ba g0 db br dc b5 bd be g3 g2 Q b7 b9 T bo b8 dT d0;go_enter func150,ntmps150
 go_upto_region 1 with(fail)
 generalize (w.alloc _).alloc _=W at c6 cn U ⊢;obtain⟨g7,g8,cr,ct⟩:=aJ cn;obtain⟨d7,gB,gC,EX⟩:=fS c6 cn U (show(w:Nat)+1<W from(aP.1 U).1);clear c6 cn U;go_upto_region 2 with(go_at_call 157;(with_reducible refine(eg.o W d7.o).mono ?_);intro e fa h;unfold m7 at h;obtain⟨O,R,D,E,z,B,hb,ac,bi,ad⟩:=h;rw[<-fs.o,<-cF.o,<-cI.o]at ac;subst ac;have I:=aA gB.o ad;obtain⟨e6,e7,e8,e9⟩:=aJ I;obtain⟨f0,f1,f2,f3⟩:=cH I;have gA:=zH I;have fz:=zH bi;have cz:=zH ad;clear I bi ad)
 obtain⟨am,bp⟩:=aK (ed fa w (zI (g.w:Nat)) (.slice O ne R) (.slice D H E) (.slice z no B));have y:=cJ (v0:=.int .i64 (g.w:Nat)) (v1:=.slice O ne R) (v2:=.slice D H E) (v3:=.slice z no B) gA.o;have dl:=fz.o.ed (b:=w.heap.size) (v0:=.int .i64 (g.w:Nat)) (v1:=.slice O ne R) (v2:=.slice D H E) (v3:=.slice z no B) Tt;have U:=(j6 (w:=fa) (v0:=.int .i64 (g.w:Nat)) (v1:=.slice O ne R) (v2:=.slice D H E) (v3:=.slice z no B) (Ry:(w:Nat)+1≠w.heap.size)).trans (aA gC.o cz.o);have c9:=cX (bQ d7.o cz.o) (b:=w.heap.size) (ah _) (zI (g.w:Nat)) (.slice O ne R) (.slice D H E) (.slice z no B);have e4:(W:Nat)<=am:=by rw[bp,eu];exact cz.o.size
 rw[<-bp]at y dl U c9;unfold ed at bp;rw[<-bp];clear bp g7 g8 cr ct e6 e7 e8 e9 f0 f1 f2 f3;obtain⟨-,-,cr,ct⟩:=aJ y;have cO:=aY cr ct;obtain⟨fo,cK,f5,d8,f9⟩:=l_ y dl U c9 e4;clear y dl U c9 cr ct e4;go_region_held3 (fun V=>af V w 2 (.slice D H E)/\af V w 3 (.slice z no B))
  (first|with_reducible exact cO|with_reducible exact mR (aF _) cO)
  ((fail))
 have b1:=zH (cK.o.ext (aF am)).fr;have I:=aA fo.o (aF am);obtain⟨en,d9,eo,gm,gn⟩:=l_ (aA f5.o (aF am)) (d8.o.trans ((aF am).mono d8.o.size)) (show(W:Nat)<=am.drew from f9.o) cK.o.i.view cK.o.o.view;obtain⟨ab,e5⟩:=aK am.drew;rw[<-e5]at b1 I d9 en eo ⊢;have gw:=zH I;have db:H<=E:=by have h:=gm.o;rw[bf,<-cF.o]at h;obtain⟨fb,gL,e,-,a8⟩:=h;cases e;exact a8.1
 have g1:no<=B:=by have h:=gn.o;rw[bf,<-cI.o]at h;obtain⟨fb,gL,e,-,a8⟩:=h;cases e;exact a8.1
 have hg:n<=E:=Ry;have he:m<=B:=Ry;obtain⟨gK,c7⟩:=aK (CX D E n);obtain⟨X3,c8⟩:=aK (CX z B m);have ek:=zH (fun V (a9:aj ab V)=>ig (CX D E n) (E-n) (bC us) V (by
  rw[gi.o,Cs];exact vo ((b1.o.ext a9 (ah _)).now.i) (c:=E) (by rw[bf,<-cF.o];exact db) n) (by rw[bf,es.o];omega))
 have em:=zH (fun V (a9:aj ab V)=>ig (CX z B m) (B-m) (bC Z) V (by
  rw[gs.o,Cs];exact vo ((b1.o.ext a9 (ah _)).now.o) (c:=B) (by rw[bf,<-cI.o];exact g1) m) (by rw[bf,ev.o];omega))
 obtain⟨ei,ej⟩:=bL (show(bC us).length=H-n from(bf _).trans es.o) (show(bC Z).length=no-m from(bf _).trans ev.o);rw[ei.o,<-c7]at ek;rw[ej.o,<-c8]at em;have gR:(if E=n then D else Option.map (fun x=>x.add n) D)=gK:=c7.symm;have gV:(if B=m then z else Option.map (fun x=>x.add m) z)=X3:=c8.symm;obtain⟨-,-,z2,cu⟩:=aJ I;have a7:=aY z2 cu;clear z2 cu cO I e5 c7 c8;go_upto_region 3 with(fail)
 go_region_held3 (fun V=>af V w 2 (.slice D H E)/\af V w 3 (.slice z no B))
  (first|with_reducible exact a7|with_reducible exact mR (aF _) a7|with_reducible exact mR b2.o a7|with_reducible exact mR a6.o a7)
  ((first|(go_at_call 80;(with_reducible refine(ek.o _ (aF ab)).mono ?_);rintro e hn ⟨u7,rfl,bm,ap⟩;have b2:=zH ((aF ab).trans (ap.mono (aF ab).size));have gc:=zH bm;clear bm ap)|(go_at_call 80;(with_reducible refine(em.o _ b2.o).mono ?_);rintro e d6 ⟨u8,rfl,bm,ap⟩;have a6:=zH (bQ b2.o ap);have gf:=zH (bm.mono b2.o.size);have gd:=zH ((gc.o.ext ap));clear bm ap)))
 have cb:=aA gw.o a6.o;obtain⟨ch,ci,p2,cj⟩:=aJ cb;obtain⟨cR,c0,c4,c5⟩:=cH cb;go_upto_region 5 with(fail)
 have ao:=bw d6 w 2 _ _ (.slice D n E) cb;simp only[zA]at ao;clear ch ci p2 cj cR c0 c4 c5;obtain⟨co,d4⟩:=aK (d6.setCell ⟨w,2,none⟩ (.slice D n E));rw[<-d4]at ao ⊢;have eA:=zH d4;obtain⟨ch,ci,p2,cj⟩:=aJ ao;obtain⟨cR,c0,c4,c5⟩:=cH ao;clear d4 cb;go_upto_region 6 with(fail)
 have b3:=bw co w 3 _ _ (.slice z m B) ao;simp only[zA]at b3;clear ch ci p2 cj cR c0 c4 c5;have g6:=EX.o;have da:∀k,(w:Nat)<k->(co.setCell ⟨w,3,none⟩ (.slice z m B)).heap[k]?=d6.heap[k]?:=fun k h=>by refine(bx _ _ _ _ (by show k≠w.heap.size;omega)).trans ?_;rw[eA.o];exact bx _ _ _ _ (by show k≠w.heap.size;omega)
 have bb:=(b1.o.same (w':=co.setCell ⟨w,3,none⟩ (.slice z m B)) (fun k hc a8=>(da k Ry).trans (a6.o.block k a8))).now;have ca:(w:Nat)<ab.drew:=by show(w:Nat)<ab;have:=eo.o;omega
 have d5:(w:Nat)<ab:=ca;have a1:=gd.o.setCell (a:=⟨w,2,none⟩) ca (.slice D n E);have a2:=gf.o.setCell (a:=⟨w,2,none⟩) d5 (.slice D n E);have a0:=(bQ d9.o a6.o).setCell (p:=⟨w,2,none⟩) (ah _) (.slice D n E);rw[<-eA.o]at a1 a2 a0
 replace a1:=a1.setCell (a:=⟨w,3,none⟩) ca (.slice z m B)
 replace a2:=a2.setCell (a:=⟨w,3,none⟩) d5 (.slice z m B)
 replace a0:=a0.setCell (p:=⟨w,3,none⟩) (ah _) (.slice z m B)
 have b6:=(da ((w:Nat)+1) Ry).trans (aA en.o a6.o);generalize co.setCell ⟨w,3,none⟩ _=bv at b3 bb a1 a2 a0 b6 ⊢;obtain⟨bz,f7,e0,cc,-⟩:=a1.view;rw[ei.o]at e0;subst e0;obtain⟨b0,f8,ac,ce,-⟩:=a2.view;rw[ej.o]at ac;subst ac;have b4:oI bv O D z J:=by rw[fn.o];exact⟨bb.es,by show aU bv D (bC (g.i.take n));rw[Ct];exact m5 bb.i n,by show aU bv z (bC (g.o.take m));rw[Ct];exact m5 bb.o m⟩
 have eb:=zH (ea.o bv O D z bz b0 R E B f7 f8 b4 cc ce);obtain⟨G,e2⟩:=aK (iB J (us.zip Z));rw[<-e2]at eb ee;obtain⟨fd,f6,gb⟩:=dD a0 b6 (show(w:Nat)+1<bv from(aP.1 b6).1);obtain⟨ch,ci,p2,cj⟩:=aJ b3;clear b4 a0 b6 cc ce a1 a2 bb da b3 ao e2 a7 gR gV ca d5 g6;go_wp2_with ((go_at_call 138;(with_reducible refine eb.o.mono ?_);intro e hm h;unfold m7 at h;obtain⟨a3,d1,a4,d2,a5,d3,B',ac,bi,ad⟩:=h;subst ac;have I:=aA f6.o ad;obtain⟨e6,e7,e8,e9⟩:=aJ I;obtain⟨f0,f1,f2,f3⟩:=cH I;have y:=cJ (v0:=.int .i64 (G.w:Nat)) (v1:=.slice a3 G.es d1) (v2:=.slice a4 G.i d2) (v3:=.slice a5 G.o d3) I;obtain⟨g9,ha,z2,cu⟩:=aJ y;unfold ed at g9 ha z2 cu;have f4:=zH bi;have fl:=zH (cX (bQ fd.o ad) (b:=(w:Nat)+1) Ry (zI (G.w:Nat)) (.slice a3 G.es d1) (.slice a4 G.i d2) (.slice a5 G.o d3));clear I y bi ad))
 refine az (v:=.agg (bF G a3 d1 a4 d2 a5 d3)) (by simp[results,results150,go_sem, *]) rfl ?_;have g5:=gb.o;have g4:=f4.o.ed (b:=(w:Nat)+1) (v0:=.int .i64 (G.w:Nat)) (v1:=.slice a3 G.es d1) (v2:=.slice a4 G.i d2) (v3:=.slice a5 G.o d3) g5;exact⟨G,ee.o,a3,d1,a4,d2,a5,d3,rfl,(g4.mono (B0':=w.heap.size) Ry).fr,fl.o⟩
def zdv(h:l.Nodup)(hi:i<l.length)(B:j<l.length)(e:l[i]=l[j]):i=j:=by
 have h:=List.pairwise_iff_getElem.1 (List.nodup_iff_pairwise_ne.1 h);rcases sZ i j with z|z|z
 .exact absurd e (h i j hi B z)
 .exact z
 .exact absurd e.symm (h j i B hi z)
def CI(xs:bN)(q:Nat)(a b c d:av):List Value:=(((xs.set q a).set (q+1) b).set (q+2) c).set (q+3) d
def zgS{xs:bN}{q:Nat}{a b c d:av}(h:q+3<xs.length):(CI xs q a b c d)[q]?=some a/\(CI xs q a b c d)[q+1]?=some b/\(CI xs q a b c d)[q+2]?=some c/\(CI xs q a b c d)[q+3]?=some d:=by
 unfold CI;refine⟨?_,?_,?_,?_⟩
 .rw[df Ry,df Ry,df Ry,dJ Ry]
 .rw[df Ry,df Ry,dJ RX]
 .rw[df Ry,dJ RX]
 .rw[dJ RX]
def zff{xs:bN}{q:Nat}{a b c d:av}(h:r<q∨q+3<r):(CI xs q a b c d)[r]?=xs[r]?:=by unfold CI;rw[df Ry,df Ry,df Ry,df Ry]
def ArE(z n B:Nat)(xs:bN)(V:aa):Prop:=V.ownsRow z 166 4 (.slice (aX B) n n) n xs
def ArE.put{xs:bN}(h:ArE D n J xs V)(q:Nat)(a b c d:av):ArE D n J (CI xs q a b c d) ((((V.setCell ⟨J,q,none⟩ a).setCell ⟨J,q+1,none⟩ b).setCell ⟨J,q+2,none⟩ c).setCell ⟨J,q+3,none⟩ d):=by unfold ArE at h ⊢;exact((((h.stored q a).1.stored (q+1) b).1.stored (q+2) c).1.stored (q+3) d).1
def zbf(V:aa)(z q:Nat)(a b c d:av):V.grownBy ((((V.setCell ⟨z,q,none⟩ a).setCell ⟨z,q+1,none⟩ b).setCell ⟨z,q+2,none⟩ c).setCell ⟨z,q+3,none⟩ d) (some z):=(((rF V z q a).trans (rF _ z (q+1) b)).trans (rF _ z (q+2) c)).trans (rF _ z (q+3) d)
def ArE.at{xs:bN}(h:ArE D n J xs V)(B:j<n*4):∃y,xs[j]?=some y/\af V J j y/\V.frozen? ⟨J,j,none⟩=false:=by have E:xs.length=n*4:=h.1;obtain⟨y,z⟩:=aw (Ry:j<xs.length);exact⟨y,z,(World.ownsRow.cellAt h j B).trans z,World.ownsRow.frozenAt h j⟩
def DY(B:bW)(D:aa)(b o j:Nat)(xs:bN):Prop:=∀z k,z<j->B[z]?=some k->∀i,i<4->xs[k*4+i]?=D.cell? ⟨b,o+z*4+i,none⟩
def DY.step{o:Nat}{xs:bN}(h:DY Rs E b o j xs)(ac:Rs.Nodup)(B:Rs[j]?=some k)(ad:k*4+3<xs.length)(T:af E b (o+j*4) H)(U:af E b (o+j*4+1) Rw)(Z:af E b (o+j*4+2) Ru)(ab:af E b (o+j*4+3) Ro):DY Rs E b o (j+1) (CI xs (k*4) H Rw Ru Ro):=by
 intro D F a0 z i hi;obtain⟨am,ao,p2,ap⟩:=zgS (a:=H) (b:=Rw) (c:=Ru) (d:=Ro) ad;by_cases e:D=j
 .subst e;rw[B]at z;cases z
  match i,hi with
  |0,_=>exact am.trans T.symm
  |1,_=>exact ao.trans U.symm
  |2,_=>exact p2.trans Z.symm
  |3,_=>exact ap.trans ab.symm
 .have a1:F≠k:=fun R=>e (by
   subst R;obtain⟨I,J⟩:=bs.1 z;obtain⟨O,Q⟩:=bs.1 B;exact zdv ac I O (J.trans Q.symm))
  rw[zff Ry];exact h D F Ry z i hi
def zbg(B:bW)(z:List Ed):List Ed:=(List.range z).map fun k=>z.getD (B.idxOf k) ⟨0,0,[],[]⟩
def zz(B:bW)(z:List Ed):(zbg B z).length=z:=by simp[zbg]
def DZ{e:Ed}(D:Rs.Nodup)(F:Rs[j]?=some k)(E:Rr[j]?=some e)(H:k<Rr.length):(zbg Rs Rr)[k]?=some e:=by unfold zbg;rw[bR,kx H,pa];obtain⟨z,B⟩:=bs.1 F;rw[<-B,D.idxOf_getElem j z,bg,E];rfl
def zbh{ne:Nat}(h:vh D J V A1 c1 A2 c2 A3 c3 g)(E:g.es.length=ne)(F:0<ne):∃b o,A1=some ⟨b,o,none⟩/\D<=b/\b < (V:Nat):=by
 obtain⟨b,cap,e,z,B⟩:=h.es.form Ry;cases e
 exact⟨b,0,rfl,bE h.b z,B⟩
def zhW{z:Gr}{ne H:Nat}{I:aq}{xs:bN}(bm:Rs.Nodup)(Q:Rs.Perm (List.range ne))(Z:G.es=zbg Rs z.es)(bb:G.i=z.i)(bo:G.o=z.o)(F:z.es.length=ne)(a7:Fr E lo hi (fun B=>oI B (some ⟨Rc,H,none⟩) Ri I z))(T:lo<=Rc/\Rc<hi)(a6:ArE D ne J xs Rh)(a8:DY Rs E Rc H ne xs)(B:aa)(R:∀k,lo<=k->k<hi->B.heap[k]?=E.heap[k]?)(a9:B.heap[J]?=Rh.heap[J]?):oI B (some ⟨J,0,none⟩) Ri I G:=by
 have h:=a7 B R;refine⟨aB ⟨J,0,rfl,fun k x am=>?_⟩,by rw[bb];exact h.i,by rw[bo];exact h.o⟩;have ao:k<ne:=by have:=(bs.1 am).1;rw[Z,zz,F]at this;exact this
 obtain⟨j,bi,be⟩:=wD.1 (Q.mem_iff.2 (dQ.2 ao));have ac:Rs[j]?=some k:=by rw[dq bi,be]
 have ad:j<ne:=by have:=Q.length_eq;rw[hJ]at this;omega
 obtain⟨e,U⟩:=aw (by rw[F];exact ad:j<z.es.length);have bp:x=e:=by have:=DZ bm ac U (by rw[F];exact ao);rw[<-Z,am]at this;exact eE this
 subst bp;obtain⟨bz,b2,ap,h'⟩:=h.es.here (Ry:0<z.es.length);cases ap
 obtain⟨c,a3,O⟩:=h' j x U;refine⟨c,fun i y ab=>?_,O⟩;have ba:c.length=4:=by obtain⟨br,b0,bv,b1,a2,-⟩:=O;rw[a2];rfl
 have bd:i<4:=by rw[<-ba];exact(bs.1 ab).1
 have a4:=a8 j k ad ac i bd;have a5:=a3 i y ab;rw[fY];have a0:Rh.cell? ⟨J,k*4+i,none⟩=xs[k*4+i]?:=World.ownsRow.cellAt a6 _ Ry;have a1:af E Rc (H+j*4+i) y:=gX (R Rc T.1 T.2).symm a5;exact gX a9 (a0.trans (a4.trans a1))
def zB(p:Int)(g:Gr)(W Q:bW)(A1 A2 A3 At eb:aq)(c1 c2 c3 fn cR:Nat)(w:aa)(f9:oI w A1 A2 A3 g)(bm:xQ p g)(da:W.Perm (List.range g.w))(ap:Q.Perm (List.range g.es))(ga:aU w At (bC W))(gb:aU w eb (bC Q)):ax 158 #[.agg (bF g A1 c1 A2 c2 A3 c3),.slice At g.w fn,.slice eb g.es cR] w (ziB p w):=by
 have g3:=sq.of bm.ok;have gC:=Gr.gx.1 bm.ok;have gA:=Gr.lX bm.ok;obtain⟨f,dl⟩:∃f:gj,f=fun x=>W.getD x 0:=⟨_,rfl⟩
 have gd:W.length=g.w:=by rw[da.length_eq,hJ]
 have f8:Q.length=g.es:=by rw[ap.length_eq,hJ]
 have gB:zap (bC W) f g:=fun x g1=>by have g1:=gA x g1;rw[dl,fk (x:=W.getD x 0) (by rw[bg,dq Ry];rfl)]
 have e0:=zH (fun V (gc:aj w V)=>sr g g.w (bC W) f A1 A2 A3 At c1 c2 c3 fn V (f9.ext gc) (ga.ext gc) gB Sl Ry Ry Ry Ry Ry (fun e dc=>by have:=g3.el e dc;omega));obtain⟨ne,Z⟩:=aK g.es.length;obtain⟨D,bo⟩:=aK g.i.length;obtain⟨no,bp⟩:=aK g.o.length;obtain⟨G,a0⟩:∃G:Gr,G=⟨g.w,zbg Q (g.es.map (Ed.map f)),g.i.map f,g.o.map f⟩:=⟨_,rfl⟩;have d4:Q.Nodup:=ap.nodup_iff.2 List.nodup_range;have eo:=zH (show xQ p G by
  rw[a0,dl];refine bm.ziT da ap (by rw[zz,bl]) fun j k e ce dc=>?_
  have hu:k<g.es.length:=dQ.1 (ap.mem_iff.1 (aR ce));exact DZ d4 ce (by rw[bR,dc];rfl) (by rw[bl];exact hu))
 obtain⟨eA,cz,en,es,a9,he,hf,G0⟩:=zH8 (by rw[a0]:G.w=g.w) (show G.es.length=ne by rw[a0];show(zbg Q _).length=ne;rw[zz,bl,Z]) (show G.i.length=D by rw[a0];show(g.i.map f).length=D;rw[bl,bo]) (show G.o.length=no by rw[a0];show(g.o.map f).length=no;rw[bl,bp]) (by rw[Z];exact bl ..:(g.map g.w f).es.length=ne) (by rw[bo];exact bl ..:(g.map g.w f).i.length=D) (by rw[bp];exact bl ..:(g.map g.w f).o.length=no) a0;have h3:ne<=60:=by rw[Z];exact gC.2.1
 obtain⟨ei,g9,e2,ha,hh⟩:=l_ (by rw[Z];exact f8:Q.length=ne) (show ∀(j k:Nat),Q[j]?=some k->k<ne from fun j k ce=>by rw[Z];exact dQ.1 (ap.mem_iff.1 (aR ce))) d4 (by rw[Z];exact ap:Q.Perm (List.range ne)) gb;rw[bf,gd,<-Z,<-bo,<-bp]at e0;rw[<-Z,<-bo,<-bp];have c6:=((ai w w).alloc (ah _) (.cells (fG g.w A1 ne c1 A2 D c2 A3 no c3) 151)).alloc Rx (.cells cf 151);have cn:=(bZ (w.alloc (.cells (fG g.w A1 ne c1 A2 D c2 A3 no c3) 151)) (.cells cf 151) (k:=w.heap.size) Rx).trans (aD w _ rfl);have co:=aD (w.alloc (.cells (fG g.w A1 ne c1 A2 D c2 A3 no c3) 151)) (.cells cf 151) (n:=(w:Nat)+1) Rx;clear f9 bm da ap ga gb g3 gC gA gd f8 gB Z bo bp d4 a0 dl;go_enter func158,ntmps158
 go_upto_region 1 with(fail)
 generalize (w.alloc _).alloc _=fl at c6 cn co ⊢;obtain⟨hS,hT,hU,hV⟩:=aJ cn;obtain⟨cr,hk,hl,EX⟩:=fS c6 cn co (show(w:Nat)+1<fl from(aP.1 co).1);clear c6 cn co;go_upto_region 2 with(go_at_call 161;(with_reducible refine(e0.o fl cr.o).mono ?_);intro e b0 h;unfold m7 at h;obtain⟨ee,d1,I,d2,J,d3,hW,f4,d5,U⟩:=h;rw[a9.o,he.o,hf.o,show(g.map g.w f).w=g.w from rfl]at f4;subst f4;have ej:=zH d5.fr;have ek:=zH (zbh d5 a9.o);have am:=zH U;clear d5 U)
 have bv:=aD b0 (.cells (fG g.w ee ne d1 I D d2 J no d3) 151) rfl;have a2:=aE b0 (.cells (fG g.w ee ne d1 I D d2 J no d3) 151);obtain⟨a8,e5,a7,cF,cI⟩:=l_ (ej.o.ext a2 (ah _)) am.o.size ((bQ cr.o am.o).trans (a2.mono (bQ cr.o am.o).size)) (aA (aA hk.o am.o) a2) (aA (aA hl.o am.o) a2);generalize gV:b0.alloc _=F at bv a2 a8 a7 cF cI ⊢;have FE:=zH (by rw[<-gV];simp:(b0:Nat)+1=F);generalize br:(b0:Nat)=b2 at bv a8 e5 FE ek ⊢;have e8:=zH bv;obtain⟨hB,hC,hD,hE⟩:=aJ bv;obtain⟨hF,hG,n2,hH⟩:=aJ cF.o;clear gV br bv a2 hS hT hU hV;go_upto_region 3 with(fail)
 have ci:=aD F (.cells #[(g.w:Nat),fA,.slice I D d2,.slice J no d3] 151) rfl;have U:=aE F (.cells #[(g.w:Nat),fA,.slice I D d2,.slice J no d3] 151);obtain⟨cu,b6,fb,hj⟩:=fS (a8.o.ext U Tu) (bQ a7.o U) (aA cI.o U) (aA e8.o U);generalize g0:F.alloc _=T at ci U cu b6 fb hj ⊢;have b7:=zH (by rw[<-g0];simp:(F:Nat)+1=T);obtain⟨E,br⟩:=aK F.heap.size;rw[<-br]at ci b7 FE ⊢;obtain⟨b8,ba,am⟩:=dD ci br (show aj F T from U);clear g0 br ci U hB hC hD hE hF hG n2 hH cF ej;by_cases f5:ne=0
 .subst f5;have hX:=cu;go_upto_region 5 with(fail)
  obtain⟨a1,rfl⟩:∃a1,a1=T:=⟨T,rfl⟩;go_wp2;go_loopw [32] (fun i wr=>i=.int .i64 0/\wr=a1) (fun _ _=>0)
  case atStart=>exact⟨rfl,rfl⟩
  case round=>
   obtain⟨rfl,rfl⟩:=hrel;obtain⟨b3,a4,z2,b4⟩:=aJ b8.o;have ab:=fb.o;obtain⟨hO,hP,hQ,hR⟩:=aJ ab;obtain⟨f0,f1,f2,f3⟩:=cH ab;have y:=cJ (v0:=.int .i64 (g.w:Nat)) (v1:=fA) (v2:=.slice I D d2) (v3:=.slice J no d3) ab;obtain⟨d7,d8,d9,ea⟩:=aJ y;unfold ed at d7 d8 d9 ea;have ct:=zH (cX b6.o (b:=(w:Nat)+1) Ry (zI (g.w:Nat)) (.slice none 0 0) (.slice I D d2) (.slice J no d3));clear ab y;go_wp2;refine az (v:=.agg #[(g.w:Nat),fA,.slice I D d2,.slice J no d3]) Vw rfl ?_;refine⟨G,eo.o,none,0,I,d2,J,d3,by rw[eA.o,cz.o,en.o,es.o],fun cK cc=>?_,ct.o⟩;have hw:=EX.o;have gw:=cu.o cK fun k f6 f7=>(cc k Ry (by show k < (ed wr ((w:Nat)+1) _ _ _ _:Nat);rw[eu];have:=FE.o;have:=b7.o;omega)).trans (j6 (w:=wr) (v0:=.int .i64 (g.w:Nat)) (v1:=fA) (v2:=.slice I D d2) (v3:=.slice J no d3) (Ry:k≠(w:Nat)+1))
   exact⟨aG (fw cz.o),by rw[G0.o];exact gw.i,by rw[G0.o];exact gw.o⟩
 have h2:0 < (ne:Int):=Ry;clear f5;obtain⟨ca,hI,hr,a3⟩:=(hh.o).here (by rw[bf,ei.o];omega:0 < (bC Q).length);obtain⟨b3,a4,z2,b4⟩:=aJ b8.o;obtain⟨f0,f1,f2,f3⟩:=cH b8.o;subst hr;have g7:=zH a3;clear a3;obtain⟨hA,hi,hx,hy,Ev⟩:=cM zh1.info;go_upto_region 5 with((at_make;refine iJ _ rfl _ _ 149 rfl w.heap.size 166 hA (.agg #[(),(),fA,fA]) 4 underlying149 hi hx hy .i64 .i64 ne ne ne rfl rfl rfl rfl SB TB (by have:=b6.o.size;exact this) ?_;intro b1 gR dT;have e7:=zH (bT dT);have e6:=zH gR;have cj:=aA b8.o (bT dT);obtain⟨b3,a4,z2,b4⟩:=aJ cj;obtain⟨f0,f1,f2,f3⟩:=cH cj;have e9:=zH cj;clear gR dT cj))
 obtain⟨B,O,hs,gm,gn⟩:=ek.o Ry;subst hs;have g6:=zH (aY gm gn);have g8:=zH (show ∀(k:Nat) (x:Ed),(g.map g.w f).es[k]?=some x->∃c,(∀(j:Nat) (y:av),c[j]?=some y->af F B (O+k*4+j) y)/\EEd F x c by
  obtain⟨hY,h6,hq,h'⟩:=a8.o.now.es.here (by rw[a9.o];omega:0 < (g.map g.w f).es.length);cases hq
  exact h')
 have bz:=bw b1 E 1 _ _ (.slice (aX T) ne ne) e9.o;simp only[zA]at bz;have g2:E < (T:Nat):=by have:=b7.o;omega
 have b9:ArE w ne T _ (b1.setCell ⟨E,1,none⟩ (.slice (aX T) ne ne)):=ic e6.o (rF b1 E 1 _) (aB fun e=>by have e:(T:Nat)=E:=eE e;omega);have d6:∀k,k<E->(b1.setCell ⟨E,1,none⟩ (.slice (aX T) ne ne)).heap[k]?=F.heap[k]?:=fun k h=>(bx _ _ _ _ (by show k≠E;omega)).trans ((e7.o.block k Ry).trans (am.o.block k (by have:=b7.o;have:=ba.o;omega)))
 have cO:=(bQ b6.o e7.o).setCell (p:=⟨E,1,none⟩) (by have:=a7.o.size;have:=ba.o;show(w:Nat)<=E;omega) (.slice (aX T) ne ne);generalize b1.setCell ⟨E,1,none⟩ _=a1 at bz b9 d6 cO ⊢;generalize hz:(T:Nat)=z at bz b9 g2 ⊢;obtain⟨e4,eg,hc,g5,Lc⟩:=l_ bz b9 d6 cO (show b2<E/\E<z/\(w:Nat)+1<b2 by have:=FE.o;have:=ba.o;have:=EX.o;have:=e5.o;omega);clear gm gn bz b9 d6 cO b3 a4 z2 b4 f0 f1 f2 f3 g2 hz e9 e6;go_wp2;go_loopw [32] (fun i wr=>∃(j:Nat) (xs:bN),j<=ne/\i=.int .i64 j/\Hd (ArE w ne z xs wr)/\Hd (DY Q F B O j xs)/\Hd (a1.grownBy wr (some z))) (fun i _=>ne-(intOf i).toNat)
 case atStart=>exact⟨0,_,aT _,rfl,eg,zH (fun h5 k h=>absurd h (Nat.not_lt_zero _)),zH (vB _ _)⟩
 case round=>
  obtain⟨j,xs,h0,rfl,b5,e1,ac⟩:=hrel;have ad:=zH (show ∀k,k<E->wr.heap[k]?=F.heap[k]? from fun k h=>by have hZ:=Lc.o;have h4:z < (a1:Nat):=(b_ eg.o z rfl).2;exact(ac.o.block k Ry (fun e=>TN)).trans (hc.o k h))
  have hv:aW wr E (fG g.w (aX z) ne ne I D d2 J no d3) 151:=(ac.o.block E (aP.1 e4.o).1 (fun e=>Vk)).trans e4.o;obtain⟨b3,a4,z2,b4⟩:=aJ hv;obtain⟨H,rfl⟩:∃H,H=wr:=⟨wr,rfl⟩;by_cases gK:j<ne
  .have gL:=e1.o;obtain⟨R,ch⟩:=aw (by rw[ei.o];exact gK:j<Q.length);have h1:=g9.o j R ch;obtain⟨em,gs⟩:=aw (by rw[a9.o];exact gK:j < (g.map g.w f).es.length);obtain⟨cl,bi,a5,bb,a6,bd,ht,-,-⟩:=g8.o j em gs;subst ht;have cb:af F B (O+j*4) (zI em.k):=bi 0 _ rfl;have c0:af F B (O+j*4+1) (zI em.v):=bi 1 _ rfl;have c4:af F B (O+j*4+2) (.slice a5 em.i bb):=bi 2 _ rfl;have c5:af F B (O+j*4+3) (.slice a6 em.o bd):=bi 3 _ rfl;have be:B<E:=by have h:B < (F:Nat):=iK _ _ cb;have:=ba.o;omega
   have d0:af H B (O+j*4) (zI em.k):=gX (ad.o B be) cb;have fo:af H B (O+j*4+1) (zI em.v):=gX (ad.o B be) c0;have fs:af H B (O+j*4+2) (.slice a5 em.i bb):=gX (ad.o B be) c4;have fz:af H B (O+j*4+3) (.slice a6 em.o bd):=gX (ad.o B be) c5;have hd:=zH (gL.step e2.o ch (by have h:xs.length=ne*4:=b5.o.1;omega) cb c0 c4 c5);have a3:=g7.o j _ (fk ch);have gi:ca < (w:Nat):=iK _ _ a3;have cR:af H ca (hI+j) (zI (R:Nat)):=gX (w:=w) ((ad.o ca (by have:=a7.o.size;have:=ba.o;omega)).trans (a7.o.block ca gi)) a3;obtain⟨-,t1,-,-⟩:=aJ ((ad.o b2 Lc.o.1).trans e8.o);clear gL ch gs bi cb c0 c4 c5 be a3 gi;go_upto_region 8 with(fail)
   have fd:=aY a4 (aY t1 (aY d0 (aY fo (aY fs fz))));clear b3 a4 z2 b4 t1 d0 fo fs fz;refine bk (S:=fun V=>af V E 1 (.slice (aX z) ne ne)/\af V b2 1 (.slice (some ⟨B,O,none⟩) ne d1)/\af V B (O+j*4) (zI em.k)/\af V B (O+j*4+1) (zI em.v)/\af V B (O+j*4+2) (.slice a5 em.i bb)/\af V B (O+j*4+3) (.slice a6 em.o bd)) 9 RU fd (fun hHeld=>?_);have ao:ArE w ne z xs H.drew:=b5.o;have c8:=jX H (some z);generalize H.drew=g4 at ao c8 hHeld ⊢;obtain⟨v0,-,hm,hL⟩:=ao.at (j:=R*4) Ry;obtain⟨v1,-,hn,hM⟩:=ao.at (j:=R*4+1) Ry;obtain⟨v2,-,ho,p2⟩:=ao.at (j:=R*4+2) Ry;obtain⟨v3,-,hp,hN⟩:=ao.at (j:=R*4+3) Ry;obtain⟨e3,ev⟩:=bL (ao.put (R*4) (zI em.k) (zI em.v) (.slice a5 em.i bb) (.slice a6 em.o bd)) (c8.trans (zbf g4 z (R*4) (zI em.k) (zI em.v) (.slice a5 em.i bb) (.slice a6 em.o bd)));clear ao c8 fd;refine ay 0 ?_;refine ay 1 ?_;refine ay 2 ?_;refine ay 3 ?_;refine ay 4 ?_;refine ay 5 ?_;refine ay 6 ?_;refine ay 7 ?_;refine ay 8 ?_;refine bu 9 fun K hK=>?_
   go_simp;refine hK.out _ _ (fun h=>absurd h RC) (fun hHeld=>?_);clear hK K;try simp only[Act.put,zA]
   refine dS RU ?_ _;clear hm hn ho hp hL hM p2 hN cR hHeld;have c9:=e3.o;have c7:=ev.o;generalize (((g4.setCell ⟨z,R*4,none⟩ _).setCell ⟨z,R*4+1,none⟩ _).setCell ⟨z,R*4+2,none⟩ _).setCell ⟨z,R*4+3,none⟩ _=h7 at c9 c7 ⊢;obtain⟨hg,hb⟩:=bL c9 (ac.o.trans c7);clear c9 c7 e3 ev;go_wp2;go_roundw
   case rel=>exact⟨j+1,_,Ry,RB,hg,hd,hb⟩
   case measure=>simp[intOf];omega
  .obtain rfl:j=ne:=Ry;have ab:=(ad.o ((w:Nat)+1) (by have:=Lc.o;omega)).trans cI.o;obtain⟨hO,hP,hQ,hR⟩:=aJ ab;obtain⟨f0,f1,f2,f3⟩:=cH ab;have y:=cJ (v0:=.int .i64 (g.w:Nat)) (v1:=.slice (aX z) j j) (v2:=.slice I D d2) (v3:=.slice J no d3) ab;obtain⟨d7,d8,d9,ea⟩:=aJ y;unfold ed at d7 d8 d9 ea;have db:=g5.o;have gf:aj w H:=db.trans ⟨ac.o.os.symm ▸ rfl,ac.o.tape.symm ▸ rfl,ac.o.output.symm ▸ rfl,ac.o.size,fun k h=>ac.o.block k (by have:=db.size;omega) (fun e=>Vk)⟩;obtain⟨ct,fa⟩:=bL (cX gf (b:=(w:Nat)+1) Ry (zI (g.w:Nat)) (.slice (aX z) j j) (.slice I D d2) (.slice J no d3)) (show z < (H:Nat)/\b2<=(H:Nat) by have f6:=(b_ b5.o z rfl).2;have f7:=Lc.o;omega);clear ab y db gf;go_wp2;refine az (v:=.agg (fG g.w (aX z) j j I D d2 J no d3)) Vw rfl ?_;refine⟨G,eo.o,some ⟨z,0,none⟩,j,I,d2,J,d3,by rw[eA.o,cz.o,en.o,es.o],fun cK cc=>?_,ct.o⟩;have hw:=Lc.o;refine zhW e2.o ha.o SA SA SA a9.o a8.o g6.o b5.o e1.o cK (fun k f6 f7=>?_) ?_
   .refine(cc k Tt ?_).trans ((j6 (w:=H) (v0:=.int .i64 (g.w:Nat)) (v1:=.slice (aX z) j j) (v2:=.slice I D d2) (v3:=.slice J no d3) (show k≠(w:Nat)+1 by have:=EX.o;omega)).trans (ad.o k Ry))
    show k < (ed H ((w:Nat)+1) _ _ _ _:Nat)
    rw[eu];have:=fa.o;omega
   .refine(cc z Ry ?_).trans (j6 (w:=H) (v0:=.int .i64 (g.w:Nat)) (v1:=.slice (aX z) j j) (v2:=.slice I D d2) (v3:=.slice J no d3) (Ry:z≠(w:Nat)+1))
    show z < (ed H ((w:Nat)+1) _ _ _ _:Nat)
    rw[eu];exact fa.o.1
def GdP(p:Int)(lo:Nat)(w':aa)(v:av):Prop:=∃G A1 c1 A2 c2 A3 c3,v=.agg (bF G A1 c1 A2 c2 A3 c3)/\xQ p G/\At lo (fun V=>oI V A1 A2 A3 G) w'
def yL.ints_at{g:Nat}(h:yL D n g (pR l) V):aU V (some ⟨g,0,none⟩) (bC l):=by
 obtain⟨B,E,e,z,-⟩:=h.ints.view;rw[h.len]at e;cases e
 exact z
def AZ(h:cy C b m V)(z:b<x):cy C b m (ed V x v0 v1 v2 v3):=(((h.iM (a:=⟨x,0,none⟩) z v0).iM (a:=⟨x,1,none⟩) z v1).iM (a:=⟨x,2,none⟩) z v2).iM (a:=⟨x,3,none⟩) z v3
def uV(h:w.grownBy V row)(z:(w:Nat)<=x):w.grownBy (ed V x v0 v1 v2 v3) row:=bV (bV (bV (bV h (a:=⟨x,0,none⟩) z v0) (a:=⟨x,1,none⟩) z v1) (a:=⟨x,2,none⟩) z v2) (a:=⟨x,3,none⟩) z v3
def Dy(C:Code)(b m lo:Nat)(w:aa)(p:Int)(g:Gr)(A1 A2 A3:aq)(c1 c2 c3:Nat)(ab:cy C b m w)(c0:m<=274877900000)(cu:b<lo)(a7:At lo (fun V=>oI V A1 A2 A3 g) w)(ac:xQ p g):ax 152 #[.pointer (aX b),.agg (bF g A1 c1 A2 c2 A3 c3)] w (kQ C b (m+8192) (GdP p w) w):=by
 have am:=Gr.gx.1 ac.ok;have cR:g.w<=100:=am.1;have cO:g.es.length<=60:=am.2.1;have ch:=zH (fun V W U J O br bv (h:At lo (fun V=>oI V A1 A2 A3 g) V) (ct:W.Perm (List.range g.w)) (cr:U.Perm (List.range g.es)) (cn:yL br g.w J (pR W) V) (co:yL bv g.es O (pR U) V)=>zB p g W U A1 A2 A3 (some ⟨J,0,none⟩) (some ⟨O,0,none⟩) c1 c2 c3 g.w g.es V h.now ac ct cr cn.ints_at co.ints_at);obtain⟨Ez,ap,b8⟩:=dD ab.lt ab a7;have Z:=((ai w w).alloc (ah _) (.cells (bF g A1 c1 A2 c2 A3 c3) 151)).alloc Rx (.cells cf 151);have T:=(bZ (w.alloc (.cells (bF g A1 c1 A2 c2 A3 c3) 151)) (.cells cf 151) (k:=w.heap.size) Rx).trans (aD w _ rfl);have ao:=aD (w.alloc (.cells (bF g A1 c1 A2 c2 A3 c3) 151)) (.cells cf 151) (n:=(w:Nat)+1) Rx;clear ab a7 ac am;go_enter func152,ntmps152
 go_upto_region 1 with(fail)
 generalize (w.alloc _).alloc _=W at Z T ao ⊢;obtain⟨bi,bm,bo,bp⟩:=aJ T;have a4:=aY bi (aY bm (aY bo bp));obtain⟨H,a3,ci⟩:=dD Z T ao;clear Z T ao bi bm bo bp;refine bk (S:=fun V=>af V w 0 (zI (g.w:Nat))/\af V w 1 (.slice A1 g.es c1)/\af V w 2 (.slice A2 g.i c2)/\af V w 3 (.slice A3 g.o c3)) 10 RU a4 (fun hHeld=>?_);refine ay 0 ?_;refine ay 1 ?_;refine ay 2 ?_;refine ay 3 ?_;refine ay 5 ?_;refine ay 6 ?_;refine ay 7 ?_;refine ay 8 ?_;refine bu 4 fun K hK=>?_
 go_simp
 (with_reducible refine(zaX C b m W.drew g.w ((ap.o.ext H.o).ext (aF W)) Ry Ry).mono ?_)
 rintro e cz ⟨v,rfl,⟨cj,J,F,rfl,E⟩,a8,bb⟩;obtain⟨a2,cc,b0,b4⟩:=fS ((aN (row:=some b) (aF W)).trans bb) F E a8;have a5:=aJ (bD a3.o a2.o Ez.o);have b3:=zH (show b < (W.drew:Nat) from(ap.o.ext H.o).lt);clear F E a8 bb;go_simp;refine hK.out _ _ (fun _=>a5) (fun hHeld=>?_);clear hK K;try simp only[Act.put,zA]
 have hHeld:=hHeld RC;refine bu 9 fun K hK=>?_
 go_simp
 (with_reducible refine(zaX C b (m+4096) cz g.es b4.o Ry Ry).mono ?_)
 rintro e be ⟨v,rfl,⟨bz,O,F,rfl,E⟩,a9,ad⟩;obtain⟨I,ce,b2,b5,b1⟩:=l_ (a2.o.trans ad) F E a9 (b0.o.drawn ad b3.o);have a6:=aJ (bD a3.o I.o Ez.o);obtain⟨b9,a0⟩:=bL (At.drawn (At.ext b8.o H.o) I.o cu) (bD ci.o I.o Tw);clear F E a9 ad;go_simp;refine hK.out _ _ (fun _=>a6) (fun hHeld=>?_);clear hK K;try simp only[Act.put,zA]
 have hHeld:=hHeld RC;refine bu 10 fun K hK=>?_
 go_simp
 (with_reducible refine(ch.o be cj bz J O _ _ b9.o cc.o ce.o b1.o b2.o).mono ?_)
 rintro e c9 ⟨G,bd,z,d1,B,d2,D,d3,rfl,ba,Q⟩;have R:=aA a0.o Q;obtain⟨c5,c6,c7,c8⟩:=aJ R;obtain⟨f0,f1,f2,f3⟩:=cH R;have y:=cJ (v0:=.int .i64 (G.w:Nat)) (v1:=.slice z G.es d1) (v2:=.slice B G.i d2) (v3:=.slice D G.o d3) R;obtain⟨cF,cI,z2,cK⟩:=aJ y;unfold ed at cF cI z2 cK;obtain⟨cb,a1⟩:=bL bd (show(w:Nat)+1<be from(aP.1 a0.o).1);obtain⟨b7,b6,ca⟩:=dD (ba.ed (b:=(w:Nat)+1) (v0:=.int .i64 (G.w:Nat)) (v1:=.slice z G.es d1) (v2:=.slice B G.i d2) (v3:=.slice D G.o d3) a1.o) (AZ (v0:=.int .i64 (G.w:Nat)) (v1:=.slice z G.es d1) (v2:=.slice B G.i d2) (v3:=.slice D G.o d3) (b5.o.ext Q) (x:=(w:Nat)+1) Tw) (uV (v0:=.int .i64 (G.w:Nat)) (v1:=.slice z G.es d1) (v2:=.slice B G.i d2) (v3:=.slice D G.o d3) (((aN (row:=some b) H.o).trans I.o).trans (aN Q)) (x:=(w:Nat)+1) Ry);clear R y bd ba Q;go_simp;refine hK.out _ _ (fun h=>absurd h RC) (fun hHeld=>?_);clear hK K;try simp only[Act.put,zA]
 refine bu 11 fun K hK=>?_
 go_simp;refine hK.out _ _ (fun h=>absurd h RC) (fun hHeld=>?_);clear hK K;try simp only[Act.put,zA]
 refine dS RU ?_ _;clear a4 a5 a6;go_wp2;refine az (v:=.agg (bF G z d1 B d2 D d3)) (by simp[results,results152,go_sem, *]) rfl ?_;refine⟨_,rfl,⟨G,z,d1,B,d2,D,d3,rfl,cb.o,?_⟩,b6.o,ca.o⟩;have c4:=a1.o;exact⟨_,by rw[eu];exact ah _,b7.o.to Ry (ah _)⟩
def ug(C:Code)(b K B:Nat)(p:Int)(w V:aa):Prop:=∃G A1 c1 A2 c2 A3 c3,aW V B (bF G A1 c1 A2 c2 A3 c3) 151/\aW V w cf 151/\xQ p G/\At ((w:Nat)+1) (fun z=>oI z A1 A2 A3 G) V/\cy C b K V/\w.grownBy V (some b)
def ug.cur(h:ug C b K D p w V):cy C b K V:=by obtain⟨G,A1,c1,A2,c2,A3,c3,-,-,-,-,h,-⟩:=h;exact h
def ug.go(h:ug C b K D p w V)(Q:b < (w:Nat)/\(w:Nat)<D)(O:cy C b K' E)(z:V.grownBy E (some b)):ug C b K' D p w E:=by obtain⟨G,A1,c1,A2,c2,A3,c3,B,F,H,I,-,J⟩:=h;exact⟨G,A1,c1,A2,c2,A3,c3,bD B z Ry,bD F z Q.1,H,At.drawn I z Ry,O,J.trans z⟩
def ug.mono(h:ug C b K D p w V)(J:K<=K'):ug C b K' D p w V:=by obtain⟨G,A1,c1,A2,c2,A3,c3,z,B,E,F,H,I⟩:=h;exact⟨G,A1,c1,A2,c2,A3,c3,z,B,E,F,H.mono J,I⟩
def ug.store(F:xQ p G)(Q:aW V D #[H,Rw,Ru,Ro] 151)(J:aW V w cf 151)(R:b < (w:Nat)/\(w:Nat)<D)(E:Fr V lo V (fun z=>oI z A1 A2 A3 G))(I:D<lo)(B:cy C b K V)(O:w.grownBy V (some b)):ug C b K D p w (ed V D (zI (G.w:Nat)) (.slice A1 G.es c1) (.slice A2 G.i c2) (.slice A3 G.o c3)):=⟨G,A1,c1,A2,c2,A3,c3,cJ Q,(j6 Ry).trans J,F,⟨_,by rw[eu];exact ah _,(E.ed I).to Ry (ah _)⟩,AZ B Ry,uV O Ry⟩
def ug.new(E:xQ p G)(F:aW V w cf 151)(D:At ((w:Nat)+1) (fun z=>oI z A1 A2 A3 G) V)(B:cy C b K V)(H:w.grownBy V (some b)):ug C b K V p w (V.alloc (.cells (bF G A1 c1 A2 c2 A3 c3) 151)):=⟨G,A1,c1,A2,c2,A3,c3,aD V _ rfl,aA F (aE V _),E,At.ext D (aE V _),B.ext (aE V _),H.trans (aN (aE V _))⟩
def ug.back(I:xQ p G)(H:At ((w:Nat)+1) (fun z=>oI z A1 A2 A3 G) V)(F:cy C b K V)(J:w.grownBy V (some b))(E:b < (w:Nat)):kQ C b K (GdP p w) w (.returned (.agg (bF G A1 c1 A2 c2 A3 c3))) (ed V w (zI (G.w:Nat)) (.slice A1 G.es c1) (.slice A2 G.i c2) (.slice A3 G.o c3)):=by refine⟨_,rfl,⟨G,A1,c1,A2,c2,A3,c3,rfl,I,?_⟩,AZ F E,uV J (ah _)⟩;obtain⟨hi,B,D⟩:=H;exact⟨hi,by rw[eu];exact B,(D.ed (jL _)).to Ry (ah _)⟩
def zdL(h:aW V b (cA x) 3):aU V (some ⟨b,0,none⟩) (bC [x]):=Em h rfl
def zdM(a c:Nat)(w:aa):ax 151 (bI a c) w fun e w'=>e=.returned (zI (min a c:Nat))/\w=w':=by have:=xZ a c w;rw[show min (a:Int) c=((min a c:Nat):Int) by omega]at this;exact this
def At.fr(h:At lo P w):Fr w lo w P:=by obtain⟨hi,z,B⟩:=h;exact B.to (ah _) z
def Bl(C:Code)(b m:Nat)(w:aa)(p:Int)(E:cy C b m w)(e0:m<=274877800000)(c7:2<=p)(eb:p<=97):ax 137 (lM (aX b) p) w (kQ C b (m+10000) (GdP p w) w):=by
 have D:=aD w (.cells cf 151) rfl;have bi:=aE w (.cells cf 151);obtain⟨Ez,b4⟩:=bL E.lt E;clear E;go_enter func137,ntmps137
 go_upto_region 1 with(fail)
 generalize w.alloc _=W at bi D ⊢;obtain⟨ci,a4⟩:=bL D bi;clear D bi;go_upto_region 2 with(first
  |(go_at_call 88;(with_reducible refine(cY C b m W 4 (b4.o.ext a4.o) Ry).mono ?_);rintro e ee ⟨v,rfl,⟨i,rfl,ad,-⟩,O,I⟩;have cr:=zH (Ry:i<=4);have b5:=zH O;have b8:=zH ((aN (row:=some b) a4.o).trans I);have cj:=zH (bD ci.o I Ez.o);clear O I ad)
  |(go_at_call 88;(with_reducible refine(cY C b (m+2) ee 4 b5.o Ry).mono ?_);rintro e eg ⟨v,rfl,⟨o,rfl,ad,-⟩,cI,bm⟩;have ct:=zH (Ry:o<=4);have b6:=zH cI;have b9:=zH (b8.o.trans bm);have cn:=zH (bD cj.o bm Ez.o);clear cI bm ad)
  |(go_at_call 149;(with_reducible refine(zgI C b (m+4) eg p i o b6.o Ry c7 eb cr.o ct.o).mono ?_);rintro e ei ⟨v,rfl,⟨L,A,c,rfl,c4,c5,c8,c6⟩,cK,bo⟩;have cb:=zH c4;have cc:=zH c5;have cu:=zH c8;have ch:=zH c6;have b7:=zH cK;have ca:=zH (b9.o.trans bo);have a0:=zH (bD cn.o bo Ez.o);clear c4 c5 c8 c6 cK bo)
  |(go_at_call 148;(with_reducible refine(zgC p L (i,o) A c ei c7 ch.o.now cu.o cc.o cb.o).mono ?_);rintro e bz ⟨G,R,A1,c1,A2,c2,A3,c3,rfl,B,F⟩;have H:=zH (ug.new (c1:=c1) (c2:=c2) (c3:=c3) R (aA a0.o F) ⟨_,ah _,B.to (aP.1 a0.o).1 (ah _)⟩ (b7.o.ext F) (ca.o.trans (aN F)));have ET:=zH (show b < (w:Nat)/\(w:Nat)<bz from⟨Ez.o,(aP.1 (aA a0.o F)).1⟩);clear R B F))
 generalize bz.alloc _=ac at H ⊢;generalize (bz:Nat)=U at H ET ⊢;clear cb cc cu ch b7 ca a0 b6 b9 cn ct b5 b8 cj cr a4 ci b4;go_upto_if 15 with(go_at_call 46;(with_reducible refine(gH C b (m+4+1000) ac 4 H.o.cur Ry).mono ?_);rintro e ab ⟨v,rfl,⟨y,rfl⟩,O,I⟩;have HI:=zH (H.o.go ET.o O I);clear O I)
 clear H;go_cut [] from 15 to 28 (fun V=>ug C b (m+1010) U p w V)
 case first=>
  cases y
  .exact WU
  .have ev:m+4+1000+2<=m+1010:=Ry;have J:=HI.o;unfold ug at J;obtain⟨G,A1,c1,A2,c2,A3,c3,z,D,Q,B,E,T⟩:=J;obtain⟨Z,ba,ap,a6,a5,bb⟩:=lq z D Q B E T;clear z D Q B E T HI;obtain⟨ao,a3⟩:=aK G.i.length;obtain⟨no,br⟩:=aK G.o.length;obtain⟨a8,a9⟩:=bL a3 br;have ea:min ao no<=12:=by have:=(Gr.gx.1 ap.o.ok).2.2.1;rw[<-a3]at this;omega
   obtain⟨am,bp⟩:=aK (min ao no);have e1:IntKind.i64.wrap (1+(am:Int))=1+(am:Int):=Sq;obtain⟨ce,d5⟩:=bL bp (show ∀V,ax 151 (bI ao no) V fun e w'=>e=.returned (zI (am:Nat))/\V=w' from fun V=>by rw[bp];exact zdM ao no V);have z:=Z.o;rw[<-a3,<-br]at z;have be:=aJ (show ab.drew.heap[U]?=_ from z);clear a3 br ea bp z;go_upto_region 3 with(fail)
   refine bk (S:=fun V=>af V U 0 (zI (G.w:Nat))/\af V U 1 (.slice A1 G.es c1)/\af V U 2 (.slice A2 ao c2)/\af V U 3 (.slice A3 no c3)) 11 RU be (fun hHeld=>?_);refine ay 0 ?_;refine ay 1 ?_;refine ay 2 ?_;refine ay 3 ?_;refine ay 4 ?_;refine ay 5 ?_;refine ay 6 ?_;refine ay 7 ?_;refine bu 8 fun K hK=>?_
   go_simp
   (with_reducible refine(d5.o _).mono ?_)
   rintro e e3 ⟨rfl,rfl⟩;go_simp;refine hK.out _ _ (fun _=>be) (fun hHeld=>?_);clear hK K;try simp only[Act.put,zA]
   have hHeld:=hHeld RC;refine ay 9 ?_;refine bu 10 fun K hK=>?_
   go_simp
   (with_reducible refine(cY C b (m+4+1000+2) ab.drew (1+(am:Int)) (a5.o.ext (aF ab)) Ry).mono ?_)
   rintro e ej ⟨v,rfl,⟨r,rfl,ad,-⟩,cO,c0⟩;obtain⟨co,a1⟩:=bL (Ry:r<=am) ((aN (row:=some b) (aF ab)).trans c0);obtain⟨bd,d6,d0,dl,d4⟩:=l_ (bD Z.o a1.o Tx) (bD ba.o a1.o Ez.o) (At.drawn a6.o a1.o Tw) cO (bb.o.trans a1.o);have bv:=bd.o;rw[<-a8.o,<-a9.o]at bv;have cz:=aJ bv;clear cO c0 ad bv;go_simp;refine hK.out _ _ (fun _=>cz) (fun hHeld=>?_);clear hK K;try simp only[Act.put,zA]
   have hHeld:=hHeld RC;refine bu 11 fun K hK=>?_
   go_simp;have cF:=zaT p G A1 A2 A3 c1 c2 c3 r ej d0.o.now ap.o (by have d7:=co.o;have d8:=ce.o;have d9:=a8.o;omega) (by have d7:=co.o;have d8:=ce.o;have d9:=a9.o;omega);rw[<-a8.o,<-a9.o]at cF
   (with_reducible refine cF.mono ?_)
   rintro e ek ⟨b3,R,b0,d1,b1,d2,b2,d3,rfl,B,F⟩;have z:=aA bd.o F;obtain⟨c9,da,db,dc⟩:=aJ z;obtain⟨f0,f1,f2,f3⟩:=cH z;have a7:=zH (ug.store (G:=b3) (A1:=b0) (A2:=b1) (A3:=b2) (c1:=d1) (c2:=d2) (c3:=d3) R z (aA d6.o F) ET.o (B.to (ah _) (ah _)) (aP.1 bd.o).1 (dl.o.ext F) (d4.o.trans (aN F)));clear z R B F;go_simp;refine hK.out _ _ (fun h=>absurd h RC) (fun hHeld=>?_);clear hK K;try simp only[Act.put,zA]
   refine bu 12 fun K hK=>?_
   go_simp;refine hK.out _ _ (fun h=>absurd h RC) (fun hHeld=>?_);clear hK K;try simp only[Act.put,zA]
   refine dS RU ?_ _;clear be cz;go_wp2_with fail
   go_meet
   exact a7.o.mono Ry
 case rest=>
  clear HI;have H:=zH hcut;clear hcut;obtain⟨ac,rfl⟩:∃ac,ac=wc:=⟨wc,rfl⟩;go_upto_if 29 with(go_at_call 46;(with_reducible refine(gH C b (m+1010) ac 2 H.o.cur Ry).mono ?_);rintro e ab ⟨v,rfl,⟨y,rfl⟩,O,I⟩;have HI:=zH (H.o.go ET.o O I);clear O I)
  clear H;go_cut [] from 29 to 33 (fun V=>ug C b (m+10000) U p w V)
  case first=>
   cases y
   .exact WU
   .have eA:m+1012<=m+10000:=Ry;have J:=HI.o;unfold ug at J;obtain⟨G,A1,c1,A2,c2,A3,c3,z,D,Q,B,E,T⟩:=J;obtain⟨Z,ba,ap,a6,a5,bb⟩:=lq z D Q B E T;clear z D Q B E T HI;obtain⟨e4,e5,e6,e7⟩:=aJ Z.o;go_wp2_with (go_at_call 152;(with_reducible refine(Dy C b (m+1010+2) ((w:Nat)+1) ab p G A1 A2 A3 c1 c2 c3 a5.o Ry Tw a6.o ap.o).mono ?_);rintro e ek ⟨e2,rfl,⟨b3,b0,d1,b1,d2,b2,d3,rfl,R,B⟩,cR,a2⟩;have z:=bD Z.o a2 Tx;obtain⟨c9,da,db,dc⟩:=aJ z;obtain⟨f0,f1,f2,f3⟩:=cH z;have a7:=zH (ug.store (c1:=d1) (c2:=d2) (c3:=d3) R z (bD ba.o a2 Ez.o) ET.o (At.fr B) (aP.1 Z.o).1 cR (bb.o.trans a2));clear z R B cR a2)
    go_meet
    exact a7.o.mono Ry
  case rest=>
   clear HI;have HI:=zH hcut;clear hcut;have J:=HI.o;unfold ug at J;obtain⟨G,A1,c1,A2,c2,A3,c3,z,D,Q,B,E,T⟩:=J;obtain⟨e8,e9,z2,fa⟩:=aJ z;obtain⟨c9,da,db,dc⟩:=aJ D;obtain⟨f0,f1,f2,f3⟩:=cH D;have y:=cJ (v0:=.int .i64 (G.w:Nat)) (v1:=.slice A1 G.es c1) (v2:=.slice A2 G.i c2) (v3:=.slice A3 G.o c3) D;obtain⟨em,en,eo,es⟩:=aJ y;unfold ed at em en eo es;have dT:=zH (ug.back (c1:=c1) (c2:=c2) (c3:=c3) Q B (E.mono (ah _)) T ET.o.1:kQ C b (m+10000) _ _ _ _);clear z D Q B E T y;go_wp2;exact az (v:=.agg (bF G A1 c1 A2 c2 A3 c3)) (by simp[results,results137,go_sem, *]) rfl dT.o
def zdN(C:Code)(b m:Nat)(w:aa)(p:Int)(hc:cy C b m w)(co:m<=274877700000)(b6:2<=p)(b7:p<=97):ax 116 (lM (aX b) p) w (kQ C b (m+10100) (GdP p w) w):=by
 have hq:=aD w (.cells cf 151) rfl;have a2:=aE w (.cells cf 151);have b0:∀r:Nat,r<5->IntKind.i64.wrap ((r:Int)-2)=(r:Int)-2:=fun r am=>Sq
 obtain⟨Ez,a9⟩:=bL hc.lt hc;clear hc;go_enter func116,ntmps116
 go_upto_region 1 with(fail)
 generalize w.alloc _=W at a2 hq ⊢;obtain⟨ap,ao,bi⟩:=dD hq a2 (show(w:Nat)<W from(aP.1 hq).1);clear hq a2;go_upto_region 2 with(go_at_call 137;(with_reducible refine(Bl C b m W p (a9.o.ext ao.o) Ry b6 b7).mono ?_);rintro e D ⟨v,rfl,⟨G,A1,c1,A2,c2,A3,c3,rfl,bz,hf⟩,R,J⟩;have U:=zH (ug.new (c1:=c1) (c2:=c2) (c3:=c3) bz (bD ap.o J Ez.o) (At.mono hf bi.o) R ((aN (row:=some b) ao.o).trans J));have ET:=zH (show b < (w:Nat)/\(w:Nat)<D from⟨Ez.o,(aP.1 (bD ap.o J Ez.o)).1⟩);clear bz hf R J)
 generalize D.alloc _=b5 at U ⊢;generalize (D:Nat)=O at U ET ⊢;clear bi ao ap a9;go_wp2_with (go_at_call 88;(with_reducible refine(cY C b (m+10000) b5 5 U.o.cur Ry).mono ?_);rintro e ce ⟨v,rfl,⟨r0,rfl,am,-⟩,br,bv⟩;have a3:r0<5:=Ry;have b8:=b0 r0 a3;have F_:=zH a3;have bd:=zH (U.o.go ET.o br bv);clear br bv am a3)
 clear U b0;go_loopw [6] (fun kv wr=>∃kk:Int,-2<=kk/\kk<=2/\kv=.int .i64 kk/\Hd (ug C b (m+10002+4*(2-kk).toNat) O p w wr)) (fun kv _=>(intOf kv).toNat)
 case atStart=>exact⟨(r0:Int)-2,TA,TA,Tv,zH (bd.o.mono Ry)⟩
 case round=>
  obtain⟨kk,cj,cn,rfl,ac⟩:=hrel;clear bd b8;by_cases ch:0<kk
  .obtain⟨H,bp⟩:=aK (m+10002+4*(2-kk).toNat);have FH:=zH (Ry:H<=274877800000/\H=m+10002+4*(2-kk).toNat/\H<=m+10018);by_cases ad:∃G A1 c1 A2 c2 A3 c3,1 < (G.w:Int)/\aW wr O (bF G A1 c1 A2 c2 A3 c3) 151/\aW wr w cf 151/\xQ p G/\At ((w:Nat)+1) (fun b4=>oI b4 A1 A2 A3 G) wr/\cy C b H wr/\w.grownBy wr (some b)
   .obtain⟨G,A1,c1,A2,c2,A3,c3,ad,hz,hq,hg,hf,hc,hw⟩:=ad;obtain⟨a1,be,B,bb,b2,bm⟩:=lq hz hq hg hf hc hw;have ci:=FH.o.2;obtain⟨b9,-,-,-⟩:=aJ hz;have S0:=aJ (show wr.drew.heap[O]?=_ from hz);have ct:IntKind.i64.wrap (kk-1)=kk-1:=Sq;clear hz hq hg hf hc hw ac bp;go_upto_region 5 with(fail)
    clear b9;refine bk (S:=fun V=>af V O 0 (zI (G.w:Nat))/\af V O 1 (.slice A1 G.es c1)/\af V O 2 (.slice A2 G.i c2)/\af V O 3 (.slice A3 G.o c3)) 11 RU S0 (fun hHeld=>?_);refine ay 0 ?_;refine ay 1 ?_;refine ay 2 ?_;refine ay 3 ?_;refine ay 6 ?_;refine ay 7 ?_;refine ay 8 ?_;refine bu 4 fun K hK=>?_
    go_simp
    (with_reducible refine(cY C b H wr.drew (G.w:Nat) (b2.o.ext (aF wr)) Ty).mono ?_)
    rintro e D ⟨v,rfl,⟨r,rfl,am,-⟩,R,J⟩;obtain⟨HR,a0,ba,b1⟩:=fS (Ry:r<G.w) ((aN (row:=some b) (aF wr)).trans J) R R.lt;have bo:=aJ (bD a1.o a0.o Tx);clear R J am;go_simp;refine hK.out _ _ (fun _=>bo) (fun hHeld=>?_);clear hK K;try simp only[Act.put,zA]
    have hHeld:=hHeld RC;refine zb0 (i:=5) (j:=9) RU rfl rfl (fun K hK=>?_) (fun K hK=>?_)
    .go_simp;refine hK.out _ _ (fun _=>zbs (aE D _) bo) (fun hHeld=>?_);clear hK K;try simp only[Act.put,zA]
     have hHeld:=hHeld RC;refine bu 9 fun K hK=>?_
     go_simp
     (with_reducible refine(cY C b (H+2) (D.alloc (.cells (cA r) 3)) (G.w:Nat) (ba.o.ext (aE D _)) Ty).mono ?_)
     rintro e z ⟨v,rfl,⟨s,rfl,a4,-⟩,Z,T⟩;obtain⟨HS,E⟩:=bL (Ry:s<G.w) ((a0.o.trans (aN (row:=some b) (aE D _))).trans T);obtain⟨Jw,Jt,ab,Il,Ij⟩:=l_ (bD a1.o E.o Tx) (bD be.o E.o Ez.o) (At.drawn bb.o E.o Tw) Z (bm.o.trans E.o);have F:=aJ Jw.o;obtain⟨G6,I⟩:=aK (iB G [(r,s)]);obtain⟨Jr,Js⟩:=bL I (show xQ p G6 by rw[I];exact B.o.glue ⟨(Gr.gx.1 B.o.ok).2.2.1,fun x hx=>Gr.lX B.o.ok x (aG hx)⟩ ⟨(Gr.gx.1 B.o.ok).2.2.2.1,fun x hx=>Gr.lX B.o.ok x (aB (aG hx))⟩ (fun q hq=>UF));clear I;have b3:=zH (bD (aD D (.cells (cA r) 3) rfl) T b1.o);clear Z T a4;go_simp;refine hK.out _ _ (fun _=>F) (fun hHeld=>?_);clear hK K;try simp only[Act.put,zA]
     have hHeld:=hHeld RC;refine bu 10 fun K hK=>?_
     go_simp;refine hK.out _ _ (fun _=>zbs (aE z _) F) (fun hHeld=>?_);clear hK K;try simp only[Act.put,zA]
     have hHeld:=hHeld RC;have hV:Below z z (z.alloc (.cells (cA s) 3)):=aE z _;have Jq:ax 138 #[.agg (bF G A1 c1 A2 c2 A3 c3),.slice (aX D) 1 1,.slice (aX z) 1 1] (z.alloc (.cells (cA s) 3)) (m7 (iB G [(r,s)]) (z.alloc (.cells (cA s) 3))):=oq G [r] [s] A1 A2 A3 (some ⟨D,0,none⟩) (some ⟨z,0,none⟩) c1 c2 c3 1 1 (z.alloc (.cells (cA s) 3)) (At.ext ab.o hV).now (sq.of B.o.ok) rfl Rx (zdL (aA b3.o (aE z _))) (zdL (aD z _ rfl)) (fun x hx=>T7) (fun x hx=>T6);exact Z2
    .go_simp
     (with_reducible refine(cY C b (H+2) D (G.w:Nat) ba.o Ty).mono ?_)
     rintro e z ⟨v,rfl,⟨s,rfl,a4,-⟩,Z,T⟩;obtain⟨HS,E⟩:=bL (Ry:s<G.w) ((a0.o.trans (aN (row:=some b) (ai _ _))).trans T);obtain⟨Jw,Jt,ab,Il,Ij⟩:=l_ (bD a1.o E.o Tx) (bD be.o E.o Ez.o) (At.drawn bb.o E.o Tw) Z (bm.o.trans E.o);have F:=aJ Jw.o;obtain⟨G6,I⟩:=aK (iB G [(r,s)]);obtain⟨Jr,Js⟩:=bL I (show xQ p G6 by rw[I];exact B.o.glue ⟨(Gr.gx.1 B.o.ok).2.2.1,fun x hx=>Gr.lX B.o.ok x (aG hx)⟩ ⟨(Gr.gx.1 B.o.ok).2.2.2.1,fun x hx=>Gr.lX B.o.ok x (aB (aG hx))⟩ (fun q hq=>UF));clear I;clear Z T a4;go_simp;refine hK.out _ _ (fun _=>F) (fun hHeld=>?_);clear hK K;try simp only[Act.put,zA]
     have hHeld:=hHeld RC;refine zb0 (i:=5) (j:=10) RU rfl rfl (fun K hK=>?_) (fun K hK=>?_)
     .go_simp;refine hK.out _ _ (fun _=>zbs (aE z _) F) (fun hHeld=>?_);clear hK K;try simp only[Act.put,zA]
      have hHeld:=hHeld RC;refine bu 10 fun K hK=>?_
      go_simp;refine hK.out _ _ (fun _=>zbs ((aE z _).alloc (aE z _).size _) F) (fun hHeld=>?_);clear hK K;try simp only[Act.put,zA]
      have hHeld:=hHeld RC;have hV:Below z z ((z.alloc (.cells (cA r) 3)).alloc (.cells (cA s) 3)):=(aE z _).alloc (aE z _).size _;have Jq:ax 138 #[.agg (bF G A1 c1 A2 c2 A3 c3),.slice (aX z) 1 1,.slice (some ⟨(z:Nat)+1,0,none⟩) 1 1] ((z.alloc (.cells (cA r) 3)).alloc (.cells (cA s) 3)) (m7 (iB G [(r,s)]) ((z.alloc (.cells (cA r) 3)).alloc (.cells (cA s) 3))):=oq G [r] [s] A1 A2 A3 (some ⟨z,0,none⟩) (some ⟨(z:Nat)+1,0,none⟩) c1 c2 c3 1 1 ((z.alloc (.cells (cA r) 3)).alloc (.cells (cA s) 3)) (At.ext ab.o hV).now (sq.of B.o.ok) rfl Rx (zdL ((bZ _ _ Rx).trans (aD z (.cells (cA r) 3) rfl))) (zdL (aD (z.alloc (.cells (cA r) 3)) (.cells (cA s) 3) Rx)) (fun x hx=>T7) (fun x hx=>T6);exact Z2
     .go_simp;refine hK.out _ _ (fun _=>zbs (aE z _) F) (fun hHeld=>?_);clear hK K;try simp only[Act.put,zA]
      have hHeld:=hHeld RC;refine bu 5 fun K hK=>?_
      go_simp;refine hK.out _ _ (fun _=>zbs ((aE z _).alloc (aE z _).size _) F) (fun hHeld=>?_);clear hK K;try simp only[Act.put,zA]
      have hHeld:=hHeld RC;have hV:Below z z ((z.alloc (.cells (cA s) 3)).alloc (.cells (cA r) 3)):=(aE z _).alloc (aE z _).size _;have Jq:ax 138 #[.agg (bF G A1 c1 A2 c2 A3 c3),.slice (some ⟨(z:Nat)+1,0,none⟩) 1 1,.slice (aX z) 1 1] ((z.alloc (.cells (cA s) 3)).alloc (.cells (cA r) 3)) (m7 (iB G [(r,s)]) ((z.alloc (.cells (cA s) 3)).alloc (.cells (cA r) 3))):=oq G [r] [s] A1 A2 A3 (some ⟨(z:Nat)+1,0,none⟩) (some ⟨z,0,none⟩) c1 c2 c3 1 1 ((z.alloc (.cells (cA s) 3)).alloc (.cells (cA r) 3)) (At.ext ab.o hV).now (sq.of B.o.ok) rfl Rx (zdL (aD (z.alloc (.cells (cA s) 3)) (.cells (cA r) 3) Rx)) (zdL ((bZ _ _ Rx).trans (aD z (.cells (cA s) 3) rfl))) (fun x hx=>T7) (fun x hx=>T6);exact Z2
   .have Q:=ac.o;rw[<-bp]at Q;unfold ug at Q;obtain⟨G,A1,c1,A2,c2,A3,c3,hz,hq,hg,hf,hc,hw⟩:=Q;have cr:¬1 < (G.w:Int):=fun h=>ad ⟨G,A1,c1,A2,c2,A3,c3,h,hz,hq,hg,hf,hc,hw⟩
    clear ac ad;obtain⟨ca,cb,z2,cc⟩:=aJ hz;obtain⟨r0,r1,r2,r3⟩:=aJ hq;obtain⟨f0,f1,f2,f3⟩:=cH hq;have y:=cJ (v0:=.int .i64 (G.w:Nat)) (v1:=.slice A1 G.es c1) (v2:=.slice A2 G.i c2) (v3:=.slice A3 G.o c3) hq;obtain⟨a5,a6,a7,a8⟩:=aJ y;unfold ed at a5 a6 a7 a8;have HD:=zH (ug.back (c1:=c1) (c2:=c2) (c3:=c3) hg hf (hc.mono Ty) hw ET.o.1:kQ C b (m+10100) _ _ _ _);exact YD
  .have FH:=zH (Ry:m+10002+4*(2-kk).toNat<=m+10100);have Q:=ac.o;unfold ug at Q;obtain⟨G,A1,c1,A2,c2,A3,c3,hz,hq,hg,hf,hc,hw⟩:=Q;obtain⟨ca,cb,z2,cc⟩:=aJ hz;obtain⟨r0,r1,r2,r3⟩:=aJ hq;obtain⟨f0,f1,f2,f3⟩:=cH hq;have y:=cJ (v0:=.int .i64 (G.w:Nat)) (v1:=.slice A1 G.es c1) (v2:=.slice A2 G.i c2) (v3:=.slice A3 G.o c3) hq;obtain⟨a5,a6,a7,a8⟩:=aJ y;unfold ed at a5 a6 a7 a8;have HD:=zH (ug.back (c1:=c1) (c2:=c2) (c3:=c3) hg hf (hc.mono (FH.o)) hw ET.o.1:kQ C b (m+10100) _ _ _ _);exact YD
end Go.Proofs.YtdpgblncijojiaaGreatDoor
