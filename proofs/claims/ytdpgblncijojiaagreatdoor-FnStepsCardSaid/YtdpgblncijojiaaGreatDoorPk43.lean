/- Parts of the walks. Conditions: as stated with each. -/
import Derived.Test.YtdpgblncijojiaaGreatDoorPk38
import Derived.Test.YtdpgblncijojiaaGreatDoorPk42
namespace Go.Proofs.YtdpgblncijojiaaGreatDoor
open Go.RowKit Tryz
set_option linter.all false
set_option maxHeartbeats 2000000
set_option maxRecDepth 100000
variable{A:an}{c k n:Nat}{p:Int}{w:aa}{xs:aG}
def nG(g:Gr)(us D:bX)(A1 A2 A3 O Q:an)(c1 c2 c3 ao ap:Nat)(w:aa)(a0:nX w A1 A2 A3 g)(a8:rC g)(a4:us.length=D)(z:us.length<=4096)(a2:aT w O (bF us))(a3:aT w Q (bF D))(a5:∀x∈us,x<g.w)(a6:∀x∈D,x<g.w):aw 138 #[.agg (bI g A1 c1 A2 c2 A3 c3),.slice O us ao,.slice Q D ap] w (mP (iK g (us.zip D)) w):=by
 have U:=zH (fun V (Z:ai w V)=>Em g us D A1 A2 A3 O Q c1 c2 c3 ao ap V (a0.ext Z) a8 a4 z (a2.ext Z) (a3.ext Z) a5 a6);have Y:=((aj w w).alloc (ag _) (.cells (bI g A1 c1 A2 c2 A3 c3) 151)).alloc RS (.cells cw 151);have ad:=(b_ (w.alloc (.cells (bI g A1 c1 A2 c2 A3 c3) 151)) (.cells cw 151) (k:=w.heap.size) RS).trans (az w _ rfl);have I:=az (w.alloc (.cells (bI g A1 c1 A2 c2 A3 c3) 151)) (.cells cw 151) (n:=(w:Nat)+1) RS;obtain⟨G,a1⟩:=aO (iK g (us.zip D));unfold zid at U;rw[<-a1]at U ⊢;clear a0 a8 a4 z a2 a3 a5 a6 a1;go_enter func138,ntmps138
 go_upto_region 1 with(fail)
 generalize (w.alloc _).alloc _=W at Y ad I ⊢;obtain⟨ba,bb,bd,be⟩:=aK ad;obtain⟨R,br,am⟩:=d_ Y I (show(w:Nat)+1<W from(aM.1 I).1);clear Y I ad;go_upto_region 2 with(go_at_call 153;(with_reducible refine(U.o _ R.o).mono ?_);intro e a9 h;obtain⟨E,d1,F,d2,H,d3,B,b3,b5,b4,bz,a7,ab⟩:=h;subst bz;have bo:=zH a7;have bi:=zH ab;have bv:=zH (ak br ab);clear a7 ab)
 clear ba bb bd be;obtain⟨z,ac⟩:=dK a9 (.cells (bI G E d1 F d2 H d3) 151);generalize a9.alloc _=ca at z ac ⊢;obtain⟨ba,bb,bd,be⟩:=aK ac;have J:=ak bv z;obtain⟨b6,b7,b8,b9⟩:=aK J;obtain⟨f0,f1,f2,f3⟩:=cP J;have y:=cT (v0:=.int .i64 (G.w:Nat)) (v1:=.slice E G.es d1) (v2:=.slice F G.i d2) (v3:=.slice H G.o d3) J;obtain⟨b0,b1,z2,b2⟩:=aK y;unfold eh at b0 b1 z2 b2;obtain⟨bp,bm⟩:=bS (bo.ext z) (de (R.o.trans ((cC bi z).mono R.o.size)) (b:=(w:Nat)+1) RU (zI (G.w:Nat)) (.slice E G.es d1) (.slice F G.i d2) (.slice H G.o d3));clear z ac J y;go_wp2;exact ax (v:=.agg (bI G E d1 F d2 H d3)) (by simp[results,results138,go_sem, *]) rfl ⟨E,d1,F,d2,H,d3,B,rfl,(bp.eh am).mono (jy (ng am)),bm⟩
def Ck(A:an)(c l:Nat):Option Addr:=if c=l then A else A.map (fun x=>x.add l)
def ud(h:aT w A xs)(D:xs.length<=c)(l:Nat):aT w (Ck A c l) (xs.drop l):=by
 unfold Ck;split
 .rename_i e;exact aF (nc RU)
 .cases A with
  |none=>
   rcases h with h|⟨b,o,e,-⟩
   .exact WW
   .cases e
  |some p=>
   rcases h with h|⟨b,o,e,z⟩
   .exact WW
   .cases e
    have:=Cb (aA ⟨b,o,rfl,z⟩:aT w (some ⟨b,o,none⟩) xs) l;rw[sd,dM];exact this
def DM{a b:Gr}(E:a.okB=true)(F:b.okB=true):rC (kY a b):=by
 have I:=Gr.gl.1 E;have J:=Gr.gl.1 F;have D:=rC.of E;have sb:=rC.of F;refine⟨yd D.inr sb.inr,?_,?_,?_,?_,?_⟩
 .show a.w+b.w<=4096;omega
 .show(jc a b).length<=4096
  unfold jc;rw[bQ,bt];omega
 .exact D.i
 .show(b.o.map _).length<=4096;rw[bt];exact sb.o
 .intro e H;rcases fc.1 (show e∈a.es++b.es.map _ from H)with h|h
  .exact D.el e h
  .obtain⟨z,h',rfl⟩:=cf.1 h;have:=sb.el z h'
   show(z.i.map _).length<=4096/\(z.o.map _).length<=4096
   rw[bt,bt];exact this
def zdi(a b:Gr)(A1 A2 A3 I J O:an)(c1 c2 c3 d1 d2 d3:Nat)(w:aa)(br:a.okB=true)(H:b.okB=true)(es:a.o.length=b.i)(en:nX w A1 A2 A3 a)(eo:nX w I J O b):aw 166 (kg (bI a A1 c1 A2 c2 A3 c3) (bI b I d1 J d2 O d3)) w (mP (Al a b) w):=by
 obtain⟨d7,d4⟩:=bS (fun(V:aa) (ab:ai w V)=>uw a b A1 A2 A3 I J O c1 c2 c3 d1 d2 d3 V (rC.of br) (rC.of H) (en.ext ab) (eo.ext ab)) es;have dc:=rC.of br;have sb:=rC.of H;obtain⟨f6,co,fz⟩:=d_ (DM br H) (show a.o.length<=4096 from dc.o) (show ∀x∈a.o,x<a.w+b.w from fun x da=>by have:=dc.inr x (aA (aF da));omega);have fs:=zH (show ∀x∈b.i.map (· +a.w),x<a.w+b.w from fun x da=>by obtain⟨y,gB,rfl⟩:=cf.1 da;have:=sb.inr y (aF gB);omega);have bz:=below_alloc3 w (.cells (bI a A1 c1 A2 c2 A3 c3) 151) (.cells (bI b I d1 J d2 O d3) 151) (.cells cw 151);obtain⟨a6,b8,a7⟩:=cA w (.cells (bI a A1 c1 A2 c2 A3 c3) 151) (.cells (bI b I d1 J d2 O d3) 151) (.cells cw 151);obtain⟨e7,e2⟩:=aO ((o_ a b).es.length);obtain⟨a5,c6⟩:=aO ((o_ a b).i.length);obtain⟨R,c7⟩:=aO ((o_ a b).o.length);obtain⟨n,b2⟩:=aO a.i.length;obtain⟨m,b1⟩:=aO a.o.length;have gA:n<=a5:=by rw[b2,c6];show _<=(a.i++_).length;rw[bQ];omega
 have gw:m<=R:=by rw[b1,c7];show _<=(a.o++_).length;rw[bQ];omega
 obtain⟨d9,bb,bd,a0,ap⟩:=lv e2 c6 c7 b2 b1;rw[<-b2,<-b1]at bz a6 b8 a7 d7 ⊢;clear en eo br H es dc sb e2 c6 c7 b2 b1;go_enter func166,ntmps166
 go_upto_region 1 with(fail)
 generalize ((w.alloc _).alloc _).alloc _=W at bz a6 b8 a7 ⊢;have fb:=zH (show(w:Nat)+1+1<W from(aM.1 a7).1);obtain⟨gC,gL,b9,ca⟩:=aK a6;obtain⟨gV,g0,g1,g2⟩:=aK b8;obtain⟨ao,gd,gf⟩:=d_ bz a6 a7;clear bz a6 b8 a7;go_upto_region 2 with(go_at_call 177;(with_reducible refine(d7.o _ ao.o).mono ?_);intro e dl h;unfold zh7 at h;obtain⟨cc,ek,E,D,Y,F,cF,c4,eA,ev⟩:=h;rw[<-d9.o,<-bb.o,<-bd.o]at cF;rw[<-bb.o,<-bd.o]at c4;subst cF;have ba:=zH c4;have fl:=zH eA;have d5:=zH ev;clear c4 eA ev)
 obtain⟨bv,c8⟩:=dK dl (.cells #[.int .i64 ((o_ a b).w:Nat),.slice cc e7 ek,.slice E a5 D,.slice Y R F] 151);clear gC gL b9 ca gV g0 g1 g2;obtain⟨ce,a9,bm⟩:=d_ (fl.o.ext bv (ag _)) (cC d5.o bv) d5.o.size;generalize dl.alloc _=a8 at bv c8 ce a9 ⊢;obtain⟨-,-,b9,ca⟩:=aK (ak gd.o a9.o);have cr:=bn b9 ca;have ck:=zH c8;clear b9 ca bv c8;go_region_held3 (fun V=>ah V w 2 (.slice A2 n c2)/\ah V w 3 (.slice A3 m c3))
  (first|with_reducible exact cr|with_reducible exact mC (aI _) cr)
  ((fail))
 have ci:=zH ((ce.o.ext (aI a8) (jy (aM.1 ck.o).1)).now);have Q:=ak ck.o (aI a8);obtain⟨ch,eb,d6⟩:=d_ (ce.o.ext (aI a8) (jy (aM.1 ck.o).1)) (ak (ak gf.o a9.o) (aI a8)) (ao.o.trans ((a9.o.drew).mono ao.o.size));obtain⟨U,e4⟩:=aO a8.drew;rw[<-e4]at ci Q d6 ch eb ⊢;obtain⟨z,db⟩:=aO dl.heap.size;rw[<-db]at Q ch bm ⊢;obtain⟨ej,g5⟩:=bS Q db;have ea:=zH (fun V (ab:ai U V)=>iH Y F (bF a.o) V (by
  have h:=mN (ci.o.o.ext ab) m;rw[show bF (o_ a b).o=bF a.o++bF (b.o.map (· +a.w)) from nx _ _,ap.o,List.take_left' (bj _)]at h;exact h) (by rw[bj];have:=co.o;omega))
 have cn:=zH (fun V (ab:ai U V)=>iH (Ck E D n) (D-n) (bF (b.i.map (· +a.w))) V (by
  have h:=ud (ci.o.i.ext ab) (c:=D) (by rw[bj,<-bb.o];exact ba.o.1) n;rw[show bF (o_ a b).i=bF a.i++bF (b.i.map (· +a.w)) from nx _ _,a0.o,List.drop_left' (bj _)]at h;rw[a0.o];exact h) (by rw[bj,bt];have:=co.o;have:=d4.o;omega))
 have d8:=zH (show(bF a.o).length=m from(bj _).trans ap.o.symm);have cj:=zH (show(bF (b.i.map (· +a.w))).length=a5-n by rw[bj,bt,bb.o,a0.o];show _=(a.i++b.i.map _).length-_;rw[bQ,bt];omega);rw[d8.o]at ea;rw[cj.o]at cn;have g6:n<=D:=bc gA ba.o.1;have g7:m<=F:=bc gw ba.o.2;obtain⟨-,-,z2,cb⟩:=aK Q;have a1:=bn z2 cb;clear z2 cb cr Q e4 db;go_upto_region 3 with(fail)
 obtain⟨X3,cR⟩:=aO (Ck Y F m);obtain⟨gi,cO⟩:=aO (Ck E D n);have gc:=zH cR;rw[<-cO]at cn;have gn:(if D=n then E else Option.map (fun x=>x.add n) E)=gi:=cO.symm;have gs:(if F=m then Y else Option.map (fun x=>x.add m) Y)=X3:=cR.symm;clear cO cR;go_region_held3 (fun V=>ah V z 2 (.slice E a5 D)/\ah V z 3 (.slice Y R F))
  (first|with_reducible exact a1|with_reducible exact mC (aI _) a1|with_reducible exact mC be.o a1|with_reducible exact mC bi.o a1)
  ((first|(go_at_call 80;(with_reducible refine(ea.o _ (aI U)).mono ?_);rintro e hd ⟨u7,rfl,a3,H⟩;have be:=zH ((aI U).trans (H.mono (aI U).size));have f9:=zH a3;clear a3 H)|(go_at_call 80;(with_reducible refine(cn.o _ be.o).mono ?_);rintro e e8 ⟨u8,rfl,a3,H⟩;have bi:=zH (cC be.o H);have gb:=zH (a3.mono be.o.size);have ga:=zH ((f9.o.ext H));clear a3 H)))
 have b4:=ak ej.o bi.o;obtain⟨b5,b6,p2,b7⟩:=aK b4;obtain⟨ct,cu,cy,cz⟩:=cP b4;go_upto_region 5 with(fail)
 have Z:=bs e8 z 2 _ _ (.slice E n D) b4;simp only[zA]at Z;clear b5 b6 p2 b7 ct cu cy cz;obtain⟨d0,c9⟩:=aO (e8.setCell ⟨z,2,none⟩ (.slice E n D));rw[<-c9]at Z ⊢;have ei:=zH c9;obtain⟨b5,b6,p2,b7⟩:=aK Z;obtain⟨ct,cu,cy,cz⟩:=cP Z;clear c9 b4;go_upto_region 6 with(fail)
 have bo:=bs d0 z 3 _ _ (.slice X3 (R-m) (F-m)) Z;simp only[zA]at bo;clear b5 b6 p2 b7 ct cu cy cz;have a4:z < (U:Nat):=(aM.1 ej.o).1;have c5:∀k,k<z->(d0.setCell ⟨z,3,none⟩ (.slice X3 (R-m) (F-m))).heap[k]?=U.heap[k]?:=fun k h=>by refine(bw _ _ _ _ (by show k≠z;omega)).trans ?_;rw[ei.o];exact(bw _ _ _ _ (by show k≠z;omega)).trans (bi.o.block k RU)
 have a2:=(ch.o.same (fun k cF gm=>c5 k gm)).now;have ad:=ga.o.setCell (a:=⟨z,2,none⟩) (show z < (U.drew:Nat) from a4) (.slice E n D);have am:=gb.o.setCell (a:=⟨z,2,none⟩) a4 (.slice E n D);have ac:=(cC d6.o bi.o).setCell (p:=⟨z,2,none⟩) (by show(w:Nat)<=z;have:=ao.o.size;have:=bm.o;omega) (.slice E n D);rw[<-ei.o]at ad am ac
 replace ad:=ad.setCell (a:=⟨z,3,none⟩) (show z < (U.drew:Nat) from a4) (.slice X3 (R-m) (F-m))
 replace am:=am.setCell (a:=⟨z,3,none⟩) a4 (.slice X3 (R-m) (F-m))
 replace ac:=ac.setCell (p:=⟨z,3,none⟩) (by show(w:Nat)<=z;have:=ao.o.size;have:=bm.o;omega) (.slice X3 (R-m) (F-m))
 have b3:=(c5 _ (by have:=fb.o;have:=bm.o;omega)).trans eb.o;generalize d0.setCell ⟨z,3,none⟩ _=dT at bo a2 ad am ac b3 ⊢;obtain⟨e9,f7,em,e5,-⟩:=ad.view;rw[d8.o]at em;subst em;obtain⟨fa,f8,bp,e6,-⟩:=am.view;rw[cj.o]at bp;subst bp;have e0:nX dT cc E X3 (kY a b):=by
  refine⟨a2.es,?_,?_⟩
  .have h:=mN a2.i n;rw[show bF (o_ a b).i=bF a.i++bF (b.i.map (· +a.w)) from nx _ _,a0.o,List.take_left' (bj _)]at h;exact h
  .have h:=ud a2.o (c:=F) (by rw[bj,<-bd.o];exact ba.o.2) m;rw[<-gc.o,show bF (o_ a b).o=bF a.o++bF (b.o.map (· +a.w)) from nx _ _,ap.o,List.drop_left' (bj _)]at h;exact h
 have b0:=nG (kY a b) a.o (b.i.map (· +a.w)) cc E X3 e9 fa ek D (F-m) f7 f8 dT e0 f6.o (by rw[bt];exact d4.o) co.o e5 e6 fz.o fs.o;have e1:(kY a b).o.length=R-m:=by rw[bd.o,ap.o];show(b.o.map _).length=(a.o++b.o.map _).length-_;rw[bQ];omega
 rw[e1,show(kY a b).es.length=e7 from d9.o.symm,show(kY a b).i.length=n from a0.o.symm,show(b.i.map (· +a.w)).length=a5-n by rw[<-bj];exact cj.o,<-ap.o,show(kY a b).w=(o_ a b).w from rfl,show iK (kY a b) (a.o.zip (b.i.map (· +a.w)))=Al a b from rfl]at b0;obtain⟨G,cI⟩:=aO (Al a b);rw[<-cI]at b0 ⊢;obtain⟨fn,fo,fd,f5,eg⟩:=lv cI b0 ac b3 (show(w:Nat)+1+1<dT from(aM.1 b3).1);obtain⟨b5,b6,p2,b7⟩:=aK bo;clear e0 b0 e1 ac b3 e5 e6 ad am a2 c5 a4 bo Z cI a1 gn gs;go_wp2_with ((go_at_call 138;(with_reducible refine fo.o.mono ?_);intro e hc h;unfold mP at h;obtain⟨I,d1,J,d2,O,d3,B,bp,e3,c0⟩:=h;subst bp;have Q:=ak f5.o c0;obtain⟨g8,g9,ha,hb⟩:=aK Q;obtain⟨f0,f1,f2,f3⟩:=cP Q;have y:=cT (v0:=.int .i64 (G.w:Nat)) (v1:=.slice I G.es d1) (v2:=.slice J G.i d2) (v3:=.slice O G.o d3) Q;obtain⟨g3,g4,z2,cb⟩:=aK y;unfold eh at g3 g4 z2 cb;have f4:=zH e3;have fi:=zH (de (cC fd.o c0) (b:=(w:Nat)+1+1) RU (zI (G.w:Nat)) (.slice I G.es d1) (.slice J G.i d2) (.slice O G.o d3));clear Q y e3 c0))
 refine ax (v:=.agg (bI G I d1 J d2 O d3)) (by simp[results,results166,go_sem, *]) rfl ?_;have e:=fn.o;subst e;exact⟨I,d1,J,d2,O,d3,B,rfl,(f4.o.eh (b:=(w:Nat)+1+1) eg.o).mono (jy (ng (ng eg.o))),fi.o⟩
structure O4(B:Nat)(V:aa)(v1 v2 v3 v4:au)(l1 l2 l3 l4:aG):Prop where
 o1:bN 3 1 EI V B v1 l1
 o2:bN 3 1 EI V B v2 l2
 o3:bN 3 1 EI V B v3 l3
 o4:bN 3 1 EI V B v4 l4
 d12:∀g,v1.ownBlock=some g->v2.ownBlock≠some g
 d13:∀g,v1.ownBlock=some g->v3.ownBlock≠some g
 d14:∀g,v1.ownBlock=some g->v4.ownBlock≠some g
 d23:∀g,v2.ownBlock=some g->v3.ownBlock≠some g
 d24:∀g,v2.ownBlock=some g->v4.ownBlock≠some g
 d34:∀g,v3.ownBlock=some g->v4.ownBlock≠some g
 le:B<=(V:Nat)
section
variable{B:Nat}{V V' w8:aa}{v1 v2 v3 v4:au}{l1 l2 l3 l4 l:aG}{o:Obj}{g n cap:Nat}
def O4.nil(h:B<=(V:Nat)):O4 B V (.slice none 0 0) (.slice none 0 0) (.slice none 0 0) (.slice none 0 0) [] [] [] []:=⟨bN.nil ..,bN.nil ..,bN.nil ..,bN.nil ..,nofun,nofun,nofun,nofun,nofun,nofun,h⟩
def O4.ext(h:O4 B V v1 v2 v3 v4 l1 l2 l3 l4)(z:ai V V'):O4 B V' v1 v2 v3 v4 l1 l2 l3 l4:=⟨h.o1.ext z,h.o2.ext z,h.o3.ext z,h.o4.ext z,h.d12,h.d13,h.d14,h.d23,h.d24,h.d34,bc h.le z.size⟩
def O4.set(h:O4 B V v1 v2 v3 v4 l1 l2 l3 l4){a:dD}(z:a.block<B)(u:au):O4 B (V.setCell a u) v1 v2 v3 v4 l1 l2 l3 l4:=⟨h.o1.setCell z u,h.o2.setCell z u,h.o3.setCell z u,h.o4.setCell z u,h.d12,h.d13,h.d14,h.d23,h.d24,h.d34,by simpa using h.le⟩
def O4.sw(h:O4 B V v1 v2 v3 v4 l1 l2 l3 l4):O4 B V v2 v1 v3 v4 l2 l1 l3 l4:=⟨h.o2,h.o1,h.o3,h.o4,lh h.d12,h.d23,h.d24,h.d13,h.d14,h.d34,h.le⟩
def O4.rot(h:O4 B V v1 v2 v3 v4 l1 l2 l3 l4):O4 B V v3 v4 v1 v2 l3 l4 l1 l2:=⟨h.o3,h.o4,h.o1,h.o2,h.d34,lh h.d13,lh h.d23,lh h.d14,lh h.d24,h.d12,h.le⟩
def O4.app(h:O4 B V v1 v2 v3 v4 l1 l2 l3 l4)(D:(V.alloc o).grownBy w8 v1.ownBlock)(z:v1.ownBlock=some g∨g=(V.alloc o:Nat))(hb:Below B (V.alloc o) w8)(J:bN 3 1 EI w8 B (.slice (aY g) n cap) l):O4 B w8 (.slice (aY g) n cap) v2 v3 v4 l l2 l3 l4:=by obtain⟨E,F⟩:=j2 h.o2 h.d12 D z;obtain⟨H,I⟩:=j2 h.o3 h.d13 D z;obtain⟨c1,c2⟩:=j2 h.o4 h.d14 D z;exact⟨J,E,H,c1,pF F,pF I,pF c2,h.d23,h.d24,h.d34,WC⟩
end
def wg{B n:Nat}{l:aG}(h:bN 3 1 EI w B (.slice A n c) l)(z:B<=(w:Nat)):Fr w B w (fun W=>aT W A l):=(h.fr (fun _ _ _ _ _ h=>h) z).imp fun W h=>uL h
def zhY{a b:Gr}(D:a.okB=true)(E:b.okB=true):rC (Al a b):=by
 have g:=zey (Gr.nv D) (Gr.nv E);have s:=DM D E;have e:=Eb (yd (Gr.lE D) (Gr.lE E)) (C6 (Gr.lE D) (Gr.lE E));have z:Al a b=iK (kY a b) (zbZ a b):=rfl;refine⟨g.inr,?_,?_,?_,?_,fun e z=>by have:=G1.el g e z;omega⟩
 .rw[z,e]
  show pE _ _ _<=_
  have:=Cy (kY a b) (jb (kY a b).w (zbZ a b)) (kY a b).w;have:=s.w;omega
 .rw[z,e];show((kY a b).es.map _).length<=_;rw[bt];exact s.es
 .rw[z,e];show((kY a b).i.map _).length<=_;rw[bt];exact s.i
 .rw[z,e];show((kY a b).o.map _).length<=_;rw[bt];exact s.o
def zhZ{a b:Gr}(z:a.okB=true)(D:b.okB=true):rC (o_ a b):=by
 have g:=zez (Gr.nv z) (Gr.nv D);have F:=Gr.gl.1 z;have H:=Gr.gl.1 D;refine⟨g.inr,?_,?_,?_,?_,fun e E=>by have:=G1.el g e E;omega⟩
 .show a.w+b.w<=_;omega
 .show(jc a b).length<=_;unfold jc;rw[bQ,bt];omega
 .show(a.i++b.i.map _).length<=_;rw[bQ,bt];omega
 .show(a.o++b.o.map _).length<=_;rw[bQ,bt];omega

def zb5{n:Nd}(h:dZ n=true):n.k<15:=by
 unfold dZ at h;rw[bC]at h;have h:=h.2;by_cases z:n.k=1
 .omega
 rw[al z]at h;by_cases D:n.k=7∨n.k=13
 .omega
 rw[al D]at h;simp only[bC,cK]at h;omega
def yv(p:Int):∀(L z:vj) (r:aG),q_ p (L++z) r=q_ p z (q_ p L r)
 |[],_,_=>rfl
 |q::L,z,r=>yv p L z _
def zc0{L:vj}{q:Nat×Int}(h:L[k]?=some q):lG p n (L.take (k+1))=(lG p n (L.take k)).set q.1 (((lG p n (L.take k)).getD q.1 0+q.2)%p):=by unfold lG;rw[j1 h,yv];rfl
def AO(p:Int)(n:Nat)(L:vj)(A A2:an)(c c2:Nat)(w:aa)(bm:2<=p)(b5:p<=97)(b4:n<=4096)(b3:L.length<=4096)(a3:aT w A (bF (L.map (·.1))))(a4:aT w A2 (L.map (·.2)))(R:∀q∈L,q.1<n/\0<=q.2/\q.2<=p):aw 135 #[p,(n:Nat),.slice A L c,.slice A2 L c2] w fun e w'=>∃g,e=.returned (.slice (aY g) n n)/\lF w n g (lG p n L) w'/\ai w w':=by
 obtain⟨br,hi,ba,bb,Es⟩:=cU fI;obtain⟨ao,a1,ap,am⟩:=fU a3 a4 R (fun k=>zt (p:=p) (n:=n) (L:=L.take k) bm fun q z=>(R q (p_ z)).1);clear a3 a4 R;go_enter func135,ntmps135
 go_upto_region 2 with((at_make;refine jg _ rfl _ _ 27 rfl w.heap.size 3 br (zI 0) 1 dS hi ba bb .i64 .i64 n n n rfl rfl rfl rfl SW TS (ag _) ?_;intro bz Y a7;rw[ig]at Y;have a0:=zH Y;have ad:=zH (cd a7);clear Y a7))
 have ac:=zH (show lF w n w (lG p n (L.take 0)) bz from⟨by unfold ar;rw[show lG p n (L.take 0)=List.replicate n 0 from rfl,kj];exact a0,by show(List.replicate n (0:Int)).length=n;simp,ag _⟩);clear ba bb Es hi;go_wp2;go_loopw [16] (fun i wr=>∃k:Nat,k<=L.length/\i=.int .i64 k/\lF w n w (lG p n (L.take k)) wr/\ai w wr) (fun i _=>L.length-(intOf i).toNat)
 case atStart=>exact⟨0,bf _,rfl,ac,ad⟩
 case round=>
  obtain⟨k,b2,rfl,D,E⟩:=hrel;clear ac a0 ad;by_cases U:k<L.length
  .obtain⟨⟨x,y⟩,z⟩:=aB U;obtain⟨b,o,rfl,a5⟩:=(ao.ext E).here (k:=k) (by rw[bj,bt];exact U);obtain⟨be,bv,rfl,a6⟩:=(a1.ext E).here (k:=k) (by rw[bt];exact U);have b0:=a5 k (x:Int) (fv (by rw[cp,z];rfl));have Q:=a6 k y (by rw[cp,z];rfl);obtain⟨a8,a9,bp⟩:=ap.o _ (a_ z);dsimp only at a8 a9 bp;obtain⟨bi,a2⟩:=am k;have H:=a2 x a8;obtain⟨v,Z⟩:=aB (RU:x < (lG p n (L.take k)).length);have ab:(lG p n (L.take k)).getD x 0=v:=by rw[bu,Z];rfl
   rw[ab]at H;have bo:0<=v:=by rw[H];exact ir _ RU
   have b6:v<p:=by rw[H];exact iu _ RU
   have J:=zH (zc0 (p:=p) (n:=n) z);rw[ab]at J;dsimp only at J;obtain⟨O,b1⟩:=D.at Z;obtain⟨I,F,bd⟩:=d_ D E (fun V=>Bf p v y V RU RU bo RU a9 RU);clear a5 a6 z bi a2 H Z ab D E am ap ao a1;go_upto_region 5 with(fail)
   refine bJ (S:=fun V=>ah V w x (zI v)/\ah V be (bv+k) (zI y)) 13 Si ⟨O,Q⟩ (fun hHeld=>?_);refine aC 0 ?_;refine aC 1 ?_;refine aC 2 ?_;refine aC 3 ?_;refine aC 4 ?_;refine aC 5 ?_;refine aC 6 ?_;refine aC 7 ?_;refine aC 8 ?_;refine aC 9 ?_;refine aC 10 ?_;refine bM 11 fun K hK=>?_
   go_simp;refine(bd.o _).mono ?_;rintro e w' ⟨rfl,rfl⟩;go_simp;refine hK.out _ _ (fun _=>⟨O,Q⟩) (fun hHeld=>?_);clear hK K hHeld;try simp only[Act.put,zA]
   refine bM 12 fun K hK=>?_
   go_simp;refine hK.out _ _ (fun _=>⟨O,Q⟩) (fun hHeld=>?_);clear hK K hHeld;try simp only[Act.put,zA]
   refine bM 13 fun K hK=>?_
   go_simp;refine hK.out _ _ (fun h=>absurd h RX) (fun _=>?_);clear hK K;try simp only[Act.put,zA]
   refine eC Si ?_ _;go_wp2;go_roundw
   case rel=>
    have h:=I.put x ((v+y)%p);rw[<-J.o]at h;exact⟨k+1,RU,RW,(by first|exact h|exact h.ext (aI _)),by first|exact F.setCell (p:=⟨w,x,none⟩) (ag _) _|exact(F.setCell (p:=⟨w,x,none⟩) (ag _) _).drew|exact F.drew.setCell (p:=⟨w,x,none⟩) (ag _) _⟩
   case measure=>simp[intOf];omega
  .rw[gq RU]at D;obtain⟨I,F⟩:=bS D E;clear D E;go_wp2;go_ret
   exact⟨_,rfl,I,F⟩
end Go.Proofs.YtdpgblncijojiaaGreatDoor
