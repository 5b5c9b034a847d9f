/- Parts of the walks. Conditions: as stated with each. -/
import Derived.Test.YtdpgblncijojiaaGreatDoorPk31
import Derived.Test.YtdpgblncijojiaaGreatDoorPk36
namespace Go.Proofs.YtdpgblncijojiaaGreatDoor
open Go.RowKit Tryz
set_option linter.all false
set_option maxHeartbeats 2000000
set_option maxRecDepth 100000
variable{A:aq}{c:Nat}{w:aa}{xs:aH}
def oq(g:Gr)(us B:bW)(A1 A2 A3 J O:aq)(c1 c2 c3 am ao:Nat)(w:aa)(ap:oI w A1 A2 A3 g)(a7:sq g)(a3:us.length=B)(z:us.length<=4096)(a1:aU w J (bC us))(a2:aU w O (bC B))(a4:∀x∈us,x<g.w)(a5:∀x∈B,x<g.w):ax 138 #[.agg (bF g A1 c1 A2 c2 A3 c3),.slice J us am,.slice O B ao] w (m7 (iB g (us.zip B)) w):=by
 have R:=zH (fun V (U:aj w V)=>zaK g us B A1 A2 A3 J O c1 c2 c3 am ao V (ap.ext U) a7 a3 z (a1.ext U) (a2.ext U) a4 a5);have T:=((ai w w).alloc (ah _) (.cells (bF g A1 c1 A2 c2 A3 c3) 151)).alloc Rx (.cells cf 151);have ac:=(bZ (w.alloc (.cells (bF g A1 c1 A2 c2 A3 c3) 151)) (.cells cf 151) (k:=w.heap.size) Rx).trans (aD w _ rfl);have H:=aD (w.alloc (.cells (bF g A1 c1 A2 c2 A3 c3) 151)) (.cells cf 151) (n:=(w:Nat)+1) Rx;obtain⟨G,a0⟩:=aK (iB g (us.zip B));unfold ziy at R;rw[<-a0]at R ⊢;clear ap a7 a3 z a1 a2 a4 a5 a0;go_enter func138,ntmps138
 go_upto_region 1 with(fail)
 generalize (w.alloc _).alloc _=W at T ac H ⊢;obtain⟨a9,ba,bb,bd⟩:=aJ ac;obtain⟨Q,br,ad⟩:=dD T H (show(w:Nat)+1<W from(aP.1 H).1);clear T H ac;go_upto_region 2 with(go_at_call 153;(with_reducible refine(R.o _ Q.o).mono ?_);intro e a8 h;obtain⟨D,d1,E,d2,F,d3,be,b3,b5,b4,bz,a6,Z⟩:=h;subst bz;have bo:=zH a6;have bi:=zH Z;have bv:=zH (aA br Z);clear a6 Z)
 clear a9 ba bb bd;obtain⟨z,ab⟩:=dC a8 (.cells (bF G D d1 E d2 F d3) 151);generalize a8.alloc _=ca at z ab ⊢;obtain⟨a9,ba,bb,bd⟩:=aJ ab;have I:=aA bv z;obtain⟨b6,b7,b8,b9⟩:=aJ I;obtain⟨f0,f1,f2,f3⟩:=cH I;have y:=cJ (v0:=.int .i64 (G.w:Nat)) (v1:=.slice D G.es d1) (v2:=.slice E G.i d2) (v3:=.slice F G.o d3) I;obtain⟨b0,b1,z2,b2⟩:=aJ y;unfold ed at b0 b1 z2 b2;obtain⟨bp,bm⟩:=bL (bo.ext z) (cX (Q.o.trans ((bQ bi z).mono Q.o.size)) (b:=(w:Nat)+1) Ry (zI (G.w:Nat)) (.slice D G.es d1) (.slice E G.i d2) (.slice F G.o d3));clear z ab I y;go_wp2;exact az (v:=.agg (bF G D d1 E d2 F d3)) (by simp[results,results138,go_sem, *]) rfl ⟨D,d1,E,d2,F,d3,be,rfl,(bp.ed ad).mono (js (ny ad)),bm⟩
def CX(A:aq)(c l:Nat):Option Addr:=if c=l then A else A.map (fun x=>x.add l)
def vo(h:aU w A xs)(B:xs.length<=c)(l:Nat):aU w (CX A c l) (xs.drop l):=by
 unfold CX;split
 .rename_i e;exact aG (nx Ry)
 .cases A with
  |none=>
   rcases h with h|⟨b,o,e,-⟩
   .exact WC
   .cases e
  |some p=>
   rcases h with h|⟨b,o,e,z⟩
   .exact WC
   .cases e
    have:=CP (aB ⟨b,o,rfl,z⟩:aU w (some ⟨b,o,none⟩) xs) l;rw[pa,dy];exact this
def zaf{a b:Gr}(D:a.okB=true)(E:b.okB=true):sq (ls a b):=by
 have H:=Gr.gx.1 D;have I:=Gr.gx.1 E;have B:=sq.of D;have sb:=sq.of E;refine⟨zr B.inr sb.inr,?_,?_,?_,?_,?_⟩
 .show a.w+b.w<=4096;omega
 .show(jj a b).length<=4096
  unfold jj;rw[bS,bl];omega
 .exact B.i
 .show(b.o.map _).length<=4096;rw[bl];exact sb.o
 .intro e F;rcases eO.1 (show e∈a.es++b.es.map _ from F)with h|h
  .exact B.el e h
  .obtain⟨z,h',rfl⟩:=cd.1 h;have:=sb.el z h'
   show(z.i.map _).length<=4096/\(z.o.map _).length<=4096
   rw[bl,bl];exact this
def zdS(a b:Gr)(A1 A2 A3 H I J:aq)(c1 c2 c3 d1 d2 d3:Nat)(w:aa)(bp:a.okB=true)(F:b.okB=true)(eo:a.o.length=b.i)(em:oI w A1 A2 A3 a)(en:oI w H I J b):ax 166 (jI (bF a A1 c1 A2 c2 A3 c3) (bF b H d1 I d2 J d3)) w (m7 (Bo a b) w):=by
 obtain⟨d7,d4⟩:=bL (fun(V:aa) (Z:aj w V)=>vz a b A1 A2 A3 H I J c1 c2 c3 d1 d2 d3 V (sq.of bp) (sq.of F) (em.ext Z) (en.ext Z)) eo;have dc:=sq.of bp;have sb:=sq.of F;obtain⟨f9,co,f4⟩:=dD (zaf bp F) (show a.o.length<=4096 from dc.o) (show ∀x∈a.o,x<a.w+b.w from fun x da=>by have:=dc.inr x (aB (aG da));omega);have fz:=zH (show ∀x∈b.i.map (· +a.w),x<a.w+b.w from fun x da=>by obtain⟨y,gC,rfl⟩:=cd.1 da;have:=sb.inr y (aG gC);omega);have bv:=below_alloc3 w (.cells (bF a A1 c1 A2 c2 A3 c3) 151) (.cells (bF b H d1 I d2 J d3) 151) (.cells cf 151);obtain⟨a5,b7,a6⟩:=cv w (.cells (bF a A1 c1 A2 c2 A3 c3) 151) (.cells (bF b H d1 I d2 J d3) 151) (.cells cf 151);obtain⟨e6,e1⟩:=aK ((pH a b).es.length);obtain⟨a4,c6⟩:=aK ((pH a b).i.length);obtain⟨Q,c7⟩:=aK ((pH a b).o.length);obtain⟨n,b1⟩:=aK a.i.length;obtain⟨m,b0⟩:=aK a.o.length;have gB:n<=a4:=by rw[b1,c6];show _<=(a.i++_).length;rw[bS];omega
 have gA:m<=Q:=by rw[b0,c7];show _<=(a.o++_).length;rw[bS];omega
 obtain⟨d9,ba,bb,ap,ao⟩:=l_ e1 c6 c7 b1 b0;rw[<-b1,<-b0]at bv a5 b7 a6 d7 ⊢;clear em en bp F eo dc sb e1 c6 c7 b1 b0;go_enter func166,ntmps166
 go_upto_region 1 with(fail)
 generalize ((w.alloc _).alloc _).alloc _=W at bv a5 b7 a6 ⊢;have fb:=zH (show(w:Nat)+1+1<W from(aP.1 a6).1);obtain⟨gK,gL,b8,b9⟩:=aJ a5;obtain⟨gR,gV,g0,g1⟩:=aJ b7;obtain⟨am,gf,gi⟩:=dD bv a5 a6;clear bv a5 b7 a6;go_upto_region 2 with(go_at_call 177;(with_reducible refine(d7.o _ am.o).mono ?_);intro e dl h;unfold zio at h;obtain⟨cb,ej,D,B,T,E,cI,c4,ev,es⟩:=h;rw[<-d9.o,<-ba.o,<-bb.o]at cI;rw[<-ba.o,<-bb.o]at c4;subst cI;have a9:=zH c4;have fn:=zH ev;have d5:=zH es;clear c4 ev es)
 obtain⟨br,c8⟩:=dC dl (.cells #[.int .i64 ((pH a b).w:Nat),.slice cb e6 ej,.slice D a4 B,.slice T Q E] 151);clear gK gL b8 b9 gR gV g0 g1;obtain⟨cc,a8,bi⟩:=dD (fn.o.ext br (ah _)) (bQ d5.o br) d5.o.size;generalize dl.alloc _=a7 at br c8 cc a8 ⊢;obtain⟨-,-,b8,b9⟩:=aJ (aA gf.o a8.o);have cr:=aY b8 b9;have cj:=zH c8;clear b8 b9 br c8;go_region_held3 (fun V=>af V w 2 (.slice A2 n c2)/\af V w 3 (.slice A3 m c3))
  (first|with_reducible exact cr|with_reducible exact mR (aF _) cr)
  ((fail))
 have ch:=zH ((cc.o.ext (aF a7) (js (aP.1 cj.o).1)).now);have O:=aA cj.o (aF a7);obtain⟨ce,eb,d6⟩:=dD (cc.o.ext (aF a7) (js (aP.1 cj.o).1)) (aA (aA gi.o a8.o) (aF a7)) (am.o.trans ((a8.o.drew).mono am.o.size));obtain⟨R,e3⟩:=aK a7.drew;rw[<-e3]at ch O d6 ce eb ⊢;obtain⟨z,db⟩:=aK dl.heap.size;rw[<-db]at O ce bi ⊢;obtain⟨ei,g4⟩:=bL O db;have ea:=zH (fun V (Z:aj R V)=>ig T E (bC a.o) V (by
  have h:=m5 (ch.o.o.ext Z) m;rw[show bC (pH a b).o=bC a.o++bC (b.o.map (· +a.w)) from nY _ _,ao.o,List.take_left' (bf _)]at h;exact h) (by rw[bf];have:=co.o;omega))
 have cn:=zH (fun V (Z:aj R V)=>ig (CX D B n) (B-n) (bC (b.i.map (· +a.w))) V (by
  have h:=vo (ch.o.i.ext Z) (c:=B) (by rw[bf,<-ba.o];exact a9.o.1) n;rw[show bC (pH a b).i=bC a.i++bC (b.i.map (· +a.w)) from nY _ _,ap.o,List.drop_left' (bf _)]at h;rw[ap.o];exact h) (by rw[bf,bl];have:=co.o;have:=d4.o;omega))
 have d8:=zH (show(bC a.o).length=m from(bf _).trans ao.o.symm);have ci:=zH (show(bC (b.i.map (· +a.w))).length=a4-n by rw[bf,bl,ba.o,ap.o];show _=(a.i++b.i.map _).length-_;rw[bS,bl];omega);rw[d8.o]at ea;rw[ci.o]at cn;have g5:n<=B:=bE gB a9.o.1;have g6:m<=E:=bE gA a9.o.2;obtain⟨-,-,z2,ca⟩:=aJ O;have a0:=aY z2 ca;clear z2 ca cr O e3 db;go_upto_region 3 with(fail)
 obtain⟨X3,cR⟩:=aK (CX T E m);obtain⟨gm,cO⟩:=aK (CX D B n);have gd:=zH cR;rw[<-cO]at cn;have gs:(if B=n then D else Option.map (fun x=>x.add n) D)=gm:=cO.symm;have gw:(if E=m then T else Option.map (fun x=>x.add m) T)=X3:=cR.symm;clear cO cR;go_region_held3 (fun V=>af V z 2 (.slice D a4 B)/\af V z 3 (.slice T Q E))
  (first|with_reducible exact a0|with_reducible exact mR (aF _) a0|with_reducible exact mR bd.o a0|with_reducible exact mR be.o a0)
  ((first|(go_at_call 80;(with_reducible refine(ea.o _ (aF R)).mono ?_);rintro e hc ⟨u7,rfl,a2,F⟩;have bd:=zH ((aF R).trans (F.mono (aF R).size));have ga:=zH a2;clear a2 F)|(go_at_call 80;(with_reducible refine(cn.o _ bd.o).mono ?_);rintro e e7 ⟨u8,rfl,a2,F⟩;have be:=zH (bQ bd.o F);have gc:=zH (a2.mono bd.o.size);have gb:=zH ((ga.o.ext F));clear a2 F)))
 have b3:=aA ei.o be.o;obtain⟨b4,b5,p2,b6⟩:=aJ b3;obtain⟨ct,cu,cz,cF⟩:=cH b3;go_upto_region 5 with(fail)
 have U:=bw e7 z 2 _ _ (.slice D n B) b3;simp only[zA]at U;clear b4 b5 p2 b6 ct cu cz cF;obtain⟨d0,c9⟩:=aK (e7.setCell ⟨z,2,none⟩ (.slice D n B));rw[<-c9]at U ⊢;have eg:=zH c9;obtain⟨b4,b5,p2,b6⟩:=aJ U;obtain⟨ct,cu,cz,cF⟩:=cH U;clear c9 b3;go_upto_region 6 with(fail)
 have bm:=bw d0 z 3 _ _ (.slice X3 (Q-m) (E-m)) U;simp only[zA]at bm;clear b4 b5 p2 b6 ct cu cz cF;have a3:z < (R:Nat):=(aP.1 ei.o).1;have c5:∀k,k<z->(d0.setCell ⟨z,3,none⟩ (.slice X3 (Q-m) (E-m))).heap[k]?=R.heap[k]?:=fun k h=>by refine(bx _ _ _ _ (by show k≠z;omega)).trans ?_;rw[eg.o];exact(bx _ _ _ _ (by show k≠z;omega)).trans (be.o.block k Ry)
 have a1:=(ce.o.same (fun k cI gn=>c5 k gn)).now;have ac:=gb.o.setCell (a:=⟨z,2,none⟩) (show z < (R.drew:Nat) from a3) (.slice D n B);have ad:=gc.o.setCell (a:=⟨z,2,none⟩) a3 (.slice D n B);have ab:=(bQ d6.o be.o).setCell (p:=⟨z,2,none⟩) (by show(w:Nat)<=z;have:=am.o.size;have:=bi.o;omega) (.slice D n B);rw[<-eg.o]at ac ad ab
 replace ac:=ac.setCell (a:=⟨z,3,none⟩) (show z < (R.drew:Nat) from a3) (.slice X3 (Q-m) (E-m))
 replace ad:=ad.setCell (a:=⟨z,3,none⟩) a3 (.slice X3 (Q-m) (E-m))
 replace ab:=ab.setCell (p:=⟨z,3,none⟩) (by show(w:Nat)<=z;have:=am.o.size;have:=bi.o;omega) (.slice X3 (Q-m) (E-m))
 have b2:=(c5 _ (by have:=fb.o;have:=bi.o;omega)).trans eb.o;generalize d0.setCell ⟨z,3,none⟩ _=dT at bm a1 ac ad ab b2 ⊢;obtain⟨e9,f7,ek,e4,-⟩:=ac.view;rw[d8.o]at ek;subst ek;obtain⟨fa,f8,bo,e5,-⟩:=ad.view;rw[ci.o]at bo;subst bo;have eA:oI dT cb D X3 (ls a b):=by
  refine⟨a1.es,?_,?_⟩
  .have h:=m5 a1.i n;rw[show bC (pH a b).i=bC a.i++bC (b.i.map (· +a.w)) from nY _ _,ap.o,List.take_left' (bf _)]at h;exact h
  .have h:=vo a1.o (c:=E) (by rw[bf,<-bb.o];exact a9.o.2) m;rw[<-gd.o,show bC (pH a b).o=bC a.o++bC (b.o.map (· +a.w)) from nY _ _,ao.o,List.drop_left' (bf _)]at h;exact h
 have bz:=oq (ls a b) a.o (b.i.map (· +a.w)) cb D X3 e9 fa ej B (E-m) f7 f8 dT eA f9.o (by rw[bl];exact d4.o) co.o e4 e5 f4.o fz.o;have e0:(ls a b).o.length=Q-m:=by rw[bb.o,ao.o];show(b.o.map _).length=(a.o++b.o.map _).length-_;rw[bS];omega
 rw[e0,show(ls a b).es.length=e6 from d9.o.symm,show(ls a b).i.length=n from ap.o.symm,show(b.i.map (· +a.w)).length=a4-n by rw[<-bf];exact ci.o,<-ao.o,show(ls a b).w=(pH a b).w from rfl,show iB (ls a b) (a.o.zip (b.i.map (· +a.w)))=Bo a b from rfl]at bz;obtain⟨G,cK⟩:=aK (Bo a b);rw[<-cK]at bz ⊢;obtain⟨fo,fs,fd,f6,ee⟩:=l_ cK bz ab b2 (show(w:Nat)+1+1<dT from(aP.1 b2).1);obtain⟨b4,b5,p2,b6⟩:=aJ bm;clear eA bz e0 ab b2 e4 e5 ac ad a1 c5 a3 bm U cK a0 gs gw;go_wp2_with ((go_at_call 138;(with_reducible refine fs.o.mono ?_);intro e hb h;unfold m7 at h;obtain⟨H,d1,I,d2,J,d3,e8,bo,e2,c0⟩:=h;subst bo;have O:=aA f6.o c0;obtain⟨g7,g8,g9,ha⟩:=aJ O;obtain⟨f0,f1,f2,f3⟩:=cH O;have y:=cJ (v0:=.int .i64 (G.w:Nat)) (v1:=.slice H G.es d1) (v2:=.slice I G.i d2) (v3:=.slice J G.o d3) O;obtain⟨g2,g3,z2,ca⟩:=aJ y;unfold ed at g2 g3 z2 ca;have f5:=zH e2;have fl:=zH (cX (bQ fd.o c0) (b:=(w:Nat)+1+1) Ry (zI (G.w:Nat)) (.slice H G.es d1) (.slice I G.i d2) (.slice J G.o d3));clear O y e2 c0))
 refine az (v:=.agg (bF G H d1 I d2 J d3)) (by simp[results,results166,go_sem, *]) rfl ?_;have e:=fo.o;subst e;exact⟨H,d1,I,d2,J,d3,e8,rfl,(f5.o.ed (b:=(w:Nat)+1+1) ee.o).mono (js (ny (ny ee.o))),fl.o⟩
def ldB(p:Int)(a:Sy)(xs:List cZ)(b:Sy):Bool:=decide (bB p a xs=xs.length)&&jm (dn p a xs xs) b
def zds(p:Int)(a:Sy)(A:aq)(cap:Nat)(xs:List cZ)(U:aq)(bd:Nat)(b:Sy)(A2:aq)(H:Nat)(w:aa)(ap:cU w)(a0:aL w A a.rows)(a2:fF w U xs)(a1:aL w A2 b.rows)(J:a.Ok p)(b4:xs.length<=3000)(a8:∀x∈xs,x.row.length<=1048576)(a6:b.rows.length<=1048576)(a7:∀r∈b.rows,r.length<=1048576):ax 60 #[p,.agg (ae a.v a.h A a.rows cap),.slice U xs bd,.agg (ae b.v b.h A2 b.rows H)] w (fp w (ldB p a xs b)):=by
 have D:Below w w ((w.alloc (.cells (ae a.v a.h A a.rows cap) 26)).alloc (.cells (ae b.v b.h A2 b.rows H) 26)):=((ai w w).alloc Rx _).alloc Rx _;have ac:=zH D;have a9:((w.alloc (.cells (ae a.v a.h A a.rows cap) 26)).alloc (.cells (ae b.v b.h A2 b.rows H) 26)).heap[(w:Nat)+1]?=some (.cells (ae b.v b.h A2 b.rows H) 26 (0,0)):=aD _ _ Rx;obtain⟨bo,am,br,bi,bm,T⟩:=lq a9 (zhv p a A cap xs _ U bd (ap.ext D) (a0.ext D) (a2.ext D) J b4 a8) a1 a6 a7 (fun h=>(jP (xs:=xs) J (i:=xs.length) h).small);clear D a9 ap a0 a2 a1 a8 a6 a7;have a5:=iz p xs a;by_cases Z:bB p a xs<xs.length
 .obtain⟨F,R⟩:=bL (show ∀W e w',zgu p a xs W e w'->e=.returned (.tuple (jG aQ (bB p a xs:Nat)))/\aj W w' from fun W e w' h=>⟨h.1 Z,h.2.2⟩) (by unfold ldB;rw[fh Ry];rfl:ldB p a xs b=false);obtain⟨f,a4⟩:∃f:Nat,f=bB p a xs:=⟨_,rfl⟩;rw[<-a4]at F;clear a4 Z a5 T J;go_enter func60,ntmps60
  go_wp2_with (go_at_call 48;refine am.mono ?_;rintro e Q z;obtain⟨rfl,B⟩:=F.o _ _ _ z;have E:=zH (an ac B);clear B z)
  go_ret
  exact⟨aO R.o.symm,E.o.alloc E.o.size _⟩
 .obtain⟨t,O⟩:=aK (dn p a xs xs);have F:=zH (show ∀W e w',zgu p a xs W e w'->∃(A2:aq) (c:Nat),e=.returned (.tuple (jG (ae t.v t.h A2 t.rows c) (-1)))/\aI w' W.heap.size (.slice A2 t.rows c) t.rows/\aj W w' from fun W e w' h=>by obtain⟨A2,c2,b2,b3⟩:=h.2.1 Ry;rw[O];exact⟨_,_,b2,b3,h.2.2⟩)
  have ab:Small t:=by rw[O];exact T Ry
  obtain⟨R,bv,bz⟩:=dD (by unfold ldB;rw[fJ Ry,O];rfl:ldB p a xs b=jm t b) (show t.rows.length<=maxLen by have:=ab.n;unfold maxLen;omega) (show ∀r∈t.rows,r.length<=maxLen from fun r z=>by have:=ab.len r z;unfold maxLen;omega);clear Z a5 O T J ab;go_enter func60,ntmps60
  go_upto_region 2 with(go_at_call 48;refine am.mono ?_;rintro e Q z;obtain⟨A3,c3,rfl,bb,B⟩:=F.o _ _ _ z;have E:=zH (an ac B);have bp:=zH (aA bo B);have b0:=zH (uZ bb);clear B z bb)
  obtain⟨ao,EY⟩:=aK (Q.alloc (.cells (ae t.v t.h A3 t.rows c3) 26));rw[<-EY];have I:aj Q ao:=VG;have ba:aW ao Q (ae t.v t.h A3 t.rows c3) 26:=by rw[EY];exact aD _ _ rfl
  obtain⟨d0,d1,d2⟩:=al ba;obtain⟨b5,b6,b7⟩:=al (aA bp I);obtain⟨ad,b1⟩:=bL (an E.o I) (b0.ext I);clear I ba EY;go_wp2_with (go_at_call 58;refine(l9 t b _ _ _ _ _ b1 (br.ext ad) bv (dM bi) bz (fun r z=>dM (bm r z))).mono ?_;rintro e b8 ⟨rfl,a3⟩;have be:=zH (an ad a3);clear a3)
  go_ret
  exact⟨aO R.o.symm,be⟩
def CH(p:Int)(a:Sy)(xs:List cZ)(b:Sy):Bool:=Dp p a xs&&gg p b.v b.h b.rows
def ckR(p:Int)(a:Sy)(xs:List cZ)(b:Sy):Bool:=CH p a xs b&&ldB p a xs b
def zbc(p:Int)(a:Sy)(A:aq)(cap:Nat)(xs:List cZ)(T:aq)(ap:Nat)(b:Sy)(A2:aq)(D:Nat)(w:aa)(ad:cU w)(am:aL w A a.rows)(b4:a.rows.length<=1048576)(a9:∀r∈a.rows,r.length<=1048576)(a6:fF w T xs)(b5:xs.length<=1048576)(bb:∀x∈xs,x.row.length<=1048576)(a5:aL w A2 b.rows)(a8:b.rows.length<=1048576)(ba:∀r∈b.rows,r.length<=1048576):ax 27 #[p,.agg (ae a.v a.h A a.rows cap),.slice T xs ap,.agg (ae b.v b.h A2 b.rows D)] w fun e w'=>e=.returned (.tuple #[.bool (ckR p a xs b),.bool (CH p a xs b)])/\aj w w':=by
 have U:Below w w ((w.alloc (.cells (ae a.v a.h A a.rows cap) 26)).alloc (.cells (ae b.v b.h A2 b.rows D) 26)):=((ai w w).alloc Rx _).alloc Rx _;have Z:=zH U;have be:((w.alloc (.cells (ae a.v a.h A a.rows cap) 26)).alloc (.cells (ae b.v b.h A2 b.rows D) 26)).heap[w.heap.size]?=some (.cells (ae a.v a.h A a.rows cap) 26 (0,0)):=(bZ _ _ Rx).trans (aD _ _ rfl);have bi:((w.alloc (.cells (ae a.v a.h A a.rows cap) 26)).alloc (.cells (ae b.v b.h A2 b.rows D) 26)).heap[(w:Nat)+1]?=some (.cells (ae b.v b.h A2 b.rows D) 26 (0,0)):=aD _ _ Rx;obtain⟨bv,ab,J,a3,b1,b2,a4,br,a1,a2⟩:=zjl be bi (yf p a A cap xs _ T ap (ad.ext U) (am.ext U) b4 a9 b5) ad am a6 a5 bb a8 ba;clear U be bi ad am a6 a5 bb a9 a8 ba;cases I:Dp p a xs with
 |false=>
  have R:=zH I;rw[I]at J;clear I;go_enter func27,ntmps27
  go_wp2_with (go_at_call 47;refine J.o.mono ?_;rintro e bm ⟨rfl,z⟩;have B:=zH (an Z z);clear z)
  refine az (v:=.tuple #[.bool false,.bool false]) US rfl ⟨?_,B⟩;simp[ckR,CH,R.o]
 |true=>
  have R:=zH I;rw[I]at J;clear I;obtain⟨bd,b6⟩:=vG.1 R.o;obtain⟨a0,Q⟩:=bL (fun(W:aa) (E:aj w W)=>zds p a A cap xs T ap b A2 D W (a3.ext E) (b1.ext E) (b2.ext E) (a4.ext E) bd b6 br a1 a2) (fun(W:aa) (E:aj w W)=>jg p b.v b.h A2 D b.rows W (a3.ext E) (a4.ext E) (dM a1) (fun r b7=>dM (a2 r b7)));clear bd;obtain⟨l,ao⟩:=aK (ldB p a xs b);rw[<-ao]at a0;have bp:=zH ao;clear ao;cases H:gg p b.v b.h b.rows with
  |false=>
   have ac:=zH H;rw[H]at Q;clear H;go_enter func27,ntmps27
   go_wp2_with (first|(go_at_call 47;refine J.o.mono ?_;rintro e bm ⟨rfl,z⟩;have B:=zH (an Z z);obtain⟨d0,d1,d2⟩:=al (aA ab z);clear z)|(go_at_call 33;refine(Q.o _ B.o).mono ?_;rintro e b8 ⟨rfl,F⟩;have O:=zH (an B F);clear F d0 d1 d2))
   refine az (v:=.tuple #[.bool false,.bool false]) US rfl ⟨?_,O⟩;simp[ckR,CH,ac.o]
  |true=>
   have ac:=zH H;rw[H]at Q;clear H;go_enter func27,ntmps27
   go_wp2_with (first|(go_at_call 47;refine J.o.mono ?_;rintro e bm ⟨rfl,z⟩;have B:=zH (an Z z);have bz:=zH (aA bv z);have b0:=zH (aA ab z);obtain⟨d0,d1,d2⟩:=al (aA ab z);clear z)|(go_at_call 33;refine(Q.o _ B.o).mono ?_;rintro e b8 ⟨rfl,F⟩;have O:=zH (an B F);clear d0 d1 d2;obtain⟨d0,d1,d2⟩:=al (aA b0 F);obtain⟨b9,c1,c2⟩:=al (aA bz F);clear F)|(go_at_call 60;refine(a0.o _ O.o).mono ?_;rintro e ca ⟨rfl,a7⟩;have bo:=zH (an O a7);clear a7))
   refine az (v:=.tuple #[.bool l,.bool true]) US rfl ⟨?_,bo⟩;have b3:CH p a xs b=true:=by unfold CH;rw[R.o,ac.o];rfl
   rw[ckR,b3,wF,bp.o]
end Go.Proofs.YtdpgblncijojiaaGreatDoor
