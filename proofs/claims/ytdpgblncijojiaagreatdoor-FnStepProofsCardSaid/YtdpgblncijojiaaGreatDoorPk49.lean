/- Parts of the walks. Conditions: as stated with each. -/
import Derived.Test.YtdpgblncijojiaaGreatDoorPk45
namespace Go.Proofs.YtdpgblncijojiaaGreatDoor
open Go.RowKit Tryz
set_option linter.all false
set_option maxHeartbeats 8000000
set_option maxRecDepth 100000
variable{c r:Nat}{p:Int}{q:Sy×List cZ}{s:Sy}
def Ea(p:Int)(a b:Sy)(A1 A2:aq)(E D:Nat)(w:aa)(c5:aL w A1 a.rows)(c6:aL w A2 b.rows)(am:a.Ok p)(R:b.Ok p):ax 56 (ew p (ae a.v a.h A1 a.rows E) (ae b.v b.h A2 b.rows D)) w (c_ (pbZ p a b) (pbB p a b) w):=by
 obtain⟨d8,s2⟩:=mO am;obtain⟨d9,b4⟩:=mO R;obtain⟨ch,ci,cj,cn⟩:=fS (fun(W:aa) (h:aL W A1 a.rows)=>ye p a A1 E W h am) (fun(W:aa) (h:aL W A2 b.rows)=>ye p b A2 D W h R) (fun(W:aa) (h:aL W A1 a.rows)=>m8 p a A1 E W h am) (fun(W:aa) (h:aL W A2 b.rows)=>m8 p b A2 D W h R);have d0:=sS R;have e7:=rn am;have e8:=rn R;have b2:=pU p b;obtain⟨bi,F⟩:=bL (show pbY p a b=(fT p a).2++(j8 p b (fT p b).2 (fT p b).2).reverse from rfl) (show pbB p a b=(jm (gW p a) (gW p b)&&decide ((fT p a).2.length+(fT p b).2<=3000)) from rfl);obtain⟨a9,c0⟩:=aK (gW p a);obtain⟨ba,c4⟩:=aK (gW p b);obtain⟨U,c8⟩:=aK ((fT p a).2);obtain⟨z,bp⟩:=aK ((fT p b).2);rw[<-c0]at d8 s2 ch F;rw[<-c4]at d9 b4 ci F;rw[<-c8]at cj bi F e7;have da:bB p b z=z.length:=by rw[bp];exact d0.bad
 rw[<-bp]at cn bi F b2 e8;obtain⟨eA,cI,cr,ct⟩:=fS (fun(W:aa) (cR:aq) (fo:Nat) (h:aL W A2 b.rows) (e6:fF W cR z) (e9:z.length<=3000)=>zco p b A2 D z W cR fo h e6 R da e9 (fun x fa=>by rw[b2 x fa];simp)) (fun(W:aa) (a7 a8:aq) (c1 c2:Nat) (B:aL W a7 a9.rows) (e5:aL W a8 ba.rows)=>zck a9 ba a7 a8 c1 c2 W B e5 (dM Ry) (dM Ry) (fun r hr=>dM TR) (fun r hr=>dM (by have:=b4 r hr;omega))) c5 c6;obtain⟨fd,T⟩:=aK (jm a9 ba);rw[<-T]at cI F;clear d8 s2 d9 b4 d0 b2 c0 c4 c8 bp da T c5 c6 am R;obtain⟨be,cO⟩:=bL (fun h=>zgd (p:=p) (a:=a) (b:=b) h) (fun h=>zc1 (p:=p) (a:=a) (b:=b) h);obtain⟨f1,br⟩:=aK (pbZ p a b);obtain⟨bm,a5⟩:=aK (pbB p a b);rw[<-br,<-a5]at be cO;rw[<-a5]at F;rw[<-br,<-a5];clear br a5;go_enter func56,ntmps56
 go_upto_region 1 with(fail)
 have ad:Below w w ((w.alloc (.cells (ae a.v a.h A1 a.rows E) 26)).alloc (.cells (ae b.v b.h A2 b.rows D) 26)):=((ai _ _).alloc (ah _) _).alloc Rx _;have b0:((w.alloc (.cells (ae a.v a.h A1 a.rows E) 26)).alloc (.cells (ae b.v b.h A2 b.rows D) 26)).heap[w.heap.size]?=some (.cells (ae a.v a.h A1 a.rows E) 26 (0,0)):=(bZ _ _ Rx).trans (aD _ _ rfl);have b1:((w.alloc (.cells (ae a.v a.h A1 a.rows E) 26)).alloc (.cells (ae b.v b.h A2 b.rows D) 26)).heap[(w:Nat)+1]?=some (.cells (ae b.v b.h A2 b.rows D) 26 (0,0)):=aD _ _ Rx;obtain⟨bo,c7⟩:=aK ((w.alloc (.cells (ae a.v a.h A1 a.rows E) 26)).alloc (.cells (ae b.v b.h A2 b.rows D) 26));rw[<-c7]at ad b0 b1 ⊢;clear c7;obtain⟨b5,b6,b7⟩:=al b0;obtain⟨b8,b9,ca⟩:=al b1;obtain⟨ce,cz,cF⟩:=dD ad (cr.ext ad) (ct.ext ad);clear b0 b1 ad cr ct;go_region_held3 (fun W=>af W w 0 (zI a.v)/\af W w 1 (zI a.h)/\af W w 2 (.slice A1 a.rows E)/\af W ((w:Nat)+1) 0 (zI b.v)/\af W ((w:Nat)+1) 1 (zI b.h)/\af W ((w:Nat)+1) 2 (.slice A2 b.rows D))
  (first|exact t2|exact t1|exact⟨b5,b6,b7,b8,b9,ca⟩)
  ((first|(go_at_call 62;(with_reducible refine(cj.o _ (cz.o.ext (ai _ _).drew)).mono ?_);rintro e gf ⟨u5,rfl,b3,Q⟩;obtain⟨fs,f5,rfl,-,f8,-⟩:=b3.view;have t1:=(⟨ag Q b5,ag Q b6,ag Q b7,ag Q b8,ag Q b9,ag Q ca⟩:And _ (And _ (And _ (And _ (And _ _)))));have e0:=zH b3;have cc:=zH ((ai bo bo).drew.trans Q);clear b3 Q)|(go_at_call 62;(with_reducible refine(cn.o _ (cF.o.ext cc.o)).mono ?_);rintro e eb ⟨u6,rfl,d4,I⟩;obtain⟨fz,f6,rfl,d3,f9,-⟩:=d4.view;have t2:=(⟨ag I t1.1,ag I t1.2.1,ag I t1.2.2.1,ag I t1.2.2.2.1,ag I t1.2.2.2.2.1,ag I t1.2.2.2.2.2⟩:And _ (And _ (And _ (And _ (And _ _)))));have e1:=zH (e0.ext I);have ev:=zH d3;have ao:=zH (bQ cc I);clear d3 d4 I)))
 obtain⟨ap,a0,a1,a2,a3,a4⟩:=t2;clear t1 b5 b6 b7 b8 b9 ca;obtain⟨en,cu,bd⟩:=dD (cz.ext ao) (cF.ext ao) (bQ ce ao);have d6:IntKind.i64.wrap ((U:Int)+(z:Int))=(U:Int)+(z:Int):=Sq;by_cases db:U.length+z<=3000
 .have bz:decide ((3000:Int) < (U:Int)+(z:Int))=false:=fh Ry;go_wp2_with fail
  go_region_held3 (fun W=>af W w 0 (zI a.v)/\af W w 1 (zI a.h)/\af W w 2 (.slice A1 a.rows E)/\af W ((w:Nat)+1) 0 (zI b.v)/\af W ((w:Nat)+1) 1 (zI b.h)/\af W ((w:Nat)+1) 2 (.slice A2 b.rows D))
   (first|exact t3|exact t2|exact t1|exact⟨ap,a0,a1,a2,a3,a4⟩)
   ((first|(go_at_call 96;(with_reducible refine(ch.o _ (en.o.ext (ai _ _).drew)).mono ?_);rintro e gc ⟨a7,d1,rfl,dl,J⟩;have t1:=(⟨ag J ap,ag J a0,ag J a1,ag J a2,ag J a3,ag J a4⟩:And _ (And _ (And _ (And _ (And _ _)))));have ej:=zH dl.at;have cb:=zH ((ai eb eb).drew.trans J);clear dl J)|(go_at_call 96;(with_reducible refine(ci.o _ (cu.o.ext cb.o)).mono ?_);rintro e gd ⟨a8,d2,rfl,dT,H⟩;have t2:=(⟨ag H t1.1,ag H t1.2.1,ag H t1.2.2.1,ag H t1.2.2.2.1,ag H t1.2.2.2.2.1,ag H t1.2.2.2.2.2⟩:And _ (And _ (And _ (And _ (And _ _)))));have em:=zH dT.at;have ek:=zH (ej.ext H);have ee:=zH (bQ cb H);clear dT H)|(go_at_call 95;refine(cI.o _ _ _ _ _ ek em).mono ?_;rintro e ea ⟨rfl,O⟩;have t3:=(⟨ag O t2.1,ag O t2.2.1,ag O t2.2.2.1,ag O t2.2.2.2.1,ag O t2.2.2.2.2.1,ag O t2.2.2.2.2.2⟩:And _ (And _ (And _ (And _ (And _ _)))));have Z:=zH (bQ ee O);clear O)))
  obtain⟨-,-,-,f2,f3,f4⟩:=t3;clear t2 t1 ap a0 a1 a2 a3 a4 d6 bz;obtain⟨eo,es,co⟩:=dD (cu.ext Z) (ev.ext Z) (bQ bd Z);cases T:fd with
  |false=>
   have B:bm=false:=by rw[F.o,T];rfl
   obtain⟨ac,ab⟩:=bL (be B) B;clear B;subst T;go_wp2;refine az (v:=.tuple iG) UR rfl ?_;rw[ac.o,ab.o];exact c_.mk rfl (bX.nil _ _) co.o
  |true=>
   have B:bm=true:=by rw[F.o,fJ db,T];rfl
   obtain⟨ac,ab,cK⟩:=dD ((cO B).trans bi) B (e1.ext Z);clear B;subst T;go_wp2_with fail
   refine(eA.o _ _ _ eo es Ry).mono ?_;rintro e fn ⟨u7,rfl,a6,bv⟩;obtain⟨f0,f7,rfl,-⟩:=a6.view;have dc:(j8 p b z z).reverse.length=z:=by rw[nt,im]
   rw[dc]at a6 ⊢;clear dc;obtain⟨e2,bb⟩:=bL a6 bv;have gb:=ao.size;have ga:=Z.size;have fb:=bv.size;have d7:=ce.size;have ei:=zH (SV:U.length+(j8 p b z z).reverse<=1048576);clear a6 bv;go_wp2_with ((at_builtin;refine ox rfl _ _ rfl bo ea fn _ _ _ _ (cK.ext bb) e2.o ⟨ea,ah _,cK,bb⟩ Ry fb ei.o rfl rfl ?_;intro fl gi d5 c9;have e3:=zH d5;have eg:=zH c9;clear d5 c9))
   refine az (v:=.tuple #[fl,.bool true]) UR rfl ?_;rw[ac.o,ab.o];exact c_.mk rfl (e3.mono d7) ((bQ co bb).trans (eg.mono d7))
 .have bz:decide ((3000:Int) < (U:Int)+(z:Int))=true:=fJ Ry;have B:bm=false:=by rw[F.o,fh db,y9]
  obtain⟨ac,ab⟩:=bL (be B) B;clear B;go_wp2_with fail
  clear ap a0 a1 a2 a3 a4;refine bM RU RU ?_
  repeat (go_big_quiet_step (fail))
  refine dm ?_;rintro _ ⟨W,rfl⟩;have e4:=zH (bd.trans (W.ok.mono bd.size));clear d6 bz;go_wp2;refine az (v:=.tuple iG) UR rfl ?_;rw[ac.o,ab.o];exact c_.mk rfl (bX.nil _ _) e4.o
def tp(p:Int)(a b:Sy):Bool:=(gg p a.v a.h a.rows&&gg p b.v b.h b.rows)&&pbB p a b
def prX(p:Int)(a b:Sy):List cZ:=if tp p a b=true then pbY p a b else[]
def ziq(p:Int)(a b:Sy):(prX p a b).length<=1048576/\∀r∈prX p a b,r.row.length<=1048576:=by
 unfold prX;split
 .rename_i h;unfold tp at h;rw[bn,bn]at h;obtain⟨⟨I,E⟩,B⟩:=h;have D:b.Ok p:=il.1 E;unfold pbB at B;rw[bn,cw]at B;have H:=(sS D).bad;unfold pbY;refine⟨by rw[bS,nt,im];omega,fun r F=>?_⟩;rcases eO.1 F with z|z
  .rw[pU p a r z];simp
  .have:=BU (xs:=(fT p b).2) D (by rw[H];exact ah _) r (List.mem_reverse.1 z);omega
 .simp
def Di{a b:Sy}(z:gg p a.v a.h a.rows=true)(B:gg p b.v b.h b.rows=true):tp p a b=pbB p a b:=by unfold tp;rw[z,B];rfl
def zfX{a b:Sy}(z:gg p a.v a.h a.rows=true)(B:gg p b.v b.h b.rows=true):prX p a b=pbZ p a b:=by unfold prX pbZ;rw[Di z B]
def zcV{a b:Sy}(h:gg p a.v a.h a.rows=false∨gg p b.v b.h b.rows=false):tp p a b=false/\prX p a b=[]:=by
 have:tp p a b=false:=by unfold tp;rcases h with h|h <;>rw[h] <;>simp
 exact⟨this,by unfold prX;rw[this,ak RC]⟩
def zbW(p:Int)(a:Sy)(A:aq)(cap:Nat)(b:Sy)(A2:aq)(H:Nat)(w:aa)(ac:cU w)(am:aL w A a.rows)(a9:a.rows.length<=1048576)(bb:∀r∈a.rows,r.length<=1048576)(ao:aL w A2 b.rows)(ba:b.rows.length<=1048576)(bd:∀r∈b.rows,r.length<=1048576):ax 23 (ew p (ae a.v a.h A a.rows cap) (ae b.v b.h A2 b.rows H)) w (c_ (prX p a b) (tp p a b) w):=by
 have a3:Below w w ((w.alloc (.cells (ae a.v a.h A a.rows cap) 26)).alloc (.cells (ae b.v b.h A2 b.rows H) 26)):=((ai _ _).alloc (ah _) _).alloc Rx _;obtain⟨Q,Z,ab,bo,a2,ad,a0⟩:=zH7 a3 (fun W (z:aj w W)=>jg p a.v a.h A cap a.rows W (ac.ext z) (am.ext z) (dM a9) (fun r ap=>dM (bb r ap))) (fun W (z:aj w W)=>jg p b.v b.h A2 H b.rows W (ac.ext z) (ao.ext z) (dM ba) (fun r ap=>dM (bd r ap))) (show((w.alloc (.cells (ae a.v a.h A a.rows cap) 26)).alloc (.cells (ae b.v b.h A2 b.rows H) 26)).heap[w.heap.size]?=some (.cells (ae a.v a.h A a.rows cap) 26 (0,0)) from(bZ _ _ Rx).trans (aD _ _ rfl)) (show((w.alloc (.cells (ae a.v a.h A a.rows cap) 26)).alloc (.cells (ae b.v b.h A2 b.rows H) 26)).heap[(w:Nat)+1]?=some (.cells (ae b.v b.h A2 b.rows H) 26 (0,0)) from aD _ _ Rx) (fun h=>zcV (p:=p) (a:=a) (b:=b) h) (fun W (I:a.Ok p) (J:b.Ok p) (z:aj w W)=>xB p a b A A2 cap H W (ac.ext z) (am.ext z) (ao.ext z) I J);clear ac am a9 bb ao ba bd a3;cases D:gg p a.v a.h a.rows with
 |false=>
  obtain⟨I,J⟩:=ad (aG D);rw[I,J];rw[D]at Z;clear I J D;go_enter func23,ntmps23
  go_wp2_with (go_at_call 33;refine(Z.o _ Q.o).mono ?_;rintro e bi ⟨rfl,B⟩;have F:=zH (bQ Q.o B);clear B)
  exact az (v:=.tuple iG) UP rfl (c_.mk rfl (bX.nil _ _) F.o)
 |true=>
  rw[D]at Z;cases E:gg p b.v b.h b.rows with
  |false=>
   obtain⟨I,J⟩:=ad (aB E);rw[I,J];rw[E]at ab;clear I J D E;go_enter func23,ntmps23
   go_wp2_with fail
   refine(Z.o _ Q.o).mono ?_;rintro e bi ⟨rfl,B⟩;have F:=zH (bQ Q.o B);obtain⟨d0,d1,d2⟩:=al (aA a2 B);clear B;go_wp2_with (go_at_call 33;refine(ab.o _ F.o).mono ?_;rintro e b4 ⟨rfl,O⟩;have U:=zH (bQ F O);clear O)
   exact az (v:=.tuple iG) UP rfl (c_.mk rfl (bX.nil _ _) U.o)
  |true=>
   rw[E]at ab;have a7:a.Ok p:=il.1 D;have a8:b.Ok p:=il.1 E;have a1:=zH (fun W z=>a0 W a7 a8 z);rw[Di D E,zfX D E];obtain⟨b5,a5⟩:=aK (pbZ p a b);obtain⟨bz,a4⟩:=aK (pbB p a b);rw[<-a5,<-a4]at a1 ⊢;clear a5 a4 a7 a8 D E a0 ad;go_enter func23,ntmps23
   go_wp2_with fail
   refine(Z.o _ Q.o).mono ?_;rintro e bi ⟨rfl,B⟩;have F:=zH (bQ Q.o B);have R:=aA bo B;have T:=aA a2 B;obtain⟨b0,c1,c2⟩:=al R;obtain⟨d0,d1,d2⟩:=al T;obtain⟨bp,br⟩:=bL R T;clear B R T;go_wp2_with fail
   refine(ab.o _ F.o).mono ?_;rintro e b4 ⟨rfl,O⟩;have U:=zH (bQ F O);have R:=aA bp O;have T:=aA br O;obtain⟨b1,b2,b3⟩:=al R;obtain⟨f0,f1,f2⟩:=al T;clear O R T b0 c1 c2 d0 d1 d2;go_wp2_with fail
   refine(a1.o _ U.o).mono ?_;rintro e b6 ⟨u3,rfl,be,a6⟩;obtain⟨bv,bm⟩:=bL be (bQ U.o a6);clear be a6 b1 b2 b3 f0 f1 f2;go_wp2;exact az (v:=.tuple #[u3,.bool bz]) UP rfl (c_.mk rfl (bv.mono U.o.size) bm.o)
def zbX(p:Int)(a:Sy)(A:aq)(cap:Nat)(b:Sy)(A2:aq)(H:Nat)(w:aa)(ad:aL w A a.rows)(a8:a.rows.length<=1048576)(ba:∀r∈a.rows,r.length<=1048576)(am:aL w A2 b.rows)(a9:b.rows.length<=1048576)(bb:∀r∈b.rows,r.length<=1048576):ax 24 (ew p (ae a.v a.h A a.rows cap) (ae b.v b.h A2 b.rows H)) w (c_ (prX p a b) (tp p a b) w):=by
 have a2:Below w w ((w.alloc (.cells (ae a.v a.h A a.rows cap) 26)).alloc (.cells (ae b.v b.h A2 b.rows H) 26)):=((ai _ _).alloc (ah _) _).alloc Rx _;obtain⟨Q,Z,ab,bm,a1,ac,ap⟩:=zH7 a2 (fun W (D:aj w W)=>ud p a.v a.h A cap a.rows W (ad.ext D) (dM a8) (fun r ao=>dM (ba r ao))) (fun W (D:aj w W)=>ud p b.v b.h A2 H b.rows W (am.ext D) (dM a9) (fun r ao=>dM (bb r ao))) (show((w.alloc (.cells (ae a.v a.h A a.rows cap) 26)).alloc (.cells (ae b.v b.h A2 b.rows H) 26)).heap[w.heap.size]?=some (.cells (ae a.v a.h A a.rows cap) 26 (0,0)) from(bZ _ _ Rx).trans (aD _ _ rfl)) (show((w.alloc (.cells (ae a.v a.h A a.rows cap) 26)).alloc (.cells (ae b.v b.h A2 b.rows H) 26)).heap[(w:Nat)+1]?=some (.cells (ae b.v b.h A2 b.rows H) 26 (0,0)) from aD _ _ Rx) (fun h=>zcV (p:=p) (a:=a) (b:=b) h) (fun W (I:a.Ok p) (J:b.Ok p) (D:aj w W)=>Ea p a b A A2 cap H W (ad.ext D) (am.ext D) I J);clear ad a8 ba am a9 bb a2;cases B:gg p a.v a.h a.rows with
 |false=>
  obtain⟨I,J⟩:=ac (aG B);rw[I,J];rw[B]at Z;clear I J B;go_enter func24,ntmps24
  go_wp2_with (go_at_call 35;refine(Z.o _ Q.o).mono ?_;rintro e be ⟨rfl,z⟩;have F:=zH (bQ Q.o z);clear z)
  exact az (v:=.tuple iG) UO rfl (c_.mk rfl (bX.nil _ _) F.o)
 |true=>
  rw[B]at Z;cases E:gg p b.v b.h b.rows with
  |false=>
   obtain⟨I,J⟩:=ac (aB E);rw[I,J];rw[E]at ab;clear I J B E;go_enter func24,ntmps24
   go_wp2_with fail
   refine(Z.o _ Q.o).mono ?_;rintro e be ⟨rfl,z⟩;have F:=zH (bQ Q.o z);obtain⟨d0,d1,d2⟩:=al (aA a1 z);clear z;go_wp2_with (go_at_call 35;refine(ab.o _ F.o).mono ?_;rintro e b3 ⟨rfl,O⟩;have U:=zH (bQ F O);clear O)
   exact az (v:=.tuple iG) UO rfl (c_.mk rfl (bX.nil _ _) U.o)
  |true=>
   rw[E]at ab;have a6:a.Ok p:=il.1 B;have a7:b.Ok p:=il.1 E;have a0:=zH (fun W D=>ap W a6 a7 D);rw[Di B E,zfX B E];obtain⟨b4,a4⟩:=aK (pbZ p a b);obtain⟨bv,a3⟩:=aK (pbB p a b);rw[<-a4,<-a3]at a0 ⊢;clear a4 a3 a6 a7 B E ap ac;go_enter func24,ntmps24
   go_wp2_with fail
   refine(Z.o _ Q.o).mono ?_;rintro e be ⟨rfl,z⟩;have F:=zH (bQ Q.o z);have R:=aA bm z;have T:=aA a1 z;obtain⟨bz,c1,c2⟩:=al R;obtain⟨d0,d1,d2⟩:=al T;obtain⟨bo,bp⟩:=bL R T;clear z R T;go_wp2_with fail
   refine(ab.o _ F.o).mono ?_;rintro e b3 ⟨rfl,O⟩;have U:=zH (bQ F O);have R:=aA bo O;have T:=aA bp O;obtain⟨b0,b1,b2⟩:=al R;obtain⟨f0,f1,f2⟩:=al T;clear O R T bz c1 c2 d0 d1 d2;go_wp2_with fail
   refine(a0.o _ U.o).mono ?_;rintro e b5 ⟨u3,rfl,bd,a5⟩;obtain⟨br,bi⟩:=bL bd (bQ U.o a5);clear bd a5 b0 b1 b2 f0 f1 f2;go_wp2;exact az (v:=.tuple #[u3,.bool bv]) UO rfl (c_.mk rfl (br.mono U.o.size) bi.o)
section
variable{M:aC}
def zca(p f:Int)(xs ys:aH):cV p (f%p) xs ys=cV p f xs ys:=by
 unfold cV;congr 1
 funext x y
 rw[oY,mi,qx _ (qy p),<-mi,<-oY]
def zcb{r:aH}(h:∀x∈r,0<=x/\x<p):fU p 1 r=r:=by
 unfold fU;conv=>rhs;rw[<-wS r]
 exact jr fun x z=>by rw[oZ,lO (h x z).1 (h x z).2];rfl
def zaO(z:cP p=true):ec p 1=1:=by have E:=et z;obtain⟨B,F,D⟩:=iW z (Ry:(1:Int)<=1) (Ry:(1:Int)<p);rw[Int.one_mul,lO Ry D]at B;exact B
def zgA(h:r<M.length):tq M r r=M:=by unfold tq;obtain⟨x,z⟩:=aw h;rw[getD_some z,jy z,jy z]
def zaP{p:Int}{r c:Nat}{q:Sy×List cZ}{X:aC}:∀i,(mW p r c 1 i q).1.rows=(fV p r c i (q.1.rows,X)).1/\(mW p r c 1 i q).1.v=q.1.v/\(mW p r c 1 i q).1.h=q.1.h
 |0=>⟨rfl,rfl,rfl⟩
 |i+1=>by
  obtain⟨ih,D,B⟩:=zaP (X:=X) (q:=q) (p:=p) (r:=r) (c:=c) i;unfold mW fV;have z:fB (mW p r c 1 i q).1 i c=eM (fV p r c i (q.1.rows,X)).1 i c:=by unfold fB eM;rw[ih]
  rw[z];split
  .unfold push DK;dsimp only;rw[DL];dsimp only;refine⟨?_,D,B⟩;rw[z,oZ,zca,ih]
  .exact⟨ih,D,B⟩
def zgB{v:Int}{X:aC}(h:Inv2 p v c r q.1)(T:(c:Int)<v)(ac:cN q.1 c r<q.1.rows.length):(iA p c r (ik p c r (f_ p c r q))).1.rows=(ts p r (cN q.1 c r) c (q.1.rows,X)).1:=by
 obtain⟨f1,f2,_,_⟩:=dF q.1 c r h.hr;obtain⟨_,B,D,I⟩:=nC h T ac;obtain⟨_,J,O,E⟩:=nD B T D I;have U:=Sys.f h.ok;obtain⟨k,Z⟩:=aK (cN q.1 c r);have Q:(f_ p c r q).1.rows=tq q.1.rows r k:=by
  unfold f_;rw[<-Z];split
  .unfold push;dsimp only;rw[DM];rfl
  .rename_i F;have:k=r:=qL F;rw[this,zgA Ry]
 obtain⟨z,ad⟩:=aK (f_ p c r q);rw[<-ad]at B D I J O E Q ⊢;have R:(ik p c r z).1.rows=yM p (ec p (eM z.1.rows r c)) z.1.rows r:=by
  unfold ik;split
  .unfold push;dsimp only;rw[DN];rfl
  .rename_i F;have ab:fB z.1 r c=1:=qL F;have:eM z.1.rows r c=1:=ab;rw[this,zaO U];unfold yM;obtain⟨x,H⟩:=aw D;rw[getD_some H,zcb (Sys.el B.ok x (aR H)),jy H]
 obtain⟨ao,am⟩:=aK (ik p c r z);rw[<-am]at J O E R ⊢;unfold iA;rw[E,zaO U,(zaP (X:=yM p (ec p (eM (tq q.1.rows r k) r c)) (tq X r k) r) _).1];unfold ts;rw[<-Z];dsimp only;rw[R,Q];congr 2
 simp[yM,tq]
def sM{p v:Int}:∀(m c:Nat) (z:Nat×(Sy×List cZ)) (X:aC),Inv2 p v c z.1 z.2.1->(c:Int)+m=v->(iX p m c z).2.1.rows=(jW p m c (z.1,(z.2.1.rows,X))).2.1/\(iX p m c z).1=(jW p m c (z.1,(z.2.1.rows,X))).1
 |0,c,z,X,_,_=>⟨rfl,rfl⟩
 |m+1,c,z,X,h,ad=>by
  have ab:qj z.2.1.rows c z.1=cN z.2.1 c z.1:=rfl;by_cases E:z.1<z.2.1.rows.length
  .have D:jW p (m+1) c (z.1,(z.2.1.rows,X))=jW p m (c+1) (if qj z.2.1.rows c z.1=z.2.1.rows.length then(z.1,(z.2.1.rows,X)) else(z.1+1,ts p z.1 (qj z.2.1.rows c z.1) c (z.2.1.rows,X))):=by rw[jW];dsimp only;rw[ar E]
   rw[D,ab];unfold iX;by_cases B:cN z.2.1 c z.1=z.2.1.rows.length
   .rw[ar B,ar B];exact sM m (c+1) z X (sP h B) Ry
   .rw[ak B,ak B];obtain⟨f1,f2,_,_⟩:=dF z.2.1 c z.1 h.hr;have F:cN z.2.1 c z.1<z.2.1.rows.length:=Ry;obtain⟨_,H,I,J⟩:=nC (q:=z.2) h Ry F;obtain⟨_,O,Q,R⟩:=nD H Ry I J;have U:=px O Ry Q R;have Z:=zgB (X:=X) (q:=z.2) h Ry F;have:=sM m (c+1) (z.1+1,iA p c z.1 (ik p c z.1 (f_ p c z.1 z.2))) (ts p z.1 (cN z.2.1 c z.1) c (z.2.1.rows,X)).2 U Ry;dsimp only at this;rw[Z]at this;exact this
  .have D:jW p (m+1) c (z.1,(z.2.1.rows,X))=(z.1,(z.2.1.rows,X)):=by rw[jW];dsimp only;rw[ak E]
   rw[D];have ac:=h.hr;have B:cN z.2.1 c z.1=z.2.1.rows.length:=by obtain⟨f1,f2,_,_⟩:=dF z.2.1 c z.1 h.hr;omega
   unfold iX;rw[ar B];have ih:=sM m (c+1) z X (sP h B) Ry;have T:jW p m (c+1) (z.1,(z.2.1.rows,X))=(z.1,(z.2.1.rows,X)):=by
    cases m with
    |zero=>rfl
    |succ m=>rw[jW];dsimp only;rw[ak E]
   rw[T]at ih;exact ih
def Cq{p:Int}{r:Nat}:∀(i:Nat) (q:Sy×List cZ),q.1.rows.length=i->r<=i->(nS p r i q).1.rows=q.1.rows.take r/\(nS p r i q).1.v=q.1.v/\(nS p r i q).1.h=q.1.h
 |0,q,B,H=>by
  have:r=0:=Ry;subst this;have:q.1.rows=[]:=fw B;refine⟨?_,rfl,rfl⟩
  show q.1.rows=q.1.rows.take 0
  rw[this];rfl
 |i+1,q,B,H=>by
  unfold nS;by_cases h:r<=i
  .rw[ar h];have e:(push p q ⟨4,i,0,0,[]⟩).1=⟨q.1.v,q.1.h,q.1.rows.eraseIdx i⟩:=DP p q.1 i;obtain⟨D,E,F⟩:=Cq (p:=p) (r:=r) i (push p q ⟨4,i,0,0,[]⟩) (by rw[e];dsimp only;rw[mj Ry];omega) h;rw[e]at D E F;refine⟨?_,E,F⟩;rw[D];dsimp only;apply eQ;intro j;rw[fP,fP];by_cases z:j<r
   .rw[ar z,ar z,gG,ar Ry]
   .rw[ak z,ak z]
  .rw[ak h];have:r=i+1:=Ry;rw[this,<-B,pf];exact⟨rfl,rfl,rfl⟩
def Dv(p:Int)(n:Nat)(M:aC):jM p n M=(jW p n 0 (0,(M,List.replicate M []))).2.1.take (jW p n 0 (0,(M,List.replicate M []))).1:=rfl
def zaQ{u:Sy}(h:u.Ok p)(ac:u.h=0):jE p (uq p u) u.v.toNat=jM p u.v.toNat u.rows:=by
 have D:u.n=u.v.toNat:=SW;have B:=Sys.f h;have z:=Sys.p2 h;obtain⟨N,_,Z,H⟩:=yJ h;obtain⟨r,l,_,d1,_,d2⟩:=j7 B z Z;obtain⟨ab,_,T,U⟩:=uo B z d1;rw[show uq p u=jM p u.v.toNat (oC u.v.toNat (jE p u.rows u.n)) from rfl,xt d1];have F:=Sy.shp h;rw[D]at F;refine CT B z T F fun y=>(U y).trans ?_
 rw[<-zaB];have E:∀x,(∀i,i<r->p∣cm (fun d=>eM (jM p u.v.toNat (oC u.v.toNat (jE p u.rows u.n))) i d*x d) u.v.toNat)↔u.Vis p x:=fun x=>(d2 x).symm.trans (H x)
 unfold Dg;constructor
 .intro I q J;refine I (fun d=>q.getD d 0) ((E _).2 fun w Q=>?_);have:=Q q J;rw[D]at this;rwa[cG (fun d _=>by rw[iI])]at this
 .intro O x R;have:=(E x).1 R y (by unfold Sy.Sat;rw[D];exact O);rwa[cG (fun d _=>by rw[iI])]at this
def zcc(h:s.Ok p):(fT p s).1=⟨s.v,0,zdx p s.v.toNat s.h.toNat s.rows⟩:=by
 have Z:=Sys.h0 h;have ab:=Sys.v0 h;obtain⟨D,B,E,z⟩:=sO s.h.toNat (s,[]) (AU p s) h (by show s.h=_;omega);obtain⟨T,F⟩:=sQ (v:=s.v) s.v.toNat 0 (0,iL p s.h.toNat (s,[])) D ⟨B,E,z,aT _,fun d R=>Ry⟩ Ry;have hrel:uq p (iL p s.h.toNat (s,[])).1=uq p s:=zhk B h z fun U=>by have:=zdn (xs:=(iL p s.h.toNat (s,[])).2) h U (i:=(iL p s.h.toNat (s,[])).2.length) (by rw[D.bad];exact ah _);rw[D.sys]at this;exact this.symm
 obtain⟨q,H⟩:=aK (iL p s.h.toNat (s,[]));have I:=sM (v:=s.v) s.v.toNat 0 (0,q) (List.replicate q.1.rows []) (by rw[H];exact⟨B,E,z,aT _,fun d R=>Ry⟩) Ry;unfold fT;rw[<-H]at D B E z T F hrel ⊢;dsimp only at I;obtain⟨J,O⟩:=I;have z:q.1.v=s.v:=z;obtain⟨f1,f2,f3⟩:=Cq (p:=p) (r:=(iX p s.v.toNat 0 (0,q)).1) (iX p s.v.toNat 0 (0,q)).2.1.rows (iX p s.v.toNat 0 (0,q)).2 rfl F.hr;refine pv (f2.trans F.hv) (f3.trans F.hh) ?_;dsimp only;rw[f1,J,O];have Q:zdx p s.v.toNat s.h.toNat s.rows=jE p (uq p s) s.v.toNat:=rfl;have:=zaQ B E;rw[z,hrel]at this;rw[Q,this,Dv]
end
end Go.Proofs.YtdpgblncijojiaaGreatDoor
