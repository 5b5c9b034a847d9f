/- Parts of the walks. Conditions: as stated with each. -/
import Derived.Test.YtdpgblncijojiaaGreatDoorPk21
namespace Go.Proofs.YtdpgblncijojiaaGreatDoor
open Go.RowKit Tryz
set_option linter.all false
set_option maxHeartbeats 2000000
set_option maxRecDepth 100000
def zbN(L:List jR)(A:aq)(cap:Nat)(w:aa)(e9:de 3 nH w A L)(gV:L.length<=1048576):ax 185 #[fA,.agg (bJ A L cap)] w (zhq L w):=by
 have B:=below_alloc3 w (.cells (bJ A L cap) 176) (.cells oT 202) (.cells oT 202);obtain⟨a4,a9,a5⟩:=cv w (.cells (bJ A L cap) 176) (.cells oT 202) (.cells oT 202);have f7:=zH (show ∀wr,aj w wr->de 3 nH wr A L from fun wr h=>dB e9 h);clear e9;go_enter func185,ntmps185
 go_upto_region 2 with(fail)
 generalize ((w.alloc _).alloc _).alloc _=W at B a4 a9 a5 ⊢;have Fc:=zH (show(w:Nat)+1+1<W from(aP.1 a5).1);have d6:=di a4 0 rfl;obtain⟨f8,ea,HY,e2⟩:=fS a4 (show X3 W ((w:Nat)+1+1) W (.slice none 0 0) (.slice none 0 0) (.slice none 0 0) [] [] [] from⟨a5,bP.nil _ _ _ _ _,bP.nil _ _ _ _ _,bP.nil _ _ _ _ _,(fun g e=>by cases e),(fun g e=>by cases e),(fun g e=>by cases e),Fc,ah _⟩) a9 B;clear B a4 a9 a5;cases d0:eW (L:Int) 1 400
 .have JV:=zH (zej (L:=dR L) fun h=>by
   have e:(dR L).length=L:=by simp[dR]
   rw[e]at h;have:eW (L:Int) 1 400=true:=by simp[eW];omega
   rw[d0]at this;cases this)
  obtain⟨Z,ab,z2⟩:=al ea.box;obtain⟨r0,r1,r2⟩:=al HY;obtain⟨f0,f1,f2⟩:=bt HY;have J0:=gh (v0:=fA) (v1:=fA) (v2:=fA) HY;obtain⟨u0,u1,u2⟩:=al J0;clear J0;go_wp2_with (go_at_call 69;refine(Calls.dN (aM _ _ _ _) d0).mono ?_;rintro e w' ⟨rfl,rfl⟩)
  exact az (v:=.tuple #[.agg oT,.bool false]) Uv rfl ⟨_,_,_,_,_,_,_,_,_,by rw[JV.o],(((e2.setCell (p:=⟨(w:Nat)+1,0,none⟩) (by show(w:Nat)<=w+1;omega) _).setCell (p:=⟨(w:Nat)+1,1,none⟩) (by show(w:Nat)<=w+1;omega) _).setCell (p:=⟨(w:Nat)+1,2,none⟩) (by show(w:Nat)<=w+1;omega) _),fun h=>T2⟩
 have gw:1<=L.length/\L.length<=400:=by
  have:(1:Int)<=(L:Int)/\(L:Int)<=400:=by simpa[eW]using d0
  omega
 have cu:=zH gw;go_upto_region 4 with(go_at_call 69;refine(Calls.dN (aM _ _ _ _) d0).mono ?_;rintro e w' ⟨rfl,rfl⟩)
 clear d0;go_wp2;go_loopw [25] (fun i wr=>∃(k:Nat) (s:q8) (ee:List Tm) (F:aq) (cF:Nat) (I:aq) (cI:Nat) (O:aq) (cO:Nat),i=.int .i64 k/\AH L s ee k/\X3 W ((w:Nat)+1+1) wr (.slice F k cF) (.slice I k cI) (.slice O k cO) (bC s.f) (bC s.i) (bC s.o)/\tt w W wr/\aj w wr) (fun i _=>L.length-(intOf i).toNat)
 case atStart=>exact⟨0,⟨[],[],[]⟩,[],none,0,none,0,none,0,rfl,AH.start L,ea,fun _ _=>rfl,e2⟩
 case round=>
  obtain⟨k,s,ee,F,cF,I,cI,O,cO,rfl,bo,b2,dc,dT⟩:=hrel;clear d6 ea;obtain⟨Gc,JM,Io⟩:=dD (by rw[bf,bo.len]:(bC s.f).length=k) (by rw[bf,bo.ok.li,bo.len]:(bC s.i).length=k) (by rw[bf,bo.ok.lo,bo.len]:(bC s.o).length=k);by_cases gA:k<L.length
  .obtain⟨x,ac⟩:=aw gA;obtain⟨b,o,rfl,e6,c1,c2⟩:=jS (f7 wr dT) ac;obtain⟨bb,vv,ss⟩:=x;dsimp only at e6 c1 c2;have gR:k<=400:=Ry;obtain⟨dl,d4⟩:=dC wr (.cells (g_ bb vv ss) 192);obtain⟨J1,HS,b3,cR,cK⟩:=l_ ac bo (b2.ext dl) (dc.ext Fc b2.le dl) (bQ dT dl);clear ac bo b2 dc dT;go_upto_region 7 with(fail)
   generalize wr.alloc _=g7 at dl d4 b3 cR cK ⊢;clear e6 c1 c2 dl;obtain⟨T,a7,n2⟩:=al d4;obtain⟨ct,d9⟩:=bL (fun V=>AK bb vv ss V) d4;clear d4;cases JP:dV ⟨bb,vv,ss.toList.isEmpty⟩
   .rw[JP]at ct;by_cases en:bb=17
    .subst en;obtain⟨JV,d7⟩:=bL (HS.no J1 (kR JP (fun h=>by have:=h.1;simp[jR.nd]at this))) (fun V=>rO 17 vv ss V);go_wp2_with (first|(go_at_call 188;refine(ct.o _).mono ?_;rintro e a6 ⟨rfl,ba⟩;have c4:=ag ba T;have e0:=ag ba a7;have e1:=ag ba n2;have bd:=zH ba;clear ba)|(go_at_call 181;refine(d7.o _).mono ?_;rintro e am ⟨rfl,b5⟩;have fs:=ag b5 c4;have g5:=ag b5 e0;have g6:=ag b5 e1;have cr:=zH (bQ bd b5);obtain⟨Z,ab,z2⟩:=al (b3.ext cr).box;have c0:=((cR.ext Fc b3.le cr) 1 Ry).trans HY;obtain⟨r0,r1,r2⟩:=al c0;have f0:=aS c0 0;have f1:=aS c0 1;have f2:=aS c0 2;have fo:=gh (v0:=.slice F k cF) (v1:=.slice I k cI) (v2:=.slice O k cO) c0;obtain⟨u0,u1,u2⟩:=al fo;have f3:=zH (bQ cK cr);clear b5 c0 fo)|(go_at_call 189;refine(zb3 _ _).mono ?_;rintro e w' ⟨rfl,rfl⟩))
     exact az (v:=.tuple (kt F k cF I cI O cO)) Uv rfl ⟨_,_,_,_,_,_,_,_,_,by rw[JV.o],(((f3.setCell (p:=⟨(w:Nat)+1,0,none⟩) (by show(w:Nat)<=w+1;omega) _).setCell (p:=⟨(w:Nat)+1,1,none⟩) (by show(w:Nat)<=w+1;omega) _).setCell (p:=⟨(w:Nat)+1,2,none⟩) (by show(w:Nat)<=w+1;omega) _),fun h=>T2⟩
    have gc:(bb==17)=false:=by simpa using en
    go_upto_region 17 with(go_at_call 188;refine(ct.o _).mono ?_;rintro e a6 ⟨rfl,ba⟩;have c4:=ag ba T;have bd:=zH ba;clear ba)
    clear T a7 n2 c4;obtain⟨D,J3,Ez⟩:=dD (b3.ext bd) (cR.ext Fc b3.le bd) (bQ cK bd);obtain⟨T,a7,n2⟩:=al (aA d9 bd);obtain⟨Z,ab,z2⟩:=al D.o.box;clear b3 cR cK d9 ct en;by_cases em:bb=15∨bb=16
    rotate_left
    .have g3:(bb !=15)=true:=RX;have g4:(bb !=16)=true:=RX;have JV:=zH (HS.no J1 (kR JP (fun h=>em h.1)));clear em;have J2:=(J3 1 Ry).trans HY;obtain⟨r0,r1,r2⟩:=al J2;obtain⟨f0,f1,f2⟩:=bt J2;have J0:=gh (v0:=.slice F k cF) (v1:=.slice I k cI) (v2:=.slice O k cO) J2;obtain⟨u0,u1,u2⟩:=al J0;clear J0 J2;go_wp2;exact az (v:=.tuple (kt F k cF I cI O cO)) Uv rfl ⟨_,_,_,_,_,_,_,_,_,by rw[JV.o],(((Ez.setCell (p:=⟨(w:Nat)+1,0,none⟩) (by show(w:Nat)<=w+1;omega) _).setCell (p:=⟨(w:Nat)+1,1,none⟩) (by show(w:Nat)<=w+1;omega) _).setCell (p:=⟨(w:Nat)+1,2,none⟩) (by show(w:Nat)<=w+1;omega) _),fun h=>T2⟩
    rcases em with rfl|rfl
    .skip
     by_cases hn:ss.toList.isEmpty=true
     rotate_left
     .exact ZX
     have JT:(ss.toList==[])=true:=by cases e:ss.toList <;>simp_all
     have J5:(!ss.toList==[])=false:=by rw[JT];rfl
     by_cases hv:vv=0
     rotate_left
     .exact ZT
     by_cases h2:2<=k
     rotate_left
     .exact ZV
     obtain⟨t1,t2,t3,t4,gb,J8⟩:=sK HS.ok.ch (by rw[HS.o.len];omega);rw[HS.o.len]at t1 t2 t3 t4 J8;obtain⟨U,Fp⟩:=aK (k-1);have JZ:=fun(b6:1<=s.f.getD (k-1) 0)=>AI (s:=s) (n:=(⟨15,vv,ss⟩:jR).nd) (aG rfl) hv hn (by rw[HS.o.len];exact h2) (by rw[HS.o.len];exact b6)
     rw[HS.o.len]at JZ;obtain⟨fb,FB⟩:=aK (s.f.getD (k-1) 0);obtain⟨ad,JO⟩:=aK (s.i.getD (k-1) 0);obtain⟨J,F5⟩:=aK (s.o.getD (k-1) 0);have JY:=fun(h:¬1<=fb)=>HS.no J1 (kR JP (fun h'=>h Wr))
     rw[<-FB]at t2 JZ J8;rw[<-JO]at t3 JZ;rw[<-F5]at t4 JZ;have JL:∀(l:bW) (j:Nat),j < (bC l).length->(bC l)[j]?=some ((l.getD j 0:Nat):Int):=fun l j b6=>fk (yH (by rw[bf]at b6;exact b6))
     obtain⟨gf,J7,rfl,JK⟩:=(mQ D.o.o1).here (k:=U) SM;obtain⟨gi,oi,rfl,JI⟩:=(mQ D.o.o2).here (k:=U) SL;obtain⟨go,oo,rfl,JR⟩:=(mQ D.o.o3).here (k:=U) SK;have ei:=JK U (fb:Nat) Wl;have JW:=JI U (ad:Nat) Wk;have JJ:=JR U (J:Nat) Wj;have gC:IntKind.i64.wrap ((k:Int)-1)=(U:Int):=Sq;have fd:U<k:=Ry;by_cases h1:1<=fb
     rotate_left
     .exact ZY
     have bm:=JZ h1;obtain⟨t5,t6,t7,t8,-⟩:=sK J8 h1;obtain⟨a,b4⟩:=aK (fb-1);rw[<-b4]at bm t6 t7 t8;obtain⟨a2,JH⟩:=aK (s.f.getD a 0);obtain⟨H,JU⟩:=aK (s.i.getD a 0);obtain⟨Q,JS⟩:=aK (s.o.getD a 0);have a3:=JK a (a2:Nat) V_;have da:=JI a (H:Nat) VZ;have db:=JR a (Q:Nat) VY;rw[<-JH]at bm t6;rw[<-JU]at bm t7;rw[<-JS]at bm t8;have fn:IntKind.i64.wrap ((fb:Int)-1)=(a:Int):=Sq;have gK:IntKind.i64.wrap ((H:Int)+(ad:Int))=(H:Int)+(ad:Int):=Sq;have gL:IntKind.i64.wrap ((Q:Int)+(J:Int))=(Q:Int)+(J:Int):=Sq;have gd:a<k:=Ry;have J6:(1:Int)<=fb:=Ry;have JQ:(2:Int)<=k:=Ry;have E:=aY ab (aY z2 (aY da (aY JW (aY db JJ))));obtain⟨c7,e3,e5,f6⟩:=fS bm t7 t4 t3;clear hn JY JZ FB JO F5 JK JI JR da JW db JJ Fp JL t1 t2 t3 t4 t5 t6 t7 t8 J8 bm b4 JH JU JS h2 h1;subst hv;go_upto_region 21 with(fail)
     replace J3:=zH (J3.ext Fc D.o.le (aF a6));replace D:=zH (D.o.ext (aF a6));replace Ez:=zH (Ez.trans ((aF a6).mono Ez.size))
     replace T:=ag (aF a6) T;replace a3:=ag (aF a6) a3
     clear a7 n2 Z ab z2;go_region_held3 (fun V=>af V ((w:Nat)+1+1) 1 (.slice (some ⟨gi,oi,none⟩) k cI)/\af V ((w:Nat)+1+1) 2 (.slice (some ⟨go,oo,none⟩) k cO)/\af V gi (oi+a) (zI (H:Nat))/\af V gi (oi+U) (zI (ad:Nat))/\af V go (oo+a) (zI (Q:Nat))/\af V go (oo+U) (zI (J:Nat)))
      (first|with_reducible exact E|with_reducible exact Bk (aF _) E) (fail)
     replace E:=Bk (aF a6) E
     generalize a6.drew=am at D J3 Ez T a3 E ⊢;obtain⟨Z,ab,z2⟩:=al D.o.box;have a7:=T;have n2:=T;clear ei;by_cases hq:Q=ad
     rotate_left
     .have gB:((Q:Int)!=(ad:Int))=true:=RX;have JV:=zH (HS.no J1 (c7.2 (by show jw 15 (H,Q) (ad,J)=none;unfold jw;rw[ar rfl,ak hq])));clear hq;go_upto_region 23 with(fail)
      replace J3:=zH (J3.ext Fc D.o.le (aF am));replace D:=zH (D.o.ext (aF am));replace Ez:=zH (Ez.trans ((aF am).mono Ez.size))
      replace T:=ag (aF am) T;replace a3:=ag (aF am) a3
      clear a7 n2 Z ab z2;go_region_held3 (fun V=>af V ((w:Nat)+1+1) 1 (.slice (some ⟨gi,oi,none⟩) k cI)/\af V ((w:Nat)+1+1) 2 (.slice (some ⟨go,oo,none⟩) k cO)/\af V gi (oi+a) (zI (H:Nat))/\af V gi (oi+U) (zI (ad:Nat))/\af V go (oo+a) (zI (Q:Nat))/\af V go (oo+U) (zI (J:Nat)))
       (first|with_reducible exact E|with_reducible exact Bk (aF _) E) (fail)
      replace E:=Bk (aF am) E
      generalize am.drew=cn at D J3 Ez T a3 E ⊢;obtain⟨Z,ab,z2⟩:=al D.o.box;have a7:=T;have n2:=T;clear T a7 n2 a3 E;have J2:=(J3 1 Ry).trans HY;obtain⟨r0,r1,r2⟩:=al J2;obtain⟨f0,f1,f2⟩:=bt J2;have J0:=gh (v0:=.slice (some ⟨gf,J7,none⟩) k cF) (v1:=.slice (some ⟨gi,oi,none⟩) k cI) (v2:=.slice (some ⟨go,oo,none⟩) k cO) J2;obtain⟨u0,u1,u2⟩:=al J0;clear J0 J2;go_wp2;exact az (v:=.tuple (kt (some ⟨gf,J7,none⟩) k cF (some ⟨gi,oi,none⟩) cI (some ⟨go,oo,none⟩) cO)) Uv rfl ⟨_,_,_,_,_,_,_,_,_,by rw[JV.o],(((Ez.setCell (p:=⟨(w:Nat)+1,0,none⟩) (by show(w:Nat)<=w+1;omega) _).setCell (p:=⟨(w:Nat)+1,1,none⟩) (by show(w:Nat)<=w+1;omega) _).setCell (p:=⟨(w:Nat)+1,2,none⟩) (by show(w:Nat)<=w+1;omega) _),fun h=>T2⟩
     subst hq;have b0:=c7.1 (H,J) (by show jw 15 (H,Q) (Q,J)=_;unfold jw;rw[ar rfl,ar rfl]);dsimp only at b0;obtain⟨c9,cj⟩:=HS.step J1 b0 (by show(s.f++[a2]).length=_;rw[bS,HS.o.len];rfl);obtain⟨c6,JX,J4,Im⟩:=fS cj (SJ:bC (s.add a2 H J).f=bC s.f++[(a2:Int)]) (SJ:bC (s.add a2 H J).i=bC s.i++[(H:Int)]) (SJ:bC (s.add a2 H J).o=bC s.o++[(J:Int)]);have gB:((Q:Int)!=(Q:Int))=false:=Rx;clear b0 cj;go_upto_region 23 with(fail)
     replace J3:=zH (J3.ext Fc D.o.le (aF am));replace D:=zH (D.o.ext (aF am));replace Ez:=zH (Ez.trans ((aF am).mono Ez.size))
     replace T:=ag (aF am) T;replace a3:=ag (aF am) a3
     clear a7 n2 Z ab z2;go_region_held3 (fun V=>af V ((w:Nat)+1+1) 1 (.slice (some ⟨gi,oi,none⟩) k cI)/\af V ((w:Nat)+1+1) 2 (.slice (some ⟨go,oo,none⟩) k cO)/\af V gi (oi+a) (zI (H:Nat))/\af V gi (oi+U) (zI (Q:Nat))/\af V go (oo+a) (zI (Q:Nat))/\af V go (oo+U) (zI (J:Nat)))
      (first|with_reducible exact E|with_reducible exact Bk (aF _) E) (fail)
     replace E:=Bk (aF am) E
     generalize am.drew=cn at D J3 Ez T a3 E ⊢;obtain⟨Z,ab,z2⟩:=al D.o.box;have a7:=T;have n2:=T;go_upto_region 25 with(fail)
     replace J3:=zH (J3.ext Fc D.o.le (aF cn));replace D:=zH (D.o.ext (aF cn));replace Ez:=zH (Ez.trans ((aF cn).mono Ez.size))
     replace T:=ag (aF cn) T;replace a3:=ag (aF cn) a3
     clear a7 n2 Z ab z2;go_region_held3 (fun V=>af V ((w:Nat)+1+1) 1 (.slice (some ⟨gi,oi,none⟩) k cI)/\af V ((w:Nat)+1+1) 2 (.slice (some ⟨go,oo,none⟩) k cO)/\af V gi (oi+a) (zI (H:Nat))/\af V gi (oi+U) (zI (Q:Nat))/\af V go (oo+a) (zI (Q:Nat))/\af V go (oo+U) (zI (J:Nat)))
      (first|with_reducible exact E|with_reducible exact Bk (aF _) E) (fail)
     replace E:=Bk (aF cn) E
     generalize cn.drew=co at D J3 Ez T a3 E ⊢;obtain⟨Z,ab,z2⟩:=al D.o.box;have a7:=T;have n2:=T;clear E;have gm:(H:Int)<=12:=by have:=e3.o;omega
     have gn:(J:Int)<=12:=by have:=e5.o;omega
     obtain⟨bi,eb,c5⟩:=dD (D.o.ext (aF co)) (J3.ext Fc D.o.le (aF co)) (Ez.trans ((aF co).mono Ez.size));have b7:=ag (aF co) Z;have ej:=ag (aF co) a3;go_upto_region 28 with(fail)
     clear Z ab z2 T a7 n2;refine bk (S:=fun V=>af V ((w:Nat)+1+1) 0 (.slice (some ⟨gf,J7,none⟩) k cF)) 10 RU b7 (fun hHeld=>?_);refine ay 0 ?_;refine ay 1 ?_;refine ay 2 ?_;refine ay 3 ?_;refine ay 4 ?_;refine ay 5 ?_;refine bu 6 fun K hK=>?_
     go_simp;refine hK.out _ _ (fun _=>b7) (fun hHeld=>?_);clear hK K hHeld;try simp only[Act.put,zA]
     refine bu 7 fun K hK=>?_
     go_simp;refine hK.out _ _ (fun _=>ag (aE _ _) b7) (fun hHeld=>?_);clear hK K hHeld;try simp only[Act.put,zA]
     refine bu 8 fun K hK=>?_
     refine ow og rfl (.tmp 180) (.tmp 186) rfl W (co.drew.alloc (.cells (bc (a2:Int)) 3)) (.slice (some ⟨gf,J7,none⟩) k cF) (bC s.f) (a2:Int) [.int .i64 (a2:Int)] co.drew ((bi.o1).ext (aE _ _)) rfl TM (j2.flat ((bi.o1).ext (aE _ _)) (bE bi.le (aE _ _).size) fun _=>rfl) SM (bE bi.le (aE _ _).size) rfl rfl (aD co.drew _ rfl) ?_;intro ce ca d1 R a1 a0 B;rw[Gc.o]at R ⊢;obtain⟨ac,z⟩:=X3.ziw bi a1 a0 B R;obtain⟨a8,be,p2⟩:=al z;obtain⟨a4,a9,a5⟩:=bt z;obtain⟨ao,bp,b8⟩:=dD ac (((c5.alloc c5.size (.cells (bc (a2:Int)) 3)).trans (B.mono Tr)).setCell (p:=⟨(w:Nat)+1+1,0,none⟩) (by show(w:Nat)<=w+1+1;omega) (.slice (aX ce) (k+1) ca)) (tt.grow (i:=0) (x:=.slice (aX ce) (k+1) ca) (eb.ext Fc bi.le (aE _ _)) Fc B);clear R a1 a0 B ac z;refine hK.out _ _ (fun _=>a8) (fun hHeld=>?_);clear hK K hHeld;try simp only[Act.put,zA]
     refine bu 9 fun K hK=>?_
     go_simp;refine hK.out _ _ (fun _=>a8) (fun hHeld=>?_);clear hK K hHeld;try simp only[Act.put,zA]
     refine bu 10 fun K hK=>?_
     go_simp;refine hK.out _ _ (fun h=>absurd h RC) (fun _=>?_);clear hK K;try simp only[Act.put,zA]
     refine dS RU ?_ _;clear b7 ej a3;clear a8 be p2 a4 a9 a5;try clear Z ab z2
     generalize d1.setCell ⟨(w:Nat)+1+1,0,none⟩ _=bv at ao bp b8 ⊢;obtain⟨Z,ab,z2⟩:=al ao.box;go_upto_region 30 with((at_builtin;refine ef og rfl (.tmp 190) (.tmp 192) rfl W (bv.alloc (.cells (bc (H:Int)) 3)) (.slice (some ⟨gi,oi,none⟩) k cI) (bC s.i) (H:Int) [.int .i64 (H:Int)] bv ((ao.o2).ext (aE _ _)) rfl TM (j2.flat ((ao.o2).ext (aE _ _)) (bE ao.le (aE _ _).size) fun _=>rfl) SL (bE ao.le (aE _ _).size) rfl rfl (aD bv _ rfl) ?_;intro ch cb d2 R a1 a0 B;rw[JM.o]at R ⊢;obtain⟨ac,z⟩:=X3.zfb ao a1 a0 B R;obtain⟨a8,be,p2⟩:=al z;have a4:=aS z 0;have a9:=aS z 1;have a5:=aS z 2;have ap:=zH ac;have br:=zH (((bp.alloc bp.size (.cells (bc (H:Int)) 3)).trans (B.mono Tr)).setCell (p:=⟨(w:Nat)+1+1,1,none⟩) (by show(w:Nat)<=w+1+1;omega) (.slice (aX ch) (k+1) cb));have b9:=zH (tt.grow (i:=1) (x:=.slice (aX ch) (k+1) cb) (b8.ext Fc ao.le (aE _ _)) Fc B);clear R a1 a0 B ac z))
     clear a8 be p2 a4 a9 a5;try clear Z ab z2
     generalize d2.setCell ⟨(w:Nat)+1+1,1,none⟩ _=bz at ap br b9 ⊢;obtain⟨Z,ab,z2⟩:=al ap.box;go_wp2_with ((at_builtin;refine ef og rfl (.tmp 196) (.tmp 198) rfl W (bz.alloc (.cells (bc (J:Int)) 3)) (.slice (some ⟨go,oo,none⟩) k cO) (bC s.o) (J:Int) [.int .i64 (J:Int)] bz ((ap.o3).ext (aE _ _)) rfl TM (j2.flat ((ap.o3).ext (aE _ _)) (bE ap.le (aE _ _).size) fun _=>rfl) SK (bE ap.le (aE _ _).size) rfl rfl (aD bz _ rfl) ?_;intro ci cc a6 R a1 a0 B;rw[Io.o]at R ⊢;obtain⟨ac,z⟩:=X3.zfc ap a1 a0 B R;obtain⟨a8,be,p2⟩:=al z;have a4:=aS z 0;have a9:=aS z 1;have a5:=aS z 2;have Gb:=zH ac;have bd:=zH (((br.alloc br.size (.cells (bc (J:Int)) 3)).trans (B.mono Tr)).setCell (p:=⟨(w:Nat)+1+1,2,none⟩) (by show(w:Nat)<=w+1+1;omega) (.slice (aX ci) (k+1) cc));have c8:=zH (tt.grow (i:=2) (x:=.slice (aX ci) (k+1) cc) (b9.ext Fc ap.le (aE _ _)) Fc B);clear R a1 a0 B ac z))
     go_roundw
     case rel=>exact⟨k+1,s.add a2 H J,c9,_,_,_,_,_,_,RB,c6,Vp,c8,bd⟩
     case measure=>simp[intOf];omega
    .skip
     by_cases hn:ss.toList.isEmpty=true
     rotate_left
     .exact ZX
     have JT:(ss.toList==[])=true:=by cases e:ss.toList <;>simp_all
     have J5:(!ss.toList==[])=false:=by rw[JT];rfl
     by_cases hv:vv=0
     rotate_left
     .exact ZT
     by_cases h2:2<=k
     rotate_left
     .exact ZV
     obtain⟨t1,t2,t3,t4,gb,J8⟩:=sK HS.ok.ch (by rw[HS.o.len];omega);rw[HS.o.len]at t1 t2 t3 t4 J8;obtain⟨U,Fp⟩:=aK (k-1);have JZ:=fun(b6:1<=s.f.getD (k-1) 0)=>AI (s:=s) (n:=(⟨16,vv,ss⟩:jR).nd) (aB rfl) hv hn (by rw[HS.o.len];exact h2) (by rw[HS.o.len];exact b6)
     rw[HS.o.len]at JZ;obtain⟨fb,FB⟩:=aK (s.f.getD (k-1) 0);obtain⟨ad,JO⟩:=aK (s.i.getD (k-1) 0);obtain⟨J,F5⟩:=aK (s.o.getD (k-1) 0);have JY:=fun(h:¬1<=fb)=>HS.no J1 (kR JP (fun h'=>h Wr))
     rw[<-FB]at t2 JZ J8;rw[<-JO]at t3 JZ;rw[<-F5]at t4 JZ;have JL:∀(l:bW) (j:Nat),j < (bC l).length->(bC l)[j]?=some ((l.getD j 0:Nat):Int):=fun l j b6=>fk (yH (by rw[bf]at b6;exact b6))
     obtain⟨gf,J7,rfl,JK⟩:=(mQ D.o.o1).here (k:=U) SM;obtain⟨gi,oi,rfl,JI⟩:=(mQ D.o.o2).here (k:=U) SL;obtain⟨go,oo,rfl,JR⟩:=(mQ D.o.o3).here (k:=U) SK;have ei:=JK U (fb:Nat) Wl;have JW:=JI U (ad:Nat) Wk;have JJ:=JR U (J:Nat) Wj;have gC:IntKind.i64.wrap ((k:Int)-1)=(U:Int):=Sq;have fd:U<k:=Ry;by_cases h1:1<=fb
     rotate_left
     .exact ZY
     have bm:=JZ h1;obtain⟨t5,t6,t7,t8,-⟩:=sK J8 h1;obtain⟨a,b4⟩:=aK (fb-1);rw[<-b4]at bm t6 t7 t8;obtain⟨a2,JH⟩:=aK (s.f.getD a 0);obtain⟨H,JU⟩:=aK (s.i.getD a 0);obtain⟨Q,JS⟩:=aK (s.o.getD a 0);have a3:=JK a (a2:Nat) V_;have da:=JI a (H:Nat) VZ;have db:=JR a (Q:Nat) VY;rw[<-JH]at bm t6;rw[<-JU]at bm t7;rw[<-JS]at bm t8;have fn:IntKind.i64.wrap ((fb:Int)-1)=(a:Int):=Sq;have gK:IntKind.i64.wrap ((H:Int)+(ad:Int))=(H:Int)+(ad:Int):=Sq;have gL:IntKind.i64.wrap ((Q:Int)+(J:Int))=(Q:Int)+(J:Int):=Sq;have gd:a<k:=Ry;have J6:(1:Int)<=fb:=Ry;have JQ:(2:Int)<=k:=Ry;have E:=aY ab (aY z2 (aY da (aY JW (aY db JJ))));obtain⟨c7,e3,e5,f6⟩:=fS bm t7 t4 t3;clear hn JY JZ FB JO F5 JK JI JR da JW db JJ Fp JL t1 t2 t3 t4 t5 t6 t7 t8 J8 bm b4 JH JU JS h2 h1;subst hv;go_upto_region 21 with(fail)
     replace J3:=zH (J3.ext Fc D.o.le (aF a6));replace D:=zH (D.o.ext (aF a6));replace Ez:=zH (Ez.trans ((aF a6).mono Ez.size))
     replace T:=ag (aF a6) T;replace a3:=ag (aF a6) a3
     clear a7 n2 Z ab z2;go_region_held3 (fun V=>af V ((w:Nat)+1+1) 1 (.slice (some ⟨gi,oi,none⟩) k cI)/\af V ((w:Nat)+1+1) 2 (.slice (some ⟨go,oo,none⟩) k cO)/\af V gi (oi+a) (zI (H:Nat))/\af V gi (oi+U) (zI (ad:Nat))/\af V go (oo+a) (zI (Q:Nat))/\af V go (oo+U) (zI (J:Nat)))
      (first|with_reducible exact E|with_reducible exact Bk (aF _) E) (fail)
     replace E:=Bk (aF a6) E
     generalize a6.drew=am at D J3 Ez T a3 E ⊢;obtain⟨Z,ab,z2⟩:=al D.o.box;have a7:=T;have n2:=T;clear ei;by_cases hq:H+ad<=12/\Q+J<=12
     rotate_left
     .have JV:=zH (HS.no J1 (c7.2 (by show jw 16 (H,Q) (ad,J)=none;unfold jw;rw[ak RC,ar rfl,ak hq])));clear a3 E;by_cases g0:(12:Int) < (H:Int)+(ad:Int)
      .exact ZU
      .have g1:(12:Int) < (Q:Int)+(J:Int):=Ry;exact ZU
     have b0:=c7.1 (H+ad,Q+J) (by show jw 16 (H,Q) (ad,J)=_;unfold jw;rw[ak RC,ar rfl,ar hq]);dsimp only at b0;obtain⟨c9,cj⟩:=HS.step J1 b0 (by show(s.f++[a2]).length=_;rw[bS,HS.o.len];rfl);obtain⟨c6,JX,J4,Im⟩:=fS cj (SJ:bC (s.add a2 (H+ad) (Q+J)).f=bC s.f++[(a2:Int)]) (SJ:bC (s.add a2 (H+ad) (Q+J)).i=bC s.i++[(H:Int)+(ad:Int)]) (SJ:bC (s.add a2 (H+ad) (Q+J)).o=bC s.o++[(Q:Int)+(J:Int)]);have gm:(H:Int)+(ad:Int)<=12:=Ry;have gn:(Q:Int)+(J:Int)<=12:=Ry;clear b0 cj hq E;obtain⟨bi,eb,c5⟩:=dD (D.o.ext (aF am)) (J3.ext Fc D.o.le (aF am)) (Ez.trans ((aF am).mono Ez.size));have b7:=ag (aF am) Z;have ej:=ag (aF am) a3;go_upto_region 28 with(fail)
     clear Z ab z2 T a7 n2;refine bk (S:=fun V=>af V ((w:Nat)+1+1) 0 (.slice (some ⟨gf,J7,none⟩) k cF)) 10 RU b7 (fun hHeld=>?_);refine ay 0 ?_;refine ay 1 ?_;refine ay 2 ?_;refine ay 3 ?_;refine ay 4 ?_;refine ay 5 ?_;refine bu 6 fun K hK=>?_
     go_simp;refine hK.out _ _ (fun _=>b7) (fun hHeld=>?_);clear hK K hHeld;try simp only[Act.put,zA]
     refine bu 7 fun K hK=>?_
     go_simp;refine hK.out _ _ (fun _=>ag (aE _ _) b7) (fun hHeld=>?_);clear hK K hHeld;try simp only[Act.put,zA]
     refine bu 8 fun K hK=>?_
     refine ow og rfl (.tmp 180) (.tmp 186) rfl W (am.drew.alloc (.cells (bc (a2:Int)) 3)) (.slice (some ⟨gf,J7,none⟩) k cF) (bC s.f) (a2:Int) [.int .i64 (a2:Int)] am.drew ((bi.o1).ext (aE _ _)) rfl TM (j2.flat ((bi.o1).ext (aE _ _)) (bE bi.le (aE _ _).size) fun _=>rfl) SM (bE bi.le (aE _ _).size) rfl rfl (aD am.drew _ rfl) ?_;intro ce ca d1 R a1 a0 B;rw[Gc.o]at R ⊢;obtain⟨ac,z⟩:=X3.ziw bi a1 a0 B R;obtain⟨a8,be,p2⟩:=al z;obtain⟨a4,a9,a5⟩:=bt z;obtain⟨ao,bp,b8⟩:=dD ac (((c5.alloc c5.size (.cells (bc (a2:Int)) 3)).trans (B.mono Tr)).setCell (p:=⟨(w:Nat)+1+1,0,none⟩) (by show(w:Nat)<=w+1+1;omega) (.slice (aX ce) (k+1) ca)) (tt.grow (i:=0) (x:=.slice (aX ce) (k+1) ca) (eb.ext Fc bi.le (aE _ _)) Fc B);clear R a1 a0 B ac z;refine hK.out _ _ (fun _=>a8) (fun hHeld=>?_);clear hK K hHeld;try simp only[Act.put,zA]
     refine bu 9 fun K hK=>?_
     go_simp;refine hK.out _ _ (fun _=>a8) (fun hHeld=>?_);clear hK K hHeld;try simp only[Act.put,zA]
     refine bu 10 fun K hK=>?_
     go_simp;refine hK.out _ _ (fun h=>absurd h RC) (fun _=>?_);clear hK K;try simp only[Act.put,zA]
     refine dS RU ?_ _;clear b7 ej a3;clear a8 be p2 a4 a9 a5;try clear Z ab z2
     generalize d1.setCell ⟨(w:Nat)+1+1,0,none⟩ _=bv at ao bp b8 ⊢;obtain⟨Z,ab,z2⟩:=al ao.box;go_upto_region 30 with((at_builtin;refine ef og rfl (.tmp 190) (.tmp 192) rfl W (bv.alloc (.cells (bc ((H:Int)+(ad:Int))) 3)) (.slice (some ⟨gi,oi,none⟩) k cI) (bC s.i) ((H:Int)+(ad:Int)) [.int .i64 ((H:Int)+(ad:Int))] bv ((ao.o2).ext (aE _ _)) rfl TM (j2.flat ((ao.o2).ext (aE _ _)) (bE ao.le (aE _ _).size) fun _=>rfl) SL (bE ao.le (aE _ _).size) rfl rfl (aD bv _ rfl) ?_;intro ch cb d2 R a1 a0 B;rw[JM.o]at R ⊢;obtain⟨ac,z⟩:=X3.zfb ao a1 a0 B R;obtain⟨a8,be,p2⟩:=al z;have a4:=aS z 0;have a9:=aS z 1;have a5:=aS z 2;have ap:=zH ac;have br:=zH (((bp.alloc bp.size (.cells (bc ((H:Int)+(ad:Int))) 3)).trans (B.mono Tr)).setCell (p:=⟨(w:Nat)+1+1,1,none⟩) (by show(w:Nat)<=w+1+1;omega) (.slice (aX ch) (k+1) cb));have b9:=zH (tt.grow (i:=1) (x:=.slice (aX ch) (k+1) cb) (b8.ext Fc ao.le (aE _ _)) Fc B);clear R a1 a0 B ac z))
     clear a8 be p2 a4 a9 a5;try clear Z ab z2
     generalize d2.setCell ⟨(w:Nat)+1+1,1,none⟩ _=bz at ap br b9 ⊢;obtain⟨Z,ab,z2⟩:=al ap.box;go_wp2_with ((at_builtin;refine ef og rfl (.tmp 196) (.tmp 198) rfl W (bz.alloc (.cells (bc ((Q:Int)+(J:Int))) 3)) (.slice (some ⟨go,oo,none⟩) k cO) (bC s.o) ((Q:Int)+(J:Int)) [.int .i64 ((Q:Int)+(J:Int))] bz ((ap.o3).ext (aE _ _)) rfl TM (j2.flat ((ap.o3).ext (aE _ _)) (bE ap.le (aE _ _).size) fun _=>rfl) SK (bE ap.le (aE _ _).size) rfl rfl (aD bz _ rfl) ?_;intro ci cc a6 R a1 a0 B;rw[Io.o]at R ⊢;obtain⟨ac,z⟩:=X3.zfc ap a1 a0 B R;obtain⟨a8,be,p2⟩:=al z;have a4:=aS z 0;have a9:=aS z 1;have a5:=aS z 2;have Gb:=zH ac;have bd:=zH (((br.alloc br.size (.cells (bc ((Q:Int)+(J:Int))) 3)).trans (B.mono Tr)).setCell (p:=⟨(w:Nat)+1+1,2,none⟩) (by show(w:Nat)<=w+1+1;omega) (.slice (aX ci) (k+1) cc));have c8:=zH (tt.grow (i:=2) (x:=.slice (aX ci) (k+1) cc) (b9.ext Fc ap.le (aE _ _)) Fc B);clear R a1 a0 B ac z))
     go_roundw
     case rel=>exact⟨k+1,s.add a2 (H+ad) (Q+J),c9,_,_,_,_,_,_,RB,c6,Vp,c8,bd⟩
     case measure=>simp[intOf];omega
   .rw[JP]at ct;have gs:bb<=14:=by
     have:=JP;unfold dV at this;simp only[bn]at this;have eo:=this.2;split at eo
     .omega
     .split at eo
      .omega
      .simp at eo;omega
    have gc:(bb==17)=false:=RX;obtain⟨a,b4⟩:=aK (qe ⟨bb,vv,ss.toList.isEmpty⟩);obtain⟨b1,es⟩:=aK (tK ⟨bb,vv,ss.toList.isEmpty⟩);have d7:=zH (show ∀V,ax 181 (cB (g_ bb vv ss)) V fun e w'=>e=.returned (.tuple (oU a b1))/\aj V w' from fun V=>by rw[b4,es,<-(zhP JP).1,<-(zhP JP).2];exact rO bb vv ss V)
    have b0:=zb2 (s:=s) JP;rw[<-b4,<-es,HS.o.len]at b0;obtain⟨c9,cj⟩:=HS.step J1 b0 (by show(s.f++[k]).length=_;rw[bS,HS.o.len];rfl);obtain⟨c6,JX,J4,Im⟩:=fS cj (SJ:bC (s.add k a b1).f=bC s.f++[(k:Int)]) (SJ:bC (s.add k a b1).i=bC s.i++[(a:Int)]) (SJ:bC (s.add k a b1).o=bC s.o++[(b1:Int)]);clear b0 cj b4 es gs JP;go_upto_region 14 with(first|(go_at_call 188;refine(ct.o _).mono ?_;rintro e a6 ⟨rfl,ba⟩;have c4:=ag ba T;have e0:=ag ba a7;have e1:=ag ba n2;have bd:=zH ba;clear ba)|(go_at_call 181;refine(d7.o _).mono ?_;rintro e am ⟨rfl,b5⟩;have fs:=ag b5 c4;have cr:=zH (bQ bd b5);clear b5))
    clear T a7 n2 c4 e0 e1 fs;obtain⟨D,J3,Ez⟩:=dD (b3.ext cr) (cR.ext Fc b3.le cr) (bQ cK cr);obtain⟨Z,ab,z2⟩:=al D.o.box;clear b3 cR cK d9 ct;go_upto_region 15 with((at_builtin;refine ef og rfl (.tmp 68) (.tmp 70) rfl W (am.alloc (.cells (bc (k:Int)) 3)) (.slice F k cF) (bC s.f) (k:Int) [.int .i64 (k:Int)] am ((D.o.o1).ext (aE _ _)) rfl TM (j2.flat ((D.o.o1).ext (aE _ _)) (bE D.o.le (aE _ _).size) fun _=>rfl) SM (bE D.o.le (aE _ _).size) rfl rfl (aD am _ rfl) ?_;intro ce ca d1 R a1 a0 B;rw[Gc.o]at R ⊢;obtain⟨ac,z⟩:=X3.ziw D.o a1 a0 B R;obtain⟨a8,be,p2⟩:=al z;have a4:=aS z 0;have a9:=aS z 1;have a5:=aS z 2;have ao:=zH ac;have bp:=zH (((Ez.alloc Ez.size (.cells (bc (k:Int)) 3)).trans (B.mono Tr)).setCell (p:=⟨(w:Nat)+1+1,0,none⟩) (by show(w:Nat)<=w+1+1;omega) (.slice (aX ce) (k+1) ca));have b8:=zH (tt.grow (i:=0) (x:=.slice (aX ce) (k+1) ca) (J3.ext Fc D.o.le (aE _ _)) Fc B);clear R a1 a0 B ac z))
    clear a8 be p2 a4 a9 a5;try clear Z ab z2
    generalize d1.setCell ⟨(w:Nat)+1+1,0,none⟩ _=bv at ao bp b8 ⊢;obtain⟨Z,ab,z2⟩:=al ao.box;go_upto_region 16 with((at_builtin;refine ef og rfl (.tmp 74) (.tmp 76) rfl W (bv.alloc (.cells (bc (a:Int)) 3)) (.slice I k cI) (bC s.i) (a:Int) [.int .i64 (a:Int)] bv ((ao.o2).ext (aE _ _)) rfl TM (j2.flat ((ao.o2).ext (aE _ _)) (bE ao.le (aE _ _).size) fun _=>rfl) SL (bE ao.le (aE _ _).size) rfl rfl (aD bv _ rfl) ?_;intro ch cb d2 R a1 a0 B;rw[JM.o]at R ⊢;obtain⟨ac,z⟩:=X3.zfb ao a1 a0 B R;obtain⟨a8,be,p2⟩:=al z;have a4:=aS z 0;have a9:=aS z 1;have a5:=aS z 2;have ap:=zH ac;have br:=zH (((bp.alloc bp.size (.cells (bc (a:Int)) 3)).trans (B.mono Tr)).setCell (p:=⟨(w:Nat)+1+1,1,none⟩) (by show(w:Nat)<=w+1+1;omega) (.slice (aX ch) (k+1) cb));have b9:=zH (tt.grow (i:=1) (x:=.slice (aX ch) (k+1) cb) (b8.ext Fc ao.le (aE _ _)) Fc B);clear R a1 a0 B ac z))
    clear a8 be p2 a4 a9 a5;try clear Z ab z2
    generalize d2.setCell ⟨(w:Nat)+1+1,1,none⟩ _=bz at ap br b9 ⊢;obtain⟨Z,ab,z2⟩:=al ap.box;go_wp2_with ((at_builtin;refine ef og rfl (.tmp 80) (.tmp 82) rfl W (bz.alloc (.cells (bc (b1:Int)) 3)) (.slice O k cO) (bC s.o) (b1:Int) [.int .i64 (b1:Int)] bz ((ap.o3).ext (aE _ _)) rfl TM (j2.flat ((ap.o3).ext (aE _ _)) (bE ap.le (aE _ _).size) fun _=>rfl) SK (bE ap.le (aE _ _).size) rfl rfl (aD bz _ rfl) ?_;intro ci cc a6 R a1 a0 B;rw[Io.o]at R ⊢;obtain⟨ac,z⟩:=X3.zfc ap a1 a0 B R;obtain⟨a8,be,p2⟩:=al z;have a4:=aS z 0;have a9:=aS z 1;have a5:=aS z 2;have Gb:=zH ac;have bd:=zH (((br.alloc br.size (.cells (bc (b1:Int)) 3)).trans (B.mono Tr)).setCell (p:=⟨(w:Nat)+1+1,2,none⟩) (by show(w:Nat)<=w+1+1;omega) (.slice (aX ci) (k+1) cc));have c8:=zH (tt.grow (i:=2) (x:=.slice (aX ci) (k+1) cc) (b9.ext Fc ap.le (aE _ _)) Fc B);clear R a1 a0 B ac z))
    go_roundw
    case rel=>exact⟨k+1,s.add k a b1,c9,_,_,_,_,_,_,RB,c6,Vp,c8,bd⟩
    case measure=>simp[intOf];omega
  .obtain rfl:k=L.length:=by have:=bo.kl;omega
   obtain⟨e8,ek⟩:=bo.stop rfl cu.o.1 cu.o.2;obtain⟨U,Fp⟩:=aK (L.length-1);obtain⟨d3,eA⟩:=aK (s.f.getD (L.length-1) 0);rw[<-eA]at ek;obtain⟨gf,J7,rfl,JK⟩:=(mQ b2.o1).here (k:=U) (by rw[Gc.o];have:=cu.o;omega);have e7:=JK U (d3:Nat) (by rw[eA,Fp];exact fk (yH (by rw[bo.len];have:=cu.o;omega)));have fn:IntKind.i64.wrap ((L:Int)-1)=(U:Int):=by rw[aZ];have:=cu.o;omega
   have fd:U<L.length:=by have:=cu.o;omega
   have z:=b2.box;have d5:=(dc 1 Ry).trans HY;have fl:wr.heap[w.heap.size]?=_:=(dc 0 Ry).trans f8;obtain⟨Z,ab,z2⟩:=al z;obtain⟨r0,r1,r2⟩:=al d5;obtain⟨f0,f1,f2⟩:=bt d5;have d6:=di fl 0 rfl;have J0:=gh (v0:=.slice (some ⟨gf,J7,none⟩) L cF) (v1:=.slice I L cI) (v2:=.slice O L cO) d5;obtain⟨u0,u1,u2⟩:=al J0;obtain⟨eg,ev⟩:=aK (decide (d3=0));have g2:((d3:Int)==0)=eg:=by rw[ev,nl];simp
   obtain⟨f9,f5,f4,HS⟩:=fS (by rw[ek,ev]:pL (dR L)=eg) (mQ b2.o1) e8 bo;have fa:gf≠(w:Nat)+1:=fun e=>by obtain⟨cs,h⟩:=b2.o1;have:=(b_ h.outer gf rfl).1;have:=Fc.o;omega
   have d8:=zH fa;have ga:=zH (show ∀a:dw,some (⟨gf,J7,none⟩:dw)=some a->(w:Nat)<=a.block from fun a e=>by
    cases e
    obtain⟨cs,h⟩:=b2.o1;have:=(b_ h.outer gf rfl).1;have:=Fc.o
    show(w:Nat)<=gf
    omega)
   obtain⟨cz,e4⟩:=bL (Ry:(w:Nat)+1+1≠(w:Nat)+1) (Ry:w.heap.size≠(w:Nat)+1);have E:=aY Z (aY ab (aY z2 (aY d6 e7)));have fz:=zH dT;clear bo b2 dc dT JK z d5 fl J0 e8 ek eA Fp ev fa Z ab z2 d6 e7;go_upto_region 32 with(fail)
   go_region_held3 (fun V=>af V ((w:Nat)+1+1) 0 (.slice (some ⟨gf,J7,none⟩) L cF)/\af V ((w:Nat)+1+1) 1 (.slice I L cI)/\af V ((w:Nat)+1+1) 2 (.slice O L cO)/\af V w 0 (.slice A L cap)/\af V gf (J7+U) (zI (d3:Nat)))
    (first|with_reducible exact E|with_reducible exact zfq (aF _) E|with_reducible exact⟨iq cz.o E.1,iq cz.o E.2.1,iq cz.o E.2.2.1,iq e4.o E.2.2.2.1,iq d8.o E.2.2.2.2⟩|with_reducible exact zfq (aF _) ⟨iq cz.o E.1,iq cz.o E.2.1,iq cz.o E.2.2.1,iq e4.o E.2.2.2.1,iq d8.o E.2.2.2.2⟩) (fail)
   go_wp2;exact az (v:=.tuple #[.agg #[.slice (some ⟨gf,J7,none⟩) L cF,.slice I L cI,.slice O L cO],.bool eg]) Uv rfl ⟨_,_,_,_,_,_,_,_,_,by rw[f9.o],(((fz.setCell (p:=⟨(w:Nat)+1,0,none⟩) (by show(w:Nat)<=w+1;omega) _).setCell (p:=⟨(w:Nat)+1,1,none⟩) (by show(w:Nat)<=w+1;omega) _).setCell (p:=⟨(w:Nat)+1,2,none⟩) (by show(w:Nat)<=w+1;omega) _).drew,fun _=>⟨s,ee,f4,HS.ok,HS.len,rfl,ga,((Cj (b:=(w:Nat)+1) f5 fun e=>d8 (by cases e;rfl)).ext (aF _))⟩⟩
end Go.Proofs.YtdpgblncijojiaaGreatDoor
