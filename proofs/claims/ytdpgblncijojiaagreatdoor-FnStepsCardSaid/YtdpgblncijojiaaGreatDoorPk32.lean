/- Parts of the walks. Conditions: as stated with each. -/
import Derived.Test.YtdpgblncijojiaaGreatDoorPk27
namespace Go.Proofs.YtdpgblncijojiaaGreatDoor
open Go.RowKit Tryz
set_option linter.all false
set_option maxHeartbeats 2000000
set_option maxRecDepth 100000
def zbi(L:List jJ)(A:an)(cap:Nat)(w:aa)(e9:dp 3 nl w A L)(g0:L.length<=1048576):aw 185 #[fe,.agg (bL A L cap)] w (zg1 L w):=by
 have D:=below_alloc3 w (.cells (bL A L cap) 176) (.cells ow 202) (.cells ow 202);obtain⟨a5,ba,a6⟩:=cA w (.cells (bL A L cap) 176) (.cells ow 202) (.cells ow 202);have f6:=zH (show ∀wr,ai w wr->dp 3 nl wr A L from fun wr h=>dI e9 h);clear e9;go_enter func185,ntmps185
 go_upto_region 2 with(fail)
 generalize ((w.alloc _).alloc _).alloc _=W at D a5 ba a6 ⊢;have Fc:=zH (show(w:Nat)+1+1<W from(aM.1 a6).1);have d6:=du a5 0 rfl;obtain⟨f7,ea,HY,e2⟩:=fU a5 (show X3 W ((w:Nat)+1+1) W (.slice none 0 0) (.slice none 0 0) (.slice none 0 0) [] [] [] from⟨a6,bN.nil _ _ _ _ _,bN.nil _ _ _ _ _,bN.nil _ _ _ _ _,(fun g e=>by cases e),(fun g e=>by cases e),(fun g e=>by cases e),Fc,ag _⟩) ba D;clear D a5 ba a6;cases d0:eX (L:Int) 1 400
 .have Fe:=zH (zdH (L:=dY L) fun h=>by
   have e:(dY L).length=L:=by simp[dY]
   rw[e]at h;have:eX (L:Int) 1 400=true:=by simp[eX];omega
   rw[d0]at this;cases this)
  obtain⟨ab,ac,z2⟩:=aq ea.box;obtain⟨r0,r1,r2⟩:=aq HY;obtain⟨f0,f1,f2⟩:=bU HY;have JR:=f_ (v0:=fe) (v1:=fe) (v2:=fe) HY;obtain⟨u0,u1,u2⟩:=aq JR;clear JR;go_wp2_with (go_at_call 69;refine(Calls.dQ (aL _ _ _ _) d0).mono ?_;rintro e w' ⟨rfl,rfl⟩)
  exact ax (v:=.tuple #[.agg ow,.bool false]) UQ rfl ⟨_,_,_,_,_,_,_,_,_,by rw[Fe.o],(((e2.setCell (p:=⟨(w:Nat)+1,0,none⟩) (by show(w:Nat)<=w+1;omega) _).setCell (p:=⟨(w:Nat)+1,1,none⟩) (by show(w:Nat)<=w+1;omega) _).setCell (p:=⟨(w:Nat)+1,2,none⟩) (by show(w:Nat)<=w+1;omega) _),fun h=>Uh⟩
 have gs:1<=L.length/\L.length<=400:=by
  have:(1:Int)<=(L:Int)/\(L:Int)<=400:=by simpa[eX]using d0
  omega
 have cu:=zH gs;go_upto_region 4 with(go_at_call 69;refine(Calls.dQ (aL _ _ _ _) d0).mono ?_;rintro e w' ⟨rfl,rfl⟩)
 clear d0;go_wp2;go_loopw [25] (fun i wr=>∃(k:Nat) (s:qC) (T:List Tm) (F:an) (cF:Nat) (I:an) (cI:Nat) (O:an) (cO:Nat),i=.int .i64 k/\zm L s T k/\X3 W ((w:Nat)+1+1) wr (.slice F k cF) (.slice I k cI) (.slice O k cO) (bF s.f) (bF s.i) (bF s.o)/\sD w W wr/\ai w wr) (fun i _=>L.length-(intOf i).toNat)
 case atStart=>exact⟨0,⟨[],[],[]⟩,[],none,0,none,0,none,0,rfl,zm.start L,ea,fun _ _=>rfl,e2⟩
 case round=>
  obtain⟨k,s,T,F,cF,I,cI,O,cO,rfl,bp,b3,dc,dT⟩:=hrel;clear d6 ea;obtain⟨FR,JD,JO⟩:=d_ (by rw[bj,bp.len]:(bF s.f).length=k) (by rw[bj,bp.ok.li,bp.len]:(bF s.i).length=k) (by rw[bj,bp.ok.lo,bp.len]:(bF s.o).length=k);by_cases gw:k<L.length
  .obtain⟨x,ad⟩:=aB gw;obtain⟨b,o,rfl,e6,c1,c2⟩:=jK (f6 wr dT) ad;obtain⟨bd,vv,ss⟩:=x;dsimp only at e6 c1 c2;have gV:k<=400:=RU;obtain⟨dl,d4⟩:=dK wr (.cells (gY bd vv ss) 192);obtain⟨JS,HS,b4,cR,cz⟩:=lv ad bp (b3.ext dl) (dc.ext Fc b3.le dl) (cC dT dl);clear ad bp b3 dc dT;go_upto_region 7 with(fail)
   generalize wr.alloc _=g8 at dl d4 b4 cR cz ⊢;clear e6 c1 c2 dl;obtain⟨Y,a8,n2⟩:=aq d4;obtain⟨ct,d9⟩:=bS (fun V=>zp bd vv ss V) d4;clear d4;cases JG:dZ ⟨bd,vv,ss.toList.isEmpty⟩
   .rw[JG]at ct;by_cases en:bd=17
    .subst en;obtain⟨Fe,d7⟩:=bS (HS.no JS (kA JG (fun h=>by have:=h.1;simp[jJ.nd]at this))) (fun V=>qY 17 vv ss V);go_wp2_with (first|(go_at_call 188;refine(ct.o _).mono ?_;rintro e a7 ⟨rfl,bb⟩;have c4:=av bb Y;have e0:=av bb a8;have e1:=av bb n2;have be:=zH bb;clear bb)|(go_at_call 181;refine(d7.o _).mono ?_;rintro e ao ⟨rfl,b6⟩;have fo:=av b6 c4;have g6:=av b6 e0;have g7:=av b6 e1;have cr:=zH (cC be b6);obtain⟨ab,ac,z2⟩:=aq (b4.ext cr).box;have c0:=((cR.ext Fc b4.le cr) 1 RU).trans HY;obtain⟨r0,r1,r2⟩:=aq c0;have f0:=aP c0 0;have f1:=aP c0 1;have f2:=aP c0 2;have fn:=f_ (v0:=.slice F k cF) (v1:=.slice I k cI) (v2:=.slice O k cO) c0;obtain⟨u0,u1,u2⟩:=aq fn;have fz:=zH (cC cz cr);clear b6 c0 fn)|(go_at_call 189;refine(zbu _ _).mono ?_;rintro e w' ⟨rfl,rfl⟩))
     exact ax (v:=.tuple (kf F k cF I cI O cO)) UQ rfl ⟨_,_,_,_,_,_,_,_,_,by rw[Fe.o],(((fz.setCell (p:=⟨(w:Nat)+1,0,none⟩) (by show(w:Nat)<=w+1;omega) _).setCell (p:=⟨(w:Nat)+1,1,none⟩) (by show(w:Nat)<=w+1;omega) _).setCell (p:=⟨(w:Nat)+1,2,none⟩) (by show(w:Nat)<=w+1;omega) _),fun h=>Uh⟩
    have gb:(bd==17)=false:=by simpa using en
    go_upto_region 17 with(go_at_call 188;refine(ct.o _).mono ?_;rintro e a7 ⟨rfl,bb⟩;have c4:=av bb Y;have be:=zH bb;clear bb)
    clear Y a8 n2 c4;obtain⟨E,JU,Ew⟩:=d_ (b4.ext be) (cR.ext Fc b4.le be) (cC cz be);obtain⟨Y,a8,n2⟩:=aq (ak d9 be);obtain⟨ab,ac,z2⟩:=aq E.o.box;clear b4 cR cz d9 ct en;by_cases em:bd=15∨bd=16
    rotate_left
    .have g4:(bd !=15)=true:=Sk;have g5:(bd !=16)=true:=Sk;have Fe:=zH (HS.no JS (kA JG (fun h=>em h.1)));clear em;have JT:=(JU 1 RU).trans HY;obtain⟨r0,r1,r2⟩:=aq JT;obtain⟨f0,f1,f2⟩:=bU JT;have JR:=f_ (v0:=.slice F k cF) (v1:=.slice I k cI) (v2:=.slice O k cO) JT;obtain⟨u0,u1,u2⟩:=aq JR;clear JR JT;go_wp2;exact ax (v:=.tuple (kf F k cF I cI O cO)) UQ rfl ⟨_,_,_,_,_,_,_,_,_,by rw[Fe.o],(((Ew.setCell (p:=⟨(w:Nat)+1,0,none⟩) (by show(w:Nat)<=w+1;omega) _).setCell (p:=⟨(w:Nat)+1,1,none⟩) (by show(w:Nat)<=w+1;omega) _).setCell (p:=⟨(w:Nat)+1,2,none⟩) (by show(w:Nat)<=w+1;omega) _),fun h=>Uh⟩
    rcases em with rfl|rfl
    .skip
     by_cases hn:ss.toList.isEmpty=true
     rotate_left
     .exact ZW
     have JK:(ss.toList==[])=true:=by cases e:ss.toList <;>simp_all
     have JW:(!ss.toList==[])=false:=by rw[JK];rfl
     by_cases hv:vv=0
     rotate_left
     .exact ZS
     by_cases h2:2<=k
     rotate_left
     .exact ZU
     obtain⟨t1,t2,t3,t4,ga,JZ⟩:=rK HS.ok.ch (by rw[HS.o.len];omega);rw[HS.o.len]at t1 t2 t3 t4 JZ;obtain⟨Z,E4⟩:=aO (k-1);have JQ:=fun(b7:1<=s.f.getD (k-1) 0)=>zn (s:=s) (n:=(⟨15,vv,ss⟩:jJ).nd) (aF rfl) hv hn (by rw[HS.o.len];exact h2) (by rw[HS.o.len];exact b7)
     rw[HS.o.len]at JQ;obtain⟨fb,FM⟩:=aO (s.f.getD (k-1) 0);obtain⟨am,JF⟩:=aO (s.i.getD (k-1) 0);obtain⟨Q,GO⟩:=aO (s.o.getD (k-1) 0);have JP:=fun(h:¬1<=fb)=>HS.no JS (kA JG (fun h'=>h WI))
     rw[<-FM]at t2 JQ JZ;rw[<-JF]at t3 JQ;rw[<-GO]at t4 JQ;have JC:∀(l:bX) (j:Nat),j < (bF l).length->(bF l)[j]?=some ((l.getD j 0:Nat):Int):=fun l j b7=>fv (xu (by rw[bj]at b7;exact b7))
     obtain⟨gf,JY,rfl,JB⟩:=(my E.o.o1).here (k:=Z) Tc;obtain⟨gi,oi,rfl,Jz⟩:=(my E.o.o2).here (k:=Z) Tb;obtain⟨go,oo,rfl,JI⟩:=(my E.o.o3).here (k:=Z) Ta;have ei:=JB Z (fb:Nat) WB;have JM:=Jz Z (am:Nat) WA;have JA:=JI Z (Q:Nat) Wz;have gB:IntKind.i64.wrap ((k:Int)-1)=(Z:Int):=SQ;have fd:Z<k:=RU;by_cases h1:1<=fb
     rotate_left
     .exact ZX
     have bo:=JQ h1;obtain⟨t5,t6,t7,t8,-⟩:=rK JZ h1;obtain⟨a,b5⟩:=aO (fb-1);rw[<-b5]at bo t6 t7 t8;obtain⟨a3,Jx⟩:=aO (s.f.getD a 0);obtain⟨J,JL⟩:=aO (s.i.getD a 0);obtain⟨R,JJ⟩:=aO (s.o.getD a 0);have a4:=JB a (a3:Nat) Wt;have da:=Jz a (J:Nat) Ws;have db:=JI a (R:Nat) Wr;rw[<-Jx]at bo t6;rw[<-JL]at bo t7;rw[<-JJ]at bo t8;have fl:IntKind.i64.wrap ((fb:Int)-1)=(a:Int):=SQ;have gC:IntKind.i64.wrap ((J:Int)+(am:Int))=(J:Int)+(am:Int):=SQ;have gL:IntKind.i64.wrap ((R:Int)+(Q:Int))=(R:Int)+(Q:Int):=SQ;have gc:a<k:=RU;have JX:(1:Int)<=fb:=RU;have JH:(2:Int)<=k:=RU;have H:=bn ac (bn z2 (bn da (bn JM (bn db JA))));obtain⟨c7,e3,e5,f5⟩:=fU bo t7 t4 t3;clear hn JP JQ FM JF GO JB Jz JI da JM db JA E4 JC t1 t2 t3 t4 t5 t6 t7 t8 JZ bo b5 Jx JL JJ h2 h1;subst hv;go_upto_region 21 with(fail)
     replace JU:=zH (JU.ext Fc E.o.le (aI a7));replace E:=zH (E.o.ext (aI a7));replace Ew:=zH (Ew.trans ((aI a7).mono Ew.size))
     replace Y:=av (aI a7) Y;replace a4:=av (aI a7) a4
     clear a8 n2 ab ac z2;go_region_held3 (fun V=>ah V ((w:Nat)+1+1) 1 (.slice (some ⟨gi,oi,none⟩) k cI)/\ah V ((w:Nat)+1+1) 2 (.slice (some ⟨go,oo,none⟩) k cO)/\ah V gi (oi+a) (zI (J:Nat))/\ah V gi (oi+Z) (zI (am:Nat))/\ah V go (oo+a) (zI (R:Nat))/\ah V go (oo+Z) (zI (Q:Nat)))
      (first|with_reducible exact H|with_reducible exact zY (aI _) H) (fail)
     replace H:=zY (aI a7) H
     generalize a7.drew=ao at E JU Ew Y a4 H ⊢;obtain⟨ab,ac,z2⟩:=aq E.o.box;have a8:=Y;have n2:=Y;clear ei;by_cases hq:R=am
     rotate_left
     .have gA:((R:Int)!=(am:Int))=true:=Sk;have Fe:=zH (HS.no JS (c7.2 (by show jl 15 (J,R) (am,Q)=none;unfold jl;rw[ay rfl,al hq])));clear hq;go_upto_region 23 with(fail)
      replace JU:=zH (JU.ext Fc E.o.le (aI ao));replace E:=zH (E.o.ext (aI ao));replace Ew:=zH (Ew.trans ((aI ao).mono Ew.size))
      replace Y:=av (aI ao) Y;replace a4:=av (aI ao) a4
      clear a8 n2 ab ac z2;go_region_held3 (fun V=>ah V ((w:Nat)+1+1) 1 (.slice (some ⟨gi,oi,none⟩) k cI)/\ah V ((w:Nat)+1+1) 2 (.slice (some ⟨go,oo,none⟩) k cO)/\ah V gi (oi+a) (zI (J:Nat))/\ah V gi (oi+Z) (zI (am:Nat))/\ah V go (oo+a) (zI (R:Nat))/\ah V go (oo+Z) (zI (Q:Nat)))
       (first|with_reducible exact H|with_reducible exact zY (aI _) H) (fail)
      replace H:=zY (aI ao) H
      generalize ao.drew=cn at E JU Ew Y a4 H ⊢;obtain⟨ab,ac,z2⟩:=aq E.o.box;have a8:=Y;have n2:=Y;clear Y a8 n2 a4 H;have JT:=(JU 1 RU).trans HY;obtain⟨r0,r1,r2⟩:=aq JT;obtain⟨f0,f1,f2⟩:=bU JT;have JR:=f_ (v0:=.slice (some ⟨gf,JY,none⟩) k cF) (v1:=.slice (some ⟨gi,oi,none⟩) k cI) (v2:=.slice (some ⟨go,oo,none⟩) k cO) JT;obtain⟨u0,u1,u2⟩:=aq JR;clear JR JT;go_wp2;exact ax (v:=.tuple (kf (some ⟨gf,JY,none⟩) k cF (some ⟨gi,oi,none⟩) cI (some ⟨go,oo,none⟩) cO)) UQ rfl ⟨_,_,_,_,_,_,_,_,_,by rw[Fe.o],(((Ew.setCell (p:=⟨(w:Nat)+1,0,none⟩) (by show(w:Nat)<=w+1;omega) _).setCell (p:=⟨(w:Nat)+1,1,none⟩) (by show(w:Nat)<=w+1;omega) _).setCell (p:=⟨(w:Nat)+1,2,none⟩) (by show(w:Nat)<=w+1;omega) _),fun h=>Uh⟩
     subst hq;have b1:=c7.1 (J,Q) (by show jl 15 (J,R) (R,Q)=_;unfold jl;rw[ay rfl,ay rfl]);dsimp only at b1;obtain⟨c9,ck⟩:=HS.step JS b1 (by show(s.f++[a3]).length=_;rw[bQ,HS.o.len];rfl);obtain⟨c6,JN,JV,GR⟩:=fU ck (S_:bF (s.add a3 J Q).f=bF s.f++[(a3:Int)]) (S_:bF (s.add a3 J Q).i=bF s.i++[(J:Int)]) (S_:bF (s.add a3 J Q).o=bF s.o++[(Q:Int)]);have gA:((R:Int)!=(R:Int))=false:=RS;clear b1 ck;go_upto_region 23 with(fail)
     replace JU:=zH (JU.ext Fc E.o.le (aI ao));replace E:=zH (E.o.ext (aI ao));replace Ew:=zH (Ew.trans ((aI ao).mono Ew.size))
     replace Y:=av (aI ao) Y;replace a4:=av (aI ao) a4
     clear a8 n2 ab ac z2;go_region_held3 (fun V=>ah V ((w:Nat)+1+1) 1 (.slice (some ⟨gi,oi,none⟩) k cI)/\ah V ((w:Nat)+1+1) 2 (.slice (some ⟨go,oo,none⟩) k cO)/\ah V gi (oi+a) (zI (J:Nat))/\ah V gi (oi+Z) (zI (R:Nat))/\ah V go (oo+a) (zI (R:Nat))/\ah V go (oo+Z) (zI (Q:Nat)))
      (first|with_reducible exact H|with_reducible exact zY (aI _) H) (fail)
     replace H:=zY (aI ao) H
     generalize ao.drew=cn at E JU Ew Y a4 H ⊢;obtain⟨ab,ac,z2⟩:=aq E.o.box;have a8:=Y;have n2:=Y;go_upto_region 25 with(fail)
     replace JU:=zH (JU.ext Fc E.o.le (aI cn));replace E:=zH (E.o.ext (aI cn));replace Ew:=zH (Ew.trans ((aI cn).mono Ew.size))
     replace Y:=av (aI cn) Y;replace a4:=av (aI cn) a4
     clear a8 n2 ab ac z2;go_region_held3 (fun V=>ah V ((w:Nat)+1+1) 1 (.slice (some ⟨gi,oi,none⟩) k cI)/\ah V ((w:Nat)+1+1) 2 (.slice (some ⟨go,oo,none⟩) k cO)/\ah V gi (oi+a) (zI (J:Nat))/\ah V gi (oi+Z) (zI (R:Nat))/\ah V go (oo+a) (zI (R:Nat))/\ah V go (oo+Z) (zI (Q:Nat)))
      (first|with_reducible exact H|with_reducible exact zY (aI _) H) (fail)
     replace H:=zY (aI cn) H
     generalize cn.drew=co at E JU Ew Y a4 H ⊢;obtain⟨ab,ac,z2⟩:=aq E.o.box;have a8:=Y;have n2:=Y;clear H;have gd:(J:Int)<=12:=by have:=e3.o;omega
     have gm:(Q:Int)<=12:=by have:=e5.o;omega
     obtain⟨bm,eb,c5⟩:=d_ (E.o.ext (aI co)) (JU.ext Fc E.o.le (aI co)) (Ew.trans ((aI co).mono Ew.size));have b8:=av (aI co) ab;have ej:=av (aI co) a4;go_upto_region 28 with(fail)
     clear ab ac z2 Y a8 n2;refine bJ (S:=fun V=>ah V ((w:Nat)+1+1) 0 (.slice (some ⟨gf,JY,none⟩) k cF)) 10 Si b8 (fun hHeld=>?_);refine aC 0 ?_;refine aC 1 ?_;refine aC 2 ?_;refine aC 3 ?_;refine aC 4 ?_;refine aC 5 ?_;refine bM 6 fun K hK=>?_
     go_simp;refine hK.out _ _ (fun _=>b8) (fun hHeld=>?_);clear hK K hHeld;try simp only[Act.put,zA]
     refine bM 7 fun K hK=>?_
     go_simp;refine hK.out _ _ (fun _=>av (aD _ _) b8) (fun hHeld=>?_);clear hK K hHeld;try simp only[Act.put,zA]
     refine bM 8 fun K hK=>?_
     refine nJ nD rfl (.tmp 180) (.tmp 186) rfl W (co.drew.alloc (.cells (bg (a3:Int)) 3)) (.slice (some ⟨gf,JY,none⟩) k cF) (bF s.f) (a3:Int) [.int .i64 (a3:Int)] co.drew ((bm.o1).ext (aD _ _)) rfl T4 (jS.flat ((bm.o1).ext (aD _ _)) (bc bm.le (aD _ _).size) fun _=>rfl) Tc (bc bm.le (aD _ _).size) rfl rfl (az co.drew _ rfl) ?_;intro ch cb d1 U a2 a1 D;rw[FR.o]at U ⊢;obtain⟨ad,z⟩:=X3.zib bm a2 a1 D U;obtain⟨a9,bi,p2⟩:=aq z;obtain⟨a5,ba,a6⟩:=bU z;obtain⟨ap,br,b9⟩:=d_ ad (((c5.alloc c5.size (.cells (bg (a3:Int)) 3)).trans (D.mono TR)).setCell (p:=⟨(w:Nat)+1+1,0,none⟩) (by show(w:Nat)<=w+1+1;omega) (.slice (aY ch) (k+1) cb)) (sD.grow (i:=0) (x:=.slice (aY ch) (k+1) cb) (eb.ext Fc bm.le (aD _ _)) Fc D);clear U a2 a1 D ad z;refine hK.out _ _ (fun _=>a9) (fun hHeld=>?_);clear hK K hHeld;try simp only[Act.put,zA]
     refine bM 9 fun K hK=>?_
     go_simp;refine hK.out _ _ (fun _=>a9) (fun hHeld=>?_);clear hK K hHeld;try simp only[Act.put,zA]
     refine bM 10 fun K hK=>?_
     go_simp;refine hK.out _ _ (fun h=>absurd h RX) (fun _=>?_);clear hK K;try simp only[Act.put,zA]
     refine eC Si ?_ _;clear b8 ej a4;clear a9 bi p2 a5 ba a6;try clear ab ac z2
     generalize d1.setCell ⟨(w:Nat)+1+1,0,none⟩ _=bz at ap br b9 ⊢;obtain⟨ab,ac,z2⟩:=aq ap.box;go_upto_region 30 with((at_builtin;refine er nD rfl (.tmp 190) (.tmp 192) rfl W (bz.alloc (.cells (bg (J:Int)) 3)) (.slice (some ⟨gi,oi,none⟩) k cI) (bF s.i) (J:Int) [.int .i64 (J:Int)] bz ((ap.o2).ext (aD _ _)) rfl T4 (jS.flat ((ap.o2).ext (aD _ _)) (bc ap.le (aD _ _).size) fun _=>rfl) Tb (bc ap.le (aD _ _).size) rfl rfl (az bz _ rfl) ?_;intro ci cc d2 U a2 a1 D;rw[JD.o]at U ⊢;obtain⟨ad,z⟩:=X3.zeH ap a2 a1 D U;obtain⟨a9,bi,p2⟩:=aq z;have a5:=aP z 0;have ba:=aP z 1;have a6:=aP z 2;have a0:=zH ad;have bv:=zH (((br.alloc br.size (.cells (bg (J:Int)) 3)).trans (D.mono TR)).setCell (p:=⟨(w:Nat)+1+1,1,none⟩) (by show(w:Nat)<=w+1+1;omega) (.slice (aY ci) (k+1) cc));have ca:=zH (sD.grow (i:=1) (x:=.slice (aY ci) (k+1) cc) (b9.ext Fc ap.le (aD _ _)) Fc D);clear U a2 a1 D ad z))
     clear a9 bi p2 a5 ba a6;try clear ab ac z2
     generalize d2.setCell ⟨(w:Nat)+1+1,1,none⟩ _=b0 at a0 bv ca ⊢;obtain⟨ab,ac,z2⟩:=aq a0.box;go_wp2_with ((at_builtin;refine er nD rfl (.tmp 196) (.tmp 198) rfl W (b0.alloc (.cells (bg (Q:Int)) 3)) (.slice (some ⟨go,oo,none⟩) k cO) (bF s.o) (Q:Int) [.int .i64 (Q:Int)] b0 ((a0.o3).ext (aD _ _)) rfl T4 (jS.flat ((a0.o3).ext (aD _ _)) (bc a0.le (aD _ _).size) fun _=>rfl) Ta (bc a0.le (aD _ _).size) rfl rfl (az b0 _ rfl) ?_;intro cj ce a7 U a2 a1 D;rw[JO.o]at U ⊢;obtain⟨ad,z⟩:=X3.zeI a0 a2 a1 D U;obtain⟨a9,bi,p2⟩:=aq z;have a5:=aP z 0;have ba:=aP z 1;have a6:=aP z 2;have Jy:=zH ad;have be:=zH (((bv.alloc bv.size (.cells (bg (Q:Int)) 3)).trans (D.mono TR)).setCell (p:=⟨(w:Nat)+1+1,2,none⟩) (by show(w:Nat)<=w+1+1;omega) (.slice (aY cj) (k+1) ce));have c8:=zH (sD.grow (i:=2) (x:=.slice (aY cj) (k+1) ce) (ca.ext Fc a0.le (aD _ _)) Fc D);clear U a2 a1 D ad z))
     go_roundw
     case rel=>exact⟨k+1,s.add a3 J Q,c9,_,_,_,_,_,_,RW,c6,VK,c8,be⟩
     case measure=>simp[intOf];omega
    .skip
     by_cases hn:ss.toList.isEmpty=true
     rotate_left
     .exact ZW
     have JK:(ss.toList==[])=true:=by cases e:ss.toList <;>simp_all
     have JW:(!ss.toList==[])=false:=by rw[JK];rfl
     by_cases hv:vv=0
     rotate_left
     .exact ZS
     by_cases h2:2<=k
     rotate_left
     .exact ZU
     obtain⟨t1,t2,t3,t4,ga,JZ⟩:=rK HS.ok.ch (by rw[HS.o.len];omega);rw[HS.o.len]at t1 t2 t3 t4 JZ;obtain⟨Z,E4⟩:=aO (k-1);have JQ:=fun(b7:1<=s.f.getD (k-1) 0)=>zn (s:=s) (n:=(⟨16,vv,ss⟩:jJ).nd) (aA rfl) hv hn (by rw[HS.o.len];exact h2) (by rw[HS.o.len];exact b7)
     rw[HS.o.len]at JQ;obtain⟨fb,FM⟩:=aO (s.f.getD (k-1) 0);obtain⟨am,JF⟩:=aO (s.i.getD (k-1) 0);obtain⟨Q,GO⟩:=aO (s.o.getD (k-1) 0);have JP:=fun(h:¬1<=fb)=>HS.no JS (kA JG (fun h'=>h WI))
     rw[<-FM]at t2 JQ JZ;rw[<-JF]at t3 JQ;rw[<-GO]at t4 JQ;have JC:∀(l:bX) (j:Nat),j < (bF l).length->(bF l)[j]?=some ((l.getD j 0:Nat):Int):=fun l j b7=>fv (xu (by rw[bj]at b7;exact b7))
     obtain⟨gf,JY,rfl,JB⟩:=(my E.o.o1).here (k:=Z) Tc;obtain⟨gi,oi,rfl,Jz⟩:=(my E.o.o2).here (k:=Z) Tb;obtain⟨go,oo,rfl,JI⟩:=(my E.o.o3).here (k:=Z) Ta;have ei:=JB Z (fb:Nat) WB;have JM:=Jz Z (am:Nat) WA;have JA:=JI Z (Q:Nat) Wz;have gB:IntKind.i64.wrap ((k:Int)-1)=(Z:Int):=SQ;have fd:Z<k:=RU;by_cases h1:1<=fb
     rotate_left
     .exact ZX
     have bo:=JQ h1;obtain⟨t5,t6,t7,t8,-⟩:=rK JZ h1;obtain⟨a,b5⟩:=aO (fb-1);rw[<-b5]at bo t6 t7 t8;obtain⟨a3,Jx⟩:=aO (s.f.getD a 0);obtain⟨J,JL⟩:=aO (s.i.getD a 0);obtain⟨R,JJ⟩:=aO (s.o.getD a 0);have a4:=JB a (a3:Nat) Wt;have da:=Jz a (J:Nat) Ws;have db:=JI a (R:Nat) Wr;rw[<-Jx]at bo t6;rw[<-JL]at bo t7;rw[<-JJ]at bo t8;have fl:IntKind.i64.wrap ((fb:Int)-1)=(a:Int):=SQ;have gC:IntKind.i64.wrap ((J:Int)+(am:Int))=(J:Int)+(am:Int):=SQ;have gL:IntKind.i64.wrap ((R:Int)+(Q:Int))=(R:Int)+(Q:Int):=SQ;have gc:a<k:=RU;have JX:(1:Int)<=fb:=RU;have JH:(2:Int)<=k:=RU;have H:=bn ac (bn z2 (bn da (bn JM (bn db JA))));obtain⟨c7,e3,e5,f5⟩:=fU bo t7 t4 t3;clear hn JP JQ FM JF GO JB Jz JI da JM db JA E4 JC t1 t2 t3 t4 t5 t6 t7 t8 JZ bo b5 Jx JL JJ h2 h1;subst hv;go_upto_region 21 with(fail)
     replace JU:=zH (JU.ext Fc E.o.le (aI a7));replace E:=zH (E.o.ext (aI a7));replace Ew:=zH (Ew.trans ((aI a7).mono Ew.size))
     replace Y:=av (aI a7) Y;replace a4:=av (aI a7) a4
     clear a8 n2 ab ac z2;go_region_held3 (fun V=>ah V ((w:Nat)+1+1) 1 (.slice (some ⟨gi,oi,none⟩) k cI)/\ah V ((w:Nat)+1+1) 2 (.slice (some ⟨go,oo,none⟩) k cO)/\ah V gi (oi+a) (zI (J:Nat))/\ah V gi (oi+Z) (zI (am:Nat))/\ah V go (oo+a) (zI (R:Nat))/\ah V go (oo+Z) (zI (Q:Nat)))
      (first|with_reducible exact H|with_reducible exact zY (aI _) H) (fail)
     replace H:=zY (aI a7) H
     generalize a7.drew=ao at E JU Ew Y a4 H ⊢;obtain⟨ab,ac,z2⟩:=aq E.o.box;have a8:=Y;have n2:=Y;clear ei;by_cases hq:J+am<=12/\R+Q<=12
     rotate_left
     .have Fe:=zH (HS.no JS (c7.2 (by show jl 16 (J,R) (am,Q)=none;unfold jl;rw[al RX,ay rfl,al hq])));clear a4 H;by_cases g1:(12:Int) < (J:Int)+(am:Int)
      .exact ZT
      .have g2:(12:Int) < (R:Int)+(Q:Int):=RU;exact ZT
     have b1:=c7.1 (J+am,R+Q) (by show jl 16 (J,R) (am,Q)=_;unfold jl;rw[al RX,ay rfl,ay hq]);dsimp only at b1;obtain⟨c9,ck⟩:=HS.step JS b1 (by show(s.f++[a3]).length=_;rw[bQ,HS.o.len];rfl);obtain⟨c6,JN,JV,GR⟩:=fU ck (S_:bF (s.add a3 (J+am) (R+Q)).f=bF s.f++[(a3:Int)]) (S_:bF (s.add a3 (J+am) (R+Q)).i=bF s.i++[(J:Int)+(am:Int)]) (S_:bF (s.add a3 (J+am) (R+Q)).o=bF s.o++[(R:Int)+(Q:Int)]);have gd:(J:Int)+(am:Int)<=12:=RU;have gm:(R:Int)+(Q:Int)<=12:=RU;clear b1 ck hq H;obtain⟨bm,eb,c5⟩:=d_ (E.o.ext (aI ao)) (JU.ext Fc E.o.le (aI ao)) (Ew.trans ((aI ao).mono Ew.size));have b8:=av (aI ao) ab;have ej:=av (aI ao) a4;go_upto_region 28 with(fail)
     clear ab ac z2 Y a8 n2;refine bJ (S:=fun V=>ah V ((w:Nat)+1+1) 0 (.slice (some ⟨gf,JY,none⟩) k cF)) 10 Si b8 (fun hHeld=>?_);refine aC 0 ?_;refine aC 1 ?_;refine aC 2 ?_;refine aC 3 ?_;refine aC 4 ?_;refine aC 5 ?_;refine bM 6 fun K hK=>?_
     go_simp;refine hK.out _ _ (fun _=>b8) (fun hHeld=>?_);clear hK K hHeld;try simp only[Act.put,zA]
     refine bM 7 fun K hK=>?_
     go_simp;refine hK.out _ _ (fun _=>av (aD _ _) b8) (fun hHeld=>?_);clear hK K hHeld;try simp only[Act.put,zA]
     refine bM 8 fun K hK=>?_
     refine nJ nD rfl (.tmp 180) (.tmp 186) rfl W (ao.drew.alloc (.cells (bg (a3:Int)) 3)) (.slice (some ⟨gf,JY,none⟩) k cF) (bF s.f) (a3:Int) [.int .i64 (a3:Int)] ao.drew ((bm.o1).ext (aD _ _)) rfl T4 (jS.flat ((bm.o1).ext (aD _ _)) (bc bm.le (aD _ _).size) fun _=>rfl) Tc (bc bm.le (aD _ _).size) rfl rfl (az ao.drew _ rfl) ?_;intro ch cb d1 U a2 a1 D;rw[FR.o]at U ⊢;obtain⟨ad,z⟩:=X3.zib bm a2 a1 D U;obtain⟨a9,bi,p2⟩:=aq z;obtain⟨a5,ba,a6⟩:=bU z;obtain⟨ap,br,b9⟩:=d_ ad (((c5.alloc c5.size (.cells (bg (a3:Int)) 3)).trans (D.mono TR)).setCell (p:=⟨(w:Nat)+1+1,0,none⟩) (by show(w:Nat)<=w+1+1;omega) (.slice (aY ch) (k+1) cb)) (sD.grow (i:=0) (x:=.slice (aY ch) (k+1) cb) (eb.ext Fc bm.le (aD _ _)) Fc D);clear U a2 a1 D ad z;refine hK.out _ _ (fun _=>a9) (fun hHeld=>?_);clear hK K hHeld;try simp only[Act.put,zA]
     refine bM 9 fun K hK=>?_
     go_simp;refine hK.out _ _ (fun _=>a9) (fun hHeld=>?_);clear hK K hHeld;try simp only[Act.put,zA]
     refine bM 10 fun K hK=>?_
     go_simp;refine hK.out _ _ (fun h=>absurd h RX) (fun _=>?_);clear hK K;try simp only[Act.put,zA]
     refine eC Si ?_ _;clear b8 ej a4;clear a9 bi p2 a5 ba a6;try clear ab ac z2
     generalize d1.setCell ⟨(w:Nat)+1+1,0,none⟩ _=bz at ap br b9 ⊢;obtain⟨ab,ac,z2⟩:=aq ap.box;go_upto_region 30 with((at_builtin;refine er nD rfl (.tmp 190) (.tmp 192) rfl W (bz.alloc (.cells (bg ((J:Int)+(am:Int))) 3)) (.slice (some ⟨gi,oi,none⟩) k cI) (bF s.i) ((J:Int)+(am:Int)) [.int .i64 ((J:Int)+(am:Int))] bz ((ap.o2).ext (aD _ _)) rfl T4 (jS.flat ((ap.o2).ext (aD _ _)) (bc ap.le (aD _ _).size) fun _=>rfl) Tb (bc ap.le (aD _ _).size) rfl rfl (az bz _ rfl) ?_;intro ci cc d2 U a2 a1 D;rw[JD.o]at U ⊢;obtain⟨ad,z⟩:=X3.zeH ap a2 a1 D U;obtain⟨a9,bi,p2⟩:=aq z;have a5:=aP z 0;have ba:=aP z 1;have a6:=aP z 2;have a0:=zH ad;have bv:=zH (((br.alloc br.size (.cells (bg ((J:Int)+(am:Int))) 3)).trans (D.mono TR)).setCell (p:=⟨(w:Nat)+1+1,1,none⟩) (by show(w:Nat)<=w+1+1;omega) (.slice (aY ci) (k+1) cc));have ca:=zH (sD.grow (i:=1) (x:=.slice (aY ci) (k+1) cc) (b9.ext Fc ap.le (aD _ _)) Fc D);clear U a2 a1 D ad z))
     clear a9 bi p2 a5 ba a6;try clear ab ac z2
     generalize d2.setCell ⟨(w:Nat)+1+1,1,none⟩ _=b0 at a0 bv ca ⊢;obtain⟨ab,ac,z2⟩:=aq a0.box;go_wp2_with ((at_builtin;refine er nD rfl (.tmp 196) (.tmp 198) rfl W (b0.alloc (.cells (bg ((R:Int)+(Q:Int))) 3)) (.slice (some ⟨go,oo,none⟩) k cO) (bF s.o) ((R:Int)+(Q:Int)) [.int .i64 ((R:Int)+(Q:Int))] b0 ((a0.o3).ext (aD _ _)) rfl T4 (jS.flat ((a0.o3).ext (aD _ _)) (bc a0.le (aD _ _).size) fun _=>rfl) Ta (bc a0.le (aD _ _).size) rfl rfl (az b0 _ rfl) ?_;intro cj ce a7 U a2 a1 D;rw[JO.o]at U ⊢;obtain⟨ad,z⟩:=X3.zeI a0 a2 a1 D U;obtain⟨a9,bi,p2⟩:=aq z;have a5:=aP z 0;have ba:=aP z 1;have a6:=aP z 2;have Jy:=zH ad;have be:=zH (((bv.alloc bv.size (.cells (bg ((R:Int)+(Q:Int))) 3)).trans (D.mono TR)).setCell (p:=⟨(w:Nat)+1+1,2,none⟩) (by show(w:Nat)<=w+1+1;omega) (.slice (aY cj) (k+1) ce));have c8:=zH (sD.grow (i:=2) (x:=.slice (aY cj) (k+1) ce) (ca.ext Fc a0.le (aD _ _)) Fc D);clear U a2 a1 D ad z))
     go_roundw
     case rel=>exact⟨k+1,s.add a3 (J+am) (R+Q),c9,_,_,_,_,_,_,RW,c6,VK,c8,be⟩
     case measure=>simp[intOf];omega
   .rw[JG]at ct;have gn:bd<=14:=by
     have:=JG;unfold dZ at this;simp only[bC]at this;have eo:=this.2;split at eo
     .omega
     .split at eo
      .omega
      .simp at eo;omega
    have gb:(bd==17)=false:=Sk;obtain⟨a,b5⟩:=aO (pz ⟨bd,vv,ss.toList.isEmpty⟩);obtain⟨b2,es⟩:=aO (sN ⟨bd,vv,ss.toList.isEmpty⟩);have d7:=zH (show ∀V,aw 181 (cJ (gY bd vv ss)) V fun e w'=>e=.returned (.tuple (ox a b2))/\ai V w' from fun V=>by rw[b5,es,<-(zhp JG).1,<-(zhp JG).2];exact qY bd vv ss V)
    have b1:=zbt (s:=s) JG;rw[<-b5,<-es,HS.o.len]at b1;obtain⟨c9,ck⟩:=HS.step JS b1 (by show(s.f++[k]).length=_;rw[bQ,HS.o.len];rfl);obtain⟨c6,JN,JV,GR⟩:=fU ck (S_:bF (s.add k a b2).f=bF s.f++[(k:Int)]) (S_:bF (s.add k a b2).i=bF s.i++[(a:Int)]) (S_:bF (s.add k a b2).o=bF s.o++[(b2:Int)]);clear b1 ck b5 es gn JG;go_upto_region 14 with(first|(go_at_call 188;refine(ct.o _).mono ?_;rintro e a7 ⟨rfl,bb⟩;have c4:=av bb Y;have e0:=av bb a8;have e1:=av bb n2;have be:=zH bb;clear bb)|(go_at_call 181;refine(d7.o _).mono ?_;rintro e ao ⟨rfl,b6⟩;have fo:=av b6 c4;have cr:=zH (cC be b6);clear b6))
    clear Y a8 n2 c4 e0 e1 fo;obtain⟨E,JU,Ew⟩:=d_ (b4.ext cr) (cR.ext Fc b4.le cr) (cC cz cr);obtain⟨ab,ac,z2⟩:=aq E.o.box;clear b4 cR cz d9 ct;go_upto_region 15 with((at_builtin;refine er nD rfl (.tmp 68) (.tmp 70) rfl W (ao.alloc (.cells (bg (k:Int)) 3)) (.slice F k cF) (bF s.f) (k:Int) [.int .i64 (k:Int)] ao ((E.o.o1).ext (aD _ _)) rfl T4 (jS.flat ((E.o.o1).ext (aD _ _)) (bc E.o.le (aD _ _).size) fun _=>rfl) Tc (bc E.o.le (aD _ _).size) rfl rfl (az ao _ rfl) ?_;intro ch cb d1 U a2 a1 D;rw[FR.o]at U ⊢;obtain⟨ad,z⟩:=X3.zib E.o a2 a1 D U;obtain⟨a9,bi,p2⟩:=aq z;have a5:=aP z 0;have ba:=aP z 1;have a6:=aP z 2;have ap:=zH ad;have br:=zH (((Ew.alloc Ew.size (.cells (bg (k:Int)) 3)).trans (D.mono TR)).setCell (p:=⟨(w:Nat)+1+1,0,none⟩) (by show(w:Nat)<=w+1+1;omega) (.slice (aY ch) (k+1) cb));have b9:=zH (sD.grow (i:=0) (x:=.slice (aY ch) (k+1) cb) (JU.ext Fc E.o.le (aD _ _)) Fc D);clear U a2 a1 D ad z))
    clear a9 bi p2 a5 ba a6;try clear ab ac z2
    generalize d1.setCell ⟨(w:Nat)+1+1,0,none⟩ _=bz at ap br b9 ⊢;obtain⟨ab,ac,z2⟩:=aq ap.box;go_upto_region 16 with((at_builtin;refine er nD rfl (.tmp 74) (.tmp 76) rfl W (bz.alloc (.cells (bg (a:Int)) 3)) (.slice I k cI) (bF s.i) (a:Int) [.int .i64 (a:Int)] bz ((ap.o2).ext (aD _ _)) rfl T4 (jS.flat ((ap.o2).ext (aD _ _)) (bc ap.le (aD _ _).size) fun _=>rfl) Tb (bc ap.le (aD _ _).size) rfl rfl (az bz _ rfl) ?_;intro ci cc d2 U a2 a1 D;rw[JD.o]at U ⊢;obtain⟨ad,z⟩:=X3.zeH ap a2 a1 D U;obtain⟨a9,bi,p2⟩:=aq z;have a5:=aP z 0;have ba:=aP z 1;have a6:=aP z 2;have a0:=zH ad;have bv:=zH (((br.alloc br.size (.cells (bg (a:Int)) 3)).trans (D.mono TR)).setCell (p:=⟨(w:Nat)+1+1,1,none⟩) (by show(w:Nat)<=w+1+1;omega) (.slice (aY ci) (k+1) cc));have ca:=zH (sD.grow (i:=1) (x:=.slice (aY ci) (k+1) cc) (b9.ext Fc ap.le (aD _ _)) Fc D);clear U a2 a1 D ad z))
    clear a9 bi p2 a5 ba a6;try clear ab ac z2
    generalize d2.setCell ⟨(w:Nat)+1+1,1,none⟩ _=b0 at a0 bv ca ⊢;obtain⟨ab,ac,z2⟩:=aq a0.box;go_wp2_with ((at_builtin;refine er nD rfl (.tmp 80) (.tmp 82) rfl W (b0.alloc (.cells (bg (b2:Int)) 3)) (.slice O k cO) (bF s.o) (b2:Int) [.int .i64 (b2:Int)] b0 ((a0.o3).ext (aD _ _)) rfl T4 (jS.flat ((a0.o3).ext (aD _ _)) (bc a0.le (aD _ _).size) fun _=>rfl) Ta (bc a0.le (aD _ _).size) rfl rfl (az b0 _ rfl) ?_;intro cj ce a7 U a2 a1 D;rw[JO.o]at U ⊢;obtain⟨ad,z⟩:=X3.zeI a0 a2 a1 D U;obtain⟨a9,bi,p2⟩:=aq z;have a5:=aP z 0;have ba:=aP z 1;have a6:=aP z 2;have Jy:=zH ad;have be:=zH (((bv.alloc bv.size (.cells (bg (b2:Int)) 3)).trans (D.mono TR)).setCell (p:=⟨(w:Nat)+1+1,2,none⟩) (by show(w:Nat)<=w+1+1;omega) (.slice (aY cj) (k+1) ce));have c8:=zH (sD.grow (i:=2) (x:=.slice (aY cj) (k+1) ce) (ca.ext Fc a0.le (aD _ _)) Fc D);clear U a2 a1 D ad z))
    go_roundw
    case rel=>exact⟨k+1,s.add k a b2,c9,_,_,_,_,_,_,RW,c6,VK,c8,be⟩
    case measure=>simp[intOf];omega
  .obtain rfl:k=L.length:=by have:=bp.kl;omega
   obtain⟨e8,ek⟩:=bp.stop rfl cu.o.1 cu.o.2;obtain⟨Z,E4⟩:=aO (L.length-1);obtain⟨d3,eA⟩:=aO (s.f.getD (L.length-1) 0);rw[<-eA]at ek;obtain⟨gf,JY,rfl,JB⟩:=(my b3.o1).here (k:=Z) (by rw[FR.o];have:=cu.o;omega);have e7:=JB Z (d3:Nat) (by rw[eA,E4];exact fv (xu (by rw[bp.len];have:=cu.o;omega)));have fl:IntKind.i64.wrap ((L:Int)-1)=(Z:Int):=by rw[aZ];have:=cu.o;omega
   have fd:Z<L.length:=by have:=cu.o;omega
   have z:=b3.box;have d5:=(dc 1 RU).trans HY;have fi:wr.heap[w.heap.size]?=_:=(dc 0 RU).trans f7;obtain⟨ab,ac,z2⟩:=aq z;obtain⟨r0,r1,r2⟩:=aq d5;obtain⟨f0,f1,f2⟩:=bU d5;have d6:=du fi 0 rfl;have JR:=f_ (v0:=.slice (some ⟨gf,JY,none⟩) L cF) (v1:=.slice I L cI) (v2:=.slice O L cO) d5;obtain⟨u0,u1,u2⟩:=aq JR;obtain⟨eg,ev⟩:=aO (decide (d3=0));have g3:((d3:Int)==0)=eg:=by rw[ev,mY];simp
   obtain⟨f8,f4,f3,HS⟩:=fU (by rw[ek,ev]:pc (dY L)=eg) (my b3.o1) e8 bp;have fa:gf≠(w:Nat)+1:=fun e=>by obtain⟨cs,h⟩:=b3.o1;have:=(bZ h.outer gf rfl).1;have:=Fc.o;omega
   have d8:=zH fa;have f9:=zH (show ∀a:dD,some (⟨gf,JY,none⟩:dD)=some a->(w:Nat)<=a.block from fun a e=>by
    cases e
    obtain⟨cs,h⟩:=b3.o1;have:=(bZ h.outer gf rfl).1;have:=Fc.o
    show(w:Nat)<=gf
    omega)
   obtain⟨cy,e4⟩:=bS (RU:(w:Nat)+1+1≠(w:Nat)+1) (RU:w.heap.size≠(w:Nat)+1);have H:=bn ab (bn ac (bn z2 (bn d6 e7)));have fs:=zH dT;clear bp b3 dc dT JB z d5 fi JR e8 ek eA E4 ev fa ab ac z2 d6 e7;go_upto_region 32 with(fail)
   go_region_held3 (fun V=>ah V ((w:Nat)+1+1) 0 (.slice (some ⟨gf,JY,none⟩) L cF)/\ah V ((w:Nat)+1+1) 1 (.slice I L cI)/\ah V ((w:Nat)+1+1) 2 (.slice O L cO)/\ah V w 0 (.slice A L cap)/\ah V gf (JY+Z) (zI (d3:Nat)))
    (first|with_reducible exact H|with_reducible exact ze0 (aI _) H|with_reducible exact⟨il cy.o H.1,il cy.o H.2.1,il cy.o H.2.2.1,il e4.o H.2.2.2.1,il d8.o H.2.2.2.2⟩|with_reducible exact ze0 (aI _) ⟨il cy.o H.1,il cy.o H.2.1,il cy.o H.2.2.1,il e4.o H.2.2.2.1,il d8.o H.2.2.2.2⟩) (fail)
   go_wp2;exact ax (v:=.tuple #[.agg #[.slice (some ⟨gf,JY,none⟩) L cF,.slice I L cI,.slice O L cO],.bool eg]) UQ rfl ⟨_,_,_,_,_,_,_,_,_,by rw[f8.o],(((fs.setCell (p:=⟨(w:Nat)+1,0,none⟩) (by show(w:Nat)<=w+1;omega) _).setCell (p:=⟨(w:Nat)+1,1,none⟩) (by show(w:Nat)<=w+1;omega) _).setCell (p:=⟨(w:Nat)+1,2,none⟩) (by show(w:Nat)<=w+1;omega) _).drew,fun _=>⟨s,T,f3,HS.ok,HS.len,rfl,f9,((BE (b:=(w:Nat)+1) f4 fun e=>d8 (by cases e;rfl)).ext (aI _))⟩⟩
end Go.Proofs.YtdpgblncijojiaaGreatDoor
