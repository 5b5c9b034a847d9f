/- Parts of the walks and laws (Sc2). Conditions: as stated with each. -/
import Derived.Test.YtpieilkmmiopfaaGreatDoorPk21
namespace Go.Proofs.YtpieilkmmiopfaaGreatDoor
open Go.RowKit Tryz
set_option linter.all false
set_option maxHeartbeats 2000000
set_option maxRecDepth 100000
theorem zbC(L:List er)(A:aq)(cap:Nat)(w:aa)(e5:bF 3 iR w A L)(gC:L.length<=1048576):aw 149 #[bW,.agg (aO A L cap)] w (ze7 L w):=by
 have H:=below_alloc3 w (.cells (aO A L cap) 35) (.cells oD 145) (.cells oD 145);obtain⟨a5,ba,a6⟩:=cm w (.cells (aO A L cap) 35) (.cells oD 145) (.cells oD 145);have fz:=zH (show ∀wr,ag w wr->bF 3 iR wr A L from fun wr h=>bw e5 h);clear e5;go_enter func149,ntmps149
 go_upto_region 2 with(fail)
 generalize ((w.alloc _).alloc _).alloc _=W at H a5 ba a6 ⊢;have FD:=zH (show w.heap.size+1+1<W.heap.size from(aT.1 a6).1);have d0:=aI a5 0 rfl;obtain⟨f4,d4,HY,ev⟩:=fU a5 (show X3 W.heap.size (w.heap.size+1+1) W (.slice none 0 0) (.slice none 0 0) (.slice none 0 0) [] [] [] from⟨a6,aV.nil _ _ _ _ _,aV.nil _ _ _ _ _,aV.nil _ _ _ _ _,(fun g e=>by cases e),(fun g e=>by cases e),(fun g e=>by cases e),FD.o,af _⟩) ba H;clear H a5 ba a6;cases db:et (L.length:Int) 1 400
 .have KQ:=zH (Cr (L:=b_ L) fun h=>by
   have e:(b_ L).length=L.length:=by simp[b_]
   rw[e]at h;have:et (L.length:Int) 1 400=true:=SE;rw[db]at this;cases this)
  obtain⟨ab,ac,z2⟩:=aG d4.o.box;obtain⟨r0,r1,r2⟩:=aG HY.o;obtain⟨f0,f1,f2⟩:=bR HY.o;have Kn:=fM (v0:=bW) (v1:=bW) (v2:=bW) HY.o;obtain⟨u0,u1,u2⟩:=aG Kn;clear Kn;go_wp2_with (go_at_call 92;refine(Calls.cT (aS _ _ _ _) db).mono ?_;rintro e w' ⟨rfl,rfl⟩)
  exact aE (v:=.tuple (mS oD)) Uw rfl ⟨_,_,_,_,_,_,_,_,_,by rw[KQ.o],(((ev.o.setCell (p:=⟨w.heap.size+1,0,none⟩) (by show w.heap.size<=w.heap.size+1;omega) _).setCell (p:=⟨w.heap.size+1,1,none⟩) (by show w.heap.size<=w.heap.size+1;omega) _).setCell (p:=⟨w.heap.size+1,2,none⟩) (by show w.heap.size<=w.heap.size+1;omega) _),fun h=>T_⟩
 have gd:1<=L.length/\L.length<=400:=by
  have:(1:Int)<=(L.length:Int)/\(L.length:Int)<=400:=by simpa[et]using db
  omega
 have cq:=zH gd;go_upto_region 4 with(go_at_call 92;refine(Calls.cT (aS _ _ _ _) db).mono ?_;rintro e w' ⟨rfl,rfl⟩)
 clear db;go_wp2;go_loopw [25] (fun i wr=>∃(k:Nat) (s:qV) (d6:List Tm) (F:aq) (cF:Nat) (I:aq) (cI:Nat) (O:aq) (cO:Nat),i=.int .i64 k/\z_ L s d6 k/\X3 W.heap.size (w.heap.size+1+1) wr (.slice F k cF) (.slice I k cI) (.slice O k cO) (bt s.f) (bt s.i) (bt s.o)/\sN w W wr/\ag w wr) (fun i _=>L.length-(intOf i).toNat)
 case atStart=>exact⟨0,⟨[],[],[]⟩,[],none,0,none,0,none,0,rfl,z_.start L,d4.o,fun _ _=>rfl,ev.o⟩
 case round=>
  obtain⟨k,s,d6,F,cF,I,cI,O,cO,rfl,bp,b2,c8,cu⟩:=hrel;clear d0 d4;obtain⟨GH,Kv,Kq⟩:=dO (by rw[aQ,bp.len]:(bt s.f).length=k) (by rw[aQ,bp.ok.li,bp.len]:(bt s.i).length=k) (by rw[aQ,bp.ok.lo,bp.len]:(bt s.o).length=k);by_cases gg:k<L.length
  .obtain⟨x,ad⟩:=aB gg;obtain⟨b,o,rfl,e2,c1,c2⟩:=f_ (fz.o wr cu) ad;obtain⟨bd,vv,ss⟩:=x;dsimp only at e2 c1 c2;have gB:k<=400:=Rr;obtain⟨c9,dr⟩:=bA wr (.cells (dG bd vv ss) 95);obtain⟨KP,HS,b3,ct,b1⟩:=mD ad bp (b2.ext c9) (c8.ext FD.o b2.le c9) (cu.trans (c9.mono cu.size));clear ad bp b2 c8 cu;go_upto_region 7 with(fail)
   generalize wr.alloc _=g6 at c9 dr b3 ct b1 ⊢;clear e2 c1 c2 c9;obtain⟨Y,a8,n2⟩:=aG dr;obtain⟨cp,d3⟩:=bD (fun D=>AK bd vv ss D) dr;clear dr;cases Kw:dh ⟨bd,vv,ss.toList.isEmpty⟩
   .rw[Kw]at cp;by_cases eg:bd=17
    .subst eg;obtain⟨KQ,d1⟩:=bD (HS.o.no KP.o (j8 Kw (fun h=>by have:=h.1;simp[er.nd]at this))) (fun D=>yf 17 vv ss D);go_wp2_with (first|(go_at_call 193;refine(cp.o _).mono ?_;rintro e a7 ⟨rfl,bc⟩;have cA:=al bc Y;have eo:=al bc a8;have es:=al bc n2;have bb:=zH bc;clear bc)|(go_at_call 194;refine(d1.o _).mono ?_;rintro e ao ⟨rfl,b5⟩;have fd:=al b5 cA;have g4:=al b5 eo;have g5:=al b5 es;have co:=zH (bb.o.trans (b5.mono bb.o.size));obtain⟨ab,ac,z2⟩:=aG (b3.o.ext co.o).box;have cz:=((ct.o.ext FD.o b3.o.le co.o) 1 Rr).trans HY.o;obtain⟨r0,r1,r2⟩:=aG cz;have f0:=aK cz 0;have f1:=aK cz 1;have f2:=aK cz 2;have fa:=fM (v0:=.slice F k cF) (v1:=.slice I k cI) (v2:=.slice O k cO) cz;obtain⟨u0,u1,u2⟩:=aG fa;have fn:=zH (b1.o.trans (co.o.mono b1.o.size));clear b5 cz fa)|(go_at_call 195;refine(zb1 _ _).mono ?_;rintro e w' ⟨rfl,rfl⟩))
     exact aE (v:=.tuple (jW F k cF I cI O cO)) Uw rfl ⟨_,_,_,_,_,_,_,_,_,by rw[KQ.o],(((fn.o.setCell (p:=⟨w.heap.size+1,0,none⟩) (by show w.heap.size<=w.heap.size+1;omega) _).setCell (p:=⟨w.heap.size+1,1,none⟩) (by show w.heap.size<=w.heap.size+1;omega) _).setCell (p:=⟨w.heap.size+1,2,none⟩) (by show w.heap.size<=w.heap.size+1;omega) _),fun h=>T_⟩
    have f8:(bd==17)=false:=by simpa using eg
    go_upto_region 17 with(go_at_call 193;refine(cp.o _).mono ?_;rintro e a7 ⟨rfl,bc⟩;have cA:=al bc Y;have bb:=zH bc;clear bc)
    clear Y a8 n2 cA;obtain⟨J,Kt,EP⟩:=dO (b3.o.ext bb.o) (ct.o.ext FD.o b3.o.le bb.o) (b1.o.trans (bb.o.mono b1.o.size));obtain⟨Y,a8,n2⟩:=aG (ah d3.o bb.o);obtain⟨ab,ac,z2⟩:=aG J.o.box;clear b3 ct b1 d3 cp eg;by_cases eb:bd=15∨bd=16
    rotate_left
    .have g2:(bd !=15)=true:=RS;have g3:(bd !=16)=true:=RS;have KQ:=zH (HS.o.no KP.o (j8 Kw (fun h=>eb h.1)));clear eb;have KM:=(Kt.o 1 Rr).trans HY.o;obtain⟨r0,r1,r2⟩:=aG KM;obtain⟨f0,f1,f2⟩:=bR KM;have Kn:=fM (v0:=.slice F k cF) (v1:=.slice I k cI) (v2:=.slice O k cO) KM;obtain⟨u0,u1,u2⟩:=aG Kn;clear Kn KM;go_wp2;exact aE (v:=.tuple (jW F k cF I cI O cO)) Uw rfl ⟨_,_,_,_,_,_,_,_,_,by rw[KQ.o],(((EP.o.setCell (p:=⟨w.heap.size+1,0,none⟩) (by show w.heap.size<=w.heap.size+1;omega) _).setCell (p:=⟨w.heap.size+1,1,none⟩) (by show w.heap.size<=w.heap.size+1;omega) _).setCell (p:=⟨w.heap.size+1,2,none⟩) (by show w.heap.size<=w.heap.size+1;omega) _),fun h=>T_⟩
    rcases eb with rfl|rfl
    .skip
     by_cases hn:ss.toList.isEmpty=true
     rotate_left
     .exact ZV
     have KI:(ss.toList==[])=true:=by cases e:ss.toList <;>simp_all
     have KE:(!ss.toList==[])=false:=by rw[KI];rfl
     by_cases hv:vv=0
     rotate_left
     .exact ZO
     by_cases h2:2<=k
     rotate_left
     .exact ZT
     obtain⟨t1,t2,t3,t4,f7,KA⟩:=sh HS.o.ok.ch (by rw[HS.o.len];omega);rw[HS.o.len]at t1 t2 t3 t4 KA;obtain⟨Z,Jj⟩:=aM (k-1);have Kp:=fun(b6:1<=s.f.getD (k-1) 0)=>Ad (s:=s) (n:=(⟨15,vv,ss⟩:er).nd) (au rfl) hv hn (by rw[HS.o.len];exact h2) (by rw[HS.o.len];exact b6)
     rw[HS.o.len]at Kp;obtain⟨fb,FY⟩:=aM (s.f.getD (k-1) 0);obtain⟨am,Ky⟩:=aM (s.i.getD (k-1) 0);obtain⟨T,KJ⟩:=aM (s.o.getD (k-1) 0);have Ks:=fun(h:¬1<=fb)=>HS.o.no KP.o (j8 Kw (fun h'=>h VN))
     rw[<-FY]at t2 Kp KA;rw[<-Ky]at t3 Kp;rw[<-KJ]at t4 Kp;have Kr:∀(l:bO) (j:Nat),j < (bt l).length->(bt l)[j]?=some ((l.getD j 0:Nat):Int):=fun l j b6=>dJ (yN (by rw[aQ]at b6;exact b6))
     obtain⟨gf,KF,rfl,KD⟩:=(ma J.o.o1).here (k:=Z) SK;obtain⟨gi,oi,rfl,KB⟩:=(ma J.o.o2).here (k:=Z) SJ;obtain⟨go,oo,rfl,Kx⟩:=(ma J.o.o3).here (k:=Z) SH;have d8:=KD Z (fb:Nat) VE;have KL:=KB Z (am:Nat) VD;have KO:=Kx Z (T:Nat) VC;have gs:IntKind.i64.wrap ((k:Int)-1)=(Z:Int):=Sq;have e7:Z<k:=Rr;by_cases h1:1<=fb
     rotate_left
     .exact ZX
     have bo:=Kp h1;obtain⟨t5,t6,t7,t8,-⟩:=sh KA h1;obtain⟨a,b4⟩:=aM (fb-1);rw[<-b4]at bo t6 t7 t8;obtain⟨a3,Ko⟩:=aM (s.f.getD a 0);obtain⟨R,Kz⟩:=aM (s.i.getD a 0);obtain⟨U,KG⟩:=aM (s.o.getD a 0);have a4:=KD a (a3:Nat) Vx;have c6:=KB a (R:Nat) Vw;have c7:=Kx a (U:Nat) Vv;rw[<-Ko]at bo t6;rw[<-Kz]at bo t7;rw[<-KG]at bo t8;have e9:IntKind.i64.wrap ((fb:Int)-1)=(a:Int):=Sq;have gw:IntKind.i64.wrap ((R:Int)+(am:Int))=(R:Int)+(am:Int):=Sq;have gA:IntKind.i64.wrap ((U:Int)+(T:Int))=(U:Int)+(T:Int):=Sq;have f9:a<k:=Rr;have Ku:(1:Int)<=fb:=Rr;have KH:(2:Int)<=k:=Rr;have N:=aF ac (aF z2 (aF c6 (aF KL (aF c7 KO))));obtain⟨c3,ey,e1,fx,f3⟩:=mD bo t7 t4 t3 t8;clear hn Ks Kp FY Ky KJ KD KB Kx c6 KL c7 KO Jj Kr t1 t2 t3 t4 t5 t6 t7 t8 KA bo b4 Ko Kz KG h2 h1;subst hv;go_upto_region 21 with(fail)
     replace Kt:=zH (Kt.o.ext FD.o J.o.le (az a7));replace J:=zH (J.o.ext (az a7));replace EP:=zH (EP.o.trans ((az a7).mono EP.o.size))
     replace Y:=al (az a7) Y;replace a4:=al (az a7) a4
     clear a8 n2 ab ac z2;go_region_held3 (fun D=>ae D (w.heap.size+1+1) 1 (.slice (some ⟨gi,oi,none⟩) k cI)/\ae D (w.heap.size+1+1) 2 (.slice (some ⟨go,oo,none⟩) k cO)/\ae D gi (oi+a) (.int .i64 (R:Nat))/\ae D gi (oi+Z) (.int .i64 (am:Nat))/\ae D go (oo+a) (.int .i64 (U:Nat))/\ae D go (oo+Z) (.int .i64 (T:Nat)))
      (first|with_reducible exact N|with_reducible exact mx (az _) N) (fail)
     replace N:=mx (az a7) N
     generalize a7.drew=ao at J Kt EP Y a4 N ⊢;obtain⟨ab,ac,z2⟩:=aG J.o.box;have a8:=Y;have n2:=Y;clear d8;by_cases hq:U=am
     rotate_left
     .have gn:((U:Int)!=(am:Int))=true:=RS;have KQ:=zH (HS.o.no KP.o (c3.o.2 (by show fG 15 (R,U) (am,T)=none;unfold fG;rw[ay rfl,av hq])));clear hq;go_upto_region 23 with(fail)
      replace Kt:=zH (Kt.o.ext FD.o J.o.le (az ao));replace J:=zH (J.o.ext (az ao));replace EP:=zH (EP.o.trans ((az ao).mono EP.o.size))
      replace Y:=al (az ao) Y;replace a4:=al (az ao) a4
      clear a8 n2 ab ac z2;go_region_held3 (fun D=>ae D (w.heap.size+1+1) 1 (.slice (some ⟨gi,oi,none⟩) k cI)/\ae D (w.heap.size+1+1) 2 (.slice (some ⟨go,oo,none⟩) k cO)/\ae D gi (oi+a) (.int .i64 (R:Nat))/\ae D gi (oi+Z) (.int .i64 (am:Nat))/\ae D go (oo+a) (.int .i64 (U:Nat))/\ae D go (oo+Z) (.int .i64 (T:Nat)))
       (first|with_reducible exact N|with_reducible exact mx (az _) N) (fail)
      replace N:=mx (az ao) N
      generalize ao.drew=ck at J Kt EP Y a4 N ⊢;obtain⟨ab,ac,z2⟩:=aG J.o.box;have a8:=Y;have n2:=Y;clear Y a8 n2 a4 N;have KM:=(Kt.o 1 Rr).trans HY.o;obtain⟨r0,r1,r2⟩:=aG KM;obtain⟨f0,f1,f2⟩:=bR KM;have Kn:=fM (v0:=.slice (some ⟨gf,KF,none⟩) k cF) (v1:=.slice (some ⟨gi,oi,none⟩) k cI) (v2:=.slice (some ⟨go,oo,none⟩) k cO) KM;obtain⟨u0,u1,u2⟩:=aG Kn;clear Kn KM;go_wp2;exact aE (v:=.tuple (jW (some ⟨gf,KF,none⟩) k cF (some ⟨gi,oi,none⟩) cI (some ⟨go,oo,none⟩) cO)) Uw rfl ⟨_,_,_,_,_,_,_,_,_,by rw[KQ.o],(((EP.o.setCell (p:=⟨w.heap.size+1,0,none⟩) (by show w.heap.size<=w.heap.size+1;omega) _).setCell (p:=⟨w.heap.size+1,1,none⟩) (by show w.heap.size<=w.heap.size+1;omega) _).setCell (p:=⟨w.heap.size+1,2,none⟩) (by show w.heap.size<=w.heap.size+1;omega) _),fun h=>T_⟩
     subst hq;have bz:=c3.o.1 (R,T) (by show fG 15 (R,U) (U,T)=_;unfold fG;rw[ay rfl,ay rfl]);dsimp only at bz;obtain⟨c5,cj⟩:=HS.o.step KP.o bz (by show(s.f++[a3]).length=_;rw[bx,HS.o.len];rfl);obtain⟨c0,GI,KC,Jk⟩:=fU cj (SG:bt (s.add a3 R T).f=bt s.f++[(a3:Int)]) (SG:bt (s.add a3 R T).i=bt s.i++[(R:Int)]) (SG:bt (s.add a3 R T).o=bt s.o++[(T:Int)]);have gn:((U:Int)!=(U:Int))=false:=Rq;clear bz cj;go_upto_region 23 with(fail)
     replace Kt:=zH (Kt.o.ext FD.o J.o.le (az ao));replace J:=zH (J.o.ext (az ao));replace EP:=zH (EP.o.trans ((az ao).mono EP.o.size))
     replace Y:=al (az ao) Y;replace a4:=al (az ao) a4
     clear a8 n2 ab ac z2;go_region_held3 (fun D=>ae D (w.heap.size+1+1) 1 (.slice (some ⟨gi,oi,none⟩) k cI)/\ae D (w.heap.size+1+1) 2 (.slice (some ⟨go,oo,none⟩) k cO)/\ae D gi (oi+a) (.int .i64 (R:Nat))/\ae D gi (oi+Z) (.int .i64 (U:Nat))/\ae D go (oo+a) (.int .i64 (U:Nat))/\ae D go (oo+Z) (.int .i64 (T:Nat)))
      (first|with_reducible exact N|with_reducible exact mx (az _) N) (fail)
     replace N:=mx (az ao) N
     generalize ao.drew=ck at J Kt EP Y a4 N ⊢;obtain⟨ab,ac,z2⟩:=aG J.o.box;have a8:=Y;have n2:=Y;go_upto_region 25 with(fail)
     replace Kt:=zH (Kt.o.ext FD.o J.o.le (az ck));replace J:=zH (J.o.ext (az ck));replace EP:=zH (EP.o.trans ((az ck).mono EP.o.size))
     replace Y:=al (az ck) Y;replace a4:=al (az ck) a4
     clear a8 n2 ab ac z2;go_region_held3 (fun D=>ae D (w.heap.size+1+1) 1 (.slice (some ⟨gi,oi,none⟩) k cI)/\ae D (w.heap.size+1+1) 2 (.slice (some ⟨go,oo,none⟩) k cO)/\ae D gi (oi+a) (.int .i64 (R:Nat))/\ae D gi (oi+Z) (.int .i64 (U:Nat))/\ae D go (oo+a) (.int .i64 (U:Nat))/\ae D go (oo+Z) (.int .i64 (T:Nat)))
      (first|with_reducible exact N|with_reducible exact mx (az _) N) (fail)
     replace N:=mx (az ck) N
     generalize ck.drew=cn at J Kt EP Y a4 N ⊢;obtain⟨ab,ac,z2⟩:=aG J.o.box;have a8:=Y;have n2:=Y;clear N;have ga:(R:Int)<=12:=by have:=ey.o;omega
     have gb:(T:Int)<=12:=by have:=e1.o;omega
     obtain⟨bi,d5,cB⟩:=dO (J.o.ext (az cn)) (Kt.o.ext FD.o J.o.le (az cn)) (EP.o.trans ((az cn).mono EP.o.size));have b7:=al (az cn) ab;have d9:=al (az cn) a4;go_upto_region 28 with(fail)
     clear ab ac z2 Y a8 n2;refine cR (S:=fun D=>ae D (w.heap.size+1+1) 0 (.slice (some ⟨gf,KF,none⟩) k cF)) 10 RP b7 (fun hHeld=>?_);refine aP 0 ?_;simp only[Act.put,zA];refine aP 1 ?_;simp only[Act.put,zA];refine aP 2 ?_;simp only[Act.put,zA];refine aP 3 ?_;simp only[Act.put,zA];refine aP 4 ?_;simp only[Act.put,zA];refine aP 5 ?_;simp only[Act.put,zA];refine cw 6 fun K hK=>?_
     go_simp;refine hK.out _ _ (fun _=>b7) (fun hHeld=>?_);clear hK K hHeld;try simp only[Act.put,zA]
     refine cw 7 fun K hK=>?_
     go_simp;refine hK.out _ _ (fun _=>al (ak _ _) b7) (fun hHeld=>?_);clear hK K hHeld;try simp only[Act.put,zA]
     refine cw 8 fun K hK=>?_
     refine fN nH rfl (.tmp 180) (.tmp 186) rfl W.heap.size (cn.drew.alloc (.cells (bs (a3:Int)) 3)) (.slice (some ⟨gf,KF,none⟩) k cF) (bt s.f) (a3:Int) [.int .i64 (a3:Int)] cn.drew.heap.size ((bi.o.o1).ext (ak _ _)) rfl TK (iV.flat ((bi.o.o1).ext (ak _ _)) (aR bi.o.le (ak _ _).size) fun _=>rfl) SK (aR bi.o.le (ak _ _).size) rfl rfl (aC cn.drew _ rfl) ?_;intro ce ca dc V a2 a1 H;rw[GH.o]at V ⊢;obtain⟨ad,G⟩:=X3.zhg bi.o a2 a1 H V;obtain⟨a9,bg,p2⟩:=aG G;obtain⟨a5,ba,a6⟩:=bR G;obtain⟨ap,bq,b8⟩:=dO ad (((cB.o.alloc cB.o.size (.cells (bs (a3:Int)) 3)).trans (H.mono Ts)).setCell (p:=⟨w.heap.size+1+1,0,none⟩) (by show w.heap.size<=w.heap.size+1+1;omega) (.slice (some ⟨ce,0,none⟩) (k+1) ca)) (sN.grow (i:=0) (x:=.slice (some ⟨ce,0,none⟩) (k+1) ca) (d5.o.ext FD.o bi.o.le (ak _ _)) FD.o H);clear V a2 a1 H ad G;refine hK.out _ _ (fun _=>a9) (fun hHeld=>?_);clear hK K hHeld;try simp only[Act.put,zA]
     refine cw 9 fun K hK=>?_
     go_simp;refine hK.out _ _ (fun _=>a9) (fun hHeld=>?_);clear hK K hHeld;try simp only[Act.put,zA]
     refine cw 10 fun K hK=>?_
     go_simp;refine hK.out _ _ (fun h=>absurd h Rs) (fun _=>?_);clear hK K;try simp only[Act.put,zA]
     refine gN RP ?_ _;clear b7 d9 a4;clear a9 bg p2 a5 ba a6;try clear ab ac z2
     generalize dc.setCell ⟨w.heap.size+1+1,0,none⟩ _=bu at ap bq b8 ⊢;obtain⟨ab,ac,z2⟩:=aG ap.o.box;go_upto_region 30 with((at_builtin;refine cL nH rfl (.tmp 190) (.tmp 192) rfl W.heap.size (bu.alloc (.cells (bs (R:Int)) 3)) (.slice (some ⟨gi,oi,none⟩) k cI) (bt s.i) (R:Int) [.int .i64 (R:Int)] bu.heap.size ((ap.o.o2).ext (ak _ _)) rfl TK (iV.flat ((ap.o.o2).ext (ak _ _)) (aR ap.o.le (ak _ _).size) fun _=>rfl) SJ (aR ap.o.le (ak _ _).size) rfl rfl (aC bu _ rfl) ?_;intro ch cb dl V a2 a1 H;rw[Kv.o]at V ⊢;obtain⟨ad,G⟩:=X3.zeL ap.o a2 a1 H V;obtain⟨a9,bg,p2⟩:=aG G;have a5:=aK G 0;have ba:=aK G 1;have a6:=aK G 2;have a0:=zH ad;have br:=zH (((bq.o.alloc bq.o.size (.cells (bs (R:Int)) 3)).trans (H.mono Ts)).setCell (p:=⟨w.heap.size+1+1,1,none⟩) (by show w.heap.size<=w.heap.size+1+1;omega) (.slice (some ⟨ch,0,none⟩) (k+1) cb));have b9:=zH (sN.grow (i:=1) (x:=.slice (some ⟨ch,0,none⟩) (k+1) cb) (b8.o.ext FD.o ap.o.le (ak _ _)) FD.o H);clear V a2 a1 H ad G))
     clear a9 bg p2 a5 ba a6;try clear ab ac z2
     generalize dl.setCell ⟨w.heap.size+1+1,1,none⟩ _=bv at a0 br b9 ⊢;obtain⟨ab,ac,z2⟩:=aG a0.o.box;go_wp2_with ((at_builtin;refine cL nH rfl (.tmp 196) (.tmp 198) rfl W.heap.size (bv.alloc (.cells (bs (T:Int)) 3)) (.slice (some ⟨go,oo,none⟩) k cO) (bt s.o) (T:Int) [.int .i64 (T:Int)] bv.heap.size ((a0.o.o3).ext (ak _ _)) rfl TK (iV.flat ((a0.o.o3).ext (ak _ _)) (aR a0.o.le (ak _ _).size) fun _=>rfl) SH (aR a0.o.le (ak _ _).size) rfl rfl (aC bv _ rfl) ?_;intro ci cc a7 V a2 a1 H;rw[Kq.o]at V ⊢;obtain⟨ad,G⟩:=X3.zeM a0.o a2 a1 H V;obtain⟨a9,bg,p2⟩:=aG G;have a5:=aK G 0;have ba:=aK G 1;have a6:=aK G 2;have KK:=zH ad;have bb:=zH (((br.o.alloc br.o.size (.cells (bs (T:Int)) 3)).trans (H.mono Ts)).setCell (p:=⟨w.heap.size+1+1,2,none⟩) (by show w.heap.size<=w.heap.size+1+1;omega) (.slice (some ⟨ci,0,none⟩) (k+1) cc));have c4:=zH (sN.grow (i:=2) (x:=.slice (some ⟨ci,0,none⟩) (k+1) cc) (b9.o.ext FD.o a0.o.le (ak _ _)) FD.o H);clear V a2 a1 H ad G))
     go_roundw
     case rel=>exact⟨k+1,s.add a3 R T,c5,_,_,_,_,_,_,Rt,c0.o,U5,c4.o,bb.o⟩
     case measure=>simp[intOf];omega
    .skip
     by_cases hn:ss.toList.isEmpty=true
     rotate_left
     .exact ZV
     have KI:(ss.toList==[])=true:=by cases e:ss.toList <;>simp_all
     have KE:(!ss.toList==[])=false:=by rw[KI];rfl
     by_cases hv:vv=0
     rotate_left
     .exact ZO
     by_cases h2:2<=k
     rotate_left
     .exact ZT
     obtain⟨t1,t2,t3,t4,f7,KA⟩:=sh HS.o.ok.ch (by rw[HS.o.len];omega);rw[HS.o.len]at t1 t2 t3 t4 KA;obtain⟨Z,Jj⟩:=aM (k-1);have Kp:=fun(b6:1<=s.f.getD (k-1) 0)=>Ad (s:=s) (n:=(⟨16,vv,ss⟩:er).nd) (an rfl) hv hn (by rw[HS.o.len];exact h2) (by rw[HS.o.len];exact b6)
     rw[HS.o.len]at Kp;obtain⟨fb,FY⟩:=aM (s.f.getD (k-1) 0);obtain⟨am,Ky⟩:=aM (s.i.getD (k-1) 0);obtain⟨T,KJ⟩:=aM (s.o.getD (k-1) 0);have Ks:=fun(h:¬1<=fb)=>HS.o.no KP.o (j8 Kw (fun h'=>h VN))
     rw[<-FY]at t2 Kp KA;rw[<-Ky]at t3 Kp;rw[<-KJ]at t4 Kp;have Kr:∀(l:bO) (j:Nat),j < (bt l).length->(bt l)[j]?=some ((l.getD j 0:Nat):Int):=fun l j b6=>dJ (yN (by rw[aQ]at b6;exact b6))
     obtain⟨gf,KF,rfl,KD⟩:=(ma J.o.o1).here (k:=Z) SK;obtain⟨gi,oi,rfl,KB⟩:=(ma J.o.o2).here (k:=Z) SJ;obtain⟨go,oo,rfl,Kx⟩:=(ma J.o.o3).here (k:=Z) SH;have d8:=KD Z (fb:Nat) VE;have KL:=KB Z (am:Nat) VD;have KO:=Kx Z (T:Nat) VC;have gs:IntKind.i64.wrap ((k:Int)-1)=(Z:Int):=Sq;have e7:Z<k:=Rr;by_cases h1:1<=fb
     rotate_left
     .exact ZX
     have bo:=Kp h1;obtain⟨t5,t6,t7,t8,-⟩:=sh KA h1;obtain⟨a,b4⟩:=aM (fb-1);rw[<-b4]at bo t6 t7 t8;obtain⟨a3,Ko⟩:=aM (s.f.getD a 0);obtain⟨R,Kz⟩:=aM (s.i.getD a 0);obtain⟨U,KG⟩:=aM (s.o.getD a 0);have a4:=KD a (a3:Nat) Vx;have c6:=KB a (R:Nat) Vw;have c7:=Kx a (U:Nat) Vv;rw[<-Ko]at bo t6;rw[<-Kz]at bo t7;rw[<-KG]at bo t8;have e9:IntKind.i64.wrap ((fb:Int)-1)=(a:Int):=Sq;have gw:IntKind.i64.wrap ((R:Int)+(am:Int))=(R:Int)+(am:Int):=Sq;have gA:IntKind.i64.wrap ((U:Int)+(T:Int))=(U:Int)+(T:Int):=Sq;have f9:a<k:=Rr;have Ku:(1:Int)<=fb:=Rr;have KH:(2:Int)<=k:=Rr;have N:=aF ac (aF z2 (aF c6 (aF KL (aF c7 KO))));obtain⟨c3,ey,e1,fx,f3⟩:=mD bo t7 t4 t3 t8;clear hn Ks Kp FY Ky KJ KD KB Kx c6 KL c7 KO Jj Kr t1 t2 t3 t4 t5 t6 t7 t8 KA bo b4 Ko Kz KG h2 h1;subst hv;go_upto_region 21 with(fail)
     replace Kt:=zH (Kt.o.ext FD.o J.o.le (az a7));replace J:=zH (J.o.ext (az a7));replace EP:=zH (EP.o.trans ((az a7).mono EP.o.size))
     replace Y:=al (az a7) Y;replace a4:=al (az a7) a4
     clear a8 n2 ab ac z2;go_region_held3 (fun D=>ae D (w.heap.size+1+1) 1 (.slice (some ⟨gi,oi,none⟩) k cI)/\ae D (w.heap.size+1+1) 2 (.slice (some ⟨go,oo,none⟩) k cO)/\ae D gi (oi+a) (.int .i64 (R:Nat))/\ae D gi (oi+Z) (.int .i64 (am:Nat))/\ae D go (oo+a) (.int .i64 (U:Nat))/\ae D go (oo+Z) (.int .i64 (T:Nat)))
      (first|with_reducible exact N|with_reducible exact mx (az _) N) (fail)
     replace N:=mx (az a7) N
     generalize a7.drew=ao at J Kt EP Y a4 N ⊢;obtain⟨ab,ac,z2⟩:=aG J.o.box;have a8:=Y;have n2:=Y;clear d8;by_cases hq:R+am<=12/\U+T<=12
     rotate_left
     .have KQ:=zH (HS.o.no KP.o (c3.o.2 (by show fG 16 (R,U) (am,T)=none;unfold fG;rw[av Rs,ay rfl,av hq])));clear a4 N;by_cases gL:(12:Int) < (R:Int)+(am:Int)
      .exact ZQ
      .have g0:(12:Int) < (U:Int)+(T:Int):=Rr;exact ZQ
     have bz:=c3.o.1 (R+am,U+T) (by show fG 16 (R,U) (am,T)=_;unfold fG;rw[av Rs,ay rfl,ay hq]);dsimp only at bz;obtain⟨c5,cj⟩:=HS.o.step KP.o bz (by show(s.f++[a3]).length=_;rw[bx,HS.o.len];rfl);obtain⟨c0,GI,KC,Jk⟩:=fU cj (SG:bt (s.add a3 (R+am) (U+T)).f=bt s.f++[(a3:Int)]) (SG:bt (s.add a3 (R+am) (U+T)).i=bt s.i++[(R:Int)+(am:Int)]) (SG:bt (s.add a3 (R+am) (U+T)).o=bt s.o++[(U:Int)+(T:Int)]);have ga:(R:Int)+(am:Int)<=12:=Rr;have gb:(U:Int)+(T:Int)<=12:=Rr;clear bz cj hq N;obtain⟨bi,d5,cB⟩:=dO (J.o.ext (az ao)) (Kt.o.ext FD.o J.o.le (az ao)) (EP.o.trans ((az ao).mono EP.o.size));have b7:=al (az ao) ab;have d9:=al (az ao) a4;go_upto_region 28 with(fail)
     clear ab ac z2 Y a8 n2;refine cR (S:=fun D=>ae D (w.heap.size+1+1) 0 (.slice (some ⟨gf,KF,none⟩) k cF)) 10 RP b7 (fun hHeld=>?_);refine aP 0 ?_;simp only[Act.put,zA];refine aP 1 ?_;simp only[Act.put,zA];refine aP 2 ?_;simp only[Act.put,zA];refine aP 3 ?_;simp only[Act.put,zA];refine aP 4 ?_;simp only[Act.put,zA];refine aP 5 ?_;simp only[Act.put,zA];refine cw 6 fun K hK=>?_
     go_simp;refine hK.out _ _ (fun _=>b7) (fun hHeld=>?_);clear hK K hHeld;try simp only[Act.put,zA]
     refine cw 7 fun K hK=>?_
     go_simp;refine hK.out _ _ (fun _=>al (ak _ _) b7) (fun hHeld=>?_);clear hK K hHeld;try simp only[Act.put,zA]
     refine cw 8 fun K hK=>?_
     refine fN nH rfl (.tmp 180) (.tmp 186) rfl W.heap.size (ao.drew.alloc (.cells (bs (a3:Int)) 3)) (.slice (some ⟨gf,KF,none⟩) k cF) (bt s.f) (a3:Int) [.int .i64 (a3:Int)] ao.drew.heap.size ((bi.o.o1).ext (ak _ _)) rfl TK (iV.flat ((bi.o.o1).ext (ak _ _)) (aR bi.o.le (ak _ _).size) fun _=>rfl) SK (aR bi.o.le (ak _ _).size) rfl rfl (aC ao.drew _ rfl) ?_;intro ce ca dc V a2 a1 H;rw[GH.o]at V ⊢;obtain⟨ad,G⟩:=X3.zhg bi.o a2 a1 H V;obtain⟨a9,bg,p2⟩:=aG G;obtain⟨a5,ba,a6⟩:=bR G;obtain⟨ap,bq,b8⟩:=dO ad (((cB.o.alloc cB.o.size (.cells (bs (a3:Int)) 3)).trans (H.mono Ts)).setCell (p:=⟨w.heap.size+1+1,0,none⟩) (by show w.heap.size<=w.heap.size+1+1;omega) (.slice (some ⟨ce,0,none⟩) (k+1) ca)) (sN.grow (i:=0) (x:=.slice (some ⟨ce,0,none⟩) (k+1) ca) (d5.o.ext FD.o bi.o.le (ak _ _)) FD.o H);clear V a2 a1 H ad G;refine hK.out _ _ (fun _=>a9) (fun hHeld=>?_);clear hK K hHeld;try simp only[Act.put,zA]
     refine cw 9 fun K hK=>?_
     go_simp;refine hK.out _ _ (fun _=>a9) (fun hHeld=>?_);clear hK K hHeld;try simp only[Act.put,zA]
     refine cw 10 fun K hK=>?_
     go_simp;refine hK.out _ _ (fun h=>absurd h Rs) (fun _=>?_);clear hK K;try simp only[Act.put,zA]
     refine gN RP ?_ _;clear b7 d9 a4;clear a9 bg p2 a5 ba a6;try clear ab ac z2
     generalize dc.setCell ⟨w.heap.size+1+1,0,none⟩ _=bu at ap bq b8 ⊢;obtain⟨ab,ac,z2⟩:=aG ap.o.box;go_upto_region 30 with((at_builtin;refine cL nH rfl (.tmp 190) (.tmp 192) rfl W.heap.size (bu.alloc (.cells (bs ((R:Int)+(am:Int))) 3)) (.slice (some ⟨gi,oi,none⟩) k cI) (bt s.i) ((R:Int)+(am:Int)) [.int .i64 ((R:Int)+(am:Int))] bu.heap.size ((ap.o.o2).ext (ak _ _)) rfl TK (iV.flat ((ap.o.o2).ext (ak _ _)) (aR ap.o.le (ak _ _).size) fun _=>rfl) SJ (aR ap.o.le (ak _ _).size) rfl rfl (aC bu _ rfl) ?_;intro ch cb dl V a2 a1 H;rw[Kv.o]at V ⊢;obtain⟨ad,G⟩:=X3.zeL ap.o a2 a1 H V;obtain⟨a9,bg,p2⟩:=aG G;have a5:=aK G 0;have ba:=aK G 1;have a6:=aK G 2;have a0:=zH ad;have br:=zH (((bq.o.alloc bq.o.size (.cells (bs ((R:Int)+(am:Int))) 3)).trans (H.mono Ts)).setCell (p:=⟨w.heap.size+1+1,1,none⟩) (by show w.heap.size<=w.heap.size+1+1;omega) (.slice (some ⟨ch,0,none⟩) (k+1) cb));have b9:=zH (sN.grow (i:=1) (x:=.slice (some ⟨ch,0,none⟩) (k+1) cb) (b8.o.ext FD.o ap.o.le (ak _ _)) FD.o H);clear V a2 a1 H ad G))
     clear a9 bg p2 a5 ba a6;try clear ab ac z2
     generalize dl.setCell ⟨w.heap.size+1+1,1,none⟩ _=bv at a0 br b9 ⊢;obtain⟨ab,ac,z2⟩:=aG a0.o.box;go_wp2_with ((at_builtin;refine cL nH rfl (.tmp 196) (.tmp 198) rfl W.heap.size (bv.alloc (.cells (bs ((U:Int)+(T:Int))) 3)) (.slice (some ⟨go,oo,none⟩) k cO) (bt s.o) ((U:Int)+(T:Int)) [.int .i64 ((U:Int)+(T:Int))] bv.heap.size ((a0.o.o3).ext (ak _ _)) rfl TK (iV.flat ((a0.o.o3).ext (ak _ _)) (aR a0.o.le (ak _ _).size) fun _=>rfl) SH (aR a0.o.le (ak _ _).size) rfl rfl (aC bv _ rfl) ?_;intro ci cc a7 V a2 a1 H;rw[Kq.o]at V ⊢;obtain⟨ad,G⟩:=X3.zeM a0.o a2 a1 H V;obtain⟨a9,bg,p2⟩:=aG G;have a5:=aK G 0;have ba:=aK G 1;have a6:=aK G 2;have KK:=zH ad;have bb:=zH (((br.o.alloc br.o.size (.cells (bs ((U:Int)+(T:Int))) 3)).trans (H.mono Ts)).setCell (p:=⟨w.heap.size+1+1,2,none⟩) (by show w.heap.size<=w.heap.size+1+1;omega) (.slice (some ⟨ci,0,none⟩) (k+1) cc));have c4:=zH (sN.grow (i:=2) (x:=.slice (some ⟨ci,0,none⟩) (k+1) cc) (b9.o.ext FD.o a0.o.le (ak _ _)) FD.o H);clear V a2 a1 H ad G))
     go_roundw
     case rel=>exact⟨k+1,s.add a3 (R+am) (U+T),c5,_,_,_,_,_,_,Rt,c0.o,U5,c4.o,bb.o⟩
     case measure=>simp[intOf];omega
   .rw[Kw]at cp;have gc:bd<=14:=by
     have:=Kw;unfold dh at this;simp only[bE]at this;have ei:=this.2;split at ei
     .omega
     .split at ei
      .omega
      .simp at ei;omega
    have f8:(bd==17)=false:=RS;obtain⟨a,b4⟩:=aM (nW ⟨bd,vv,ss.toList.isEmpty⟩);obtain⟨b0,ej⟩:=aM (qJ ⟨bd,vv,ss.toList.isEmpty⟩);have d1:=zH (show ∀D,aw 194 (cy (dG bd vv ss)) D fun e w'=>e=.returned (.tuple (gl a b0))/\ag D w' from fun D=>by rw[b4,ej,<-(zgH Kw).1,<-(zgH Kw).2];exact yf bd vv ss D)
    have bz:=zbN (s:=s) Kw;rw[<-b4,<-ej,HS.o.len]at bz;obtain⟨c5,cj⟩:=HS.o.step KP.o bz (by show(s.f++[k]).length=_;rw[bx,HS.o.len];rfl);obtain⟨c0,GI,KC,Jk⟩:=fU cj (SG:bt (s.add k a b0).f=bt s.f++[(k:Int)]) (SG:bt (s.add k a b0).i=bt s.i++[(a:Int)]) (SG:bt (s.add k a b0).o=bt s.o++[(b0:Int)]);clear bz cj b4 ej gc Kw;go_upto_region 14 with(first|(go_at_call 193;refine(cp.o _).mono ?_;rintro e a7 ⟨rfl,bc⟩;have cA:=al bc Y;have eo:=al bc a8;have es:=al bc n2;have bb:=zH bc;clear bc)|(go_at_call 194;refine(d1.o _).mono ?_;rintro e ao ⟨rfl,b5⟩;have fd:=al b5 cA;have co:=zH (bb.o.trans (b5.mono bb.o.size));clear b5))
    clear Y a8 n2 cA eo es fd;obtain⟨J,Kt,EP⟩:=dO (b3.o.ext co.o) (ct.o.ext FD.o b3.o.le co.o) (b1.o.trans (co.o.mono b1.o.size));obtain⟨ab,ac,z2⟩:=aG J.o.box;clear b3 ct b1 d3 cp;go_upto_region 15 with((at_builtin;refine cL nH rfl (.tmp 68) (.tmp 70) rfl W.heap.size (ao.alloc (.cells (bs (k:Int)) 3)) (.slice F k cF) (bt s.f) (k:Int) [.int .i64 (k:Int)] ao.heap.size ((J.o.o1).ext (ak _ _)) rfl TK (iV.flat ((J.o.o1).ext (ak _ _)) (aR J.o.le (ak _ _).size) fun _=>rfl) SK (aR J.o.le (ak _ _).size) rfl rfl (aC ao _ rfl) ?_;intro ce ca dc V a2 a1 H;rw[GH.o]at V ⊢;obtain⟨ad,G⟩:=X3.zhg J.o a2 a1 H V;obtain⟨a9,bg,p2⟩:=aG G;have a5:=aK G 0;have ba:=aK G 1;have a6:=aK G 2;have ap:=zH ad;have bq:=zH (((EP.o.alloc EP.o.size (.cells (bs (k:Int)) 3)).trans (H.mono Ts)).setCell (p:=⟨w.heap.size+1+1,0,none⟩) (by show w.heap.size<=w.heap.size+1+1;omega) (.slice (some ⟨ce,0,none⟩) (k+1) ca));have b8:=zH (sN.grow (i:=0) (x:=.slice (some ⟨ce,0,none⟩) (k+1) ca) (Kt.o.ext FD.o J.o.le (ak _ _)) FD.o H);clear V a2 a1 H ad G))
    clear a9 bg p2 a5 ba a6;try clear ab ac z2
    generalize dc.setCell ⟨w.heap.size+1+1,0,none⟩ _=bu at ap bq b8 ⊢;obtain⟨ab,ac,z2⟩:=aG ap.o.box;go_upto_region 16 with((at_builtin;refine cL nH rfl (.tmp 74) (.tmp 76) rfl W.heap.size (bu.alloc (.cells (bs (a:Int)) 3)) (.slice I k cI) (bt s.i) (a:Int) [.int .i64 (a:Int)] bu.heap.size ((ap.o.o2).ext (ak _ _)) rfl TK (iV.flat ((ap.o.o2).ext (ak _ _)) (aR ap.o.le (ak _ _).size) fun _=>rfl) SJ (aR ap.o.le (ak _ _).size) rfl rfl (aC bu _ rfl) ?_;intro ch cb dl V a2 a1 H;rw[Kv.o]at V ⊢;obtain⟨ad,G⟩:=X3.zeL ap.o a2 a1 H V;obtain⟨a9,bg,p2⟩:=aG G;have a5:=aK G 0;have ba:=aK G 1;have a6:=aK G 2;have a0:=zH ad;have br:=zH (((bq.o.alloc bq.o.size (.cells (bs (a:Int)) 3)).trans (H.mono Ts)).setCell (p:=⟨w.heap.size+1+1,1,none⟩) (by show w.heap.size<=w.heap.size+1+1;omega) (.slice (some ⟨ch,0,none⟩) (k+1) cb));have b9:=zH (sN.grow (i:=1) (x:=.slice (some ⟨ch,0,none⟩) (k+1) cb) (b8.o.ext FD.o ap.o.le (ak _ _)) FD.o H);clear V a2 a1 H ad G))
    clear a9 bg p2 a5 ba a6;try clear ab ac z2
    generalize dl.setCell ⟨w.heap.size+1+1,1,none⟩ _=bv at a0 br b9 ⊢;obtain⟨ab,ac,z2⟩:=aG a0.o.box;go_wp2_with ((at_builtin;refine cL nH rfl (.tmp 80) (.tmp 82) rfl W.heap.size (bv.alloc (.cells (bs (b0:Int)) 3)) (.slice O k cO) (bt s.o) (b0:Int) [.int .i64 (b0:Int)] bv.heap.size ((a0.o.o3).ext (ak _ _)) rfl TK (iV.flat ((a0.o.o3).ext (ak _ _)) (aR a0.o.le (ak _ _).size) fun _=>rfl) SH (aR a0.o.le (ak _ _).size) rfl rfl (aC bv _ rfl) ?_;intro ci cc a7 V a2 a1 H;rw[Kq.o]at V ⊢;obtain⟨ad,G⟩:=X3.zeM a0.o a2 a1 H V;obtain⟨a9,bg,p2⟩:=aG G;have a5:=aK G 0;have ba:=aK G 1;have a6:=aK G 2;have KK:=zH ad;have bb:=zH (((br.o.alloc br.o.size (.cells (bs (b0:Int)) 3)).trans (H.mono Ts)).setCell (p:=⟨w.heap.size+1+1,2,none⟩) (by show w.heap.size<=w.heap.size+1+1;omega) (.slice (some ⟨ci,0,none⟩) (k+1) cc));have c4:=zH (sN.grow (i:=2) (x:=.slice (some ⟨ci,0,none⟩) (k+1) cc) (b9.o.ext FD.o a0.o.le (ak _ _)) FD.o H);clear V a2 a1 H ad G))
    go_roundw
    case rel=>exact⟨k+1,s.add k a b0,c5,_,_,_,_,_,_,Rt,c0.o,U5,c4.o,bb.o⟩
    case measure=>simp[intOf];omega
  .obtain rfl:k=L.length:=by have:=bp.kl;omega
   obtain⟨e4,ea⟩:=bp.stop rfl cq.o.1 cq.o.2;obtain⟨Z,Jj⟩:=aM (L.length-1);obtain⟨dq,em⟩:=aM (s.f.getD (L.length-1) 0);rw[<-em]at ea;obtain⟨gf,KF,rfl,KD⟩:=(ma b2.o1).here (k:=Z) (by rw[GH.o];have:=cq.o;omega);have e3:=KD Z (dq:Nat) (by rw[em,Jj];exact dJ (yN (by rw[bp.len];have:=cq.o;omega)));have e9:IntKind.i64.wrap ((L.length:Int)-1)=(Z:Int):=by rw[bM];have:=cq.o;omega
   have e7:Z<L.length:=by have:=cq.o;omega
   have G:=b2.box;have dT:=(c8 1 Rr).trans HY.o;have e8:wr.heap[w.heap.size]?=_:=(c8 0 Rr).trans f4.o;obtain⟨ab,ac,z2⟩:=aG G;obtain⟨r0,r1,r2⟩:=aG dT;obtain⟨f0,f1,f2⟩:=bR dT;have d0:=aI e8 0 rfl;have Kn:=fM (v0:=.slice (some ⟨gf,KF,none⟩) L.length cF) (v1:=.slice I L.length cI) (v2:=.slice O L.length cO) dT;obtain⟨u0,u1,u2⟩:=aG Kn;obtain⟨d7,ek⟩:=aM (decide (dq=0));have g1:((dq:Int)==0)=d7:=by rw[ek,jz];simp
   obtain⟨f5,fs,fo,HS⟩:=fU (by rw[ea,ek]:iQ (b_ L)=d7) (ma b2.o1) e4 bp;have e6:gf≠w.heap.size+1:=fun e=>by obtain⟨cs,h⟩:=b2.o1;have:=(bL h.outer gf rfl).1;have:=FD.o;omega
   have d2:=zH e6;have f6:=zH (show ∀a:dk,some (⟨gf,KF,none⟩:dk)=some a->w.heap.size<=a.block from fun a e=>by
    cases e
    obtain⟨cs,h⟩:=b2.o1;have:=(bL h.outer gf rfl).1;have:=FD.o
    show w.heap.size<=gf
    omega)
   obtain⟨cr,e0⟩:=bD (Rr:w.heap.size+1+1≠w.heap.size+1) (Rr:w.heap.size≠w.heap.size+1);have N:=aF ab (aF ac (aF z2 (aF d0 e3)));have fl:=zH cu;clear bp b2 c8 cu KD G dT e8 Kn e4 ea em Jj ek e6 ab ac z2 d0 e3;go_upto_region 32 with(fail)
   go_region_held3 (fun D=>ae D (w.heap.size+1+1) 0 (.slice (some ⟨gf,KF,none⟩) L.length cF)/\ae D (w.heap.size+1+1) 1 (.slice I L.length cI)/\ae D (w.heap.size+1+1) 2 (.slice O L.length cO)/\ae D w.heap.size 0 (.slice A L.length cap)/\ae D gf (KF+Z) (.int .i64 (dq:Nat)))
    (first|with_reducible exact N|with_reducible exact iS (az _) N|with_reducible exact⟨fE cr.o N.1,fE cr.o N.2.1,fE cr.o N.2.2.1,fE e0.o N.2.2.2.1,fE d2.o N.2.2.2.2⟩|with_reducible exact iS (az _) ⟨fE cr.o N.1,fE cr.o N.2.1,fE cr.o N.2.2.1,fE e0.o N.2.2.2.1,fE d2.o N.2.2.2.2⟩) (fail)
   go_wp2;exact aE (v:=.tuple #[.agg #[.slice (some ⟨gf,KF,none⟩) L.length cF,.slice I L.length cI,.slice O L.length cO],.bool d7]) Uw rfl ⟨_,_,_,_,_,_,_,_,_,by rw[f5.o],(((fl.o.setCell (p:=⟨w.heap.size+1,0,none⟩) (by show w.heap.size<=w.heap.size+1;omega) _).setCell (p:=⟨w.heap.size+1,1,none⟩) (by show w.heap.size<=w.heap.size+1;omega) _).setCell (p:=⟨w.heap.size+1,2,none⟩) (by show w.heap.size<=w.heap.size+1;omega) _).drew,fun _=>⟨s,d6,fo.o,HS.o.ok,HS.o.len,rfl,f6.o,((Cs (b:=w.heap.size+1) fs.o fun e=>d2.o (by cases e;rfl)).ext (az _))⟩⟩
end Go.Proofs.YtpieilkmmiopfaaGreatDoor
