/- Parts of the walks and laws (Sy2, Pv0, Pv1). Conditions: as stated with each. -/
import Derived.Test.YtpieilkmmiopfaaGreatDoorPk41
import Derived.Test.YtpieilkmmiopfaaGreatDoorPk45
namespace Go.Proofs.YtpieilkmmiopfaaGreatDoor
open Go.RowKit Tryz
set_option linter.all false
set_option maxHeartbeats 8000000
set_option maxRecDepth 100000
variable{B b d lo:Nat}{J Rg w w':aa}{R Rc Rh Rj Ro T u0 u1 v0 v1 v2 v3 z2:ax}{Y:aq}{g:Gr}{t:du}
theorem ze9(p:Int)(g:Gr)(A1 I T:aq)(c1 c2 ad:Nat)(w:aa)(a6:2<=p)(d5:p<=97)(bv:j6 w A1 I T g)(b0:g.okB=true)(d9:∀e∈g.es,0<=e.v/\e.v<p):aw 77 (ig p (bl g A1 c1 I c2 T ad)) w (zd0 (g.sys p) w):=by
 obtain⟨gd,fs,gb,gc,EK⟩:=de fT;have ao:=Gr.kg.1 b0;have d0:=Gr.rO b0;have fo:g.w<=100:=ao.1;have he:g.es.length<=60:=ao.2.1;have hf:g.i.length<=12:=ao.2.2.1;have hg:g.o.length<=12:=ao.2.2.2.1;obtain⟨bc,II,cn,cO,cp⟩:=mD (fun D (am:ag w D)=>bv.ext am) d0 ao.2.2.2.2.1 d9 (fun D (am:ag w D)=>(by have:=jn I c2 (bt g.i) D (bv.ext am).i Sj;rw[aQ]at this;exact this:aw 70 #[.slice I g.i.length c2] D fun e w'=>∃u,e=.returned u/\aD w' D.heap.size u (bt g.i)/\ag D w'));obtain⟨fq,a8⟩:=aM g.fq;have IM:=zH a8;have ea:(bt g.i++bt g.o).length=fq:=by rw[bx,aQ,aQ,a8];rfl
 have c0:=zH ea;have hh:fq<=24:=by rw[a8];unfold Gr.fq;omega
 obtain⟨F,b1⟩:=aM g.w;have IU:=zH b1;rw[<-b1]at fo ⊢;obtain⟨N,c6⟩:=aM (fq+F);have f7:IntKind.i64.wrap ((fq:Int)+(F:Int))=(N:Int):=Sq;have c7:N<=4096:=Rr;have IZ:=zH c6;have f8:IntKind.i64.wrap (p-1)=p-1:=Sq;have bu:=((aj w.heap.size w).alloc (af _) (.cells (fw F A1 g.es.length c1 I g.i.length c2 T g.o.length ad) 54)).alloc Rq (.cells bj 57);have hq:=(bJ (w.alloc (.cells (fw F A1 g.es.length c1 I g.i.length c2 T g.o.length ad) 54)) (.cells bj 57) (k:=w.heap.size) Rq).trans (aC w _ rfl);have G:=aC (w.alloc (.cells (fw F A1 g.es.length c1 I g.i.length c2 T g.o.length ad) 54)) (.cells bj 57) (n:=w.heap.size+1) Rq;clear bv b0 d9 ao d0 a8 ea b1 c6;go_enter func77,ntmps77
 go_upto_region 1 with(fail)
 generalize (w.alloc _).alloc _=W at bu hq G ⊢;obtain⟨U,V,O,R⟩:=aA hq;obtain⟨Y,bd,cz,e6⟩:=fU bu hq G (show w.heap.size+1<W.heap.size from(aT.1 G).1);have S0:=aF O R;clear bu hq G U V O R;go_region_held3 (fun D=>ae D w.heap.size 2 (.slice I g.i.length c2)/\ae D w.heap.size 3 (.slice T g.o.length ad))
  (first|with_reducible exact ju Fh.o S0|with_reducible exact ju ab.o S0|exact S0)
  ((first|(go_at_call 70;(with_reducible refine(cp.o _ (Y.o.drew)).mono ?_);rintro e ej ⟨u1,rfl,d7,c9⟩;have Fh:=zH ((az W).trans c9);have cI:=zH d7;have cq:=zH (bc.o ej (Y.o.trans (Fh.o.mono Y.o.size))).o;clear d7 c9)|(refine cV rfl (.tmp 15) (.tmp 17) rfl W.heap.size ej u1 (bt g.i) (bt g.o) T g.o.length ad (aQ _).symm rfl rfl cI.o cq.o Sj Fh.o.size ?_;intro v5 w2 d8 E9;obtain⟨gs,gL,bi,dT,-,-⟩:=d8.view;subst bi;have ab:=zH (Fh.o.trans (E9.mono (af _)));have co:=zH dT;rw[c0.o];clear d8 E9 dT)))
 obtain⟨Z,cA,ct⟩:=dO (Y.o.trans (ab.o.mono Y.o.size)) (ah cz.o ab.o) (ah bd.o ab.o);obtain⟨U,V,O,R⟩:=aA (ah bd.o ab.o);have gA:=zH (bc.o w2 Z.o);go_upto_region 3 with(fail)
 obtain⟨H,a9⟩:=bA w2 (.cells #[(fq:Nat),(F:Nat),bW] 57);generalize w2.alloc _=w3 at H a9 ⊢;obtain⟨Gt,ci⟩:=bD (show w2.heap.size<w3.heap.size from(aT.1 a9).1) H;obtain⟨IL,e3⟩:=bD (show Du w3.heap.size w2.heap.size w3 fq F none 0 0 [] from⟨a9,⟨[],qv _ _ _ _,fun k u r h=>RM,fun i j u hr b h=>RM⟩,rfl,Gt.o,af _⟩) (show w.heap.size<=w2.heap.size from Z.o.size);clear H a9 U V O R S0 Y bd cz cp ab cI cq Fh;go_wp2;go_loopw [26] (fun i wr=>∃(k:Nat) (C1:aq) (m1:Nat),k<=fq/\i=.int .i64 k/\Du w3.heap.size w2.heap.size wr fq F C1 k m1 ((g.ends p).take k)/\ag w2 wr) (fun i _=>fq-(intOf i).toNat)
 case atStart=>exact⟨0,none,0,aX _,rfl,IL.o,ci.o⟩
 case round=>
  obtain⟨k,C1,m1,g9,rfl,hS,E9⟩:=hrel;clear IL;by_cases a5:k<fq
  .obtain⟨x,hx⟩:=aB (show k < (g.i++g.o).length by have:=IM.o;rw[bx];unfold Gr.fq at this;omega);obtain⟨gB,gC,rfl,a0⟩:=(co.o.ext E9).here (k:=k) (by rw[c0.o];exact a5);have g6:=a0 k (x:Int) (by rw[<-kI];exact dJ hx);have ga:x<F:=XR;have fa:=zH (by rw[bP,hx];rfl:(g.i++g.o).getD k 0=x);have E_:=zH (show(g.ends p).take (k+1)=(g.ends p).take k++[ku p N [(k,1),(fq+x,p-1)]] from by refine gY ?_;unfold Gr.ends;rw[cC,lJ (by rw[<-IM.o];exact a5),IZ.o,IM.o,IU.o,<-fa.o];rfl)
   obtain⟨y,eb⟩:=aM (fq+x);have hj:IntKind.i64.wrap ((fq:Int)+(x:Int))=(y:Int):=Sq;rw[<-eb]at E_;have IH:y<N:=TA;have IY:k<N:=TA;obtain⟨bg,FU⟩:=bD ((um (p:=p) (n:=N) (L:=[(k,1),(y,p-1)]) a6 (fun q hq=>VM)).1) (fun bq br D (a3:aW D bq (gl k y) 3) (h2:aW D br (qn (p-1)) 3)=>(show aw 112 (yV p N (some ⟨bq,0,none⟩) (some ⟨br,0,none⟩)) D (fun e w'=>∃g,e=.returned (.slice (some ⟨g,0,none⟩) N N)/\ll D.heap.size N g (ku p N [(k,1),(y,p-1)]) w'/\ag D w') from Cw p N [(k,1),(y,p-1)] (some ⟨bq,0,none⟩) (some ⟨br,0,none⟩) 2 2 D a6 d5 c7 Rq (iP a3 rfl) (iP h2 rfl) (fun q hq=>by simp at hq;rcases hq with rfl|rfl;exact⟨IY,SN,SN⟩;exact⟨IH,SN,SN⟩)));obtain⟨row,d6⟩:=aM (ku p N [(k,1),(y,p-1)]);rw[<-d6]at E_ bg FU;obtain⟨z0,z1,z2⟩:=aG hS.box;have S0:=aF z0 (aF z1 z2);obtain⟨IL,Fc⟩:=bD hS E9;clear a0 hx ga eb IH IY d6 hS E9 z0 z1 z2;go_upto_region 6 with(fail)
   refine cR (S:=(fun D=>ae D w2.heap.size 0 (.int .i64 (fq:Nat))/\ae D w2.heap.size 1 (.int .i64 (F:Nat))/\ae D w2.heap.size 2 (.slice C1 k m1))) 19 RP S0 (fun hHeld=>?_);refine aP 0 ?_;simp only[Act.put,zA];refine aP 1 ?_;simp only[Act.put,zA];refine aP 2 ?_;simp only[Act.put,zA];refine aP 3 ?_;simp only[Act.put,zA];refine aP 4 ?_;simp only[Act.put,zA];refine aP 5 ?_;simp only[Act.put,zA];refine aP 6 ?_;simp only[Act.put,zA];refine aP 7 ?_;simp only[Act.put,zA];refine aP 8 ?_;simp only[Act.put,zA];refine aP 9 ?_;simp only[Act.put,zA];refine aP 10 ?_;simp only[Act.put,zA];refine aP 11 ?_;simp only[Act.put,zA];refine aP 12 ?_;simp only[Act.put,zA];refine aP 14 ?_;simp only[Act.put,zA];refine aP 15 ?_;simp only[Act.put,zA];refine zfn (i:=13) (j:=16) RP rfl rfl (fun K hK=>?_) (fun K hK=>?_)
   .go_simp;refine hK.out _ _ (fun _=>kf Wc S0) (fun hHeld=>?_);clear hK K hHeld;try simp only[Act.put,zA]
    refine cw 16 fun K hK=>?_
    exact Z4
   .go_simp;refine hK.out _ _ (fun _=>kf Wc S0) (fun hHeld=>?_);clear hK K hHeld;try simp only[Act.put,zA]
    refine cw 13 fun K hK=>?_
    exact Z4
  .have fx:fq=k:=Rr;subst fx;rw[show(g.ends p).take fq=sR p g 0 from VZ]at hS;obtain⟨U,V,O,R⟩:=aA (ah ct.o E9);obtain⟨cF,ck⟩:=bD hS E9;clear hS E9 f7 f8 c7 ci co;go_wp2;go_loopw [56] (fun i wr=>∃(j m m1:Nat) (C1:aq),j<=g.es.length/\i=.int .i64 j/\Du w3.heap.size w2.heap.size wr fq F C1 m m1 (sR p g j)/\ag w2 wr) (fun i _=>g.es.length-(intOf i).toNat)
   case atStart=>exact⟨0,_,_,_,aX _,rfl,cF.o,ck.o⟩
   case round=>
    obtain⟨j,m,m1,C1,g8,rfl,hS,E9⟩:=hrel;clear cF ck U V O R;by_cases a5:j<g.es.length
    .obtain⟨e,a4⟩:=aB a5;obtain⟨g1,g2,ce,c3,ch,c4,bz,u0,u1,u2,u3,b2,b3⟩:=gZ (bc.o wr (Z.o.trans (E9.mono Z.o.size))).es a4;subst bz;obtain⟨b9,ca,bo,bp⟩:=e;dsimp only at u0 u1 u2 u3 b2 b3;obtain⟨H,b5⟩:=bA wr (.cells (eD b9 ca ce bo c3 ch bp c4) 155);have IS:=aY a4;have cB:=zH (fun D (am:ag wr D)=>zbK p F ⟨b9,ca,bo,bp⟩ ce ch c3 c4 D a6 d5 Rr (b2.ext am) (b3.ext am) (cn.o _ IS) (fun x hx=>VJ) (fun x hx=>VI) (cO.o _ IS).1 (cO.o _ IS).2);obtain⟨J,ap⟩:=aM (((Ed.mk b9 ca bo bp).eqns p).map (ku p F));rw[<-ap]at cB;have IX:=zH (by rw[zcI a4,ap,IM.o,IU.o];rfl:sR p g (j+1)=sR p g j++J.map (zR fq));have bg:=zH (show ∀r∈J,r.length=F from fun r G=>by rw[ap]at G;obtain⟨L,fl,rfl⟩:=cM.1 G;refine(um a6 fun q hq=>?_).1;rw[IU.o];exact Gr.zbI cn.o II.o L (ld.2 ⟨_,IS,fl⟩) q hq)
     have fn:J.length<=2:=by rw[ap,bh];unfold Ed.eqns;split <;>exact vA ..
     have f3:m<=200:=Wa;obtain⟨cu,a1,bb,cj⟩:=fU (ah (ah ct.o E9) H) (hS.ext H) (E9.trans (H.mono E9.size)) H;clear a4 b2 b3 IS ap hS E9;go_upto_region 11 with(fail)
     generalize wr.alloc _=cb at H b5 cu a1 bb cj ⊢;obtain⟨gf,gg,n2,gi⟩:=aA b5;obtain⟨U,V,O,R⟩:=aA cu.o;clear u0 u1 u2 u3 b5 H;go_wp2_with (go_at_call 113;(with_reducible refine(cB.o _ cj.o).mono ?_);intro e ba h;unfold zf9 at h;obtain⟨gw,g0,bi,dq,Gm⟩:=h;subst bi;have ey:=zH dq;have FB:=zH Gm;have e7:=zH (a1.o.ext Gm);have ev:=zH (bb.o.trans (Gm.mono bb.o.size));clear dq Gm)
     have cr:=zH (show ∀g,(Value.slice C1 m m1).ownBlock=some g->g<cb.heap.size from fun g h=>by obtain⟨us,f4⟩:=a1.o.own;exact(bL f4.outer g h).2)
     clear gf gg n2 gi U V O R;obtain⟨l,b4⟩:=aM J.length;have HL:=zH b4;rw[<-b4]at fn ⊢;clear b4;go_loopw [66] (fun i wr=>∃(q m m1:Nat) (C1:aq),q<=l/\i=.int .i64 q/\Du w3.heap.size w2.heap.size wr fq F C1 m m1 (sR p g j++(J.take q).map (zR fq))/\ag w2 wr/\(∀k,cb.heap.size<=k->k<ba.heap.size->wr.heap[k]?=ba.heap[k]?)/\(∀g,(Value.slice C1 m m1).ownBlock=some g->g<cb.heap.size∨ba.heap.size<=g)/\ba.heap.size<=wr.heap.size/\m<=200+q) (fun i _=>l-(intOf i).toNat)
     case atStart=>exact⟨0,_,_,_,aX _,rfl,(by simpa using e7.o),ev.o,fun _ _ _=>rfl,fun g h=>au (cr.o g h),af _,f3⟩
     case round=>
      obtain⟨q,eg,ei,cc,hq,rfl,hS,E9,IN,hC,IV,IK⟩:=hrel;clear cr;by_cases hc:q<l
      .obtain⟨r,G⟩:=aB (show q<J.length by have:=HL.o;omega);have b7:r.length=F:=bg.o r (aY G);rcases ey.o wr IN with h|⟨ho,hp,bz,a0⟩
       .rw[h]at G;simp at G
       subst bz;obtain⟨em,fd,dc,d1⟩:=a0 q r G;rw[b7]at dc;have E_:=zH (by rw[gY G];simp:sR p g j++(J.take (q+1)).map (zR fq)=(sR p g j++(J.take q).map (zR fq))++[zR fq r]);obtain⟨z0,z1,z2⟩:=aG hS.box;have S0:=aF z0 z2;obtain⟨IL,Fc,e2,HC,e9,e0,e4⟩:=zH7 hS E9 IN hC IV d1 b7;clear G b7 a0 d1 z0 z1 z2 hS E9 IN hC IV;go_upto_region 14 with(fail)
       refine cR (S:=fun D=>ae D w2.heap.size 0 (.int .i64 (fq:Nat))/\ae D w2.heap.size 2 (.slice cc eg ei)) 8 RP S0 (fun hHeld=>?_);refine aP 0 ?_;simp only[Act.put,zA];refine aP 1 ?_;simp only[Act.put,zA];refine aP 2 ?_;simp only[Act.put,zA];refine aP 3 ?_;simp only[Act.put,zA];refine aP 5 ?_;simp only[Act.put,zA];refine cw 4 fun K hK=>?_
       refine CP _ rfl (.tmp 73) (.tmp 73) 26 rfl wr.heap.size 3 gd (.int .i64 0) 1 dY fs gb gc .i64 .i64 fq fq fq rfl rfl rfl rfl SA TD Rq ?_;intro ek b6 dr;rw[jo]at b6;obtain⟨a2,e8⟩:=bD ((az wr).trans (cD dr)) (by simpa[aD]using b6:aD ek wr.heap.size (.slice (some ⟨wr.heap.size,0,none⟩) fq fq) (List.replicate fq 0));clear b6 dr;rw[show wr.drew.heap.size=wr.heap.size from rfl];refine hK.out _ _ (fun _=>ju a2.o S0) (fun hHeld=>?_);clear hK K hHeld;try simp only[Act.put,zA]
       refine cw 6 fun K hK=>?_
       refine cV rfl (.tmp 74) (.tmp 75) rfl wr.heap.size ek (.slice (some ⟨wr.heap.size,0,none⟩) fq fq) (List.replicate fq 0) r em F fd e4.o.symm rfl rfl e8.o (e0.o.ext a2.o) (by rw[iF];omega) a2.o.size ?_;intro v7 w7 d4 db;have ac:=zH (a2.o.trans db);have b8:aD w7 wr.heap.size v7 (zR fq r):=d4;obtain⟨eo,fb,c5,-,-,-⟩:=b8.view;obtain⟨gn,d3⟩:=aM ((zR fq r).length);rw[<-d3]at c5;subst c5;have Kh:=zH b8;clear d4 db b8 d3;refine hK.out _ _ (fun _=>ju ac.o S0) (fun hHeld=>?_);clear hK K hHeld;try simp only[Act.put,zA]
       refine cw 7 fun K hK=>?_
       go_simp;refine hK.out _ _ (fun _=>ju (ac.o.alloc ac.o.size _) S0) (fun hHeld=>?_);clear hK K hHeld;try simp only[Act.put,zA]
       refine cw 8 fun K hK=>?_
       refine qL rfl (.tmp 71) (.tmp 77) rfl w3.heap.size wr w7 (.slice cc eg ei) (.slice eo gn fb) _ (zR fq r) IL.o.own ac.o Kh.o TL IL.o.le rfl rfl ?_;intro g5 Gp w5 Kg Gm Kf Ke c8;rw[IL.o.len]at Kg ⊢;obtain⟨Fg,Ki⟩:=Du.stored IL.o Kg Gm;obtain⟨z0,z1,z2⟩:=aG Ki;obtain⟨f0,f1,f2⟩:=bR Ki;obtain⟨FQ,es,e5,e1,IW⟩:=mD Fg Gm Kf Ke c8;clear Kg Gm Kf Ke Fg Ki c8;refine hK.out _ _ (fun h=>absurd h Rs) (fun _=>?_);clear hK K;try simp only[Act.put,zA]
       refine cw 9 fun K hK=>?_
       go_simp;refine hK.out _ _ (fun h=>absurd h Rs) (fun _=>?_);clear hK K;try simp only[Act.put,zA]
       refine cw 10 fun K hK=>?_
       go_simp;refine hK.out _ _ (fun h=>absurd h Rs) (fun _=>?_);clear hK K;try simp only[Act.put,zA]
       refine gN RP ?_ _;clear S0 z0 z1 z2 f0 f1 f2 dc;go_wp2;go_roundw
       case rel=>
        have h:=FQ.o;rw[<-E_.o]at h;have g3:=a1.o.le;have hk:=ac.o.size;have g4:=e5.o;have IV:=e9.o;have hd:=Gt.o;refine⟨q+1,_,_,_,Rr,Rt,h,(Fc.o.trans (es.o.mono (fV Gt.o))).setCell (p:=⟨w2.heap.size,2,none⟩) (af _) _,fun k a3 h2=>?_,fun g h=>?_,RS,Rr⟩
        .refine(aZ _ _ _ _ (by show k≠w2.heap.size;omega)).trans ((e1.o k Rr (fun e=>?_)).trans ((ac.o.block k Rr).trans (e2.o k a3 h2)));have:=HC.o k e.symm;omega
        .exact Ye
       case measure=>simp[intOf];omega
      .exact Ze
    .have d2:j=g.es.length:=Rr;rw[d2,zfp]at hS;obtain⟨z0,z1,z2⟩:=aG hS.box;have a7:=ah cA.o E9;obtain⟨hl,hm,hn⟩:=aG a7;obtain⟨f0,f1,f2⟩:=bR a7;have y:=fM (v0:=.int .i64 (fq:Nat)) (v1:=.int .i64 (F:Nat)) (v2:=.slice C1 m m1) a7;obtain⟨hs,ht,hu⟩:=aG y;have dl:=aU.fr hS.own hS.le;have f5:=e6.o;have f6:=Gt.o;have f9:=e3.o;have fz:w.heap.size+1<w3.heap.size:=by have:=(aT.1 cA.o).1;omega
     have HF:=zH (show Fr ((((wr.setCell ⟨w.heap.size+1,0,none⟩ (.int .i64 (fq:Nat))).setCell ⟨w.heap.size+1,1,none⟩ (.int .i64 (F:Nat))).setCell ⟨w.heap.size+1,2,none⟩ (.slice C1 m m1))) w.heap.size ((((wr.setCell ⟨w.heap.size+1,0,none⟩ (.int .i64 (fq:Nat))).setCell ⟨w.heap.size+1,1,none⟩ (.int .i64 (F:Nat))).setCell ⟨w.heap.size+1,2,none⟩ (.slice C1 m m1))).heap.size (fun D=>bk D C1 (g.lF p)) from
      (dl.same fun k a3 _=>(aZ _ _ _ _ (by show k≠w.heap.size+1;omega)).trans ((aZ _ _ _ _ (by show k≠w.heap.size+1;omega)).trans (aZ _ _ _ _ (by show k≠w.heap.size+1;omega)))).to Rr Rq)
     obtain⟨HE,IQ,IJ⟩:=dO ((((Z.o.trans (E9.mono Z.o.size)).setCell (p:=⟨w.heap.size+1,0,none⟩) (by show w.heap.size<=w.heap.size+1;omega) (.int .i64 (fq:Nat))).setCell (p:=⟨w.heap.size+1,1,none⟩) (by show w.heap.size<=w.heap.size+1;omega) (.int .i64 (F:Nat))).setCell (p:=⟨w.heap.size+1,2,none⟩) (by show w.heap.size<=w.heap.size+1;omega) (.slice C1 m m1)) (by unfold Gr.sys;rw[IM.o,IU.o]:g.sys p=⟨(fq:Nat),(F:Nat),g.lF p⟩) hS.len;clear hS E9 a7 y dl f5 f6 f9 fz d2;go_wp2;refine aE (v:=.agg (iJ fq F C1 m m1)) (by simp[results,results77,go_sem, *]) rfl ?_;exact WG
structure GdT(p:Int)(L:List er)(t:Tm):Prop where
 tr:eI (b_ L) []=some [t]
 ty:∃c,t.ty=some c
 fl:b_ L=t.flat
 ln:L.length<=400
 f:cN p=true
 ov:nv p (b_ L)=true
 st:n_ (b_ L)=true
 gb:t.np=true
def grL(L:List er):Bool:=match jY (b_ L)with|some t=>t.np|none=>false
def nV(p:Int)(L:List er):Bool:=yk p L&&grL L
theorem sf{L:List er}(h:iQ (b_ L)=true):∃t c,jY (b_ L)=some t/\eI (b_ L) []=some [t]/\t.ty=some c/\b_ L=t.flat/\L.length<=400:=by
 unfold iQ at h;simp only[bE,bX]at h;obtain⟨-,H,I⟩:=h;obtain⟨t,G⟩:=wm.1 I;have F:eI (b_ L) []=some [t]:=by
  have D:=G;unfold jY at D;split at D
  .rename_i N e;cases D;exact e
  .cases D
 obtain⟨e,c,J⟩:=py.2 F;exact⟨t,c,G,F,J,e,by simpa[b_]using H⟩
theorem zE{L:List er}{t:Tm}(h:jY (b_ L)=some t):grL L=t.np:=by unfold grL;rw[h]
theorem yI{p:Int}{L:List er}(h:nV p L=true):∃t,jY (b_ L)=some t/\GdT p L t:=by unfold nV yk vI at h;simp only[bE]at h;obtain⟨⟨⟨F,G,H⟩,I⟩,J⟩:=h;obtain⟨t,c,D,T,N,O,R⟩:=sf G;exact⟨t,D,T,⟨c,N⟩,O,R,F,H,I,by rw[<-zE D];exact J⟩
section
variable{p:Int}{L:List er}{t:Tm}(h:GdT p L t)
include h
theorem GdT.ok:t.gr.okB=true:=Tm.zN h.gb
theorem GdT.over:t.tY p:=by obtain⟨c,D⟩:=h.ty;exact(Tm.zI D).2 (by rw[<-h.fl];exact⟨h.st,h.ov⟩)
theorem GdT.p2:2<=p/\p<=97:=di h.f
theorem GdT.val:∀e∈t.gr.es,0<=e.v/\e.v<p:=fun e I=>by
 have H:=Tm.zf1 h.over h.gb e I;have F:=H.1;unfold Ed.jt at F;simp only[bE,bX]at F;have O:=F.2.1;have N:e.v<p:=zab h.p2.1 F.1 SN (fun J=>H.2.2.2.2 J);refine⟨?_,N⟩;have D:=F.1;unfold dh at D;dsimp only at D;rw[bE]at D;have D:=D.2;rw[av Rr]at D;by_cases G:e.k=7∨e.k=13
 .rw[ay G]at D;simp only[bE,bX]at D;omega
 .rw[av G]at D;simp only[bE,bX]at D;omega
theorem GdT.sys:(t.gr.sys p).Ok p:=Gr.zhw h.f h.ok
theorem GdT.types:(t.rel p).l=t.gr.i.length/\(t.rel p).r=t.gr.o.length:=by obtain⟨c,G⟩:=h.ty;have D:=Tm.vu G;have F:=Tm.Dr h.f G h.over;exact⟨F.1.trans D.2.1.symm,F.2.1.trans D.2.2.symm⟩
end
theorem zgW{p:Int}:akG p g=(cN p&&zf2 p g):=by
 unfold akG gdG zf2;rw[Bool.and_assoc];congr 2
 congr 1
 funext e
 show(!(decide (e.k=8)||decide (e.k=14)))=(decide (e.k≠8)&&decide (e.k≠14))
 rw[Bool.not_or];simp
theorem zfW{p:Int}{L:List er}{t:Tm}(J:jY (b_ L)=some t)(F:tgB p L=true):nV p L=(t.np&&akG p t.gr):=by
 unfold tgB at F;simp only[bE]at F;obtain⟨G,D,H⟩:=F;obtain⟨U,c,N,T,O,I,R⟩:=sf G;rw[J]at N;cases N
 unfold nV yk vI;rw[G,D,H,zE J,zgW,D,Tm.zf3 (di D).1 O (by rw[<-I];exact H),<-I];simp[Bool.and_comm]
theorem zgX{p:Int}{L:List er}(h:tgB p L=false):nV p L=false:=by
 rw[wo];intro D;obtain⟨t,-,g⟩:=yI D;have:vI p L=true:=by unfold nV yk at D;simp only[bE]at D;exact D.1.1
 unfold vI at this;unfold tgB at h;simp only[bE]at this;rw[this.1,this.2.1,this.2.2]at h;cases h
def tyB(D F:List er):Bool:=match jY (b_ D),jY (b_ F)with|some s,some t=>decide (s.gr.i.length=t.gr.i.length)&&decide (s.gr.o.length=t.gr.o.length)|_,_=>false
def qD(p:Int)(D F:List er):Bool:=nV p D&&(nV p F&&tyB D F)
def jm(p:Int)(L:List er):Sy:=match jY (b_ L)with|some t=>t.gr.sys p|none=>⟨0,0,[]⟩
theorem uB{p:Int}{L:List er}{t:Tm}(h:jY (b_ L)=some t):jm p L=t.gr.sys p:=by unfold jm;rw[h]
theorem zeH{p:Int}{L:List er}(h:nV p L=true):(jm p L).Ok p:=by obtain⟨t,D,g⟩:=yI h;unfold jm;rw[D];exact g.sys
def zg6(p:Int)(L:List er)(w:aa)(e:Ending)(w':aa):Prop:=∃(J ne D no:Nat) (A1 F G:aq) (c1 c2 I:Nat) (S:Sy) (h:aq) (d:Nat),
 e=.returned (.tuple #[.agg (qm J A1 ne c1 F D c2 G no I),.agg (cU S h d),.bool (nV p L)])/\
 (nV p L=true->∃t,jY (b_ L)=some t/\D=t.gr.i.length/\no=t.gr.o.length/\S=t.gr.sys p)/\Fr w' w.heap.size w'.heap.size (fun H=>bk H h S.rows)/\ag w w'
abbrev xV(w:aa)(b:Nat)(v0 v1 v2 v3 u0 u1 u2:ax):World:=(((dC w b v0 v1 v2 v3).setCell ⟨b+1,0,none⟩ u0).setCell ⟨b+1,1,none⟩ u1).setCell ⟨b+1,2,none⟩ u2
theorem om{u2:ax}{t2:du}(G:aW w b #[R,T,z2,Ro] t)(H:aW w (b+1) #[Rj,Rh,Rc] t2):(xV w b v0 v1 v2 v3 u0 u1 u2).heap[b]?=some (.cells #[v0,v1,v2,v3] t (0,0))/\(xV w b v0 v1 v2 v3 u0 u1 u2).heap[b+1]?=some (.cells #[u0,u1,u2] t2 (0,0))/\(dC w b v0 v1 v2 v3).heap[b+1]?=some (.cells #[Rj,Rh,Rc] t2 (0,0)):=by have D:=cd (v0:=v0) (v1:=v1) (v2:=v2) (v3:=v3) G;have h:(dC w b v0 v1 v2 v3).heap[b+1]?=some (.cells #[Rj,Rh,Rc] t2 (0,0)):=(nr Rr).trans H;have F:=fM (v0:=u0) (v1:=u1) (v2:=u2) h;refine⟨?_,F,h⟩;exact(aZ _ _ _ _ (by show b≠b+1;omega)).trans ((aZ _ _ _ _ (by show b≠b+1;omega)).trans ((aZ _ _ _ _ (by show b≠b+1;omega)).trans D))
theorem oq(h:Below B w w')(D:B<=b)(v0 v1 v2 v3 u0 u1 u2:ax):Below B w (xV w' b v0 v1 v2 v3 u0 u1 u2):=(((bI h D v0 v1 v2 v3).setCell (p:=⟨b+1,0,none⟩) (by show B<=b+1;omega) u0).setCell (p:=⟨b+1,1,none⟩) (by show B<=b+1;omega) u1).setCell (p:=⟨b+1,2,none⟩) (by show B<=b+1;omega) u2
def PtB(w:aa)(b:Nat)(v0 v1 v2 v3 u0 u1:ax)(rows:aN)(h:aa):Prop:=∃D d,aW h b #[v0,v1,v2,v3] 54/\aW h (b+1) #[u0,u1,.slice D rows.length d] 57/\Fr h w.heap.size h.heap.size (fun F=>bk F D rows)/\ag w h
theorem zf4{rows:aN}(G:Fr J lo J.heap.size (fun h=>bk h Y rows))(O:b+1<lo)(N:B<=b)(R:Rg.heap.size=J.heap.size)(D:∀k,k≠b->k≠b+1->Rg.heap[k]?=J.heap[k]?):Fr Rg B Rg.heap.size (fun h=>bk h Y rows):=fun h F=>G h fun k H I=>(F k Rr Rr).trans (D k Rr Rr)
theorem zh0{rows:aN}(U:aW J b #[R,T,z2,Ro] 54)(O:aW J (b+1) #[Rj,Rh,Rc] 57)(N:Fr J lo J.heap.size (fun D=>bk D Y rows))(H:b+1<lo)(h:w.heap.size<=b)(I:ag w J):PtB w b v0 v1 v2 v3 u0 u1 rows (xV J b v0 v1 v2 v3 u0 u1 (.slice Y rows.length d)):=by obtain⟨F,G,-⟩:=om (v0:=v0) (v1:=v1) (v2:=v2) (v3:=v3) (u0:=u0) (u1:=u1) (u2:=.slice Y rows.length d) U O;exact⟨Y,d,F,G,zf4 N H h (by simp[xV,dC]) fun k V n2=>(aZ _ _ _ _ n2).trans ((aZ _ _ _ _ n2).trans ((aZ _ _ _ _ n2).trans (nr V))),oq I h ..⟩
theorem zQ(p:Int)(L:List er)(A:aq)(cap:Nat)(w:aa)(b2:bF 3 iR w A L)(cF:L.length<=1048576)(cu:L.length<=cap):aw 49 (ig p (aO A L cap)) w (zg6 p L w):=by
 have bc:=below_alloc3 w (.cells (aO A L cap) 35) (.cells bQ 54) (.cells bj 57);obtain⟨R,ao,T⟩:=cm w (.cells (aO A L cap) 35) (.cells bQ 54) (.cells bj 57);obtain⟨ba,ci⟩:=bD (fun F (am:ag w F)=>zbj p L A cap F (bw b2 am) cF) (fun F (am:ag w F)=>bw b2 am);obtain⟨l,b5⟩:=aM L.length;obtain⟨d6,dq⟩:=bD b5 cu;rw[<-b5]at bc R ao T ba ⊢;clear b2 b5 cF cu;go_enter func49,ntmps49
 go_upto_region 1 with(fail)
 generalize (((w.alloc _).alloc _).alloc _)=W at bc R ao T ⊢;have c7:=aI R 0 rfl;obtain⟨a2,e4,b7,b8,e6⟩:=mD bc R ao T (show w.heap.size+1+1<W.heap.size from(aT.1 T).1);clear bc R ao T;have e5:=zH (show nV p L=false->∀(F:aa),bk F none ([]:aN)/\nV p L=false from fun h F=>⟨au rfl,h⟩);cases N:tgB p L
 .obtain⟨HT,ej⟩:=bD (zgX N) (Calls.be (ba.o W a2.o) N);clear N;go_wp2_with (go_at_call 74;(with_reducible refine ej.o.mono ?_);rintro e a5 ⟨rfl,D⟩;have I:=ah b7.o D;have H:=ah b8.o D;have HZ:=zH I;have HY:=zH H;obtain⟨r0,r1,r2,r3⟩:=aA I;obtain⟨f0,f1,f2,f3⟩:=bZ I;obtain⟨s0,s1,s2⟩:=aG H;have g0:=aK H 0;have g1:=aK H 1;have g2:=aK H 2;have EO:=zH (a2.o.trans (D.mono a2.o.size));clear D I H)
  exact ZI
 have ek:=zH (fun F (am:ag w F)=>Calls.be (ba.o F am) N);have c3:iQ (b_ L)=true:=by unfold tgB at N;simp only[bE]at N;exact N.1
 have cA:cN p=true:=by unfold tgB at N;simp only[bE]at N;exact N.2.1
 obtain⟨t,c,bi,e0,ct,a8,cB⟩:=sf c3;obtain⟨ck,em⟩:=bD (zfW bi N) bi;have cr:∀F,ag w F->aw 75 (cy (cg A l cap)) F (xK t F):=fun F am=>by have:=uk t c L A cap F ct a8 cB dq.o (ci.o F am);rw[<-d6.o]at this;exact this
 have d5:=zH cr;have d4:=zH (fun(e1:nV p L=true)=>by
  obtain⟨e7,c0,g⟩:=yI e1;rw[bi]at c0;cases c0
  exact g)
 have ch:=zH (di cA);clear N c3 cA bi e0 ct a8 cB cr ba ci;go_upto_region 4 with(first|(go_at_call 74;(with_reducible refine(ek.o W a2.o).mono ?_);rintro e a5 ⟨rfl,D⟩;have e2:=al D c7;have c8:=zH (ah b7.o D);have bu:=zH (ah b8.o D);have EO:=zH (a2.o.trans (D.mono a2.o.size));clear D)|(go_at_call 75;(with_reducible refine(d5.o _ EO.o).mono ?_);intro e J h;obtain⟨G,V,ab,Y,ac,Z,ad,ev,a8,b4,D⟩:=xK.one h;subst ev;have c9:=zH (ah c8.o D);have db:=zH (ah bu.o D);have cc:=zH (EO.o.trans (D.mono EO.o.size));have d3:=zH b4;have d1:=zH b4.now;have dr:=zH a8;have cn:=zH D.size;clear D b4 a8 h))
 clear c7 e2;obtain⟨a0,b6⟩:=bA J (.cells (bl G V ab Y ac Z ad) 54);generalize J.alloc _=c5 at a0 b6 ⊢;obtain⟨cb,bq,bv,a6,d0,cj⟩:=kE a0 (ah c9.o a0) (ah db.o a0) (cc.o.trans (a0.mono cc.o.size)) (d1.o.ext a0) b6;clear a0 b6;cases a1:t.np
 .obtain⟨HT,HZ,HY,EO⟩:=fU (by rw[ck.o,a1];rfl:nV p L=false) bq.o bv.o a6.o;obtain⟨a5,c4⟩:=aM c5;rw[<-c4]at HZ HY EO ⊢;obtain⟨r0,r1,r2,r3⟩:=aA HZ.o;obtain⟨f0,f1,f2,f3⟩:=bZ HZ.o;obtain⟨s0,s1,s2⟩:=aG HY.o;obtain⟨g0,g1,g2⟩:=bR HY.o;clear c4 a1;go_wp2;exact ZI
 have a3:G=t.gr:=dr.o a1;have bg:G.okB=true:=by rw[a3];exact Tm.zN a1
 have ca:=zH (Er p G V Y Z ab ac ad c5 d0.o bg);have bd:nV p L=akG p G:=by rw[ck.o,a1,a3];rfl
 obtain⟨R,ao,T,bo⟩:=aA cj.o;have b1:=aF R (aF ao (aF T bo));cases a4:akG p G
 .obtain⟨HT,bz⟩:=bD (bd.trans a4) (Calls.be ca.o a4);clear a1 a3 bg bd a4 b1;go_wp2_with (go_at_call 76;(with_reducible refine bz.o.mono ?_);rintro e a5 ⟨rfl,D⟩;have I:=ah bq.o D;have H:=ah bv.o D;have HZ:=zH I;have HY:=zH H;obtain⟨r0,r1,r2,r3⟩:=aA I;obtain⟨f0,f1,f2,f3⟩:=bZ I;obtain⟨s0,s1,s2⟩:=aG H;have g0:=aK H 0;have g1:=aK H 1;have g2:=aK H 2;have EO:=zH (a6.o.trans (D.mono a6.o.size));clear D I H)
  exact ZI
 obtain⟨HT,bz⟩:=bD (bd.trans a4) (Calls.be ca.o a4);have d2:=zH (d4.o HT.o);obtain⟨S,b3⟩:=aM (G.sys p);obtain⟨ei,b0,eg⟩:=dO (fun F (am:∀k,a5.heap.size<=k->k<J.heap.size->F.heap[k]?=J.heap[k]?)=>(by have:=ze9 p G V Y Z ab ac ad F ch.o.1 ch.o.2 (d3.o F am) bg (by rw[a3];exact d2.o.val);rw[<-b3]at this;exact this:aw 77 (ig p (bl G V ab Y ac Z ad)) F (zd0 S F))) a3 b3;clear a1 a3 bg bd a4 R ao T bo b3;obtain⟨R,ao,T,bo⟩:=aA cj.o;go_upto_region 6 with(go_at_call 76;(with_reducible refine bz.o.mono ?_);rintro e U ⟨rfl,D⟩;have a7:=zH D;clear D)
 clear R ao T bo;have co:=fJ a7.o b1;obtain⟨ea,br,b9,ce⟩:=fU (show ∀k,a5.heap.size<=k->k<J.heap.size->U.heap[k]?=J.heap[k]? from fun k cq bb=>(a7.o.block k (dI bb cb.o.size)).trans (cb.o.block k bb)) (ah bq.o a7.o) (ah bv.o a7.o) (a6.o.trans (a7.o.mono a6.o.size));obtain⟨r0,r1,r2,r3⟩:=aA br.o;obtain⟨f0,f1,f2,f3⟩:=bZ br.o;have d7:=zH (show w.heap.size+1<a5.heap.size by have:=(aT.1 bu.o).1;omega);obtain⟨ap,a9,d8,d9⟩:=fU (show J.heap.size≠w.heap.size+1 by have:=d7.o;have:=cn.o;omega) (show J.heap.size≠w.heap.size+1+1 by have:=(aT.1 bu.o).1;have:=cn.o;omega) (Rr:w.heap.size<=w.heap.size+1) (show w.heap.size+1+1<U.heap.size from(aT.1 b9.o).1);go_cut [6] from 9 (fun e3 F=>e3=.bool true/\PtB w (w.heap.size+1) (.int .i64 (G.w:Nat)) (.slice V G.es.length ab) (.slice Y G.i.length ac) (.slice Z G.o.length ad) (.int .i64 S.v) (.int .i64 S.h) S.rows F)
 case first=>
  have cp:ae U.drew J.heap.size 0 (.int .i64 (G.w:Nat))/\ae U.drew J.heap.size 1 (.slice V G.es.length ab)/\ae U.drew J.heap.size 2 (.slice Y G.i.length ac)/\ae U.drew J.heap.size 3 (.slice Z G.o.length ad):=co;go_region_held3 (fun F=>ae F J.heap.size 0 (.int .i64 (G.w:Nat))/\ae F J.heap.size 1 (.slice V G.es.length ab)/\ae F J.heap.size 2 (.slice Y G.i.length ac)/\ae F J.heap.size 3 (.slice Z G.o.length ad))
   (first|with_reducible exact O|with_reducible exact cp|with_reducible exact⟨dg ap.o O.1,dg ap.o O.2.1,dg ap.o O.2.2.1,dg ap.o O.2.2.2⟩|with_reducible exact⟨fE a9.o (dg ap.o O.1),fE a9.o (dg ap.o O.2.1),fE a9.o (dg ap.o O.2.2.1),fE a9.o (dg ap.o O.2.2.2)⟩)
   ((first
    |(go_at_call 77;(with_reducible refine gG (ei.o U.drew ?_) ?_);(focus (intro k cq bb;exact ea.o k cq bb));intro e c6 h;unfold zd0 at h;obtain⟨bp,d,ey,cz,D⟩:=h;subst ey;have O:=fJ D cp;have dT:=zH (show Fr c6 U.heap.size c6.heap.size _ from cz);have I:=ah (show U.drew.heap[w.heap.size+1]?=_ from br.o) D;have H:=ah (show U.drew.heap[w.heap.size+1+1]?=_ from b9.o) D;have es:=zH I;have eo:=zH H;clear r0 r1 r2 r3 f0 f1 f2 f3;obtain⟨r0,r1,r2,r3⟩:=aA I;obtain⟨f0,f1,f2,f3⟩:=bZ I;obtain⟨s0,s1,s2⟩:=aG H;have g0:=aK H 0;have g1:=aK H 1;have g2:=aK H 2;have dl:=zH (ce.o.drew.trans (D.mono ce.o.size));clear D cz I H)
    |(go_at_call 77;trace_state;fail)))
  all_goals clear O
  all_goals go_wp2_with fail
  all_goals
   go_meet
   with_reducible exact⟨rfl,zh0 es.o eo.o dT.o d9.o d8.o dl.o⟩
 case rest=>
  obtain⟨rfl,cI⟩:=hcut;unfold PtB at cI;obtain⟨bp,d,I,H,cO,D⟩:=cI;obtain⟨u0,u1,u2,u3⟩:=aA I;obtain⟨t0,t1,t2⟩:=aG H;obtain⟨eb,dc⟩:=bD cO D;clear I H cO D co r0 r1 r2 r3 f0 f1 f2 f3 b1;go_wp2;refine aE (v:=.tuple #[.agg (bl G V ab Y ac Z ad),.agg (cU S bp d),.bool true]) (by simp[results,results49,go_sem, *]) rfl ?_;refine⟨G.w,_,_,_,V,Y,Z,ab,ac,ad,S,bp,d,by rw[HT.o],fun _=>⟨t,em.o,by rw[b0.o],by rw[b0.o],by rw[eg.o,b0.o]⟩,eb.o,dc.o⟩
end Go.Proofs.YtpieilkmmiopfaaGreatDoor
