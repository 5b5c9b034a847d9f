/- Parts of the walks and laws (Hg10, Rlw4, Rlw5). Conditions: as stated with each. -/
import Derived.Test.YtpieilkmmiopfaaGreatDoorPk31
import Derived.Test.YtpieilkmmiopfaaGreatDoorPk36
namespace Go.Proofs.YtpieilkmmiopfaaGreatDoor
open Go.RowKit Tryz
set_option linter.all false
set_option maxHeartbeats 4000000
set_option maxRecDepth 100000
variable{A Y:aq}{b c k n:Nat}{w:aa}{xs:aH}
theorem zbw(g:Gr)(us F:bO)(A1 G H U V:aq)(c1 c2 O a2 a3:Nat)(w:aa)(a4:j6 w A1 G H g)(bc:mL g)(a8:us.length=F.length)(D:us.length<=4096)(a6:aJ w U (bt us))(a7:aJ w V (bt F))(a9:∀x∈us,x<g.w)(ba:∀x∈F,x<g.w):aw 155 #[.agg (bl g A1 c1 G c2 H O),.slice U us.length a2,.slice V F.length a3] w (uh (iA g (us.zip F)) w):=by
 have Z:=zH (fun a1 (ac:ag w a1)=>Ee g us F A1 G H U V c1 c2 O a2 a3 a1 (a4.ext ac) bc a8 D (a6.ext ac) (a7.ext ac) a9 ba);have ab:=((aj w.heap.size w).alloc (af _) (.cells (bl g A1 c1 G c2 H O) 54)).alloc Rq (.cells bQ 54);have ao:=(bJ (w.alloc (.cells (bl g A1 c1 G c2 H O) 54)) (.cells bQ 54) (k:=w.heap.size) Rq).trans (aC w _ rfl);have R:=aC (w.alloc (.cells (bl g A1 c1 G c2 H O) 54)) (.cells bQ 54) (n:=w.heap.size+1) Rq;obtain⟨h,a5⟩:=aM (iA g (us.zip F));unfold zgO at Z;rw[<-a5]at Z ⊢;clear a4 bc a8 D a6 a7 a9 ba a5;go_enter func155,ntmps155
 go_upto_region 1 with(fail)
 generalize (w.alloc _).alloc _=W at ab ao R ⊢;obtain⟨bg,bi,bo,bp⟩:=aA ao;obtain⟨Y,bv,a0⟩:=dO ab R (show w.heap.size+1<W.heap.size from(aT.1 R).1);clear ab R ao;go_upto_region 2 with(go_at_call 200;(with_reducible refine(Z.o _ Y.o).mono ?_);intro e bd b1;obtain⟨I,d1,J,d2,N,d3,B,b5,b7,b6,b0,bb,ad⟩:=b1;subst b0;have br:=zH bb;have ap:=zH ad;have bz:=zH (ah bv.o ad);clear bb ad)
 clear bg bi bo bp;obtain⟨D,am⟩:=bA bd (.cells (bl h I d1 J d2 N d3) 54);generalize bd.alloc _=cc at D am ⊢;obtain⟨bg,bi,bo,bp⟩:=aA am;have T:=ah bz.o D;obtain⟨b8,b9,ca,cb⟩:=aA T;obtain⟨f0,f1,f2,f3⟩:=bZ T;have y:=cd (v0:=.int .i64 (h.w:Nat)) (v1:=.slice I h.es.length d1) (v2:=.slice J h.i.length d2) (v3:=.slice N h.o.length d3) T;obtain⟨b2,b3,z2,b4⟩:=aA y;unfold dC at b2 b3 z2 b4;obtain⟨bu,bq⟩:=bD (br.o.ext D) (bI (Y.o.trans ((ap.o.trans (D.mono ap.o.size)).mono Y.o.size)) (b:=w.heap.size+1) Rr (.int .i64 (h.w:Nat)) (.slice I h.es.length d1) (.slice J h.i.length d2) (.slice N h.o.length d3));clear D am T y;go_wp2;exact aE (v:=.agg (bl h I d1 J d2 N d3)) (by simp[results,results155,go_sem, *]) rfl ⟨I,d1,J,d2,N,d3,B,rfl,(bu.o.dC a0.o).mono (fV (mV a0.o)),bq.o⟩
theorem tK(n:Nat):(kP n).length=n:=by simp[kP,yg]
theorem zbL(h:k<n):(kP n)[k]?=some (ji n k++ji n k):=by simp[kP,yT h]
theorem ru(n:Nat)(w:aa)(d9:n<=1024):aw 182 (eE n) w (kB (idR n) w):=by
 obtain⟨bc,bq⟩:=bA w (.cells bj 67);go_enter func182,ntmps182
 go_upto_region 1 with(fail)
 generalize w.alloc _=W at bc bq ⊢;obtain⟨b1,b7⟩:=bD bc bq;clear bc bq;obtain⟨bd,ab⟩:=bA W (.cells #[n,n,bW] 67);go_upto_region 2 with(fail)
 generalize W.alloc _=N at bd ab ⊢;obtain⟨cB,dq,ad⟩:=dO bd ab (show W.heap.size<N.heap.size from(aT.1 ab).1);clear bd ab;go_wp2;go_loopw [9] (fun i wr=>∃k:Nat,k<=n/\i=.int .i64 k/\(∃h D,aW wr W.heap.size (fy n n h k D) 67/\aV 26 1 xf wr N.heap.size (.slice h k D) ((kP n).take k))/\ag W wr/\N.heap.size<=wr.heap.size) (fun i _=>n-(intOf i).toNat)
 case atStart=>exact⟨0,aX _,rfl,⟨none,0,dq.o,aV.nil _ _ _ _ _⟩,cB.o,af _⟩
 case round=>
  obtain⟨k,d8,rfl,⟨h,D,ac,Z⟩,Y,a3⟩:=hrel;by_cases bo:k<n
  .obtain⟨b4,c8⟩:=bD (by rw[cG,tK];omega:((kP n).take k).length=k) (by rw[dH,zbL bo];rfl:(kP n).take (k+1)=(kP n).take k++[ji n k++ji n k]);obtain⟨H,ct⟩:=aM ((ji n k++ji n k).length);obtain⟨a6,b9⟩:=bD ct (fun I=>(by have:=zO n k I Rr bo;exact this:aw 125 (gl n k) I fun e w'=>∃u,e=.returned u/\aD w' I.heap.size u (ji n k)/\ag I w'));obtain⟨a4,a5,z2⟩:=aG ac;have J:=z2;obtain⟨dT,b6,b3,ca,GY⟩:=mD ac Z Y a3 bo;clear ac Z Y a4 a5 z2 ct a3;go_upto_region 5 with(fail)
   refine cR (S:=fun I=>ae I W.heap.size 2 (.slice h k D)) 13 RP J (fun hHeld=>?_);refine aP 0 ?_;simp only[Act.put,zA];refine aP 1 ?_;simp only[Act.put,zA];refine aP 2 ?_;simp only[Act.put,zA];refine aP 3 ?_;simp only[Act.put,zA];refine aP 5 ?_;simp only[Act.put,zA];refine aP 6 ?_;simp only[Act.put,zA];refine cw 4 fun K hK=>?_
   go_simp;refine(b9.o _).mono ?_;rintro e ej ⟨u1,rfl,a1,bg⟩;obtain⟨bz,ck,rfl,-⟩:=a1.view;rw[jq]at a1 ⊢;have a8:=zH ((az wr).trans (bg.mono (az wr).size));have c9:=zH (a1.fr bg.size).now;clear a1 bg;go_simp;have ce:=al a8.o J;refine hK.out _ _ (fun _=>ce) (fun hHeld=>?_);clear hK K hHeld;try simp only[Act.put,zA]
   refine cw 7 fun K hK=>?_
   go_simp;refine(b9.o _).mono ?_;rintro e d5 ⟨u2,rfl,a2,ap⟩;obtain⟨b0,cn,rfl,-⟩:=a2.view;rw[jq]at a2 ⊢;have R:=zH (a8.o.trans (ap.mono a8.o.size));have db:=zH (a2.fr ap.size).now;have dl:=zH (c9.o.ext ap);clear a2 ap;go_simp;have ch:=al R.o J;refine hK.out _ _ (fun _=>ch) (fun hHeld=>?_);clear hK K hHeld;try simp only[Act.put,zA]
   refine cw 8 fun K hK=>?_
   go_simp;have ci:=al (R.o.alloc R.o.size (.cells (kX bz n ck b0 n cn) 26)) J;refine hK.out _ _ (fun _=>ci) (fun hHeld=>?_);clear hK K hHeld;try simp only[Act.put,zA]
   refine cw 9 fun K hK=>?_
   go_simp;refine(uH (ji n k) (ji n k) bz b0 ck cn n n H d5 dl.o db.o (jq n k).symm (jq n k).symm a6.o Rr).mono ?_;rintro e O ⟨F,G,rfl,cr,cp,co⟩;have c0:=zH cr;clear cr;obtain⟨U,dc⟩:=bD (R.o.trans (co.mono R.o.size)) (cp.to (lo':=wr.heap.size) R.o.size (af _));clear cp co;go_simp;have cj:=al U.o J;refine hK.out _ _ (fun _=>cj) (fun hHeld=>?_);clear hK K hHeld;try simp only[Act.put,zA]
   refine cw 10 fun K hK=>?_
   go_simp;have ba:=al (U.o.alloc U.o.size (.cells (cg F H G) 26)) J;refine hK.out _ _ (fun _=>ba) (fun hHeld=>?_);clear hK K hHeld;try simp only[Act.put,zA]
   obtain⟨b8,T⟩:=bD (aC O (.cells (cg F H G) 26) rfl) (U.o.alloc U.o.size (.cells (cg F H G) 26));have bb:=ak O (.cells (cg F H G) 26);have b5:=zH (b6.o.ext T.o);have cb:=zH (show iV xf (O.alloc (.cells (cg F H G) 26)) N.heap.size (.slice h k D) (ji n k++ji n k) [.slice F H G] from by obtain⟨cs,d4⟩:=b6.o;refine⟨wr.heap.size,O.heap.size,ca.o,bb.size,fun g e=>au ((bL d4.outer g e).2),?_⟩;exact(dc.o.ext bb (af _)).imp fun I d0=>⟨F,G,by rw[<-a6.o],by rw[<-a6.o];exact c0.o,d0⟩)
   obtain⟨a7,cc⟩:=bD (show N.heap.size<=(O.alloc (.cells (cg F H G) 26)).heap.size from aR ca.o T.o.size) (ah dT.o T.o);clear bb;generalize O.alloc _=d6 at b8 T b5 cb a7 cc ba ⊢;refine cw 11 fun K hK=>?_
   refine fN uG rfl (.tmp 13) (.tmp 22) rfl N.heap.size d6 (.slice h k D) ((kP n).take k) (ji n k++ji n k) [.slice F H G] O.heap.size b5.o rfl TK cb.o (by rw[b4.o];omega) a7.o rfl rfl b8.o ?_;intro ao am cz bp d3 d1 bi;rw[b4.o]at bp ⊢;obtain⟨c3,b2,a9⟩:=dO bp bi ((bi.block W.heap.size ad.o).trans cc.o);obtain⟨a4,a5,z2⟩:=aG a9.o;obtain⟨d7,bu,bv⟩:=bR a9.o;clear bp d3 d1 bi;refine hK.out _ _ (fun _=>z2) (fun hHeld=>?_);clear hK K hHeld;try simp only[Act.put,zA]
   refine cw 12 fun K hK=>?_
   go_simp;refine hK.out _ _ (fun _=>z2) (fun hHeld=>?_);clear hK K hHeld;try simp only[Act.put,zA]
   refine cw 13 fun K hK=>?_
   go_simp;refine hK.out _ _ (fun V=>absurd V Rs) (fun _=>?_);clear hK K;try simp only[Act.put,zA]
   refine gN RP ?_ _;have br:=bm cz W.heap.size 2 _ _ (.slice (some ⟨ao,0,none⟩) (k+1) am) a9.o;simp only[zA]at br;obtain⟨c7,c4,cF⟩:=dO br (c3.o.setCell (a:=⟨W.heap.size,2,none⟩) ad.o (.slice (some ⟨ao,0,none⟩) (k+1) am)) (((b3.o.trans (T.o.mono b3.o.size)).trans (b2.o.mono (fV ad.o))).setCell (p:=⟨W.heap.size,2,none⟩) (af _) (.slice (some ⟨ao,0,none⟩) (k+1) am));have c6:=zH (show N.heap.size<=(cz.setCell ⟨W.heap.size,2,none⟩ (.slice (some ⟨ao,0,none⟩) (k+1) am)).heap.size by have:=b2.o.size;have:=a7.o;simp;omega)
   clear br J ce ch ci cj ba a4 a5 z2 d7 bu bv;go_wp2;go_roundw
   case rel=>exact⟨k+1,Tp,Rt,⟨_,_,c7.o,by rw[c8.o];exact c4.o⟩,cF.o,c6.o⟩
   case measure=>have:=GY.o;simp[intOf];omega
  .obtain rfl:k=n:=Rr;rw[cY (by rw[tK];exact af _)]at Z;obtain⟨a4,a5,z2⟩:=aG ac;have a0:=ah b7.o Y;obtain⟨eb,eg,ei⟩:=aG a0;obtain⟨f0,f1,f2⟩:=bR a0;have cu:=(aT.1 b7.o).1;have cq:=(Z.fr (fun _ _ _ _ d2 V=>V.ext d2) a3).imp fun I V=>jR V
   obtain⟨cO,c5,cI,dr⟩:=fU cq a0 (b1.o.trans (Y.mono b1.o.size)) cu;clear ac Z a0 cq cu Y a3;go_wp2;have bu:=bm wr w.heap.size 0 _ _ (.int .i64 (k:Nat)) c5.o;have bv:=bm _ w.heap.size 1 _ _ (.int .i64 (k:Nat)) bu;have cA:=bm _ w.heap.size 2 _ _ (.slice h k D) bv;simp only[zA]at cA;obtain⟨u0,u1,u2⟩:=aG cA;refine aE (v:=.agg (iJ k k h k D)) (by simp[results,results182,go_sem, *]) rfl ⟨h,D,by rw[show(idR k).b.length=k from tK k];rfl,?_,((cI.o.setCell (p:=⟨w.heap.size,0,none⟩) (af _) _).setCell (p:=⟨w.heap.size,1,none⟩) (af _) _).setCell (p:=⟨w.heap.size,2,none⟩) (af _) _⟩;have ea:=ad.o;have ab:=dr.o;exact(cO.o.same (w':=((wr.setCell ⟨w.heap.size,0,none⟩ (.int .i64 (k:Nat))).setCell ⟨w.heap.size,1,none⟩ (.int .i64 (k:Nat))).setCell ⟨w.heap.size,2,none⟩ (.slice h k D)) fun q a _=>(aZ _ _ _ _ (by show q≠w.heap.size;omega)).trans ((aZ _ _ _ _ (by show q≠w.heap.size;omega)).trans (aZ _ _ _ _ (by show q≠w.heap.size;omega)))).to Rr Rq
theorem Ce(l r k G:Nat)(A:aq)(F:aq)(m d:Nat)(w:aa)(I:l<=d)(J:l<=1048576):aw 175 #[.agg (iJ l r A k G),.slice F m d] w fun e w'=>e=.returned (.slice F l d)/\ag w w':=by
 obtain⟨h,D⟩:=bA w (.cells (iJ l r A k G) 67);go_enter func175,ntmps175
 go_upto_region 1 with(fail)
 generalize w.alloc _=W at h D ⊢;obtain⟨N,O,R⟩:=aG D;have H:=zH h;clear h D;go_wp2;go_ret
 exact⟨rfl,H.o⟩
theorem xR(l r k F:Nat)(A:aq)(b o m d:Nat)(w:aa)(H:l<=m)(J:m<=d)(I:l<=1048576):aw 174 #[.agg (iJ l r A k F),.slice (some ⟨b,o,none⟩) m d] w fun e w'=>e=.returned (.slice (if d=l then some ⟨b,o,none⟩ else some ⟨b,o+l,none⟩) (m-l) (d-l))/\ag w w':=by
 obtain⟨h,D⟩:=bA w (.cells (iJ l r A k F) 67);go_enter func174,ntmps174
 go_upto_region 1 with(fail)
 generalize w.alloc _=W at h D ⊢;obtain⟨N,O,R⟩:=aG D;have G:=zH h;clear h D;go_wp2
 all_goals
  go_ret
  exact⟨rfl,G.o⟩
theorem kJ(h:aJ w Y xs)(l:Nat):aJ w Y (xs.take l):=by
 rcases h with h|⟨b,o,e,D⟩
 .exact au (by rw[h];simp)
 .exact an ⟨b,o,e,fun k x F=>D k x (oC F)⟩
theorem mJ{o:Nat}(h:aJ w (some ⟨b,o,none⟩) xs)(l:Nat):aJ w (some ⟨b,o+l,none⟩) (xs.drop l):=by
 rcases h with h|⟨G,H,e,F⟩
 .exact au (by rw[h];simp)
 .cases e
  refine an ⟨b,o+l,rfl,fun k x D=>?_⟩;rw[eX]at D;have:=F _ x D;rwa[<-oO]at this
def zeQ(A:aq)(c l:Nat):Option Addr:=if c=l then A else A.map (fun x=>x.add l)
theorem Ey(h:aJ w A xs)(F:xs.length<=c)(l:Nat):aJ w (zeQ A c l) (xs.drop l):=by
 unfold zeQ;split
 .rename_i e;exact au (iN Rr)
 .cases A with
  |none=>
   rcases h with h|⟨b,o,e,-⟩
   .exact Wl
   .cases e
  |some p=>
   rcases h with h|⟨b,o,e,D⟩
   .exact Wl
   .cases e
    have:=mJ (an ⟨b,o,rfl,D⟩:aJ w (some ⟨b,o,none⟩) xs) l;rw[Option.map_some,dj];exact this
theorem Ez{a b:Gr}(G:a.okB=true)(H:b.okB=true):mL (im a b):=by
 have N:=Gr.kg.1 G;have O:=Gr.kg.1 H;have F:=mL.of G;have sb:=mL.of H;refine⟨rp F.inr sb.inr,?_,?_,?_,?_,?_⟩
 .show a.w+b.w<=4096;omega
 .show(ff a b).length<=4096
  unfold ff;rw[bx,bh];omega
 .exact F.i
 .show(b.o.map _).length<=4096;rw[bh];exact sb.o
 .intro e J;rcases eh.1 (show e∈a.es++b.es.map _ from J)with D|D
  .exact F.el e D
  .obtain⟨h,I,rfl⟩:=cM.1 D;have:=sb.el h I
   show(h.i.map _).length<=4096/\(h.o.map _).length<=4096
   rw[bh,bh];exact this
theorem zdc(a b:Gr)(A1 ab ac N O R:aq)(c1 c2 a6 d1 d2 d3:Nat)(w:aa)(bz:a.okB=true)(J:b.okB=true)(es:a.o.length=b.i.length)(c0:j6 w A1 ab ac a)(eo:j6 w N O R b):aw 108 (iD (bl a A1 c1 ab c2 ac a6) (bl b N d1 O d2 R d3)) w (uh (nX a b) w):=by
 obtain⟨d6,d5⟩:=bD (fun(D:aa) (Z:ag w D)=>uO a b A1 ab ac N O R c1 c2 a6 d1 d2 d3 D (mL.of bz) (mL.of J) (c0.ext Z) (eo.ext Z)) es;have dT:=mL.of bz;have sb:=mL.of J;obtain⟨f5,cu,fx,fs,g6⟩:=mD (Ez bz J) (show a.o.length<=4096 from dT.o) (show ∀x∈a.o,x<a.w+b.w from fun x dq=>by have:=dT.inr x (an (au dq));omega) (show ∀x∈b.i.map (· +a.w),x<a.w+b.w from fun x dq=>by obtain⟨y,gB,rfl⟩:=cM.1 dq;have:=sb.inr y (au gB);omega) (show ∀D,ag w D->j6 D A1 ab ac a from fun D Z=>c0.ext Z);have b1:=below_alloc3 w (.cells (bl a A1 c1 ab c2 ac a6) 54) (.cells (bl b N d1 O d2 R d3) 54) (.cells bQ 54);obtain⟨bb,ca,bc⟩:=cm w (.cells (bl a A1 c1 ab c2 ac a6) 54) (.cells (bl b N d1 O d2 R d3) 54) (.cells bQ 54);obtain⟨e7,e2⟩:=aM ((jT a b).es.length);obtain⟨ba,c9⟩:=aM ((jT a b).i.length);obtain⟨V,db⟩:=aM ((jT a b).o.length);obtain⟨n,b4⟩:=aM a.i.length;obtain⟨m,b3⟩:=aM a.o.length;have gA:n<=ba:=by rw[b4,c9];show _<=(a.i++_).length;rw[bx];omega
 have gw:m<=V:=by rw[b3,db];show _<=(a.o++_).length;rw[bx];omega
 obtain⟨d9,bo,bp,a3,a2⟩:=mD e2 c9 db b4 b3;rw[<-b4,<-b3]at b1 bb ca bc d6 ⊢;clear c0 eo bz J es dT sb e2 c9 db b4 b3;go_enter func108,ntmps108
 go_upto_region 1 with(fail)
 generalize ((w.alloc _).alloc _).alloc _=W at b1 bb ca bc ⊢;have fb:=zH (show w.heap.size+1+1<W.heap.size from(aT.1 bc).1);obtain⟨gC,gL,cc,ce⟩:=aA bb;obtain⟨g0,g1,g2,g3⟩:=aA ca;obtain⟨a1,gd,gf⟩:=dO b1 bb bc;clear b1 bb ca bc;go_upto_region 2 with(go_at_call 154;(with_reducible refine(d6.o _ a1.o).mono ?_);intro e cb F;unfold zhf at F;obtain⟨ci,ek,H,G,ad,I,cO,c7,ey,ev⟩:=F;rw[<-d9.o,<-bo.o,<-bp.o]at cO;rw[<-bo.o,<-bp.o]at c7;subst cO;have bi:=zH c7;have fl:=zH ey;have cj:=zH ev;clear c7 ey ev)
 obtain⟨b0,dc⟩:=bA cb (.cells (kW ((jT a b).w:Nat) ci e7 ek H ba G ad V I) 54);clear gC gL cc ce g0 g1 g2 g3;obtain⟨cn,bg,br⟩:=dO (fl.o.ext b0 (af _)) (cj.o.trans (b0.mono cj.o.size)) cj.o.size;generalize cb.alloc _=bd at b0 dc cn bg ⊢;obtain⟨-,-,cc,ce⟩:=aA (ah gd.o bg.o);have cz:=aF cc ce;have cr:=zH dc;clear cc ce b0 dc;go_region_held3 (fun D=>ae D w.heap.size 2 (.slice ab n c2)/\ae D w.heap.size 3 (.slice ac m a6))
  (first|with_reducible exact cz|with_reducible exact ju (az _) cz)
  ((fail))
 have cp:=zH ((cn.o.ext (az bd) (fV (aT.1 cr.o).1)).now);have T:=ah cr.o (az bd);obtain⟨co,eb,ck⟩:=dO (cn.o.ext (az bd) (fV (aT.1 cr.o).1)) (ah (ah gf.o bg.o) (az bd)) (a1.o.trans ((bg.o.drew).mono a1.o.size));obtain⟨Y,e4⟩:=aM bd.drew;rw[<-e4]at cp T ck co eb ⊢;obtain⟨h,dr⟩:=aM cb.heap.size;rw[<-dr]at T co br ⊢;obtain⟨ej,gc⟩:=bD T dr;have ea:=zH (fun D (Z:ag Y D)=>jn ad I (bt a.o) D (by
  have F:=kJ (cp.o.o.ext Z) m;rw[show bt (jT a b).o=bt a.o++bt (b.o.map (· +a.w)) from kI _ _,a2.o,List.take_left' (aQ _)]at F;exact F) (by rw[aQ];have:=cu.o;omega))
 have ct:=zH (fun D (Z:ag Y D)=>jn (zeQ H G n) (G-n) (bt (b.i.map (· +a.w))) D (by
  have F:=Ey (cp.o.i.ext Z) (c:=G) (by rw[aQ,<-bo.o];exact bi.o.1) n;rw[show bt (jT a b).i=bt a.i++bt (b.i.map (· +a.w)) from kI _ _,a3.o,List.drop_left' (aQ _)]at F;rw[a3.o];exact F) (by rw[aQ,bh];have:=cu.o;have:=d5.o;omega))
 obtain⟨d8,cq⟩:=bD (show(bt a.o).length=m from(aQ _).trans a2.o.symm) (show(bt (b.i.map (· +a.w))).length=ba-n by rw[aQ,bh,bo.o,a3.o];show _=(a.i++b.i.map _).length-_;rw[bx,bh];omega);rw[d8.o]at ea;rw[cq.o]at ct;have g8:n<=G:=aR gA bi.o.1;have g9:m<=I:=aR gw bi.o.2;obtain⟨-,-,z2,ch⟩:=aA T;have a5:=aF z2 ch;clear z2 ch cz T e4 dr;go_upto_region 3 with(fail)
 obtain⟨X3,c5⟩:=aM (zeQ ad I m);obtain⟨gg,c4⟩:=aM (zeQ H G n);have gb:=zH c5;rw[<-c4]at ct;have gn:(if G=n then H else Option.map (fun x=>x.add n) H)=gg:=c4.symm;have gs:(if I=m then ad else Option.map (fun x=>x.add m) ad)=X3:=c5.symm;have g7:=zH (show h=cb.heap.size from gc.o);clear c4 c5;go_region_held3 (fun D=>ae D h 2 (.slice H ba G)/\ae D h 3 (.slice ad V I))
  (first|with_reducible exact a5|with_reducible exact ju (az _) a5|with_reducible exact ju a4.o a5|with_reducible exact ju bq.o a5)
  ((first|(go_at_call 70;(with_reducible refine(ea.o _ (az Y)).mono ?_);rintro e hf ⟨u7,rfl,a8,J⟩;have a4:=zH ((az Y).trans (J.mono (az Y).size));have f6:=zH a8;clear a8 J)|(go_at_call 70;(with_reducible refine(ct.o _ a4.o).mono ?_);rintro e e8 ⟨u8,rfl,a8,J⟩;have bq:=zH (a4.o.trans (J.mono a4.o.size));have ga:=zH (a8.mono a4.o.size);have f9:=zH ((f6.o.ext J));clear a8 J)))
 have b6:=ah ej.o bq.o;obtain⟨b7,b8,p2,b9⟩:=aA b6;obtain⟨cA,cB,cF,cI⟩:=bZ b6;go_upto_region 5 with(fail)
 have am:=bm e8 h 2 _ _ (.slice H n G) b6;simp only[zA]at am;clear b7 b8 p2 b9 cA cB cF cI;obtain⟨d4,dl⟩:=aM (e8.setCell ⟨h,2,none⟩ (.slice H n G));rw[<-dl]at am ⊢;have ei:=zH dl;obtain⟨b7,b8,p2,b9⟩:=aA am;obtain⟨cA,cB,cF,cI⟩:=bZ am;clear dl b6;go_upto_region 6 with(fail)
 have bu:=bm d4 h 3 _ _ (.slice X3 (V-m) (I-m)) am;simp only[zA]at bu;clear b7 b8 p2 b9 cA cB cF cI;have a9:h<Y.heap.size:=(aT.1 ej.o).1;have c8:∀k,k<h->(d4.setCell ⟨h,3,none⟩ (.slice X3 (V-m) (I-m))).heap[k]?=Y.heap[k]?:=fun k F=>by refine(aZ _ _ _ _ (by show k≠h;omega)).trans ?_;rw[ei.o];exact(aZ _ _ _ _ (by show k≠h;omega)).trans (bq.o.block k Rr)
 have a7:=(co.o.same (fun k cO gi=>c8 k gi)).now;have ap:=f9.o.setCell (a:=⟨h,2,none⟩) (show h<Y.drew.heap.size from a9) (.slice H n G);have a0:=ga.o.setCell (a:=⟨h,2,none⟩) a9 (.slice H n G);have ao:=(ck.o.trans (bq.o.mono ck.o.size)).setCell (p:=⟨h,2,none⟩) (by show w.heap.size<=h;have:=a1.o.size;have:=br.o;omega) (.slice H n G);rw[<-ei.o]at ap a0 ao
 replace ap:=ap.setCell (a:=⟨h,3,none⟩) (show h<Y.drew.heap.size from a9) (.slice X3 (V-m) (I-m))
 replace a0:=a0.setCell (a:=⟨h,3,none⟩) a9 (.slice X3 (V-m) (I-m))
 replace ao:=ao.setCell (p:=⟨h,3,none⟩) (by show w.heap.size<=h;have:=a1.o.size;have:=br.o;omega) (.slice X3 (V-m) (I-m))
 have b5:=(c8 _ (by have:=fb.o;have:=br.o;omega)).trans eb.o;generalize d4.setCell ⟨h,3,none⟩ _=d0 at bu a7 ap a0 ao b5 ⊢;obtain⟨e9,f7,em,e5,-⟩:=ap.view;rw[d8.o]at em;subst em;obtain⟨fa,f8,bv,e6,-⟩:=a0.view;rw[cq.o]at bv;subst bv;have e0:j6 d0 ci H X3 (im a b):=by
  refine⟨a7.es,?_,?_⟩
  .have F:=kJ a7.i n;rw[show bt (jT a b).i=bt a.i++bt (b.i.map (· +a.w)) from kI _ _,a3.o,List.take_left' (aQ _)]at F;exact F
  .have F:=Ey a7.o (c:=I) (by rw[aQ,<-bp.o];exact bi.o.2) m;rw[<-gb.o,show bt (jT a b).o=bt a.o++bt (b.o.map (· +a.w)) from kI _ _,a2.o,List.drop_left' (aQ _)]at F;exact F
 have b2:=zbw (im a b) a.o (b.i.map (· +a.w)) ci H X3 e9 fa ek G (I-m) f7 f8 d0 e0 f5.o (by rw[bh];exact d5.o) cu.o e5 e6 fx.o fs.o;have e1:(im a b).o.length=V-m:=by rw[bp.o,a2.o];show(b.o.map _).length=(a.o++b.o.map _).length-_;rw[bx];omega
 rw[e1,show(im a b).es.length=e7 from d9.o.symm,show(im a b).i.length=n from a3.o.symm,show(b.i.map (· +a.w)).length=ba-n by rw[<-aQ];exact cq.o,<-a2.o,show(im a b).w=(jT a b).w from rfl,show iA (im a b) (a.o.zip (b.i.map (· +a.w)))=nX a b from rfl]at b2;obtain⟨U,c3⟩:=aM (nX a b);rw[<-c3]at b2 ⊢;obtain⟨fn,fo,d7,f4,eg⟩:=mD c3 b2 ao b5 (show w.heap.size+1+1<d0.heap.size from(aT.1 b5).1);obtain⟨b7,b8,p2,b9⟩:=aA bu;clear e0 b2 e1 ao b5 e5 e6 ap a0 a7 c8 a9 bu am c3 a5 gn gs;go_wp2_with ((go_at_call 155;(with_reducible refine fo.o.mono ?_);intro e he F;unfold uh at F;obtain⟨N,d1,O,d2,R,d3,B,bv,e3,c6⟩:=F;subst bv;have T:=ah f4.o c6;obtain⟨ha,hb,hc,hd⟩:=aA T;obtain⟨f0,f1,f2,f3⟩:=bZ T;have y:=cd (v0:=.int .i64 (U.w:Nat)) (v1:=.slice N U.es.length d1) (v2:=.slice O U.i.length d2) (v3:=.slice R U.o.length d3) T;obtain⟨g4,g5,z2,ch⟩:=aA y;unfold dC at g4 g5 z2 ch;have fz:=zH e3;have fd:=zH (bI (d7.o.trans (c6.mono d7.o.size)) (b:=w.heap.size+1+1) Rr (.int .i64 (U.w:Nat)) (.slice N U.es.length d1) (.slice O U.i.length d2) (.slice R U.o.length d3));clear T y e3 c6))
 refine aE (v:=.agg (bl U N d1 O d2 R d3)) (by simp[results,results108,go_sem, *]) rfl ?_;have e:=fn.o;subst e;exact⟨N,d1,O,d2,R,d3,B,rfl,(fz.o.dC (b:=w.heap.size+1+1) eg.o).mono (fV (mV (mV eg.o))),fd.o⟩
theorem wX(xs:aH)(l r k F d:Nat)(A h:aq)(w:aa)(I:aJ w h xs)(O:xs.length=l+r)(J:xs.length<=d)(N:l+r<=1048576):aw 175 #[.agg (iJ l r A k F),.slice h xs.length d] w fun e w'=>∃D G,e=.returned (.slice D l G)/\l<=G/\aJ w' D (xs.take l)/\ag w w':=by refine gG (Ce l r k F A h xs.length d w Rr Rr) ?_;rintro e w' ⟨rfl,H⟩;exact⟨h,d,rfl,Rr,kJ (I.ext H) l,H⟩
theorem tw(xs:aH)(l r k F d:Nat)(A h:aq)(w:aa)(H:aJ w h xs)(R:xs.length=l+r)(I:0<xs.length)(J:xs.length<=d)(O:l+r<=1048576):aw 174 #[.agg (iJ l r A k F),.slice h xs.length d] w fun e w'=>∃D G,e=.returned (.slice D r G)/\r<=G/\aJ w' D (xs.drop l)/\ag w w':=by
 obtain⟨b,o,rfl,-⟩:=H.here I;refine gG (xR l r k F A b o xs.length d w Rr J Rr) ?_;rintro e w' ⟨rfl,hb⟩;have N:xs.length-l=r:=Rr;rw[N];by_cases e:d=l
 .exact WS
 .rw[av e];exact⟨_,_,rfl,Rr,mJ (H.ext hb) l,hb⟩
end Go.Proofs.YtpieilkmmiopfaaGreatDoor
