/- Parts of the walks and laws (Hg5, Hg6, Hg7). Conditions: as stated with each. -/
import Derived.Test.YtpieilkmmiopfaaGreatDoorPk24
import Derived.Test.YtpieilkmmiopfaaGreatDoorPk35
namespace Go.Proofs.YtpieilkmmiopfaaGreatDoor
open Go.RowKit Tryz
set_option linter.all false
set_option maxHeartbeats 2000000
set_option maxRecDepth 100000
variable{A:aq}{C l:bO}{H b c i j k n q x y:Nat}{QN:List Ed}{e:Ed}{g:Gr}{ps:nU}{w:aa}{xs:aH}
theorem zec:(ByteArray.mk #[]).toList.isEmpty=true:=by first|decide|(unfold ByteArray.toList;unfold ByteArray.toList.loop;rfl)|simp[ByteArray.toList,ByteArray.toList.loop]
theorem rZ{k v:Int}(F:3<=k):nW ⟨k,v,true⟩=xD k/\qJ ⟨k,v,true⟩=xE k:=by unfold nW qJ xD xE;have h:¬k=1:=Rr;have D:¬k=2:=Rr;simp only[h,D,jG,false_or];exact⟨trivial,trivial⟩
theorem DI(h:∀x∈l,x<n):((bt l).all fun x=>et x 0 ((n:Int)-1))=true:=by rw[fZ];intro x D;obtain⟨y,F,rfl⟩:=cM.1 D;have:=h y F;rw[cX];omega
theorem zce(e:Ed)(n:Nat)(A1 D:aq)(c1 c2:Nat)(w:aa)(ao:aJ w A1 (bt e.i))(ap:aJ w D (bt e.o))(T:e.jt=true)(hi:∀x∈e.i,x<n)(a1:∀x∈e.o,x<n)(bq:n<=1048576):aw 196 #[.agg (uQ e A1 c1 D c2),(n:Nat)] w fun bc w'=>bc=.returned (.bool true)/\ag w w':=by
 obtain⟨k,v,ad,am⟩:=e;unfold Ed.jt at T;simp only[bE,bX]at T;dsimp only at *;obtain⟨h,a0,V,Y⟩:=T;have bi:=pT h;have bg:k<=14:=by
  unfold dh at h;dsimp only at h;rw[av Rr]at h;by_cases bd:k=7∨k=13
  .omega
  .rw[av bd]at h;simp only[bE,bX]at h;omega
 have U:=rZ (v:=v) a0;rw[U.1]at V;rw[U.2]at Y;have F:=zH (fun W=>t_ k W);rw[<-V,<-Y]at F;obtain⟨a8,a9⟩:=bD (fun W=>Calls.cT (aS k 3 14 W) (by rw[cX];omega)) (fun W=>Calls.be (y:=true) (AK k v (ByteArray.mk #[]) W) (by rw[zec];exact h));have br:IntKind.i64.wrap ((n:Int)-1)=(n:Int)-1:=Sq;obtain⟨bo,Z⟩:=aM ad.length;obtain⟨bp,ab⟩:=aM am.length;have J:=fun W (I:ag w W)=>Calls.cT (lB 0 ((n:Int)-1) A1 c1 (bt ad) W (ao.ext I) Ux) (DI hi)
 have N:=fun W (I:ag w W)=>Calls.cT (lB 0 ((n:Int)-1) D c2 (bt am) W (ap.ext I) Ux) (DI a1)
 rw[aQ,<-Z]at J;rw[aQ,<-ab]at N;rw[<-Z]at F ⊢;rw[<-ab]at F ⊢;obtain⟨a6,a7⟩:=bD J N;obtain⟨O,G⟩:=bA w (.cells (sx k v A1 bo c1 D bp c2) 155);clear ao ap hi a1 h a0 V Y bg U Z ab J N bi;go_enter func196,ntmps196
 go_upto_region 1 with(fail)
 generalize w.alloc _=W at O G ⊢;obtain⟨ac,ba⟩:=bD O G;obtain⟨a2,a3,a4,a5⟩:=aA G;clear O G;go_upto_region 3 with((first|(go_at_call 92;(refine(a8.o _).mono ?_);rintro e w' ⟨rfl,rfl⟩)|(go_at_call 193;(refine(a9.o _).mono ?_);rintro e bu ⟨rfl,R⟩;have H:=zH (ac.o.trans (R.mono ac.o.size));have bb:=zH (ah ba.o R);clear R)))
 clear a2 a3 a4 a5;obtain⟨a2,a3,a4,a5⟩:=aA bb.o;go_wp2_with ((first|(go_at_call 151;(refine(F.o _).mono ?_);rintro e w' ⟨rfl,rfl⟩)|(go_at_call 114;(with_reducible refine(a6.o _ H.o).mono ?_);rintro e w' ⟨rfl,rfl⟩)|(go_at_call 114;(with_reducible refine(a7.o _ H.o).mono ?_);rintro e w' ⟨rfl,rfl⟩)))
 go_ret
 exact⟨rfl,H.o⟩
def Bj(n:Nat)(l:bO):List Nat:=(List.range n).map fun x=>l.count x
theorem lV{n:Nat}{l:bO}:(Bj n l).length=n:=by simp[Bj]
theorem uv{n:Nat}{l:bO}(h:x<n):(Bj n l)[x]?=some (l.count x):=by simp[Bj,h]
theorem zeE(n:Nat):bt (Bj n [])=List.replicate n 0:=by
 apply gS;intro k;simp only[bt,Bj,oP,cC,fH];by_cases h:k<n
 .simp[h]
 .simp[h]
theorem zc7{n:Nat}{l:bO}:(bt (Bj n l)).set x ((l.count x:Int)+1)=bt (Bj n (l++[x])):=by
 apply gS;intro k;by_cases h:k<n
 .by_cases e:x=k
  .subst e;rw[fB (by rw[aQ,lV];exact h),dJ (uv h),List.count_append];simp
  .rw[eF e,dJ (uv h),dJ (uv h),List.count_append];have:List.count k [x]=0:=by rw[List.count_eq_zero];simp;omega
   rw[this];simp
 .rw[gT (by rw[iE,aQ,lV];omega),gT (by rw[aQ,lV];omega)]
structure mF(B n ga gb:Nat)(l m:bO)(V:aa):Prop where
 a:aD V B (.slice (some ⟨ga,0,none⟩) n n) (bt (Bj n l))
 b:aD V B (.slice (some ⟨gb,0,none⟩) n n) (bt (Bj n m))
 ne:ga≠gb
 la:B<=ga
 lb:B<=gb
section
variable{B n ga gb:Nat}{l m:bO}{V V':aa}
theorem mF.ext(h:mF B n ga gb l m V)(D:ag V V'):mF B n ga gb l m V':=⟨h.a.ext D,h.b.ext D,h.ne,h.la,h.lb⟩
theorem mF.swap(h:mF B n ga gb l m V):mF B n gb ga m l V:=⟨h.b,h.a,fun e=>h.ne e.symm,h.lb,h.la⟩
theorem aD.row{n:Nat}(h:aD w B (.slice A n c) xs)(D:xs.length=n):w.ownsRow B 3 1 (.slice A n c) n (xs.map (Value.int .i64)):=by unfold aD at h;rw[D]at h;exact h
theorem mF.at(D:mF B n ga gb l m V)(F:x<n):ae V ga x (.int .i64 (l.count x:Nat))/\V.frozen? ⟨ga,x,none⟩=false:=by have h:=D.a.row (by rw[aQ,lV]);refine⟨?_,h.frozenAt x⟩;rw[h.cellAt x Rr,cC,dJ (uv F)];rfl
theorem mF.inc(h:mF B n ga gb l m V)(x:Nat):mF B n ga gb (l++[x]) m (V.setCell ⟨ga,x,none⟩ (.int .i64 ((l.count x:Int)+1))):=by have D:=(h.a.row (by rw[aQ,lV])).stored x (.int .i64 ((l.count x:Int)+1)) |>.1;rw[<-fh,zc7]at D;exact⟨by unfold aD;rw[aQ,lV];exact D,h.b.l_ (Di V ga x _) (fun g e F=>by cases e;cases F;exact h.ne rfl),h.ne,h.la,h.lb⟩
end
def eH(h:List Ed):List Nat:=(h.map (·.o)).flatten
def jH(h:List Ed):List Nat:=(h.map (·.i)).flatten
theorem Em(h:QN[k]?=some e):eH (QN.take (k+1))=eH (QN.take k)++e.o:=by rw[dH,h];simp[eH]
theorem zc8(h:QN[k]?=some e):jH (QN.take (k+1))=jH (QN.take k)++e.i:=by rw[dH,h];simp[jH]
theorem zc9(h:List Ed)(m:Nat):(eH (h.take m)).length<=(eH h).length:=by
 have D:eH h=eH (h.take m)++eH (h.drop m):=by rw[eH,eH,eH,<-DU,<-kY,DV]
 rw[D,bx];omega
theorem zfT(h:List Ed)(m:Nat):(jH (h.take m)).length<=(jH h).length:=by
 have D:jH h=jH (h.take m)++jH (h.drop m):=by rw[jH,jH,jH,<-DU,<-kY,DV]
 rw[D,bx];omega
theorem gY{h:Type}{l:List h}{x:h}(D:l[k]?=some x):l.take (k+1)=l.take k++[x]:=by rw[dH,D];rfl
def zgS(g:Gr)(w:aa)(e:Ending)(w':aa):Prop:=∃ga gb,e=.returned (.tuple #[.slice (some ⟨ga,0,none⟩) g.w g.w,.slice (some ⟨gb,0,none⟩) g.w g.w])/\mF w.heap.size g.w ga gb (g.i++eH g.es) (g.o++jH g.es) w'/\ag w w'
theorem uw(g:Gr)(A1 a6 a7:aq)(c1 c2 bu:Nat)(w:aa)(ct:j6 w A1 a6 a7 g)(bb:g.In)(fl:g.w<=65536)(T:g.es.length<=65536)(cF:(g.i++eH g.es).length<=33554432)(cI:(g.o++jH g.es).length<=33554432):aw 197 (cy (bl g A1 c1 a6 c2 a7 bu)) w (zgS g w):=by
 obtain⟨c8,hi,c5,c6,EK⟩:=de fT;obtain⟨n,h,D,go⟩:=g;dsimp only at *;obtain⟨ea,eb,ck,bi,bo,bp⟩:=kE (fun x (hx:x∈D)=>(bb x (au hx):x<n)) (fun x (hx:x∈go)=>(bb x (an (au hx)):x<n)) (fun e (T:e∈h) x (hx:x∈e.i∨x∈e.o)=>(bb x (an (an ⟨e,T,hx⟩)):x<n)) (fun(V:aa) (es:ag w V)=>ct.ext es) cF cI;obtain⟨b2,a4⟩:=bA w (.cells (fw n A1 h.length c1 a6 D.length c2 a7 go.length bu) 54);clear ct bb cF cI;go_enter func197,ntmps197
 go_upto_region 1 with(fail)
 generalize w.alloc _=W at b2 a4 ⊢;obtain⟨H,cp⟩:=bD b2 a4;have c0:=(aT.1 a4).1;have e4:=zH c0;obtain⟨U,Y,Z,ab⟩:=aA a4;clear b2 a4 c0;go_upto_region 2 with((at_make;refine jb _ rfl _ _ 26 rfl W.heap.size 3 c8 (.int .i64 0) 1 dY hi c5 c6 .i64 .i64 n n n rfl rfl rfl rfl SA TD (af _) ?_;intro b9 a3 a1;have co:=zH a3;have d8:=zH a1;clear a3 a1))
 have O:=zH (cD d8.o);clear U Y Z ab;have b8:=ah cp.o O.o;obtain⟨U,Y,Z,ab⟩:=aA b8;have ei:=zH b8;clear b8;go_upto_region 3 with((at_make;refine jb _ rfl _ _ 26 rfl W.heap.size 3 c8 (.int .i64 0) 1 dY hi c5 c6 .i64 .i64 n n n rfl rfl rfl rfl SA TD O.o.size ?_;intro e1 a3 a1;have eg:=zH a3;have d9:=zH a1;clear a3 a1))
 have a8:=zH (cD d9.o);clear U Y Z ab;obtain⟨U,Y,Z,ab⟩:=aA (ah ei.o a8.o);have cO:W.heap.size<b9.heap.size:=by
  have N:=co.o;rcases N.2 with⟨e,-⟩|⟨g,cap,e5,e,ac,R,-⟩
  .cases e
  .cases e;exact(aT.1 R).1
 have ce:=zH (show mF W.heap.size n W.heap.size b9.heap.size [] [] e1 from by have ac:=co.o;have R:=eg.o;rw[jo,<-zeE]at ac R;exact⟨aD.ext (by unfold aD;rw[aQ,lV];exact ac) a8.o,by unfold aD;rw[aQ,lV];exact R,Rr,af _,O.o.size⟩)
 obtain⟨e2,db,e3⟩:=dO (H.o.trans ((O.o.trans (a8.o.mono O.o.size)).mono H.o.size)) (O.o.trans (a8.o.mono O.o.size)) cO;obtain⟨ga,cA⟩:=aM W.heap.size;obtain⟨gb,cB⟩:=aM b9.heap.size;have cq:=zH (show ∀V,ag W V->aW V w.heap.size (fw n A1 h.length c1 a6 D.length c2 a7 go.length bu) 54 from fun V N=>ah cp.o N);clear cO;obtain⟨a0,IE⟩:=bD (Rr:W.heap.size<=ga) (show W.heap.size<=gb by have:=O.o.size;omega);rw[<-cA,<-cB]at ce ⊢;have e8:D.length<=33554432:=by have:=bo.o;rw[bx]at this;omega
 have fd:go.length<=33554432:=by have:=bp.o;rw[bx]at this;omega
 clear cA cB;go_wp2;go_loopw [7,25] (fun _ i wr=>∃k:Nat,k<=D.length/\i=.int .i64 k/\mF ga n ga gb ([]++D.take k) ([]) wr/\ag W wr) (fun _ i _=>D.length-(intOf i).toNat)
 case atStart=>exact⟨0,aX _,rfl,by rw[mW,k9];exact ce.o,db.o⟩
 case round=>
  obtain⟨k,ap,rfl,hc,EL⟩:=hrel;by_cases J:k<D.length
  .obtain⟨x,hx⟩:=aB J;obtain⟨bq,br,rfl,Gu⟩:=((bi.o wr (H.o.trans (EL.mono H.o.size))).i).here (Sj:0 < (bt D).length);have b3:=Gu _ _ (dJ hx);have ao:=ea.o x (aY hx);obtain⟨am,b4⟩:=hc.at ao;have hs:=(hc.inc x);have ad:([]++D.take k).count x<=33554432:=by refine aR oN ?_;have:=bo.o;exact Wp
   obtain⟨c,Lt⟩:=aM (([]++D.take k).count x);rw[<-Lt]at am hs ad;rw[fj ([]) (D.take k),<-gY hx]at hs;have Lu:IntKind.i64.wrap ((c:Int)+1)=(c:Int)+1:=Sq;obtain⟨HS,Lr⟩:=bD hs (EL.setCell (p:=⟨ga,x,none⟩) (by have:=hc.la;exact a0.o) (.int .i64 ((c:Int)+1)));clear Gu hx Lt hs hc EL;go_wp2;go_roundw
   case rel=>exact⟨k+1,Rr,Rt,HS.o,Lr.o⟩
   case measure=>simp[intOf];omega
  .obtain rfl:k=D.length:=Rr;rw[k_]at hc;obtain⟨ch,cb⟩:=bD hc EL;obtain⟨U,Y,Z,ab⟩:=aA (cq.o _ EL);obtain⟨fo,c3⟩:=aM wr;rw[<-c3]at ch cb U Y Z ab ⊢;clear hc EL J ap c3;go_wp2;go_loopw [9,39] (fun _ i wr=>∃k:Nat,k<=go.length/\i=.int .i64 k/\mF ga n ga gb (([]++D)) ([]++go.take k) wr/\ag W wr) (fun _ i _=>go.length-(intOf i).toNat)
   case atStart=>exact⟨0,aX _,rfl,by rw[mW,k9];exact ch.o,cb.o⟩
   case round=>
    obtain⟨k,ap,rfl,hc,EL⟩:=hrel;by_cases J:k<go.length
    .obtain⟨x,hx⟩:=aB J;obtain⟨bq,br,rfl,Gu⟩:=((bi.o wr (H.o.trans (EL.mono H.o.size))).o).here (Sj:0 < (bt go).length);have b3:=Gu _ _ (dJ hx);have ao:=eb.o x (aY hx);obtain⟨am,b4⟩:=hc.swap.at ao;have hs:=(hc.swap.inc x).swap;have ad:([]++go.take k).count x<=33554432:=by refine aR oN ?_;have:=bp.o;exact Wp
     obtain⟨c,Lt⟩:=aM (([]++go.take k).count x);rw[<-Lt]at am hs ad;rw[fj ([]) (go.take k),<-gY hx]at hs;exact Zk
    .obtain rfl:k=go.length:=Rr;rw[k_]at hc;obtain⟨ci,cc⟩:=bD hc EL;obtain⟨U,Y,Z,ab⟩:=aA (cq.o _ EL);obtain⟨fs,c4⟩:=aM wr;rw[<-c4]at ci cc U Y Z ab ⊢;clear hc EL J ap c4;go_wp2;go_loopw [13,15,53] (fun _ _ i wr=>∃k:Nat,k<=h.length/\i=.int .i64 k/\mF ga n ga gb (([]++D)++eH (h.take k)) (([]++go)++jH (h.take k)) wr/\ag W wr) (fun _ _ i _=>h.length-(intOf i).toNat)
     case atStart=>exact⟨0,aX _,rfl,by rw[mW];simp only[eH,jH,oQ,List.flatten_nil,k9];simpa using ci.o,cc.o⟩
     case round=>
      obtain⟨F,e9,rfl,hc,EL⟩:=hrel;by_cases J:F<h.length
      .obtain⟨e,T⟩:=aB J;obtain⟨e6,e7,bc,bv,bd,bz,rfl,u0,u1,u2,u3,b5,b6⟩:=gZ (bi.o w (aj _ _)).es T;have a5:=H.o.trans (EL.mono H.o.size)
       replace u0:=al a5 u0;replace u1:=al a5 u1;replace u2:=al a5 u2;replace u3:=al a5 u3
       have a9:=Em T;have ba:=zc8 T;obtain⟨b0,b1,I,G⟩:=e;dsimp only at u0 u1 u2 u3 b5 b6 a9 ba;have b7:=aY T;obtain⟨d4,d5,d2,d3,d6,d7⟩:=kE (fun x (hx:x∈I)=>(ck.o _ b7 x (au hx):x<n)) (fun x (hx:x∈G)=>(ck.o _ b7 x (an hx):x<n)) (fun V (N:ag w V)=>b5.ext N) (fun V (N:ag w V)=>b6.ext N) a9 ba;have bg:=zH (show(D++(eH (h.take F)++G)).length<=33554432/\(go++(jH (h.take F)++I)).length<=33554432 from by have ac:=zc9 h (F+1);have R:=zfT h (F+1);have em:=bo.o;have eo:=bp.o;rw[a9]at ac;rw[ba]at R;simp only[bx]at ac R em eo ⊢;omega)
       have cn:=zH (show G.length<=33554432/\I.length<=33554432 from by have N:=bg.o;simp only[bx]at N;omega)
       obtain⟨cu,a2⟩:=bA wr (.cells (eD b0 b1 bc I bv bd G bz) 155);obtain⟨ca,cj⟩:=bD (EL.alloc EL.size (.cells (eD b0 b1 bc I bv bd G bz) 155)) (hc.ext cu);have cr:=zH (show wr.heap.size≠ga/\wr.heap.size≠gb from by have ac:=bL hc.a ga rfl;have R:=bL hc.b gb rfl;omega)
       clear T EL hc a5 a9 ba b5 b6 b7 cu;go_upto_region 16 with(fail)
       generalize wr.alloc _=fn at a2 ca cj ⊢;obtain⟨c9,c7⟩:=aM wr.heap.size;rw[<-c7]at a2 cr ⊢;obtain⟨ej,ek⟩:=bD a2 cr.o.1;have fb:=cn.o.1;have fa:=cn.o.2;obtain⟨ev,ey,n2,e0⟩:=aA a2;clear u0 u1 u2 u3 a2 c7;go_wp2;go_loopw [13,60] (fun _ i wr=>∃k:Nat,k<=G.length/\i=.int .i64 k/\mF ga n ga gb ((([]++D)++eH (h.take F))++G.take k) ((([]++go)++jH (h.take F))) wr/\ag W wr/\Hd (aW wr c9 (eD b0 b1 bc I bv bd G bz) 155)) (fun _ i _=>G.length-(intOf i).toNat)
       case atStart=>exact⟨0,aX _,rfl,by rw[mW,k9];exact cj.o,ca.o,ej⟩
       case round=>
        obtain⟨k,ap,rfl,hc,EL,cz⟩:=hrel;by_cases J:k<G.length
        .obtain⟨x,hx⟩:=aB J;obtain⟨bq,br,rfl,Gu⟩:=(d3.o wr (H.o.trans (EL.mono H.o.size))).here (Sj:0 < (bt G).length);have b3:=Gu _ _ (dJ hx);have ao:=d5.o x (aY hx);obtain⟨am,b4⟩:=hc.at ao;have hs:=(hc.inc x);have ad:((([]++D)++eH (h.take F))++G.take k).count x<=33554432:=by refine aR oN ?_;have:=bg.o.1;exact Wp
         obtain⟨c,Lt⟩:=aM (((([]++D)++eH (h.take F))++G.take k).count x);rw[<-Lt]at am hs ad;rw[fj ((([]++D)++eH (h.take F))) (G.take k),<-gY hx]at hs;have Lu:IntKind.i64.wrap ((c:Int)+1)=(c:Int)+1:=Sq;obtain⟨HS,Lr,dq⟩:=dO hs (EL.setCell (p:=⟨ga,x,none⟩) (by have:=hc.la;exact a0.o) (.int .i64 ((c:Int)+1))) ((aZ wr ⟨ga,x,none⟩ (.int .i64 ((c:Int)+1)) c9 ek.o).trans cz.o);clear Gu hx Lt hs hc EL;go_wp2;go_roundw
         case rel=>exact⟨k+1,Rr,Rt,HS.o,Lr.o,dq⟩
         case measure=>simp[intOf];omega
        .obtain rfl:k=G.length:=Rr;rw[k_]at hc;obtain⟨dT,dl⟩:=bD hc EL;obtain⟨ev,ey,n2,e0⟩:=aA cz.o;clear hc EL J ap;go_wp2;go_loopw [15,74] (fun _ i wr=>∃k:Nat,k<=I.length/\i=.int .i64 k/\mF ga n ga gb (((([]++D)++eH (h.take F))++G)) ((([]++go)++jH (h.take F))++I.take k) wr/\ag W wr) (fun _ i _=>I.length-(intOf i).toNat)
         case atStart=>exact⟨0,aX _,rfl,by rw[mW,k9];exact dT.o,dl.o⟩
         case round=>
          obtain⟨k,ap,rfl,hc,EL⟩:=hrel;by_cases J:k<I.length
          .obtain⟨x,hx⟩:=aB J;obtain⟨bq,br,rfl,Gu⟩:=(d2.o wr (H.o.trans (EL.mono H.o.size))).here (Sj:0 < (bt I).length);have b3:=Gu _ _ (dJ hx);have ao:=d4.o x (aY hx);obtain⟨am,b4⟩:=hc.swap.at ao;have hs:=(hc.swap.inc x).swap;have ad:((([]++go)++jH (h.take F))++I.take k).count x<=33554432:=by refine aR oN ?_;have:=bg.o.2;exact Wp
           obtain⟨c,Lt⟩:=aM (((([]++go)++jH (h.take F))++I.take k).count x);rw[<-Lt]at am hs ad;rw[fj ((([]++go)++jH (h.take F))) (I.take k),<-gY hx]at hs;exact Zk
          .obtain rfl:k=I.length:=Rr;rw[k_]at hc;obtain⟨d1,dr⟩:=bD hc EL;clear hc EL;go_wp2;go_roundw
           case rel=>exact⟨F+1,Rr,Rt,by rw[d6.o,d7.o,<-fj,<-fj];exact d1.o,dr.o⟩
           case measure=>simp[intOf];omega
      .obtain rfl:F=h.length:=Rr;rw[k_]at hc;have d0:=zH (show mF w.heap.size n ga gb (D++eH h) (go++jH h) wr from by
        have hx:=H.o.size;refine⟨?_,?_,hc.ne,aR hx a0.o,aR hx IE.o⟩
        .exact hc.a.mono (aR hx a0.o)
        .exact hc.b.mono (aR hx a0.o))
       have dc:=zH (H.o.trans (EL.mono H.o.size));clear hc EL;go_wp2;exact aE (v:=.tuple (kX (some ⟨ga,0,none⟩) n n (some ⟨gb,0,none⟩) n n)) (by simp[results,results197,go_sem, *]) rfl ⟨ga,gb,rfl,d0.o,dc.o⟩
theorem ED(h:g.On x):0 < (g.i++eH g.es).count x+(g.o++jH g.es).count x:=by
 have F:x∈g.i++eH g.es∨x∈g.o++jH g.es:=by
  rcases h with h|h|⟨e,D,h|h⟩
  .exact au (m9 _ h)
  .exact an (m9 _ h)
  .exact an (jF _ (qp.2 ⟨e.i,cM.2 ⟨e,D,rfl⟩,h⟩))
  .exact au (jF _ (qp.2 ⟨e.o,cM.2 ⟨e,D,rfl⟩,h⟩))
 rcases F with h|h
 .have:=List.count_pos_iff.2 h;omega
 .have:=List.count_pos_iff.2 h;omega
theorem pq{D:Type}(f:D->List Nat)(m:Nat):∀(L:List D),(∀e∈L,(f e).length<=m)->((L.map f).flatten).length<=L.length*m
 |[],_=>Rq
 |e::L,h=>by
  rw[m_,qy,bx,jc,wH];have:=h e (lh ..);have:=pq f m L fun e F=>h e (lg _ F)
  omega
theorem xQ(g:Gr)(A1 ac ad:aq)(c1 c2 a3:Nat)(w:aa)(am:j6 w A1 ac ad g)(a4:g.G1)(I:mL g):aw 153 (cy (bl g A1 c1 ac c2 ad a3)) w (dM w (gM g)):=by
 have bb:=G1.el a4;have d9:=I.w;have cA:=I.es;have d7:=I.i;have d8:=I.o;obtain⟨c7,db⟩:=bD a4.fit (fun x (J:x<g.w)=>ED (a4.on x J));have dT:(eH g.es).length<=4096*12:=aR (pq (·.o) 12 g.es fun e G=>(bb e G).2) (vX _ cA);have d0:(jH g.es).length<=4096*12:=aR (pq (·.i) 12 g.es fun e G=>(bb e G).1) (vX _ cA);have ct:(g.i++eH g.es).length<=65536/\(g.o++jH g.es).length<=65536:=by rw[bx,bx];omega
 obtain⟨b2,c5,c9,b1,bv,bz⟩:=kE ct (fun h (H:ag w h)=>uw g A1 ac ad c1 c2 a3 h (am.ext H) I.inr Rr Rr Rr Rr) (fun h (H:ag w h)=>am.ext H) I.inr (fun h (H:ag w h)=>Calls.cT (lB 0 ((g.w:Int)-1) ac c2 (bt g.i) h (am.ext H).i Ux) (DI fun x J=>I.inr x (au J))) (fun h (H:ag w h)=>Calls.cT (lB 0 ((g.w:Int)-1) ad a3 (bt g.o) h (am.ext H).o Ux) (DI fun x J=>I.inr x (an (au J))));rw[aQ]at bv bz;have T:=zH (show gM g=(decide (g.w<=100)&&(decide (g.es.length<=60)&&(decide (g.i.length<=12)&&decide (g.o.length<=12)))) from rfl);obtain⟨n,D,R,go⟩:=g;dsimp only at *;obtain⟨a0,cz⟩:=aM (gM ⟨n,D,R,go⟩);rw[<-cz]at T ⊢;obtain⟨ba,a5⟩:=bA w (.cells (fw n A1 D.length c1 ac R.length c2 ad go.length a3) 54);have ea:IntKind.i64.wrap ((n:Int)-1)=(n:Int)-1:=Sq;clear am a4 I bb dT d0 ct cz;go_enter func153,ntmps153
 go_upto_region 1 with(fail)
 generalize w.alloc _=W at ba a5 ⊢;obtain⟨HB,b3⟩:=bD ba a5;obtain⟨V,Y,Z,ab⟩:=aA a5;clear ba a5;by_cases ca:n<=100
 .have LP:=zH (fun h=>Calls.cT (y:=true) (aS (n:Int) 0 100 h) (by rw[cX];omega));by_cases cb:D.length<=60
  .have d2:decide ((60:Int) < (D.length:Int))=false:=RS;by_cases cc:R.length<=12
   .have d3:decide ((12:Int) < (R.length:Int))=false:=RS;by_cases ce:go.length<=12
    .have d4:decide ((12:Int) < (go.length:Int))=false:=RS;obtain rfl:a0=true:=by rw[T.o];simp[ca,cb,cc,ce]
     go_upto_region 3 with((first|(go_at_call 92;(refine(LP.o _).mono ?_);rintro e w' ⟨rfl,rfl⟩)|(go_at_call 114;(with_reducible refine(bv.o _ HB.o).mono ?_);rintro e w' ⟨rfl,rfl⟩)|(go_at_call 114;(with_reducible refine(bz.o _ HB.o).mono ?_);rintro e w' ⟨rfl,rfl⟩)))
     clear d2 d3 d4;obtain⟨c0,c6,c8⟩:=dO (aj W.heap.size W) (fun k e (G:D[k]?=some e)=>gZ (c9.o w (aj _ _)).es G) (fun e (G:e∈D) A B N O h (hi:aJ h A (bt e.i)) (d1:aJ h B (bt e.o))=>zce e n A B N O h hi d1 (c7.o e G) (fun x J=>b1.o x (an (an ⟨e,G,au J⟩))) (fun x J=>b1.o x (an (an ⟨e,G,an J⟩))) Rr);go_wp2;go_loopw [51] (fun i wr=>∃k:Nat,k<=D.length/\i=.int .i64 k/\ag W wr) (fun i _=>D.length-(intOf i).toNat)
     case atStart=>exact⟨0,aX _,rfl,c0.o⟩
     case round=>
      obtain⟨k,cp,rfl,F⟩:=hrel;clear V Y Z ab;obtain⟨V,Y,Z,ab⟩:=aA (ah b3.o F);by_cases U:k<D.length
      .obtain⟨e,G⟩:=aB U;have cu:=aY G;obtain⟨d5,d6,a6,a8,a7,a9,rfl,u0,u1,u2,u3,cn,co⟩:=c6.o _ _ G;have ap:=HB.o.trans (F.mono HB.o.size)
       replace u0:=al ap u0;replace u1:=al ap u1;replace u2:=al ap u2;replace u3:=al ap u3
       have bg:=fun h (ci:ag w h)=>c8.o e cu a6 a7 a8 a9 h (cn.ext ci) (co.ext ci)
       obtain⟨b7,b9,b6,b8⟩:=e;dsimp only at u0 u1 u2 u3 bg;have c4:=zH bg;have bo:=aC wr (.cells (eD b7 b9 a6 b6 a8 a7 b8 a9) 155) rfl;have bc:=ak wr (.cells (eD b7 b9 a6 b6 a8 a7 b8 a9) 155);obtain⟨a1,b4⟩:=bD (F.trans (bc.mono F.size)) (ah (ah b3.o F) bc);clear G cu cn co bg ap F bc;go_upto_region 6 with(fail)
       generalize wr.alloc _=eo at bo a1 b4 ⊢;clear u0 u1 u2 u3 V Y Z ab;obtain⟨ej,ek,n2,em⟩:=aA bo;obtain⟨V,Y,Z,ab⟩:=aA b4.o;have dl:=zH (HB.o.trans (a1.o.mono HB.o.size));clear bo;go_wp2_with (go_at_call 196;(with_reducible refine(c4.o _ dl.o).mono ?_);rintro e es ⟨rfl,ao⟩;have cF:=zH (a1.o.trans (ao.mono a1.o.size));clear ao)
       go_roundw
       case rel=>exact⟨k+1,Rr,Rt,cF.o⟩
       case measure=>simp[intOf];omega
      .obtain rfl:k=D.length:=Rr;obtain⟨cI,a2⟩:=bD F (HB.o.trans (F.mono HB.o.size));clear F U cp;obtain⟨ev,cB⟩:=aM wr;rw[<-cB]at cI a2 V Y Z ab ⊢;clear cB;go_wp2_with (go_at_call 197;(with_reducible refine(c5.o _ a2.o).mono ?_);intro e bu H;unfold zgS at H;obtain⟨dq,dr,ch,bd,ao⟩:=H;dsimp only at ch bd;subst ch;have c3:=zH bd;have b0:=zH (a2.o.trans (ao.mono a2.o.size));clear bd ao)
       clear V Y Z ab;have dc:=zH (aj bu.heap.size bu);go_loopw [7,68] (fun _ i wr=>∃k:Nat,k<=n/\i=.int .i64 k/\ag bu wr) (fun _ i _=>n-(intOf i).toNat)
       case atStart=>exact⟨0,aX _,rfl,dc.o⟩
       case round=>
        obtain⟨k,cp,rfl,F⟩:=hrel;by_cases U:k<n
        .have bi:=c3.o.ext F;have bp:=db.o k U;have bq:=(bi.at U).1;have br:=(bi.swap.at U).1;have cq:=aR oN b2.o.1 (n:=List.count k (R++eH D));have cr:=aR oN b2.o.2 (n:=List.count k (go++jH D));obtain⟨N,cj⟩:=aM ((R++eH D).count k);obtain⟨O,ck⟩:=aM ((go++jH D).count k);rw[<-cj]at bq bp cq;rw[<-ck]at br bp cr;have eb:IntKind.i64.wrap ((N:Int)+(O:Int))=(N:Int)+(O:Int):=Sq;have eg:((N:Int)+(O:Int)==0)=false:=by rw[<-vW,mU];omega
         have ei:¬((N:Int)+(O:Int)=0):=Rr;have cO:=zH F;have b5:=aF bq br;clear bi cj ck F bp cq cr;go_upto_region 13 with(fail)
         clear bq br;go_region_held3 (fun h=>ae h dq k (.int .i64 (N:Nat))/\ae h dr k (.int .i64 (O:Nat)))
          (first|with_reducible exact b5|with_reducible exact ju (az _) b5)
          ((fail))
         go_wp2;go_roundw
         case rel=>exact⟨k+1,Rr,Rt,cO.o.drew⟩
         case measure=>simp[intOf];omega
        .obtain rfl:k=n:=Rr;go_wp2;go_ret
         exact⟨rfl,b0.o.trans (F.mono b0.o.size)⟩
    .have d4:decide ((12:Int) < (go.length:Int))=true:=RS;obtain rfl:a0=false:=by rw[T.o];simp[ce]
     exact X9
   .have d3:decide ((12:Int) < (R.length:Int))=true:=RS;obtain rfl:a0=false:=by rw[T.o];simp[cc]
    exact X9
  .have d2:decide ((60:Int) < (D.length:Int))=true:=RS;obtain rfl:a0=false:=by rw[T.o];simp[cb]
   exact X9
 .have LP:=zH (fun h=>Calls.cT (y:=false) (aS (n:Int) 0 100 h) (by rw[<-vW,cX];omega));obtain rfl:a0=false:=by rw[T.o];simp[ca]
  exact X9
def zh5(g:Gr)(A1:aq)(c1:Nat)(h:aq)(c2:Nat)(D:aq)(F:Nat)(w:aa)(e:Ending)(w':aa):Prop:=
 ((gM g=false/\e=.returned (.tuple (cJ bQ)))∨
 (gM g=true/\e=.returned (.tuple (fA (bl g A1 c1 h c2 D F)))))/\ag w w'
theorem zay(g:Gr)(A1 h D:aq)(c1 c2 F:Nat)(w:aa)(a1:j6 w A1 h D g)(a2:g.G1)(a3:mL g):aw 107 (cy (bl g A1 c1 h c2 D F)) w (zh5 g A1 c1 h c2 D F w):=by
 have ao:=zH (fun a0 (bg:ag w a0)=>xQ g A1 h D c1 c2 F a0 (a1.ext bg) a2 a3);obtain⟨n,G,H,go⟩:=g;dsimp only at *;have T:=((aj w.heap.size w).alloc (af _) (.cells (fw n A1 G.length c1 h H.length c2 D go.length F) 54)).alloc Rq (.cells bQ 54);have J:=(bJ (w.alloc (.cells (fw n A1 G.length c1 h H.length c2 D go.length F) 54)) (.cells bQ 54) (k:=w.heap.size) Rq).trans (aC w _ rfl);have V:=aC (w.alloc (.cells (fw n A1 G.length c1 h H.length c2 D go.length F) 54)) (.cells bQ 54) (n:=w.heap.size+1) Rq;clear a1 a2 a3;go_enter func107,ntmps107
 go_upto_region 1 with(fail)
 generalize (w.alloc _).alloc _=W at T J V ⊢;obtain⟨O,bc,bd⟩:=dO T J V;obtain⟨bo,bp,bq,br⟩:=aA J;clear T J V;unfold zh5;cases U:gM ⟨n,G,H,go⟩
 all_goals
  rw[U]at ao;have am:=zH U;clear U;go_wp2_with (go_at_call 153;(with_reducible refine(ao.o _ O.o).mono ?_);rintro e bi ⟨rfl,I⟩;have ad:=zH (O.o.trans (I.mono O.o.size));have N:=ah bd.o I;obtain⟨a8,a9,ba,bb⟩:=aA N;obtain⟨f0,f1,f2,f3⟩:=bZ N;have a4:=ah bc.o I;obtain⟨a5,a6,p2,a7⟩:=aA a4;have ap:=zH N;clear N a4 I)
 .have y:=cd (v0:=()) (v1:=bW) (v2:=bW) (v3:=bW) ap.o;obtain⟨Y,Z,ab,ac⟩:=aA y;unfold dC at Y Z ab ac;have R:=zH (bI ad.o (b:=w.heap.size+1) Rr (.int .i64 0) (.slice none 0 0) (.slice none 0 0) (.slice none 0 0));clear y a8 a9 ba bb f0 f1 f2 f3 a5 a6 p2 a7;exact aE (v:=.tuple (cJ bQ)) U2 rfl ⟨au ⟨am.o,rfl⟩,R.o⟩
 .have y:=cd (v0:=.int .i64 (n:Nat)) (v1:=.slice A1 G.length c1) (v2:=.slice h H.length c2) (v3:=.slice D go.length F) ap.o;obtain⟨Y,Z,ab,ac⟩:=aA y;unfold dC at Y Z ab ac;have R:=zH (bI ad.o (b:=w.heap.size+1) Rr (.int .i64 (n:Nat)) (.slice A1 G.length c1) (.slice h H.length c2) (.slice D go.length F));clear y a8 a9 ba bb f0 f1 f2 f3 a5 a6 p2 a7;exact aE (v:=.tuple (fA (fw n A1 G.length c1 h H.length c2 D go.length F))) U2 rfl ⟨an ⟨am.o,rfl⟩,R.o⟩
structure BQ(B n ga:Nat)(l:bO)(V:aa):Prop where
 a:aD V B (.slice (some ⟨ga,0,none⟩) n n) (bt l)
 len:l.length=n
 la:B<=ga
section
variable{B n ga:Nat}{l:bO}{V V':aa}
theorem BQ.ext(h:BQ B n ga l V)(D:ag V V'):BQ B n ga l V':=⟨h.a.ext D,h.len,h.la⟩
theorem BQ.row(h:BQ B n ga l V):V.ownsRow B 3 1 (.slice (some ⟨ga,0,none⟩) n n) n ((bt l).map (Value.int .i64)):=h.a.row (by rw[aQ,h.len])
theorem BQ.at(h:BQ B n ga l V)(D:l[x]?=some y):ae V ga x (.int .i64 (y:Nat))/\V.frozen? ⟨ga,x,none⟩=false:=by have F:=(bG.1 D).1;refine⟨?_,h.row.frozenAt x⟩;rw[h.row.cellAt x (by have:=h.len;omega),cC,dJ D];rfl
theorem BQ.put(h:BQ B n ga l V)(x y:Nat):BQ B n ga (l.set x y) (V.setCell ⟨ga,x,none⟩ (.int .i64 (y:Nat))):=by
 have D:=(h.row.stored x (.int .i64 (y:Nat))).1;rw[<-fh]at D;have e:(bt l).set x ((y:Nat):Int)=bt (l.set x y):=by simp only[bt];rw[fh]
 rw[e]at D;refine⟨by unfold aD;rw[aQ,iE,h.len];exact D,TE,h.la⟩
end
def jC(x y q:Nat):Nat:=if q=max x y then min x y else q
theorem zcS(c:bO)(a b:Nat):rC c a b=c.map (jC (c.getD a 0) (c.getD b 0)):=rfl
def wS(f:ir)(c:bO)(j:Nat):List Nat:=(c.take j).map f++c.drop j
theorem zcT(f:ir)(c:bO):wS f c 0=c:=by simp[wS]
theorem zej(f:ir)(c:bO):wS f c c.length=c.map f:=by simp[wS]
theorem zn(f:ir){c:bO}(h:j<c.length):(wS f c j)[j]?=c[j]?:=by unfold wS;rw[ef RS,eX,bh,cG,gR Rr,oK,iM]
theorem BR(f:ir){c:bO}(h:c[j]?=some q):(wS f c j).set j (f q)=wS f c (j+1):=by
 have D:=(bG.1 h).1;have F:c.drop j=q::c.drop (j+1):=by rw[mT D];congr 1;exact(bG.1 h).2
 unfold wS;rw[dH,h,F,kY,lI _ _ (by simp;exact Nat.min_le_left _ _)];simp[gR (fV D)]
theorem zcU(f:ir){c:bO}(h:c[j]?=some q)(F:f q=q):wS f c j=wS f c (j+1):=by
 rw[<-BR f h,F];have D:=(zn f (bG.1 h).1).trans h;apply gS;intro k;by_cases e:j=k
 .subst e;rw[fB (bG.1 D).1,D]
 .rw[eF e]
theorem zfL{us h:bO}{a:Nat}(D:us[k]?=some a)(F:h[k]?=some b):(us.zip h)[k]?=some (a,b):=by rw[List.getElem?_zip_eq_some];exact⟨D,F⟩
theorem zgN{us D:bO}{n:Nat}(F:∀x∈us,x<n)(G:∀x∈D,x<n):∀q∈us.zip D,q.1<n/\q.2<n:=fun q h=>by obtain⟨H,I⟩:=q;exact⟨F _ (vV h).1,G _ (vV h).2⟩
theorem zfM{n:Nat}(h:∀q∈ps,q.1<n/\q.2<n):mB n (iH n ps):=Dj ps _ (uR n) h
theorem BQ.other{B n ga:Nat}{l:bO}{V:aa}(h:BQ B n ga l V)(F:b≠ga)(i:Nat)(v:ax):BQ B n ga l (V.setCell ⟨b,i,none⟩ v):=⟨h.a.l_ (Di V b i v) (fun g e D=>by cases e;cases D;exact F rfl),h.len,h.la⟩
theorem mF.other{B n ga:Nat}{l m:bO}{V:aa}(h:mF B n ga H l m V)(F:b≠ga)(G:b≠H)(i:Nat)(v:ax):mF B n ga H l m (V.setCell ⟨b,i,none⟩ v):=⟨h.a.l_ (Di V b i v) (fun g e D=>by cases e;cases D;exact F rfl),h.b.l_ (Di V b i v) (fun g e D=>by cases e;cases D;exact G rfl),h.ne,h.la,h.lb⟩
structure tp(B n ga:Nat)(l:Bg)(V:aa):Prop where
 row:V.ownsRow B 4 1 (.slice (some ⟨ga,0,none⟩) n n) n (l.map Value.bool)
 len:l.length=n
 la:B<=ga
section
variable{B n ga:Nat}{l:Bg}{V V':aa}
theorem tp.ext(D:tp B n ga l V)(h:ag V V'):tp B n ga l V':=⟨ik D.row (row:=none) ⟨h.os,h.tape,h.output,h.size,fun k F _=>h.block k F⟩ (an TO),D.len,D.la⟩
theorem tp.at(h:tp B n ga l V){y:Bool}(hx:l[x]?=some y):ae V ga x (.bool y)/\V.frozen? ⟨ga,x,none⟩=false:=Yg
theorem tp.put(h:tp B n ga l V)(x:Nat)(y:Bool):tp B n ga (l.set x y) (V.setCell ⟨ga,x,none⟩ (.bool y)):=by have D:=(h.row.stored x (.bool y)).1;rw[<-fh]at D;exact⟨D,TE,h.la⟩
end
def qP(g:Gr)(C:bO)(k:Nat):List Bool:=(List.range g.w).map fun r=>(List.range k).any fun x=>g.onB x&&decide (C.getD x 0=r)
theorem qW(g:Gr)(C:bO)(k:Nat):(qP g C k).length=g.w:=by simp[qP]
theorem zek(g:Gr)(C:bO):qP g C 0=List.replicate g.w false:=by
 apply gS;intro r;unfold qP;rw[cC,fH];by_cases h:r<g.w
 .rw[lJ h,ay h];rfl
 .rw[gT RS,av h];rfl
theorem BS(r:Nat):((List.range (k+1)).any fun x=>g.onB x&&decide (C.getD x 0=r))=(((List.range k).any fun x=>g.onB x&&decide (C.getD x 0=r))||(g.onB k&&decide (C.getD k 0=r))):=by rw[oL,yX];simp
theorem zel(h:g.onB k=false):qP g C k=qP g C (k+1):=by
 unfold qP;refine kZ fun r _=>?_
 rw[BS,h];simp
theorem zfN(F:g.onB k=true):(qP g C k).set (C.getD k 0) true=qP g C (k+1):=by
 apply gS;intro r;by_cases h:r<g.w
 .have D:(qP g C (k+1))[r]?=some ((List.range (k+1)).any fun x=>g.onB x&&decide (C.getD x 0=r)):=by unfold qP;rw[cC,lJ h];rfl
  rw[D,BS,F];by_cases e:C.getD k 0=r
  .rw[e,fB (by rw[qW];exact h)];simp
  .rw[eF e,fW e];unfold qP;rw[cC,lJ h];simp
 .rw[gT (by rw[iE,qW];omega),gT (by rw[qW];omega)]
theorem zem(F:g.In):qP g C g.w=kG g.w C (dE g):=by
 unfold qP kG;refine kZ fun r _=>?_
 rw[jz,AI,k7];constructor
 .rintro⟨x,D,h⟩;rw[bE,bX]at h;exact⟨x,Gr.jS.1 h.1,h.2⟩
 .rintro⟨x,D,h⟩;exact⟨x,fi.2 (F x D),by rw[Gr.jS.2 D];simpa using h⟩
theorem zcV:(g.i++eH g.es).count x+(g.o++jH g.es).count x=0↔g.onB x=false:=by
 constructor
 .intro h;rw[<-vW,Gr.jS];intro H;have:=ED H;omega
 .intro h;have J:¬g.On x:=fun H=>by rw[Gr.jS.2 H]at h;cases h
  have N:x∉g.i++eH g.es:=fun G=>J (by
   rcases eh.1 G with h|h
   .exact au h
   .obtain⟨l,F,I⟩:=qp.1 h;obtain⟨e,D,rfl⟩:=cM.1 F;exact an (an ⟨e,D,an I⟩))
  have O:x∉g.o++jH g.es:=fun G=>J (by
   rcases eh.1 G with h|h
   .exact an (au h)
   .obtain⟨l,F,I⟩:=qp.1 h;obtain⟨e,D,rfl⟩:=cM.1 F;exact an (an ⟨e,D,au I⟩))
  rw[List.count_eq_zero.2 N,List.count_eq_zero.2 O]
structure ll(B n ga:Nat)(l:aH)(V:aa):Prop where
 a:aD V B (.slice (some ⟨ga,0,none⟩) n n) l
 len:l.length=n
 la:B<=ga
section
variable{B n ga:Nat}{l:aH}{V V':aa}
theorem ll.ext(h:ll B n ga l V)(D:ag V V'):ll B n ga l V':=⟨h.a.ext D,h.len,h.la⟩
theorem ll.row(h:ll B n ga l V):V.ownsRow B 3 1 (.slice (some ⟨ga,0,none⟩) n n) n (l.map (Value.int .i64)):=h.a.row h.len
theorem ll.at(h:ll B n ga l V){y:Int}(hx:l[x]?=some y):ae V ga x (.int .i64 y)/\V.frozen? ⟨ga,x,none⟩=false:=Yg
theorem ll.put(h:ll B n ga l V)(x:Nat)(y:Int):ll B n ga (l.set x y) (V.setCell ⟨ga,x,none⟩ (.int .i64 y)):=by have D:=(h.row.stored x (.int .i64 y)).1;rw[<-fh]at D;exact⟨by unfold aD;rw[iE,h.len];exact D,TE,h.la⟩
theorem tp.other{l:Bg}(h:tp B n ga l V)(D:b≠ga)(i:Nat)(v:ax):tp B n ga l (V.setCell ⟨b,i,none⟩ v):=⟨ik h.row (row:=some b) (Di V b i v) (an Uu),h.len,h.la⟩
end
def pD(g:Gr)(C:bO)(j:Nat):List Int:=(List.range g.w).map fun x=>if x<j/\C.getD x 0=x/\mH C (dE g) x=true then(lD g C x:Int) else 0
theorem pd(g:Gr)(C:bO)(j:Nat):(pD g C j).length=g.w:=by simp[pD]
theorem qX(h:x<g.w):(pD g C j)[x]?=some (if x<j/\C.getD x 0=x/\mH C (dE g) x=true then(lD g C x:Int) else 0):=by simp[pD,h]
theorem zen(g:Gr)(C:bO):pD g C 0=List.replicate g.w 0:=by
 apply gS;intro r;by_cases h:r<g.w
 .rw[qX h,fH,ay h,av Rr]
 .rw[gT (by rw[pd];omega),fH,av h]
theorem Ec(h:¬(C.getD j 0=j/\mH C (dE g) j=true)):pD g C j=pD g C (j+1):=by
 unfold pD;refine kZ fun x _=>?_
 by_cases e:x=j
 .subst e;rw[av Rr,av (fun D=>h D.2)]
 .have:x<j↔x<j+1:=Rr;simp only[this]
theorem zfO(D:C.getD j 0=j)(F:mH C (dE g) j=true):(pD g C j).set j (lD g C j:Int)=pD g C (j+1):=by
 apply gS;intro r;by_cases h:r<g.w
 .rw[qX h];by_cases e:j=r
  .subst e;rw[fB (by rw[pd];exact h),ay ⟨Rr,D,F⟩]
  .rw[eF e,qX h];have:r<j↔r<j+1:=Rr;simp only[this]
 .rw[gT (by rw[iE,pd];omega),gT (by rw[pd];omega)]
def qY(a b:aH)(j:Nat):List Int:=a.take j++b.drop j
theorem zcW(a b:aH):qY a b 0=b:=by simp[qY]
theorem zeo{a b:aH}(h:i<j)(D:j<=a.length):(qY a b j)[i]?=a[i]?:=by unfold qY;rw[df Sr,gm,ay h]
theorem zep{a b:aH}(h:j<=a.length):(qY a b j)[j]?=b[j]?:=by unfold qY;rw[ef Sr,eX,cG,gR h,oK,iM]
theorem BU{a b:aH}{v:Int}(h:a[j]?=some v)(F:a.length=b.length):(qY a b j).set j v=qY a b (j+1):=by have G:=(bG.1 h).1;have D:b.drop j=b[j]'Rr::b.drop (j+1):=mT Rr;unfold qY;rw[dH,h,D,lI _ _ Sr,cG,gR Rr,oK];simp only[fj,oM,Option.toList_some,sy,qs]
theorem zeq{a b:aH}(h:a.length=j)(D:b.length=j):qY a b j=a:=by unfold qY;rw[cY Rr,iN Rr,k9]
theorem zer{a b:aH}{n:Nat}(h:a.length=n)(D:b.length=n)(F:j<=n):(qY a b j).length=n:=by unfold qY;rw[bx,cG,gp];omega
def zgO(g:Gr)(ps:nU)(w:aa)(e:Ending)(w':aa):Prop:=∃A1 c1 h c2 D F B G I H,e=.returned (.tuple #[.agg (kW ((iA g ps).w:Nat) A1 (iA g ps).es.length c1 h (iA g ps).i.length c2 D (iA g ps).o.length F),.slice G I H])/\xI w.heap.size B w' A1 c1 h c2 D F (iA g ps)/\ag w w'
theorem Ee(g:Gr)(us I:bO)(A1 a7 a8 e7 e8:aq)(c1 c2 bp h0 h1:Nat)(w:aa)(d7:j6 w A1 a7 a8 g)(F:mL g)(eg:us.length=I.length)(h6:us.length<=4096)(gL:aJ w e7 (bt us))(g0:aJ w e8 (bt I))(bv:∀x∈us,x<g.w)(bz:∀x∈I,x<g.w):aw 200 #[.agg (bl g A1 c1 a7 c2 a8 bp),.slice e7 us.length h0,.slice e8 I.length h1] w (zgO g (us.zip I) w):=by
 obtain⟨hp,hi,hn,ho,EK⟩:=de fT;have b9:=zH F;have ia:=F.w;have hB:=zH (fun V (ba:ag w V)=>d7.ext ba);have id:(eH g.es).length<=4096*4096:=aR (pq (·.o) 4096 g.es fun e bu=>(F.el e bu).2) (vX _ F.es);have ii:(jH g.es).length<=4096*4096:=aR (pq (·.i) 4096 g.es fun e bu=>(F.el e bu).1) (vX _ F.es);have ip:=F.i;have is:=F.o;have io:=F.es;have cB:(g.i++eH g.es).length<=33554432/\(g.o++jH g.es).length<=33554432:=by rw[bx,bx];omega
 obtain⟨f5,fx⟩:=bD cB (fun V (ba:ag w V)=>uw g A1 a7 a8 c1 c2 bp V (d7.ext ba) F.inr Rr Rr cB.1 cB.2);clear id ii ip is io cB;obtain⟨hF,hG⟩:=bD (fun V (ba:ag w V)=>gL.ext ba) (fun V (ba:ag w V)=>g0.ext ba);obtain⟨n,es⟩:=aM g.w;have O:=zH es;rw[<-es]at bv bz ia fx ⊢;obtain⟨gf,hJ,hL⟩:=dO (zgN bv bz) bv bz;obtain⟨m,ad⟩:=aM us.length;obtain⟨c5,c8⟩:=bD (show us.length=m from ad.symm) (show I.length=m from eg.symm.trans ad.symm);rw[<-eg,<-ad];rw[<-ad]at h6;have d5:=((aj w.heap.size w).alloc (af _) (.cells (fw n A1 g.es.length c1 a7 g.i.length c2 a8 g.o.length bp) 54)).alloc Rq (.cells bQ 54);have U:=(bJ (w.alloc (.cells (fw n A1 g.es.length c1 a7 g.i.length c2 a8 g.o.length bp) 54)) (.cells bQ 54) (k:=w.heap.size) Rq).trans (aC w _ rfl);have e0:=aC (w.alloc (.cells (fw n A1 g.es.length c1 a7 g.i.length c2 a8 g.o.length bp) 54)) (.cells bQ 54) (n:=w.heap.size+1) Rq;clear d7 F gL g0 bv bz es ad eg;go_enter func200,ntmps200
 go_upto_region 1 with(fail)
 generalize (w.alloc _).alloc _=W at d5 U e0 ⊢;obtain⟨Y,Z,ab,ac⟩:=aA U;obtain⟨co,hR,hQ⟩:=dO d5 e0 U;clear d5 e0 U;go_upto_region 2 with((at_make;refine jb _ rfl _ _ 26 rfl W.heap.size 3 hp (.int .i64 0) 1 dY hi hn ho .i64 .i64 n n n rfl rfl rfl rfl SA TD (af _) ?_;intro i3 EF a3;have gb:=zH EF;have hE:=zH a3;clear EF a3))
 have ht:=zH (cD hE.o);obtain⟨ga,ej⟩:=aM W.heap.size;obtain⟨hO,dc⟩:=bD (show i3.ownsRow W.heap.size 3 1 (.slice (some ⟨ga,0,none⟩) n n) n ((fS (iota n) 0 0).map (Value.int .i64)) by have EF:=gb.o;rw[jo]at EF;rw[iW,ee,ej];exact EF) (Rr:W.heap.size<=ga);clear Y Z ab ac gb;rw[<-ej];clear ej;go_wp2;go_loopw [9,28] (fun _ i wr=>∃k:Nat,k<=n/\i=.int .i64 k/\wr.ownsRow W.heap.size 3 1 (.slice (some ⟨ga,0,none⟩) n n) n ((fS (iota n) 0 k).map (Value.int .i64))/\ag W wr) (fun _ i _=>n-(intOf i).toNat)
 case atStart=>exact⟨0,aX _,rfl,hO.o,ht.o⟩
 case round=>
  obtain⟨k,bb,rfl,EF,h⟩:=hrel;by_cases EH:k<n
  .have j2:ae wr ga k (.int .i64 0):=Xk;have k1:=EF.frozenAt k;have e1:=(EF.stored k (.int .i64 k)).1;rw[<-fh,jK _ _ _ _ (rn EH)]at e1;obtain⟨hT,a9⟩:=bD e1 (h.setCell (p:=⟨ga,k,none⟩) dc.o (.int .i64 k));clear e1 EF;go_wp2;go_roundw
   case rel=>exact⟨k+1,Rr,Rt,hT.o,a9.o⟩
   case measure=>simp[intOf];omega
  .obtain rfl:k=n:=Rr;rw[jJ _ _ _ (by rw[ee];omega)]at EF;obtain⟨hy,hv⟩:=bD (show BQ W.heap.size k ga (iH k []) wr from⟨by unfold aD;rw[show bt (iH k [])=iota k from rfl,ee];exact EF,fX,dc.o⟩) h;clear EF h EH bb;go_wp2;go_loopw [10,11,12,13,38] (fun _ _ _ _ i wr=>∃j:Nat,j<=m/\i=.int .i64 j/\BQ W.heap.size k ga (iH k ((us.zip I).take j)) wr/\ag W wr) (fun _ _ _ _ i _=>m-(intOf i).toNat)
   case atStart=>exact⟨0,aX _,rfl,hy.o,hv.o⟩
   case round=>
    obtain⟨j,eo,rfl,D,h⟩:=hrel;by_cases EH:j<m
    .obtain⟨a,ha⟩:=aB (by rw[c5.o];exact EH:j<us.length);obtain⟨b,hb⟩:=aB (by rw[c8.o];exact EH:j<I.length);have e5:=co.o.trans (h.mono co.o.size);obtain⟨hW,hX,rfl,g1⟩:=(hF.o wr e5).here (by rw[aQ,c5.o];omega:0 < (bt us).length);obtain⟨hY,hZ,rfl,g2⟩:=(hG.o wr e5).here (by rw[aQ,c8.o];omega:0 < (bt I).length);have b2:=g1 _ _ (dJ ha);have b3:=g2 _ _ (dJ hb);have h7:=hJ.o a (aY ha);have h8:=hL.o b (aY hb);have c0:iH k ((us.zip I).take (j+1))=(iH k ((us.zip I).take j)).map (jC ((iH k ((us.zip I).take j)).getD a 0) ((iH k ((us.zip I).take j)).getD b 0)):=by rw[gY (zfL ha hb),Et,zcS]
     obtain⟨C,gC⟩:=aM (iH k ((us.zip I).take j));rw[<-gC]at D c0;have ES:=D.len;obtain⟨x,e6⟩:=aB (Rr:a<C.length);obtain⟨y,H⟩:=aB (Rr:b<C.length);rw[bP,bP,e6,H]at c0;have hg:=(D.at e6).1;have ci:=(D.at H).1;obtain⟨hS,fs,fl,LK⟩:=fU (show iH k ((us.zip I).take (j+1))=C.map (jC x y) from c0) D h ES;have a2:=aF b2 (aF b3 (aF hg ci));clear e5 g1 g2 b2 b3 ha hb c0 gC ES e6 H hg ci D h;go_upto_region 10 with(fail)
     go_region_held3 (fun V=>ae V hW (hX+j) (.int .i64 (a:Nat))/\ae V hY (hZ+j) (.int .i64 (b:Nat))/\ae V ga a (.int .i64 (x:Nat))/\ae V ga b (.int .i64 (y:Nat)))
      (first|with_reducible exact a2|with_reducible exact fJ (az _) a2)
      ((fail))
     obtain⟨fo,fb⟩:=bD (fs.o.ext (az wr)) fl.o.drew;clear a2;obtain⟨dq,f4⟩:=bD (fun V=>zbW (x:Int) (y:Int) V) (fun V=>zaN (x:Int) (y:Int) V);obtain⟨M,d9⟩:=aM (max (x:Int) (y:Int));obtain⟨gs,ea⟩:=aM (min (x:Int) (y:Int));rw[<-d9]at dq;rw[<-ea]at f4;obtain⟨f7,hM⟩:=bD d9 ea;obtain⟨ln,hk⟩:=aM wr.drew;rw[<-hk]at fo fb ⊢;clear d9 ea hk fs fl h7 h8;go_wp2;go_loopw [13,57] (fun _ i wr=>∃t:Nat,t<=k/\i=.int .i64 t/\BQ W.heap.size k ga (wS (jC x y) C t) wr/\ag W wr) (fun _ i _=>k-(intOf i).toNat)
     case atStart=>exact⟨0,aX _,rfl,by rw[zcT];exact fo.o,fb.o⟩
     case round=>
      obtain⟨t,g9,rfl,D,h⟩:=hrel;by_cases GA:t<k
      .obtain⟨q,U⟩:=aB (T5:t<C.length);have a4:=(D.at ((zn (jC x y) T5).trans U));obtain⟨a4,g4⟩:=a4;by_cases ey:q=max x y
       .have a0:((q:Int)==M)=true:=by rw[mU,f7.o];omega
        have kl:=((D.ext (az wr)).at ((zn (jC x y) T5).trans U)).2;have N:=(D.ext (az wr)).put t (jC x y q);rw[BR _ U,show((jC x y q:Nat):Int)=gs by rw[hM.o,show jC x y q=min x y from ay ey];omega]at N;obtain⟨HP,LJ⟩:=bD N ((h.drew.setCell (p:=⟨ga,t,none⟩) dc.o (.int .i64 gs)));clear D N h U ey;go_upto_region 14 with(fail)
        go_region_held3 (fun V=>ae V ga t (.int .i64 (q:Nat)))
         (first|with_reducible exact a4|with_reducible exact al (az _) a4)
         ((go_at_call 217;(with_reducible refine(dq.o _).mono ?_);rintro e w' ⟨rfl,rfl⟩))
        have k2:=al (az wr) a4;clear a4 g4;go_wp2_with (go_at_call 218;(with_reducible refine(f4.o _).mono ?_);rintro e w' ⟨rfl,rfl⟩)
        exact Yc
       .have a0:((q:Int)==M)=false:=by rw[<-vW,mU,f7.o];omega
        have N:=D;rw[zcU (jC x y) U (av ey)]at N;obtain⟨HP,LJ⟩:=bD (N.ext (az _)) h.drew;clear D N h U;go_upto_region 14 with(fail)
        go_region_held3 (fun V=>ae V ga t (.int .i64 (q:Nat)))
         (first|with_reducible exact a4|with_reducible exact al (az _) a4)
         ((go_at_call 217;(with_reducible refine(dq.o _).mono ?_);rintro e w' ⟨rfl,rfl⟩))
        go_wp2;exact Yc
      .obtain rfl:t=k:=Rr;rw[show wS (jC x y) C t=C.map (jC x y) by have:=zej (jC x y) C;rw[LK.o]at this;exact this]at D;obtain⟨HP,LJ⟩:=bD D h;clear D h;go_wp2;go_roundw
       case rel=>exact⟨j+1,Rr,Rt,by rw[hS.o];exact HP.o,LJ.o⟩
       case measure=>simp[intOf];omega
    .obtain rfl:j=m:=Rr;rw[cY (by rw[List.length_zip,c5.o,c8.o];omega)]at D;have cr:=zH (show mB k (iH k (us.zip I)) from zfM gf.o);obtain⟨C,d6⟩:=aM (iH k (us.zip I));rw[<-d6]at D cr;obtain⟨hz,c9⟩:=bD d6 D;have b1:=ah hQ.o h;obtain⟨Y,Z,ab,ac⟩:=aA b1;obtain⟨ct,gg,cu,hw⟩:=fU b1 (ah hR.o h) (co.o.trans (h.mono co.o.size)) h;obtain⟨a5,hh⟩:=aM wr;rw[<-hh]at c9 Y Z ab ac ct gg cu hw ⊢;clear D h EH eo b1 hh d6;go_upto_region 19 with(go_at_call 197;(with_reducible refine(fx.o _ cu.o).mono ?_);intro e b5 T;unfold zgS at T;obtain⟨bq,br,gA,D,hb⟩:=T;rw[<-O.o]at gA D;subst gA;have db:=zH D;have bo:=zH hb;clear D hb)
     clear Y Z ab ac;obtain⟨Y,Z,ab,ac⟩:=aA (ah ct.o bo.o);obtain⟨i2,ib,it,iv,i0⟩:=de zt;go_upto_region 20 with((at_make;refine jb _ rfl _ _ 209 rfl b5.heap.size 4 i2 (.bool false) 1 underlying209 ib it iv .i64 .i64 k k k rfl rfl rfl rfl (by rw[i0];omega) TD (af _) ?_;intro c3 EF a3;have gc:=zH EF;have c6:=zH (cD a3);clear EF a3))
     clear Y Z ab ac;obtain⟨ge,ek⟩:=aM b5.heap.size;obtain⟨hU,hq,hH⟩:=dO (show tp b5.heap.size k ge (qP g C 0) c3 from⟨by rw[zek,<-O.o,ek];have T:=gc.o;rw[tq]at T;exact T,by rw[qW];exact O.o.symm,Rr⟩) (show BQ W.heap.size k ga C c3 from(c9.o.ext bo.o).ext c6.o) (show mF a5.heap.size k bq br (g.i++eH g.es) (g.o++jH g.es) c3 from db.o.ext c6.o);have dl:=zH (show ge≠ga/\ge≠bq/\ge≠br from by have h3:=bL c9.o.row ga rfl;have h4:=bL db.o.a bq rfl;have h5:=bL db.o.b br rfl;have j0:=bo.o.size;omega)
     obtain⟨hu,hD⟩:=bD (show ag a5 c3 from bo.o.trans (c6.o.mono bo.o.size)) (show a5.heap.size<=ge from by have:=bo.o.size;omega);rw[<-ek];clear ek gc;go_wp2;go_loopw [17,18,86] (fun _ _ i wr=>∃t:Nat,t<=k/\i=.int .i64 t/\tp b5.heap.size k ge (qP g C t) wr/\BQ W.heap.size k ga C wr/\mF a5.heap.size k bq br (g.i++eH g.es) (g.o++jH g.es) wr/\ag a5 wr) (fun _ _ i _=>k-(intOf i).toNat)
     case atStart=>exact⟨0,aX _,rfl,hU.o,hq.o,hH.o,hu.o⟩
     case round=>
      obtain⟨t,g9,rfl,G,ha,bb,h⟩:=hrel;by_cases GA:t<k
      .obtain⟨y,H⟩:=aB (T4:t<C.length);have LH:C.getD t 0=y:=by rw[bP,H];rfl
       have i1:y<=t:=by have:=cr.o.le t GA;omega
       have ci:=(ha.at H).1;have b2:=(bb.at GA).1;have b3:=(bb.swap.at GA).1;obtain⟨li,hd⟩:=aB (by rw[qW,<-O.o];omega:y < (qP g C t).length);obtain⟨j1,g4⟩:=(G.ext (az wr)).at hd;have bv:=aR oN f5.o.1 (n:=List.count t (g.i++eH g.es));have bz:=aR oN f5.o.2 (n:=List.count t (g.o++jH g.es));have b4:=zcV (g:=g) (x:=t);obtain⟨bg,g6⟩:=aM ((g.i++eH g.es).count t);obtain⟨bi,g7⟩:=aM ((g.o++jH g.es).count t);rw[<-g6]at b2 bv b4;rw[<-g7]at b3 bz b4;have k4:IntKind.i64.wrap ((bg:Int)+(bi:Int))=(bg:Int)+(bi:Int):=Sq;have a2:=aF b2 b3;obtain⟨fn,fa,fz,gn⟩:=fU h.drew (ha.ext (az wr)) (bb.ext (az wr)) (G.ext (az wr));have k6:y<k:=Rr;clear b2 b3 g6 g7 hd G ha bb h H i1;cases bc:g.onB t
       .have a0:decide ((0:Int) < (bg:Int)+(bi:Int))=false:=by have:=b4.2 bc;simp;omega
        have f9:=zH (zel (C:=C) bc);clear bc b4;go_upto_region 23 with(fail)
        go_region_held3 (fun V=>ae V bq t (.int .i64 (bg:Nat))/\ae V br t (.int .i64 (bi:Nat)))
         (first|with_reducible exact a2|with_reducible exact ju (az _) a2)
         ((fail))
        go_wp2;go_roundw
        case rel=>exact⟨t+1,Rr,Rt,by rw[<-f9.o];exact gn.o,fa.o,fz.o,fn.o⟩
        case measure=>simp[intOf];omega
       .have a0:decide ((0:Int) < (bg:Int)+(bi:Int))=true:=by
         have:¬(bg+bi=0):=fun T=>by rw[b4.1 T]at bc;cases bc
         simp;omega
        have cO:=zfN (C:=C) bc;rw[LH]at cO;have f9:=zH cO;have N:=gn.o.put y true;rw[cO]at N;obtain⟨HP,hs,hI,LJ⟩:=fU N (fa.o.other dl.o.1 y (.bool true)) (fz.o.other dl.o.2.1 dl.o.2.2 y (.bool true)) (fn.o.setCell (p:=⟨ge,y,none⟩) hD.o (.bool true));clear bc b4 cO N;go_upto_region 23 with(fail)
        go_region_held3 (fun V=>ae V bq t (.int .i64 (bg:Nat))/\ae V br t (.int .i64 (bi:Nat)))
         (first|with_reducible exact a2|with_reducible exact ju (az _) a2)
         ((fail))
        go_wp2;go_roundw
        case rel=>exact⟨t+1,Rr,Rt,HP.o,hs.o,hI.o,LJ.o⟩
        case measure=>simp[intOf];omega
      .obtain rfl:t=k:=Rr;have hc:qP g C t=kG t C (dE g):=by rw[O.o];exact zem b9.o.inr
       rw[hc]at G;obtain⟨d0,c4,cp⟩:=dO G ha h;have b1:=ah ct.o h;obtain⟨Y,Z,ab,ac⟩:=aA b1;obtain⟨a6,hj⟩:=aM wr;rw[<-hj]at d0 c4 cp Y Z ab ac ⊢;clear G ha bb h b1 hj hc GA g9;go_upto_region 27 with((at_make;refine jb _ rfl _ _ 26 rfl a6.heap.size 3 hp (.int .i64 0) 1 dY hi hn ho .i64 .i64 t t t rfl rfl rfl rfl SA TD (af _) ?_;intro i4 EF a3;have gd:=zH EF;have c7:=zH (cD a3);clear EF a3))
       clear Y Z ab ac;obtain⟨R,em⟩:=aM a6.heap.size;have hN:=zH (show ll a6.heap.size t R (pD g C 0) i4 from by have T:=gd.o;rw[jo]at T;refine⟨?_,by rw[pd];exact O.o.symm,Rr⟩;unfold aD;rw[zen,iF,<-O.o,em];exact T)
       obtain⟨hr,hV,hx⟩:=dO (c4.o.ext c7.o) (d0.o.ext c7.o) (cp.o.trans (c7.o.mono cp.o.size));have ao:=zH (show R≠ga/\R≠ge/\a5.heap.size<=R from by have h3:=bL c4.o.row ga rfl;have h4:=bL d0.o.row ge rfl;have h5:=cp.o.size;omega)
       rw[<-em];clear em gd;go_wp2;go_loopw [20,21,110] (fun u _ i wr=>∃j:Nat,j<=t/\i=.int .i64 j/\u=.int .i64 (lD g C j:Nat)/\ll a6.heap.size t R (pD g C j) wr/\tp b5.heap.size t ge (kG t C (dE g)) wr/\BQ W.heap.size t ga C wr/\ag a5 wr) (fun _ _ i _=>t-(intOf i).toNat)
       case atStart=>exact⟨0,aX _,rfl,rfl,hN.o,hV.o,hr.o,hx.o⟩
       case round=>
        obtain⟨j,eo,rfl,rfl,J,G,ha,h⟩:=hrel;by_cases GA:j<t
        .obtain⟨y,H⟩:=aB (T4:j<C.length);have LH:C.getD j 0=y:=by rw[bP,H];rfl
         have ci:=(ha.at H).1;obtain⟨he,-⟩:=G.at (lp C (dE g) GA);have h9:=sm g C j;have i9:=zH LH;by_cases e:y=j
         .subst e;cases hb:mH C (dE g) y
          .rw[hb]at he;have ce:=Ec (g:=g) (C:=C) (j:=y) (fun cA=>by rw[hb]at cA;cases cA.2);have ap:=vx (C:=C) (k:=y) b9.o.inr (au Ta);obtain⟨b8,b7,ca,b6,a9⟩:=mD (by rw[<-ce];exact J:ll a6.heap.size t R (pD g C (y+1)) wr) ap G ha h;clear ce ap J G ha h hb LH H;go_wp2;go_roundw
           case rel=>exact⟨y+1,Rr,Rt,by rw[b7.o],b8.o,ca.o,b6.o,a9.o⟩
           case measure=>simp[intOf];omega
          .rw[hb]at he;have ap:=zcG (C:=C) (k:=y) b9.o.inr Ta LH;obtain⟨ke,k0⟩:=J.at (qX (C:=C) (j:=y) (by rw[<-O.o];exact GA:y<g.w));have N:=J.put y (lD g C y:Int);rw[zfO LH hb]at N;obtain⟨cb,g3⟩:=aM (lD g C y);rw[<-g3]at N h9 ap ⊢;have e4:IntKind.i64.wrap ((cb:Int)+1)=(cb:Int)+1:=Sq;obtain⟨b8,b7,ca,b6,a9⟩:=mD N ap (G.other ao.o.2.1 y (.int .i64 (cb:Nat))) (ha.other ao.o.1 y (.int .i64 (cb:Nat))) (h.setCell (p:=⟨R,y,none⟩) ao.o.2.2 (.int .i64 (cb:Nat)));clear N ap J G ha h hb LH H g3;go_wp2;go_roundw
           case rel=>exact⟨y+1,Rr,Rt,by rw[b7.o];rfl,b8.o,ca.o,b6.o,a9.o⟩
           case measure=>simp[intOf];omega
         .have a0:((y:Int)==(j:Int))=false:=by rw[<-vW,mU];omega
          have ce:=Ec (g:=g) (C:=C) (j:=j) (fun cA=>e (by rw[<-LH];exact cA.1));have ap:=vx (C:=C) (k:=j) b9.o.inr (an (by rw[LH];exact e));obtain⟨b8,b7,ca,b6,a9⟩:=mD (by rw[<-ce];exact J:ll a6.heap.size t R (pD g C (j+1)) wr) ap G ha h;clear ce ap J G ha h LH H;go_wp2;go_roundw
          case rel=>exact⟨j+1,Rr,Rt,by rw[b7.o],b8.o,ca.o,b6.o,a9.o⟩
          case measure=>simp[intOf];omega
        .obtain rfl:j=t:=Rr;obtain⟨gi,e9,fd,a1,cq,f8⟩:=kE G ha h (show(Eb g C).length=j from(yS g C).trans O.o.symm) (show(pD g C j).length=j from(pd g C j).trans O.o.symm) (by rw[zcW];exact J:ll a6.heap.size j R (qY (Eb g C) (pD g C j) 0) wr);obtain⟨wc,e4⟩:=aM wr;rw[<-e4]at gi e9 fd f8 ⊢;clear G ha h J e4 GA eo;go_wp2;go_loopw [22,134] (fun _ i wr=>∃m:Nat,m<=j/\i=.int .i64 m/\ll a6.heap.size j R (qY (Eb g C) (pD g C j) m) wr/\tp b5.heap.size j ge (kG j C (dE g)) wr/\BQ W.heap.size j ga C wr/\ag a5 wr) (fun _ i _=>j-(intOf i).toNat)
         case atStart=>exact⟨0,aX _,rfl,f8.o,gi.o,e9.o,fd.o⟩
         case round=>
          obtain⟨m,ad,rfl,J,G,ha,h⟩:=hrel;by_cases GA:m<j
          .obtain⟨y,H⟩:=aB (T4:m<C.length);have LH:C.getD m 0=y:=by rw[bP,H];rfl
           have hm:y<=m:=by have:=cr.o.le m GA;omega
           have cF:m<g.w:=by rw[<-O.o];exact GA
           have ES:=zer (j:=m) a1.o cq.o ad;obtain⟨v0,bd⟩:=aB (SF:y < (qY (Eb g C) (pD g C j) m).length);obtain⟨v1,e2⟩:=aB (SF:m < (qY (Eb g C) (pD g C j) m).length);have e3:mH C (dE g) y=true->v0=toN g C m:=fun hb=>by
            by_cases e:y<m
            .rw[zeo e (by rw[a1.o];exact ad),sl C Rr]at bd;cases bd
             rw[zcE (k:=m) (by rw[<-O.o];exact cr.o) cF,LH]
            .obtain rfl:y=m:=Rr;rw[zep (by rw[a1.o];exact ad),qX cF,ay ⟨GA,LH,hb⟩]at bd;cases bd
             rw[zcF Ta LH]
           have ci:=(ha.at H).1;obtain⟨kk,-⟩:=J.at bd;obtain⟨j3,ks⟩:=J.at e2;have cc:=ha.other ao.o.1 m (.int .i64 v0);have ch:=G.other ao.o.2.1 m (.int .i64 v0);have b0:=J.put m v0;have cz:=h.setCell (p:=⟨R,m,none⟩) ao.o.2.2 (.int .i64 v0);have k3:=(cc.at H).1;have hf:=(ch.at (lp C (dE g) (Rr:y<j))).1;have k5:y<j:=Rr;cases hb:mH C (dE g) y
           .rw[hb]at hf;obtain⟨kc,kw⟩:=b0.at (x:=m) (y:=v0) (by rw[fB (by rw[ES];exact GA)]);have ev:=b0.put m (-1);rw[List.set_set,BU (by rw[sl C cF,zcD Ta]) (by rw[a1.o,cq.o])]at ev;obtain⟨LC,LG,LF,EN⟩:=fU ev (cc.other ao.o.1 m (.int .i64 (-1))) (ch.other ao.o.2.1 m (.int .i64 (-1))) (cz.setCell (p:=⟨R,m,none⟩) ao.o.2.2 (.int .i64 (-1)));clear cc ch b0 cz ev e3 bd e2 H LH hm ES J G ha h hb;exact Yy
           .rw[hb]at hf;rw[BU (by rw[sl C cF,<-e3 hb]) (by rw[a1.o,cq.o])]at b0;obtain⟨LC,LG,LF,EN⟩:=fU b0 cc ch cz;clear cc ch b0 cz e3 bd e2 H LH hm ES J G ha h hb;exact Yy
          .obtain rfl:m=j:=Rr;rw[zeq a1.o cq.o]at J;obtain⟨i8,jp,gw,gB,-⟩:=J.a.view;rw[a1.o]at gw;cases gw
           have eb:=cu.o.trans (h.mono cu.o.size);have F:=b9.o;have cI:=xM g (lD g C g.w) (Eb g C) (zG g C) A1 a7 a8 (some ⟨R,0,none⟩) c1 c2 bp m wr (hB.o wr eb) gB (CI F.inr) (by rw[yS];have:=F.w;omega) (by have:=F.w;omega) (by have:=sm g C g.w;have:=F.w;omega) (by have:=F.es;omega) (by have:=F.i;omega) (by have:=F.o;omega) (fun e bu=>⟨by have:=(F.el e bu).1;omega,by have:=(F.el e bu).2;omega⟩);have g5:g.map (lD g C m) (zG g C)=iA g (us.zip I):=by rw[vy F.inr (by rw[<-O.o];exact gf.o),<-O.o,<-hz.o]
           rw[a1.o,<-O.o,g5]at cI;obtain⟨am,d8⟩:=aM (iA g (us.zip I));rw[<-d8]at cI;obtain⟨f6,hC⟩:=bD cI d8;obtain⟨Y,Z,ab,ac⟩:=aA (ah ct.o h);obtain⟨dr,d4⟩:=bD (ah gg.o h) eb;have dT:=zH (show w.heap.size+1<wr.heap.size from(aT.1 dr.o).1);clear J G ha h GA ad gB eb F cI g5 d8;obtain⟨lr,hl⟩:=aM wr;rw[<-hl]at f6 Y Z ab ac dr d4 dT ⊢;clear hl;go_wp2_with ((go_at_call 199;(with_reducible refine f6.o.mono ?_);intro e lm T;unfold uh at T;obtain⟨cj,d1,ck,d2,cn,d3,B,h2,g8,ei⟩:=T;subst h2;have a0:=ah dr.o ei;obtain⟨k8,la,lb,lc⟩:=aA a0;obtain⟨f0,f1,f2,f3⟩:=bZ a0;have y:=cd (v0:=.int .i64 (am.w:Nat)) (v1:=.slice cj am.es.length d1) (v2:=.slice ck am.i.length d2) (v3:=.slice cn am.o.length d3) a0;obtain⟨i5,i6,z2,i7⟩:=aA y;unfold dC at i5 i6 z2 i7;have hP:=zH g8;have hA:=zH (bI (d4.o.trans (ei.mono d4.o.size)) (b:=w.heap.size+1) Rr (.int .i64 (am.w:Nat)) (.slice cj am.es.length d1) (.slice ck am.i.length d2) (.slice cn am.o.length d3));clear a0 y g8 ei))
           exact aE (v:=.tuple #[.agg (bl am cj d1 ck d2 cn d3),.slice (some ⟨R,0,none⟩) m m]) (by simp[results,results200,go_sem, *]) rfl (by unfold zgO;rw[<-hC.o];exact⟨cj,d1,ck,d2,cn,d3,B,some ⟨R,0,none⟩,m,m,rfl,(hP.o.dC dT.o).mono (fV (mV dT.o)),hA.o⟩)
end Go.Proofs.YtpieilkmmiopfaaGreatDoor
