/- Parts of the walks. Conditions: as stated with each. -/
import Derived.Test.YtdpgblncijojiaaGreatDoorPk2
namespace Go.Proofs.YtdpgblncijojiaaGreatDoor
open Go.RowKit Tryz
set_option linter.all false
set_option maxHeartbeats 4000000
variable{D J b i j n r:Nat}{Rm o:ie}{Rt:pV}{Rv:dE}{a:Act}{cs:gq}{u v:av}{us:bN}{w w':aa}
def kD(p b:Int)(xs:aH)(k:Nat):List Int:=(xs.map fun x=>x*b%p).take k++xs.drop k
def fU(p b:Int)(xs:aH):List Int:=xs.map fun x=>x*b%p
def qd(p b:Int)(xs:aH):kD p b xs 0=xs:=by simp[kD]
def sB(p b:Int)(xs:aH)(k:Nat)(z:xs.length<=k):kD p b xs k=fU p b xs:=by unfold kD fU;rw[fO (by simpa using z),nx z,mv]
def sC(p b:Int)(xs:aH)(k:Nat)(z:k<xs.length):(kD p b xs k)[k]?=xs[k]?:=by unfold kD;exact WS
def sD(p b:Int)(xs:aH)(k:Nat)(x:Int)(hx:xs[k]?=some x):(kD p b xs k).set k (x*b%p)=kD p b xs (k+1):=by have h1:=(bs.1 hx).1;unfold kD;rw[tj _ _ RX,fZ];have z:xs.drop k=x::xs.drop (k+1):=WR;have B:k-((xs.map fun x=>x*b%p).take k).length=0:=RX;rw[z,B,jK];simp[hx]
def zab(a b p v h:Int)(A:aq)(cap:Nat)(rows:aC)(w:aa)(a2:aL w A rows)(cI:rows.length<=160)(Ew:∀r∈rows,r.length<=1000)(cO:1<=p)(cR:p<=1000)(ci:0<=a)(cj:a<rows.length)(hb:0<=b)(b4:b<=1000)(hx:∀r∈rows,∀x∈r,0<=x/\x<=1000):ax 211 (eL (bI a b) p (ae v h A rows cap)) w fun e w'=>∃u,e=.returned (.agg (dz v h u))/\aI w' w u (rows.set a.toNat (fU p b (rows.getD a.toNat [])))/\aj w w':=by
 obtain⟨z,EW⟩:=aw (Ry:a.toNat<rows.length);obtain⟨ba,bo⟩:=bL (TI:rows.getD a.toNat []=z) (show ∀x∈z,0<=x/\x<=1000 from hx z (aR EW));have c0:z.length<=1000:=Ew z (aR EW);clear hx;obtain⟨bd,be⟩:=bL (Ry:rows.length<=1048576) (show ∀r∈rows,r.length<=1048576 from fun r hr=>TZ);go_enter func211,ntmps211
 go_wp2_with fail
 refine(lL _ _ _ _ _ _ (a2.ext (((ai _ _).alloc Rx _ |>.alloc Rx _).alloc Sn _)) bd be).mono ?_;rintro e D ⟨u,rfl,⟨us,hu⟩,ac⟩;obtain⟨I,F,rfl,_,_,_⟩:=aI.view ⟨us,hu⟩;obtain⟨a8,b9,a9⟩:=cv w (.cells (bI a b) 132) (.cells (ae v h A rows cap) 26) (.cells aQ 26);have b7:=ac.size;simp only[cx]at b7;go_upto_region 2 with(fail)
 obtain⟨E,Er⟩:=aK (D.alloc (.cells (ae v h I rows F) 26));rw[<-Er];have ad:aj D E:=VH;have c4:(E:Nat)=D+1:=So;have T:=bQ ac ad;have ao:aW E D (ae v h I rows F) 26:=Um;have a5:=cp T a8;have a6:=cp T a9;have E9:a_ E ((w:Nat)+3) (.slice I rows F) rows us:=(hu.ext ad).mono Rx;have b8:∀g',I=some ⟨g',0,none⟩->g' < (D:Nat):=fun g' e=>Vy
 have a4:∀(k:Nat) (x:av),us[k]?=some x->∀b,x.ownBlock=some b->b < (D:Nat):=fun k x hx b hb=>Wi
 have a3:aj w E:=(below_alloc3 w _ _ _).trans (T.mono Sn);clear hu ac ad T a2 Ew a8 b9 a9 Er;obtain⟨c7,E_,U⟩:=E9.get EW;obtain⟨g,b5,cr,cz⟩:∃g,I=some ⟨g,0,none⟩/\(w:Nat)+3<=g/\g < (E:Nat):=kH E9 Ry;subst b5;obtain⟨R,H,rfl,a1,_⟩:=U.view;obtain⟨ab,O⟩:=zbm a5;have Q:=aV ao 2;simp only[dg,cT]at ab O Q;have ap:af E g a.toNat (.slice R z H):=VD;obtain⟨bi,bb,bm,Gn,ca,bp,br,a0,FJ⟩:=zH9 E9 a3 E_ U a1 a6 ao (a4 _ _ E_) (fv E9.outer U);clear E9 a3 E_ U EW a1 b8 a4 a5 a6 ao;go_wp2;go_loopw [19] (fun i wr=>∃k:Nat,k<=z.length/\i=.int .i64 k/\wr.ownsRow ((w:Nat)+3) 3 1 (.slice R z H) z ((kD p b z k).map (Value.int .i64))/\E.grownBy wr (Value.slice R z H).ownBlock)
  (fun i _=>z.length-(intOf i).toNat)
 case atStart=>exact⟨0,aT _,rfl,Tl,⟨rfl,rfl,rfl,ah _,fun _ _ _=>rfl⟩⟩
 case round=>
  obtain⟨k,cF,rfl,Es,B⟩:=hrel;by_cases EC:k<z.length
  .obtain⟨x,hx⟩:=aw EC;obtain⟨J,rfl,ct,_⟩:=kU Gn Ry;have cu:=a0 J rfl;have cK:g≠J:=Xp;have c8:af wr w 0 (zI a):=B.cell ab Us;have c9:af wr w 1 (zI b):=B.cell O Us;have da:af wr D 2 (.slice (aX g) rows F):=B.cell Q Us;have db:af wr g a.toNat (.slice (aX J) z H):=B.cell ap Us;have cn:af wr J k (zI x):=W_;have co:=Es.frozenAt k;obtain⟨O,Q⟩:=bo x (aR hx);have c5:0<=x*b:=za O hb;have c6:x*b<=1000000:=by have:=Int.mul_le_mul Q b4 hb Ry;omega
   have Z:=Es.stored k (zI (x*b%p));rw[<-fQ,sD _ _ _ _ _ hx]at Z;obtain⟨HS,HG⟩:=bL Z.1 (bq B Z.2);have ch:¬p=0:=Ry;clear Z hx Es B ab ap;go_wp2_with fail
   go_region_held3 (fun w'=>af w' w 0 (zI a)/\af w' w 1 (zI b)/\af w' D 2 (.slice (aX g) rows F)/\af w' g a.toNat (.slice (aX J) z H))
    (first|(simp[*];done)|(refine⟨?_,?_,?_,?_⟩<;>(first|(refine(eC Sn).trans ?_;assumption)|(refine(j_ Sn).trans ?_;assumption)))) (fail)
   exact Yo
  .have Gm:∀b,(Value.slice R z H).ownBlock=some b->(w:Nat)+3<=b/\b < (D:Nat):=fun b hb=>⟨(b_ Gn b hb).1,a0 b hb⟩
   have a7:=(B.block D Ry (fun e=>Uq)).trans br;have am:=(B.block ((w:Nat)+1+1) Ry (fun e=>Uq)).trans bp;have b6:k=z.length:=Ry;subst b6;have HO:=zH (show aI wr ((w:Nat)+3) (.slice (aX g) rows F) (rows.set a.toNat (fU p b (rows.getD a.toNat []))) from
    ⟨_,bi.inner bm B (by rw[ba.o,<-sB p b z z (ah _)];unfold au;rw[show(kD p b z z).length=z by simp[kD]];exact Es)⟩)
   have HE:=zH (bb.grown B Ry fun b hb=>T3);clear Es B Gm ab O Q ap;obtain⟨bv,bz,b0⟩:=bU a7;obtain⟨b1,b2,b3⟩:=bU am;obtain⟨cb,cc,ce⟩:=bt am;simp only[dg,cT]at bv bz b0 b1 b2 b3;clear a7 am;go_wp2;refine az (v:=.agg (ae v h (aX g) rows F)) (by simp[results,results211,go_sem, *]) rfl ⟨_,rfl,?_,?_⟩
   .exact Yr
   .exact Yf
section
variable{P:lk}{ops:iF}{Q:ir}{md:Region.Mode}{S:iQ}
def r7(P:lk)(md:Region.Mode)(ops:iF)(Q:ir)(S:iQ)(n:Nat):Nat->Array Bool->Act->World->Prop
 |0,z,a,w=>Region.ready md ops z=[]/\Q .normal a w
 |D+1,z,a,w=>
  (Region.ready md ops z=[]->Q .normal a w)/\
  ∀i∈Region.ready md ops z,wpOp P ops Q i (fun B w'=>(i<n->S w')/\r7 P md ops Q S n D (z.setIfInBounds i true) B w') a w
def zaU{n:Nat}:∀(z:Nat) (B:pV) (a:Act) (w:aa),r7 P md ops Q S n z B a w->wpAny P md ops Q z B a w
 |0,_,_,_,h=>h
 |z+1,_,_,_,h=>⟨h.1,fun i hi=>wpOp_mono (fun D w' h'=>zaU z _ D w' h'.2) (h.2 i hi)⟩
def zch(hi:ops[i]?=some Rm)(ao:∀(j:Nat) (o:ie) cs b,ops[j]?=some o->o.op≠.select cs b)(a2:∀c a w,Q (.panic c) (a.put Rm.dst v) w->Q (.panic c) a w)(bm:Region.sinkB md ops n=true)(a5:Region.chainB md ops n=true)(bd:n<ops.size)(a9:i<n):∀(I:Nat) (z:pV) (a:Act) (w:aa),HeadInv md ops n z->(∀j E,ops[j]?=some E->j≠i->z.getD j true=false->(∀e∈E.after,Region.binds md e=true->e.on≠i)->Rm.apart ops E=true)->i∈Region.ready md ops z->YieldsIf P ops S Rm v a->S w->r7 P md ops Q S n I (z.setIfInBounds i true) (a.put Rm.dst v) w->r7 P md ops Q S n (I+1) z a w:=by
 intro I;induction I with
 |zero=>
  intro z a w _ _ D U J H;refine⟨fun h=>(by rw[h]at D;cases D),fun j F=>?_⟩;by_cases B:j=i
  .subst B;exact U.wpOp hi J ⟨fun _=>J,H⟩
  .have:=ready_mono F B;rw[H.1]at this;cases this
 |succ I ih=>
  intro z a w ap ab D U J H;refine⟨fun h=>(by rw[h]at D;cases D),fun j F=>?_⟩;have O:z.getD i true=false:=(mem_ready.1 D).1;have ad:j<n:=by
   rcases pj j n with h|h
   .exact h
   .exact absurd F (tail_waits bm a5 bd ap (n-i) i rfl a9 O j h)
  by_cases B:j=i
  .subst B;exact U.wpOp hi J ⟨fun _=>J,H⟩
  .have R:=H.2 j (ready_mono F B);obtain⟨am,E,Z,a3⟩:=mem_ready.1 F;have bi:∀e∈E.after,Region.binds md e=true->e.on≠i:=fun e a6 a4 a7=>by have R:=a3 e a6 a4;rw[a7,getD_both O]at R;cases R
   have a1:=wpOp_putIf Z (ab j E Z B am bi) (fun cs b=>ao i Rm cs b hi) (fun cs b=>ao j E cs b Z) a2 U R;have a8:∀k ok,ops[k]?=some ok->k≠i->(z.setIfInBounds j true).getD k true=false->
     (∀e∈ok.after,Region.binds md e=true->e.on≠i)->Rm.apart ops ok=true:=fun k ok ba bb O be=>by
    refine ab k ok ba bb ?_ be;by_cases ac:j=k
    .subst ac;exact am
    .rw[getD_set_ne true ac]at O;exact O
   refine wpOp_mono (fun a0 w' T=>⟨T.2.1,ih (z.setIfInBounds j true) a0 w' (ap.set F ad) a8 (ready_mono D (fX B)) T.1 (T.2.1 ad) ?_⟩) a1;rw[Array.setIfInBounds_comm _ _ B];exact T.2.2
def zdj(md:Region.Mode)(ops:iF)(n:Nat)(z:pV):Bool:=
 (z.size==ops.size)&&((List.range ops.size).all fun j=>!z.getD j false||(match ops.toList[j]? with|some B=>B.after.toList.all fun e=>!Region.binds md e||z.getD e.on false|none=>true))&&
 ((List.range ops.size).all fun t=>decide (t<n)||!z.getD t true)
def zci(h:zdj md ops n Rt=true):HeadInv md ops n Rt:=by
 simp only[zdj,bn,qF,eD,dQ]at h;obtain⟨⟨B,D⟩,E⟩:=h;refine⟨B,fun j U z O e I F=>?_,fun t T R=>?_⟩
 .have J:=(aP.1 z).1;have:=D j J;rw[O,qM,z]at this;simp only[Bool.not_true,Bool.false_or,eD]at this;have:=this e (by simpa using I);rw[F]at this;simpa using this
 .have:=E t R;have H:decide (t<n)=false:=RX;rw[H]at this;simpa using this
def zjf(hi:ops.toList[i]?=some Rm)(U:Region.noSelect ops=true)(R:Region.free md ops Rt i=true)(T:(Region.ready md ops Rt).contains i=true)(z:(zdj md ops n Rt&&Region.sinkB md ops n&&Region.chainB md ops n&&decide (n<ops.size)&&decide (i<n))=true)(Z:YieldsIf P ops S Rm v a)(O:S w)(h:r7 P md ops Q S n D (Rt.setIfInBounds i true) (a.put Rm.dst v) w)(J:∀c a w,Q (.panic c) (a.put Rm.dst v) w->Q (.panic c) a w:=by exact fun _ _ _ h=>h):r7 P md ops Q S n (D+1) Rt a w:=by
 simp only[bn,cw]at z;obtain⟨⟨⟨⟨B,E⟩,F⟩,H⟩,I⟩:=z;have hi':ops[i]?=some Rm:=by rw[<-qM];exact hi
 exact zch hi' (Region.noSelect_spec U) J E F H I D Rt a w (zci B) (Region.free_spec hi' R) (by simpa using T) Z O h
def ay(i:Nat){z:Act}(h:r7 P md ops Q S n D (Rt.setIfInBounds i true) z w)(hi:ops.toList[i]?=some Rm:=by rfl)(J:Region.wanted Rm (yielded ops a.tmps)=true:=by rfl)(T:∀w,S w->(execOp a.eval Rm).run P w=.ok (.value v) w:=by intro w h;(try dsimp only at h);go_simp;(try with_reducible rfl))(R:Region.noSelect ops=true:=by kernel_rfl)(I:Region.free md ops Rt i=true:=by kernel_rfl)(O:(Region.ready md ops Rt).contains i=true:=by kernel_rfl)(H:(zdj md ops n Rt&&Region.sinkB md ops n&&Region.chainB md ops n&&decide (n<ops.size)&&decide (i<n))=true:=by kernel_rfl)(E:S w:=by assumption)(B:∀c a w,Q (.panic c) (a.put Rm.dst v) w->Q (.panic c) a w:=by exact fun _ _ _ h=>h)(F:a.put Rm.dst v=z:=by simp only[Act.put,zA];rfl):r7 P md ops Q S n (D+1) Rt a w:=by subst F;exact zjf hi R I O H (aG ⟨J,T⟩) E h B
def zjM(B:Region.ready md ops Rt=[i])(ho:ops.toList[i]?=some o)(h:∀K':oS,Shut (∀a w,(i<n->S w)->((i<n->S w)->r7 P md ops Q S n D (Rt.setIfInBounds i true) a w)->K' a w)-> if Region.wanted o (yielded ops a.tmps)=true then Oper.wp P o a w K' Q else K' (a.put o.dst undef) w):r7 P md ops Q S n (D+1) Rt a w:=by refine⟨fun F=>(by rw[F]at B;cases B),fun j z=>?_⟩;rw[B]at z;simp only[jq,kC,kY]at z;subst z;exact wpOp_step S6 (fun K' hK=>h K' (fun a w E H=>hK a w ⟨E,H E⟩))
def bu(i:Nat)(h:∀K':oS,Shut (∀a w,(i<n->S w)->((i<n->S w)->r7 P md ops Q S n D (Rt.setIfInBounds i true) a w)->K' a w)->if Region.wanted o (yielded ops a.tmps)=true then Oper.wp P o a w K' Q else K' (a.put o.dst undef) w)(B:Region.ready md ops Rt=[i]:=by kernel_rfl)(z:ops.toList[i]?=some o:=by rfl):r7 P md ops Q S n (D+1) Rt a w:=zjM B z h
def dS(z:Region.ready md ops Rt=[])(h:Q .normal a w):∀B,r7 P md ops Q S n B Rt a w
 |0=>⟨z,h⟩
 |_+1=>⟨fun _=>h,by rw[z];simp⟩
def bk(n:Nat){id:Nat}(B:P.follows .mixedOrders=true)(z:S w.drew)(h:S w.drew->r7 P .any ops Q S n ops.size (Array.replicate ops.size false) a w.drew):(Code.region id ops true).wp P Q a w:=wp_region_any B (zaU _ _ _ _ (h z))
end
def oO{rows:aC}(h:a_ w D v rows us):∀u∈us,u.oneCell'=true:=fun u E=>by obtain⟨k,z⟩:=eN.1 E;obtain⟨r,_,B⟩:=h.lp z;obtain⟨F,H,rfl,_⟩:=B.view;rfl
def Co(w:aa)(b j:Nat)(u:av):w.grownBy (w.setCell ⟨b,j,none⟩ u) (some b):=⟨rfl,rfl,rfl,Rx,fun k _ z=>dh w ⟨b,j,none⟩ k u (fun e=>z RG)⟩
def a_.jk{fr:gY}{rows:aC}(h:a_ w D v rows us)(hb:w.heap[b]?=some (.cells cs 26 fr)):a_ (w.setCell ⟨b,j,none⟩ u) D v rows us:=by
 refine⟨ic h.outer (Co w b j u) ?_,fun k x r B z=>au.kept (h.each k x r B z) (Co w b j u) ?_,h.apart⟩
 .rcases h.outer.2 with⟨rfl,_⟩|⟨g,cap,cur,rfl,_,hg,_⟩
  .exact aG rfl
  .exact XY
 .rcases(h.each k x r B z).2 with⟨rfl,_⟩|⟨g,cap,cur,rfl,_,hg,_⟩
  .exact aG rfl
  .exact XY
def zb4(a p v h:Int)(A:aq)(cap:Nat)(rows:aC)(w:aa)(ad:aL w A rows)(b9:rows.length<=160)(Ew:∀r∈rows,r.length<=1000)(br:0<=a)(bv:a<rows.length):ax 217 (eL (bc a) p (ae v h A rows cap)) w fun e w'=>∃u,e=.returned (.agg (dz v h u))/\aI w' w u (rows.eraseIdx a.toNat)/\aj w w':=by
 obtain⟨a8,a9⟩:=bL (Ry:rows.length<=1048576) (show ∀r∈rows,r.length<=1048576 from fun r hr=>TZ);go_enter func217,ntmps217
 go_wp2_with fail
 refine(lL _ _ _ _ _ _ (ad.ext (((ai _ _).alloc Rx _ |>.alloc Rx _).alloc Sn _)) a8 a9).mono ?_;rintro e z ⟨u,rfl,⟨us,hu⟩,O⟩;obtain⟨E,B,rfl,_,_,_⟩:=aI.view ⟨us,hu⟩;obtain⟨a3,b1,a4⟩:=cv w (.cells (bc a) 136) (.cells (ae v h A rows cap) 26) (.cells aQ 26);have b0:=O.size;simp only[cx]at b0;go_upto_region 2 with(fail)
 obtain⟨D,Er⟩:=aK (z.alloc (.cells (ae v h E rows B) 26));rw[<-Er];have Q:aj z D:=VH;have ca:(D:Nat)=z+1:=So;have H:=bQ O Q;have Z:aW D z (ae v h E rows B) 26:=Um;have a1:=cp H a3;have a2:=cp H a4;have T:a_ D ((w:Nat)+3) (.slice E rows B) rows us:=(hu.ext Q).mono Rx;have a0:∀g',E=some ⟨g',0,none⟩->g' < (z:Nat):=fun g' e=>Vy
 have b8:∀(k:Nat) (x:av),us[k]?=some x->∀b,x.ownBlock=some b->b < (z:Nat):=fun k x hx b hb=>Wi
 have ao:aj w D:=(below_alloc3 w _ _ _).trans (H.mono Sn);clear hu O Q H ad Ew a3 b1 a4 Er;obtain⟨g,bz,b5,b6⟩:∃g,E=some ⟨g,0,none⟩/\(w:Nat)+3<=g/\g < (D:Nat):=kH T Ry;subst bz;have b7:=a0 g rfl;have a5:=aV a1 0;have a6:=aV Z 2;simp only[dg,cT]at a5 a6;obtain⟨J,a7,ba,bb⟩:=fS T ao a2 Z;clear T ao a0 a1 a2 Z;go_upto_region 3 with(go_at_call 220;refine(rE ((w:Nat)+3) g rows B a us _ J.o.outer (oO J.o) br bv Ry).mono ?_;rintro e wr ⟨rfl,ap,R⟩;have F:=(R.block z Ry RX).trans bb;have I:=zH R;have HO:=zH ap;have f2:=aS F 2;have c2:=aV F 2;simp only[dg,cT]at c2;have ac:=zH F;clear F R ap)
 have ab:=bw wr z 2 _ _ (.slice (aX g) (rows.length-1) B) ac;simp only[zA]at ab;have U:=(dh wr ⟨z,2,none⟩ ((w:Nat)+1+1) (.slice (aX g) (rows.length-1) B) Sn).trans ((I.block _ Ry RX).trans ba);have am:=J.o.erase Ry HO I;obtain⟨HO,HE⟩:=bL (show aI _ ((w:Nat)+3) _ _ from⟨_,am.jk ac (j:=2) (u:=.slice (aX g) (rows.length-1) B)⟩) ((a7.grown I Ry fun b hb=>Sz).setCell (p:=⟨z,2,none⟩) Sn (.slice (aX g) (rows.length-1) B));clear am c2 f2 a5 a6;obtain⟨bd,be,bi⟩:=bU ab;obtain⟨bm,bo,bp⟩:=bU U;obtain⟨b2,b3,b4⟩:=bt U;simp only[dg,cT]at bd be bi bm bo bp;clear ab U;go_wp2;refine az (v:=.agg (dp v h (aX g) (rows.length-1) B)) (by simp[results,results217,go_sem, *]) rfl ⟨_,rfl,?_,?_⟩
 .exact Yr
 .exact Yf
def zeE(a p v h:Int)(A:aq)(cap:Nat)(rows:aC)(w:aa)(bd:aL w A rows)(c9:rows.length<=160)(Ew:∀r∈rows,r.length<=1000)(cu:0<=a)(cz:a<=rows.length)(cO:0<=v)(cR:v<=1000)(cF:0<=h)(cI:h<=1000):ax 223 (eL (bc a) p (ae v h A rows cap)) w fun e w'=>∃u,e=.returned (.agg (dz v h u))/\aI w' w u (bK rows a.toNat (List.replicate (v+h).toNat 0))/\aj w w':=by
 obtain⟨b9,ca⟩:=bL (Ry:rows.length<=1048576) (show ∀r∈rows,r.length<=1048576 from fun r hr=>TZ);go_enter func223,ntmps223
 go_wp2_with fail
 refine(lL _ _ _ _ _ _ (bd.ext (((ai _ _).alloc Rx _ |>.alloc Rx _).alloc Sn _)) b9 ca).mono ?_;rintro e z ⟨u,rfl,⟨us,hu⟩,a1⟩;obtain⟨D,E,rfl,_,_,_⟩:=aI.view ⟨us,hu⟩;obtain⟨b1,b2,b3⟩:=cv w (.cells (bc a) 137) (.cells (ae v h A rows cap) 26) (.cells aQ 26);have cK:=a1.size;simp only[cx]at cK;go_upto_region 2 with(fail)
 obtain⟨B,Er⟩:=aK (z.alloc (.cells (ae v h D rows E) 26));rw[<-Er];have a2:aj z B:=VH;have da:(B:Nat)=z+1:=So;have R:=bQ a1 a2;have a5:aW B z (ae v h D rows E) 26:=Um;have bv:=cp R b1;have bz:=cp R b2;have b0:=cp R b3;have bo:a_ B ((w:Nat)+3) (.slice D rows E) rows us:=(hu.ext a2).mono Rx;have bp:∀g',D=some ⟨g',0,none⟩->g' < (z:Nat):=fun g' e=>Vy
 have c8:∀(k:Nat) (x:av),us[k]?=some x->∀b,x.ownBlock=some b->b < (z:Nat):=fun k x hx b hb=>Wi
 have bi:aj w B:=(below_alloc3 w _ _ _).trans (R.mono Sn);clear hu a1 a2 R bd Ew b1 b2 b3 Er;have a8:=aV bv 0;obtain⟨b5,b6,b7⟩:=bU bz;have a9:=aV a5 2;simp only[dg,cT]at a8 b5 b6 b7 a9;obtain⟨ab,b8,ce,ch,cb⟩:=l_ bo bi b0 a5 bp;clear bo bi bp bv bz b0 a5;refine bk (S:=fun w'=>af w' w 0 (zI a)/\af w' ((w:Nat)+1) 0 (zI v)/\af w' ((w:Nat)+1) 1 (zI h)/\af w' ((w:Nat)+1) 2 (.slice A rows cap)/\af w' z 2 (.slice D rows E)) 10 RU RI (fun hHeld=>?_);refine ay 0 ?_;refine ay 1 ?_;refine ay 2 ?_;refine ay 3 ?_;refine ay 4 ?_;have ao:∀a7,aj B a7->(fun w':World=>af w' w 0 (zI a)/\af w' ((w:Nat)+1) 0 (zI v)/\af w' ((w:Nat)+1) 1 (zI h)/\af w' ((w:Nat)+1) 2 (.slice A rows cap)/\af w' z 2 (.slice D rows E)) a7:=fun a7 hb=>
  ⟨ag hb a8,ag hb b5,ag hb b6,ag hb b7,ag hb a9⟩
 refine bu 5 fun K hK=>?_
 go_simp;refine(pC v h _ _ cO cR cF cI).mono ?_;rintro e b4 ⟨rfl,T⟩;have T:aj B b4:=(ai _ _).drew.trans T;go_simp;refine hK.out _ _ (fun _=>ao b4 T) (fun hHeld=>?_);clear hK K;try simp only[Act.put,zA]
 have hHeld:=hHeld RC;refine bu 6 fun K hK=>?_
 go_simp;obtain⟨I,a3⟩:∃I:Nat,v+h=I:=⟨(v+h).toNat,Ry⟩;have bb:=zH a3;rw[a3];clear a3;refine(sU I _ (by have:=bb.o;omega)).mono ?_;rintro e Z ⟨dc,rfl,U,F⟩;have F:aj B Z:=bQ T F;have U:=U.mono T.size;obtain⟨am,ap,br,_⟩:=U.view;try simp only[iU]at br
 subst br;dsimp only;refine hK.out _ _ (fun _=>ao Z F) (fun hHeld=>?_);clear hK K;try simp only[Act.put,zA]
 have hHeld:=hHeld RC;have cc:=zH U;clear U;refine bu 7 fun K hK=>?_
 go_simp;have H:Below B B (Z.alloc (.cells (ey am I ap) 27)):=F.alloc F.size _;refine hK.out _ _ (fun _=>ao _ H) (fun hHeld=>?_);clear hK K;try simp only[Act.put,zA]
 have hHeld:=hHeld RC;refine bu 8 fun K hK=>?_
 go_simp;have db:=F.size;have a0:=ab.ext H;have EH:∀b,(Value.slice D rows E).ownBlock=some b->(w:Nat)+3<=b/\b < (z:Nat):=fun b hb=>⟨(b_ ab.outer b hb).1,by
  rcases ab.outer.2 with⟨h1,_⟩|⟨g',c0,c4,h1,_⟩
  .rw[h1]at hb;cases hb
  .rw[h1]at hb;cases hb;exact cb g' UI⟩
 refine(rA ((w:Nat)+3) rows Z a (.slice D rows E) us (.slice am I ap) _ a0.outer (oO a0) rfl (aD _ _ rfl) (fun e=>by have:=EH _ e;omega) cu cz Ry Sn).mono ?_;rintro e wr ⟨g,Q,rfl,bm,O,_⟩;dsimp only;have J:∀p:dw,p.block=(w:Nat)∨p.block=(w:Nat)+1∨p.block=(z:Nat)->∀x,(Z.alloc (.cells (ey am I ap) 27)).cell? p=some x->wr.cell? p=some x:=fun p ad x hx=>O.cell hx (fun e=>by have:=EH _ e.symm;rcases ad with ad|ad|ad <;>omega)
 refine hK.out _ _ (fun _=>⟨J _ (aG rfl) _ hHeld.1,J _ (aB (aG rfl)) _ hHeld.2.1,J _ (aB (aG rfl)) _ hHeld.2.2.1,J _ (aB (aG rfl)) _ hHeld.2.2.2.1,J _ (aB (aB rfl)) _ hHeld.2.2.2.2⟩) (fun hHeld=>?_);clear hK K;try simp only[Act.put,zA]
 have hHeld:=hHeld RC;refine bu 9 fun K hK=>?_
 go_simp;refine hK.out _ _ (fun _=>hHeld) (fun hHeld=>?_);clear hK K;try simp only[Act.put,zA]
 have ac:wr.heap[z.heap.size]?=_:=(O.block z Sn (fun e=>Up)).trans ((H.block z Ry).trans ch);have ba:=zH ac;have f2:=aS ac 2;have c2:=aV ac 2;simp only[dg,cT]at c2;clear ac J hHeld;refine bu 10 fun K hK=>?_
 go_simp;refine hK.out _ _ (fun h=>absurd h RC) (fun _=>?_);clear hK K;try simp only[Act.put,zA]
 refine dS RU ?_ _;have a6:=bw wr z 2 _ _ (.slice (aX g) (rows.length+1) Q) ba;simp only[zA]at a6;have a4:=(dh wr ⟨z,2,none⟩ ((w:Nat)+1+1) (.slice (aX g) (rows.length+1) Q) Sn).trans ((O.block _ Sn (fun e=>Up)).trans ((H.block _ Ry).trans ce));have be:=ab.insert H (cc.ext ((ai _ _).alloc (ah _) _)) Ry Ry bm O;obtain⟨HO,HE⟩:=bL (show aI _ ((w:Nat)+3) _ _ from⟨_,be.jk ba (j:=2) (u:=.slice (aX g) (rows.length+1) Q)⟩) ((qC (b8.trans (H.mono Ry)) O Sn fun b hb=>by have:=EH b hb;omega).setCell (p:=⟨z,2,none⟩) Sn (.slice (aX g) (rows.length+1) Q));clear be c2 f2 a8 a9 O bm F H a0 EH;rw[show List.replicate I (0:Int)=List.replicate (v+h).toNat 0 by rw[bb.o];rfl]at HO;obtain⟨ci,cj,cn⟩:=bU a6;obtain⟨co,cr,ct⟩:=bU a4;obtain⟨c5,c6,c7⟩:=bt a4;simp only[dg,cT]at ci cj cn co cr ct;clear a6 a4;go_wp2;refine az (v:=.agg (dp v h (aX g) (rows.length+1) Q)) (by simp[results,results223,go_sem, *]) rfl ⟨_,rfl,?_,?_⟩
 .exact Yr
 .exact Yf
def j1{z:Type}(f:z->z)(xs:List z)(k:Nat):List z:=(xs.map f).take k++xs.drop k
def l6{z:Type}(f:z->z)(xs:List z):j1 f xs 0=xs:=by simp[j1]
def nM{z:Type}(f:z->z)(xs:List z)(k:Nat)(B:xs.length<=k):j1 f xs k=xs.map f:=by unfold j1;rw[fO (by simpa using B),nx B,mv]
def nN{z:Type}(f:z->z)(xs:List z)(k:Nat)(B:k<xs.length):(j1 f xs k)[k]?=xs[k]?:=by unfold j1;exact WS
def dO{z:Type}(f:z->z)(xs:List z)(k:Nat)(B:k<=xs.length):(j1 f xs k).length=xs:=by unfold j1;simp;omega
def iy{z:Type}(f:z->z)(xs:List z)(k:Nat)(x:z)(hx:xs[k]?=some x):(j1 f xs k).set k (f x)=j1 f xs (k+1):=by have h1:=(bs.1 hx).1;unfold j1;rw[tj _ _ RX,fZ];have B:xs.drop k=x::xs.drop (k+1):=WR;have D:k-((xs.map f).take k).length=0:=RX;rw[B,D,jK];simp[hx]
def fM{F:bN}{fr:gY}(h:w.ownsRow D Rv J v n F)(E:w.heap[b]?=some (.cells cs 26 fr))(B:Rv≠26):v.ownBlock=none∨v.ownBlock≠some b:=by
 rcases h.2 with⟨rfl,_⟩|⟨g,cap,cur,rfl,_,z,_⟩
 .exact aG rfl
 .refine aB fun e=>?_
  simp only[Value.ownBlock,dt]at e;subst e;rw[E]at z;simp at z;exact B z.2.1.symm
def frz{a:dw}(D:w.grownBy w' (some r))(z:w.frozen? a=false)(B:w.cell? a=some v)(EH:a.block≠r):w'.frozen? a=false:=by have h:=D.block a.block (iK w a B) SC;unfold World.frozen? at z ⊢;rw[h];exact z
def oP{a:dw}(B:w.grownBy w' (some r))(z:w.cell? a=some v)(EH:a.block≠r):w'.cell? a=some v:=(zl (w:=w) (B.block a.block (iK w a z) SC)).trans z
def xM{z B:Type}(f:z->B)(l:List z)(i:Nat):(l.map f).eraseIdx i=(l.eraseIdx i).map f:=by apply eQ;intro j;rw[gG,bR,bR,gG]
def yh(b v h:Int)(A:aq)(cap:Nat)(rows:aC)(w:aa)(a3:aL w A rows)(c8:rows.length<=160)(Ew:∀r∈rows,r.length<=1000)(dc:0<=v)(dl:v<=1000)(hb:0<=b)(cK:b<=1000)(c5:1<=h)(c6:h<=1000)(a5:∀r∈rows,v+b<r.length):ax 235 (jG (ae v h A rows cap) b) w fun e w'=>∃u,e=.returned (.agg (dz v (h-1) u))/\aI w' w u (rows.map (fun r=>r.eraseIdx (v+b).toNat))/\aj w w':=by
 have b1:=zH (show ∀r∈rows,v+b<r.length/\r.length<=1000 from fun r hr=>⟨a5 r hr,Ew r hr⟩);clear a5;obtain⟨b2,b4⟩:=bL (Ry:rows.length<=1048576) (show ∀r∈rows,r.length<=1048576 from fun r hr=>TZ);go_enter func235,ntmps235
 go_wp2_with fail
 refine(lL _ _ _ _ _ _ (a3.ext ((ai _ _).alloc Rx _ |>.alloc Rx _)) b2 b4).mono ?_;rintro e z ⟨u,rfl,⟨us,hu⟩,R⟩;obtain⟨F,D,rfl,_,_,_⟩:=aI.view ⟨us,hu⟩;have bo:((w.alloc (.cells (ae v h A rows cap) 26)).alloc (.cells aQ 26)).heap[w.heap.size]?=some (.cells (ae v h A rows cap) 26):=(bZ _ _ Rx).trans (aD _ _ rfl);have bp:((w.alloc (.cells (ae v h A rows cap) 26)).alloc (.cells aQ 26)).heap[(w:Nat)+1]?=some (.cells aQ 26):=aD _ _ Rx;have co:=R.size;simp only[cx]at co;go_upto_region 2 with(fail)
 obtain⟨E,Er⟩:=aK (z.alloc (.cells (ae v h F rows D) 26));rw[<-Er];have T:aj z E:=VH;have db:(E:Nat)=z+1:=So;have O:=bQ R T;have Z:aW E z (ae v h F rows D) 26:=Um;have bi:=cp O bo;have bm:=cp O bp;have be:a_ E ((w:Nat)+2) (.slice F rows D) rows us:=(hu.ext T).mono Rx;have a4:aj w E:=((ai w w).alloc Rx _ |>.alloc Rx _).trans (O.mono Sn);clear hu R T O a3 Ew bo bp Er;have ad:=aV bi 0;have bv:=aV Z 2;simp only[dg,cT]at ad bv;obtain⟨b6,b0,b8,b9⟩:=fS be a4 bm Z;clear be a4 bi bm Z;go_wp2;go_loopw [13] (fun i wr=>∃k:Nat,k<=rows.length/\i=.int .i64 k/\(∃br,a_ wr ((w:Nat)+2) (.slice F rows D) (j1 (fun r=>r.eraseIdx (v+b).toNat) rows k) br)/\
   aW wr z (ae v h F rows D) 26/\Below ((w:Nat)+2) E wr)
  (fun i _=>rows.length-(intOf i).toNat)
 case atStart=>exact⟨0,aT _,rfl,⟨us,by rw[l6];exact b6⟩,b9,ai _ _⟩
 case round=>
  obtain⟨k,hk,rfl,⟨br,Es⟩,E6,H⟩:=hrel;by_cases a6:k<rows.length
  .obtain⟨r,hr⟩:=aw a6;have ba:(j1 (fun r=>r.eraseIdx (v+b).toNat) rows k)[k]?=some r:=(nN _ _ _ a6).trans hr;obtain⟨d2,E4,Gq⟩:=Es.get ba;obtain⟨cn,c7⟩:=b1 r (aR hr);obtain⟨cu,J,rfl,_⟩:=Gq.view;obtain⟨gr,rfl,c0,c4⟩:=kU Gq Ry;obtain⟨g,rfl,cO,cR⟩:=kH Es TY;have E5:=Es.outer;rw[dO _ _ _ hk]at E5;have bz:af wr g k (.slice (aX gr) r J):=U0;have am:af wr w 0 (zI v):=(H.cell Sn).trans ad;have ao:af wr z 2 (.slice (aX g) rows D):=aV E6 2;have c9:gr≠z.heap.size:=fun e=>XM
   have da:g≠z.heap.size:=fun e=>XW
   have f0:=E5.frozenAt k;obtain⟨HO,a1,HW,b3,b7,b5⟩:=lq Es Gq H E6 E4 hr;clear E5 Es Gq H E6 ba E4 hr;have dT:IntKind.i64.wrap (v+b)=v+b:=Sq;have d0:IntKind.i64.wrap (v+b+1)=v+b+1:=Sq;have a7:g≠gr:=by
    rcases fv HO.outer a1 with h1|h1
    .cases h1
    .exact WI
   have ap:=zH (Ag ((w:Nat)+2) gr r J (v+b) (r.map (Value.int .i64)) wr.drew (wJ a1) Wn Ry cn Ry);go_wp2_with fail
   go_region_held3 (fun w'=>af w' w 0 (zI v)/\af w' z 2 (.slice (aX g) rows D))
    (first|(exact ch)|(exact⟨am,ao⟩)|(refine⟨?_,?_⟩<;>(first|(refine(eC Sn).trans ?_;assumption)|(refine(j_ Sn).trans ?_;assumption))))
    ((go_at_call 236;refine ap.mono ?_;rintro e ac ⟨rfl,a9,B⟩;have f3:ac.frozen? ⟨g,k,none⟩=false:=(frz (w:=wr.drew) B f0 bz a7);have cr:=oP (w:=wr.drew) B am (Ry:w.heap.size≠gr);have ct:=oP (w:=wr.drew) B ao (Ry:z.heap.size≠gr);have ch:=aY cr ct;clear am ao;have d3:=oP (w:=wr.drew) B bz a7))
   have B:=bq (dG wr (some gr)) B;have a8:au ac ((w:Nat)+2) (.slice (aX gr) (r.length-1) J) (r.eraseIdx (v+b).toNat):=by unfold au;rw[<-xM,mj Ry];exact a9
   have U:=HO.put (dO _ _ _ hk).symm b7 B a8 (fun b hb=>aG hb);rw[iy _ _ _ _ b5.o]at U;obtain⟨HN,E7,Eu⟩:=dD U ((dh ac ⟨g,k,none⟩ z (.slice (aX gr) (r.length-1) J) Sn).trans ((B.block z UA RX).trans b3)) (kA (qC HW B UA (fun b hb=>Sz)) (p:=⟨g,k,none⟩) Sn (.slice (aX gr) (r.length-1) J));clear U a8 a9 B ap;exact Yq
  .skip
   have ci:k=rows.length:=Ry;subst ci;rw[nM _ _ _ (ah _)]at Es;have I:=(H.block _ Ry).trans b8;have Q:=aV E6 1;have a2:=aS E6 1;simp only[dg,cT]at Q;obtain⟨HO,HW,a0,cj⟩:=fS Es H E6 I;have d1:IntKind.i64.wrap (h-1)=h-1:=Sq;clear Es H E6 I ad bv;go_upto_region 8 with(fail)
   have ab:=bw wr z 1 _ _ (zI (h-1)) a0;simp only[zA]at ab;have I:=(dh wr ⟨z,1,none⟩ ((w:Nat)+1) (zI (h-1)) Sn).trans cj;have bd:=HO.jk a0 (j:=1) (u:=.int .i64 (h-1));have HO:=zH (show aI _ ((w:Nat)+2) _ _ from⟨_,bd⟩);have bb:=((b0.trans (HW.mono Ry)).setCell (p:=⟨z,1,none⟩) Sn (zI (h-1)));have HE:=zH bb;clear bd bb;obtain⟨Q,a2,ca⟩:=bU ab;obtain⟨cb,cc,ce⟩:=bU I;obtain⟨cz,cF,cI⟩:=bt I;simp only[dg,cT]at Q a2 ca cb cc ce;clear ab I;go_wp2;refine az (v:=.agg (ae v (h-1) F rows D)) (by simp[results,results235,go_sem, *]) rfl ⟨_,rfl,?_,?_⟩
   .exact Yr
   .exact Yf
def zjE{r:Option Nat}{a:dw}(D:w.grownBy w' r)(z:w.frozen? a=false)(B:w.cell? a=some v)(E:some a.block≠r):w'.frozen? a=false:=by have h:=D.block a.block (iK w a B) E;unfold World.frozen? at z ⊢;rw[h];exact z
def zbM{r:Option Nat}{a:dw}(B:w.grownBy w' r)(z:w.cell? a=some v)(D:some a.block≠r):w'.cell? a=some v:=(zl (w:=w) (B.block a.block (iK w a z) D)).trans z
def iC{a:dw}(h:w.cell? a=some v):a.block < (w:Nat):=iK w a h
def zas(b v h:Int)(A:aq)(cap:Nat)(rows:aC)(w:aa)(bb:aL w A rows)(d4:rows.length<=160)(Ew:∀r∈rows,r.length<=1000)(d7:0<=v)(d8:v<=1000)(R:0<=b)(dT:b<=1000)(d1:0<=h)(d2:h<=1000)(bi:∀r∈rows,v+b<=r.length):ax 240 (jG (ae v h A rows cap) b) w fun e w'=>∃u,e=.returned (.agg (dz v (h+1) u))/\aI w' w u (rows.map (fun r=>bK r (v+b).toNat 0))/\aj w w':=by
 have ch:=zH (show ∀r∈rows,v+b<=r.length/\r.length<=1000 from fun r hr=>⟨bi r hr,Ew r hr⟩);clear bi;obtain⟨ci,cn⟩:=bL (Ry:rows.length<=1048576) (show ∀r∈rows,r.length<=1048576 from fun r hr=>TZ);go_enter func240,ntmps240
 go_wp2_with fail
 refine(lL _ _ _ _ _ _ (bb.ext ((ai _ _).alloc Rx _ |>.alloc Rx _)) ci cn).mono ?_;rintro e z ⟨u,rfl,⟨us,hu⟩,am⟩;obtain⟨J,B,rfl,_,_,_⟩:=aI.view ⟨us,hu⟩;have b5:((w.alloc (.cells (ae v h A rows cap) 26)).alloc (.cells aQ 26)).heap[w.heap.size]?=some (.cells (ae v h A rows cap) 26):=(bZ _ _ Rx).trans (aD _ _ rfl);have b6:((w.alloc (.cells (ae v h A rows cap) 26)).alloc (.cells aQ 26)).heap[(w:Nat)+1]?=some (.cells aQ 26):=aD _ _ Rx;have c8:=am.size;simp only[cx]at c8;go_upto_region 2 with(fail)
 obtain⟨H,Er⟩:=aK (z.alloc (.cells (ae v h J rows B) 26));rw[<-Er];have ao:aj z H:=VH;have d6:(H:Nat)=z+1:=So;have U:=bQ am ao;have a1:aW H z (ae v h J rows B) 26:=Um;have b3:=cp U b5;have b4:=cp U b6;have b2:a_ H ((w:Nat)+2) (.slice J rows B) rows us:=(hu.ext ao).mono Rx;have bd:aj w H:=((ai w w).alloc Rx _ |>.alloc Rx _).trans (U.mono Sn);clear hu am ao U bb Ew b5 b6 Er;have a4:=aV b3 0;have b8:=aV a1 2;simp only[dg,cT]at a4 b8;obtain⟨cr,ce,cu,cz⟩:=fS b2 bd b4 a1;clear b2 bd b3 b4 a1;go_wp2;go_loopw [13] (fun i wr=>∃k:Nat,k<=rows.length/\i=.int .i64 k/\(∃b7,a_ wr ((w:Nat)+2) (.slice J rows B) (j1 (fun r=>bK r (v+b).toNat 0) rows k) b7)/\
   aW wr z (ae v h J rows B) 26/\Below ((w:Nat)+2) H wr)
  (fun i _=>rows.length-(intOf i).toNat)
 case atStart=>exact⟨0,aT _,rfl,⟨us,by rw[l6];exact cr⟩,cz,ai _ _⟩
 case round=>
  obtain⟨k,hk,rfl,⟨b7,Es⟩,E6,O⟩:=hrel;by_cases bm:k<rows.length
  .obtain⟨r,hr⟩:=aw bm;have bz:(j1 (fun r=>bK r (v+b).toNat 0) rows k)[k]?=some r:=(nN _ _ _ bm).trans hr;obtain⟨eb,E4,T⟩:=Es.get bz;obtain⟨c6,d3⟩:=ch r (aR hr);obtain⟨F,I,rfl,_⟩:=T.view;have ap:∀c,(Value.slice F r I).ownBlock=some c->(w:Nat)+2<=c/\c < (wr:Nat):=T.lt;obtain⟨g,rfl,d0,be⟩:=kH Es TY;have E5:=Es.outer;rw[dO _ _ _ hk]at E5;have cb:af wr g k (.slice F r I):=U0;have a5:af wr w 0 (zI v):=(O.cell Sn).trans a4;have a6:af wr z 2 (.slice (aX g) rows B):=aV E6 2;have bo:some z.heap.size≠(Value.slice F r I).ownBlock:=fun e=>by
    rcases fM T E6 RC with h1|h1
    .rw[h1]at e;cases e
    .exact h1 e.symm
   have d5:g≠z.heap.size:=fun e=>XW
   have f0:=E5.frozenAt k;obtain⟨HO,a8,HW,cj,ct,co⟩:=lq Es T O E6 E4 hr;clear E5 Es T O E6 bz E4 hr;have d9:IntKind.i64.wrap (v+b)=v+b:=Sq;have bp:some g≠(Value.slice F r I).ownBlock:=by
    rcases fv HO.outer a8 with h1|h1
    .cases h1
    .exact fun e=>h1 e
   have c7:some w.heap.size≠(Value.slice F r I).ownBlock:=fun e=>by have:=ap _ e.symm;omega
   have E:Below wr wr (wr.drew.alloc (.cells jH 3)):=(ai _ _).drew.alloc (ah _) _;obtain⟨a9,Z⟩:=bL (zT ((w:Nat)+2) r wr (v+b) (.slice F r I) (r.map (Value.int .i64)) (zI 0) (wr.drew.alloc (.cells jH 3)) (a8.ext E) Wn rfl (aD _ _ rfl) (fun e=>by have:=ap _ e;omega) Ry c6 Ry (by have:=HW.size;simp<;>omega)) E;have b9:=(ag E a5);have ca:=(ag E a6);have cc:=(ag E cb);have cR:=(gP E f0 (iC cb));clear E;go_wp2_with fail
   go_region_held3 (fun w'=>af w' w 0 (zI v)/\af w' z 2 (.slice (aX g) rows B))
    (first|(exact c0)|(exact⟨a5,a6⟩)|(exact⟨b9,ca⟩)|(refine⟨?_,?_⟩<;>(first|(refine(eC Sn).trans ?_;assumption)|(refine(j_ Sn).trans ?_;assumption))))
    ((go_at_call 241;refine a9.mono ?_;rintro e a3 ⟨ad,ab,rfl,bv,D,be⟩;have f3:a3.frozen? ⟨g,k,none⟩=false:=(zjE D cR cc bp);have c9:=zbM D b9 c7;have da:=zbM D ca bo;have c0:=aY c9 da;clear a5 a6;have ee:=zbM D cc bp))
   have br:au a3 ((w:Nat)+2) (.slice (aX ad) (r.length+1) ab) (bK r (v+b).toNat 0):=by unfold au;rw[show(bK r (v+b).toNat (0:Int)).length=r+1 from jA _ _ _ Ry,show(bK r (v+b).toNat (0:Int)).map (Value.int .i64)=bK (r.map (Value.int .i64)) (v+b).toNat (zI 0) by simp[bK,List.map_take,wQ]];exact bv
   have a0:=(HO.ext Z).put (dO _ _ _ hk).symm ct D br (fun b R=>by simp only[Value.ownBlock,dt]at R;subst R;exact be);rw[iy (fun r=>bK r (v+b).toNat 0) rows k r co]at a0;obtain⟨HN,E7,Eu⟩:=dD a0 ((dh a3 ⟨g,k,none⟩ z (.slice (aX ad) (r.length+1) ab) Sn).trans ((D.block z UA bo).trans ((Z.block z Ua).trans cj))) (kA (qC (HW.trans (Z.mono Ua)) D UA (fun b R=>(ap b R).1)) (p:=⟨g,k,none⟩) Sn (.slice (aX ad) (r.length+1) ab));clear a0 br bv D a9;exact Yq
  .skip
   have c4:k=rows.length:=Ry;subst c4;rw[nM _ _ _ (ah _)]at Es;have Q:=(O.block _ Ry).trans cu;have ac:=aV E6 1;have ba:=aS E6 1;simp only[dg,cT]at ac;obtain⟨HO,HW,a7,c5⟩:=fS Es O E6 Q;have ea:IntKind.i64.wrap (h+1)=h+1:=Sq;clear Es O E6 Q a4 b8;go_upto_region 8 with(fail)
   have a2:=bw wr z 1 _ _ (zI (h+1)) a7;simp only[zA]at a2;have Q:=(dh wr ⟨z,1,none⟩ ((w:Nat)+1) (zI (h+1)) Sn).trans c5;have b1:=HO.jk a7 (j:=1) (u:=.int .i64 (h+1));have HO:=zH (show aI _ ((w:Nat)+2) _ _ from⟨_,b1⟩);have b0:=((ce.trans (HW.mono Ry)).setCell (p:=⟨z,1,none⟩) Sn (zI (h+1)));have HE:=zH b0;clear b1 b0;obtain⟨ac,ba,cF⟩:=bU a2;obtain⟨cI,cK,cO⟩:=bU Q;obtain⟨db,dc,dl⟩:=bt Q;simp only[dg,cT]at ac ba cF cI cK cO;clear a2 Q;go_wp2;refine az (v:=.agg (ae v (h+1) J rows B)) (by simp[results,results240,go_sem, *]) rfl ⟨_,rfl,?_,?_⟩
   .exact Yr
   .exact Yf
end Go.Proofs.YtdpgblncijojiaaGreatDoor
