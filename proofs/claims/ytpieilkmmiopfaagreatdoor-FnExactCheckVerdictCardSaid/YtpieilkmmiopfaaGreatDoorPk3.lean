/- Parts of the walks. Conditions: as stated with each. -/
import Derived.Test.YtpieilkmmiopfaaGreatDoorPk2
namespace Go.Proofs.YtpieilkmmiopfaaGreatDoor
open Go.RowKit Tryz
set_option linter.all false
set_option maxHeartbeats 4000000
variable{B J b i j n r:Nat}{a:Act}{cs:gg}{o:h_}{rows:aP}{u v:aG}{us:cL}{w w':aa}
def ma(p b:Int)(xs:aL)(k:Nat):List Int:=(xs.map fun x=>x*b%p).take k++xs.drop k
def kq(p b:Int)(xs:aL):List Int:=xs.map fun x=>x*b%p
def tJ p b xs:ma p b xs 0=xs:=by simp[ma]
def wF p b xs k(hk:xs.length<=k):ma p b xs k=kq p b xs:=by unfold ma kq;rw[cZ Rj,jR hk,lZ]
def wG p b xs k(h:k<xs.length):(ma p b xs k)[k]?=xs[k]?:=by unfold ma;exact Wp
def wH p b xs k x(hx:xs[k]?=some x):(ma p b xs k).set k (x*b%p)=ma p b xs (k+1):=by have h1:=(bG.1 hx).1;unfold ma;rw[om _ _ QW,du];have h:xs.drop k=x::xs.drop (k+1):=Wo;have D:k-((xs.map fun x=>x*b%p).take k).length=0:=QW;rw[h,D,rO];simp[hx]
def zdF(a b p v h:Int)A ε rows w(an:bt w A rows)(b6:rows.length<=160)(F6:∀r∈rows,r.length<=1000)(b8:1<=p)(b9:p<=1000)(bz:0<=a)(b0:a<rows.length)(hb:0<=b)(bg:b<=1000)(hx:∀r∈rows,∀x∈r,0<=x/\x<=1000):az 249 (je (bC a b) p (aA v h A rows ε)) w fun e w'=>∃u,e=.returned (.agg (en v h u))/\aY w' w u (rows.set a.toNat (kq p b (rows.getD a.toNat [])))/\ag w w':=by
 refine M_ fun ra GZ HA HX MB=>?_;clear hx
 refine Qc fun HM F_=>?_
 go_enter func249,ntmps249
 go_wp2_with fail
 refine(mQ _ _ _ _ _ _ (an.ext (((al _ _).alloc Qt _ |>.alloc Qt _).alloc Rs _)) HM F_).x ?_;refine PT fun w1 FR us gA Ga hu _ _ _=>?_
 have⟨a2,bo,a3⟩:=cD w (.cells (bC a b) 231) (.cells (aA v h A rows ε) 57) (.cells bx 57);have bi:=FR.size;simp only[dV]at bi;go_upto_region 2 with(fail)
 have⟨W2,FY⟩:=aR (w1.alloc (.cells (aA v h gA rows Ga) 57));rw[<-FY];have Z:ag w1 W2:=UP;have ca:(W2:Nat)=w1+1:=Rr;have O:=aT FR Z;have ac:bA W2 w1 (aA v h gA rows Ga) 57:=TK;have av:=dg O a2;have a0:=dg O a3;have Gf:bL W2 ((w:Nat)+3) (.slice gA rows Ga) rows us:=(hu.ext Z).x Qt;have bn:∀g',gA=some ⟨g',0,none⟩->g' < (w1:Nat):=fun g' e=>UB
 have ap:∀(k:Nat) (x:aG),us[k]?=some x->∀b,x.ownBlock=some b->b < (w1:Nat):=fun k x hx b hb=>Vk
 have ao:ag w W2:=(ζ w _ _ _).t (O.x Rs);clear hu FR Z O an F6 a2 bo a3 FY;obtain⟨ce,Hp,T⟩:=Gf.F GZ;refine PI fun g GA Gy Gz=>?_
 subst GA;obtain⟨J,F,rfl,am,_⟩:=T.p;have⟨Y,H⟩:=zeR av;have I:=bB ac 2;simp only[dA,dm]at Y H I;have ad:af W2 g a.toNat (.slice J ra F):=UM;have⟨a5,a4,a6,J2,bp,a7,a8,ah,Hu⟩:=zH9 Gf ao Hp T am a0 ac (ap _ _ Hp) (gF Gf.η T);clear Gf ao Hp T GZ am bn ap av a0 ac;go_wp2;go_loopw [19] (fun i wr=>∃k:Nat,k<=ra.length/\i=.int .i64 k/\wr.ownsRow ((w:Nat)+3) 3 1 (.slice J ra F) ra ((ma p b ra k).map (Value.int .i64))/\W2.grownBy wr (Value.slice J ra F).ownBlock)
  (fun i _=>ra.length-(intOf i).toNat)
 case atStart=>exact⟨0,aW _,rfl,SD,⟨rfl,rfl,rfl,ae _,fun _ _ _=>rfl⟩⟩
 case round=>
  obtain⟨k,b5,rfl,FT,D⟩:=hrel;by_cases FX:k<ra.length
  .have⟨x,hx⟩:=aq FX;obtain⟨G,rfl,b3,_⟩:=mr J2 Qu;have b4:=ah G rfl;have b7:g≠G:=WV;have ch:af wr w 0 (zI a):=D.cell Y TQ;have ci:af wr w 1 (zI b):=D.cell H TQ;have cj:af wr w1 2 (.slice (bH g) rows Ga):=D.cell I TQ;have ck:af wr g a.toNat (.slice (bH G) ra F):=D.cell ad TQ;have b1:af wr G k (zI x):=WD;have b2:=FT.g k;obtain⟨H,I⟩:=HX x (aU hx);have cb:0<=x*b:=rS H hb;have cc:x*b<=1000000:=by have:=uB I bg hb Qu;omega
   have U:=FT.j k (zI (x*b%p));rw[<-eW,wH _ _ _ _ _ hx]at U;have⟨HS,HG⟩:=bJ U.1 (cx D U.2);have bv:¬p=0:=Qu;clear U hx FT D Y ad;go_wp2_with fail
   go_region_held3 (fun w'=>af w' w 0 (zI a)/\af w' w 1 (zI b)/\af w' w1 2 (.slice (bH g) rows Ga)/\af w' g a.toNat (.slice (bH G) ra F))
    (first|(simp[*];done)|(refine⟨?_,?_,?_,?_⟩<;>(first|(refine(fu Rs).t ?_;assumption)|(refine(lQ Rs).t ?_;assumption)))) (fail)
   exact Yj
  .have J1:∀b,(Value.slice J ra F).ownBlock=some b->(w:Nat)+3<=b/\b < (w1:Nat):=fun b hb=>⟨(bS J2 b hb).1,ah b hb⟩
   have a1:=(D.block w1 Qu (fun e=>TP)).t a8;have ab:=(D.block ((w:Nat)+1+1) Qu (fun e=>TP)).t a7;have bh:k=ra.length:=Qu;subst bh;have HO:=zH (show aY wr ((w:Nat)+3) (.slice (bH g) rows Ga) (rows.set a.toNat (kq p b (rows.getD a.toNat []))) from
    ⟨_,a5.K a6 D (by rw[HA.o,<-wF p b ra ra (ae _)];unfold aE;rw[show(ma p b ra ra).length=ra by simp[ma]];exact FT)⟩)
   have HE:=zH (a4.grown D Qu fun b hb=>Tu);clear FT D J1 Y H I ad;have⟨a9,ba,bb⟩:=cC a1;have⟨bc,bd,be⟩:=cC ab;have⟨bq,br,bu⟩:=cd ab;simp only[dA,dm]at a9 ba bb bc bd be;clear a1 ab;go_wp2;refine aI (v:=.agg (aA v h (bH g) rows Ga)) (by simp[results,results249,go_sem, *]) rfl ⟨_,rfl,?_,?_⟩
   .exact Ym
   .exact X7
section
variable{P:jk}{ops:iI}{Q:gZ}{md:Region.Mode}{S:j4}
def tH(P:jk)(md:Region.Mode)(ops:iI)(Q:gZ)(S:j4)(n:Nat):Nat->Array Bool->Act->World->Prop
 |0,h,a,w=>Region.ready md ops h=[]/\Q .normal a w
 |F+1,h,a,w=>
  (Region.ready md ops h=[]->Q .normal a w)/\
  ∀i∈Region.ready md ops h,wpOp P ops Q i (fun D w'=>(i<n->S w')/\tH P md ops Q S n F (h.setIfInBounds i true) D w') a w
def zdv{n}:∀(h:Nat) (F:pv) (a:Act) (w:aa),tH P md ops Q S n h F a w->wpAny P md ops Q h F a w
 |0,_,_,_,D=>D
 |h+1,_,_,_,D=>⟨D.1,fun i hi=>wpOp_mono (fun G w' H=>zdv h _ G w' H.2) (D.2 i hi)⟩
def zfa{H}(hi:ops[i]?=some H)(ap:∀(j:Nat) (o:h_) cs b,ops[j]?=some o->o.op≠.select cs b)(a2:∀c a w,Q (.panic c) (a.put H.dst v) w->Q (.panic c) a w)(bg:Region.sinkB md ops n=true)(a5:Region.chainB md ops n=true)(bc:n<ops.size)(a9:i<n):∀(T:Nat) (h:pv) (a:Act) (w:aa),HeadInv md ops n h->(∀j I,ops[j]?=some I->j≠i->h.getD j true=false->(∀e∈I.after,Region.binds md e=true->e.on≠i)->H.apart ops I=true)->i∈Region.ready md ops h->YieldsIf P ops S H v a->S w->tH P md ops Q S n T (h.setIfInBounds i true) (a.put H.dst v) w->tH P md ops Q S n (T+1) h a w:=by
 intro T;induction T with
 |zero=>
  intro h a w _ _ G ac U O;refine⟨fun F=>(by rw[F]at G;cases G),fun j J=>?_⟩;by_cases D:j=i
  .subst D;exact ac.wpOp hi U ⟨fun _=>U,O⟩
  .have:=ready_mono J D;rw[O.1]at this;cases this
 |succ T ih=>
  intro h a w av ah G ac U O;refine⟨fun F=>(by rw[F]at G;cases G),fun j J=>?_⟩;have Y:h.getD i true=false:=(mem_ready.1 G).1;have an:j<n:=by
   rcases xp j n with F|F
   .exact F
   .exact absurd J (tail_waits bg a5 bc av (n-i) i rfl a9 Y j F)
  by_cases D:j=i
  .subst D;exact ac.wpOp hi U ⟨fun _=>U,O⟩
  .have Z:=O.2 j (ready_mono J D);obtain⟨ao,I,ad,a3⟩:=mem_ready.1 J;have be:∀e∈I.after,Region.binds md e=true->e.on≠i:=fun e a6 a4 a7=>by have Z:=a3 e a6 a4;rw[a7,getD_both Y]at Z;cases Z
   have a1:=wpOp_putIf ad (ah j I ad D ao be) (fun cs b=>ap i H cs b hi) (fun cs b=>ap j I cs b ad) a2 ac Z;have a8:∀k ok,ops[k]?=some ok->k≠i->(h.setIfInBounds j true).getD k true=false->
     (∀e∈ok.after,Region.binds md e=true->e.on≠i)->H.apart ops ok=true:=fun k ok ba bb Y bd=>by
    refine ah k ok ba bb ?_ bd;by_cases am:j=k
    .subst am;exact ao
    .rw[getD_set_ne true am]at Y;exact Y
   refine wpOp_mono (fun a0 w' ab=>⟨ab.2.1,ih (h.setIfInBounds j true) a0 w' (av.set J an) a8 (ready_mono G (k_ D)) ab.1 (ab.2.1 an) ?_⟩) a1;rw[Array.setIfInBounds_comm _ _ D];exact ab.2.2
def zdw(md:Region.Mode)(ops:iI)(n:Nat)(h:pv):Bool:=
 (h.size==ops.size)&&((List.range ops.size).all fun j=>!h.getD j false||(match ops.toList[j]? with|some D=>D.after.toList.all fun e=>!Region.binds md e||h.getD e.on false|none=>true))&&
 ((List.range ops.size).all fun t=>decide (t<n)||!h.getD t true)
def zfb{F}(h:zdw md ops n F=true):HeadInv md ops n F:=by
 simp only[zdw,bN,pT,eD,fj]at h;obtain⟨⟨G,H⟩,I⟩:=h;refine⟨G,fun j ac D Y e T J=>?_,fun t ab Z=>?_⟩
 .have U:=(bk.1 D).1;have:=H j U;rw[Y,sf,D]at this;simp only[Bool.not_true,Bool.false_or,eD]at this;have:=this e (by simpa using T);rw[J]at this;simpa using this
 .have:=I t Z;have O:decide (t<n)=false:=QW;rw[O]at this;simpa using this
def zk9{D:h_}{h:pv}(hi:ops.toList[i]?=some D)(ad:Region.noSelect ops=true)(ab:Region.free md ops h i=true)(ac:(Region.ready md ops h).contains i=true)(G:(zdw md ops n h&&Region.sinkB md ops n&&Region.chainB md ops n&&decide (n<ops.size)&&decide (i<n))=true)(ah:YieldsIf P ops S D v a)(Z:S w)(F:tH P md ops Q S n J (h.setIfInBounds i true) (a.put D.dst v) w)(Y:∀c a w,Q (.panic c) (a.put D.dst v) w->Q (.panic c) a w:=by exact fun _ _ _ F=>F):tH P md ops Q S n (J+1) h a w:=by
 simp only[bN,cf]at G;obtain⟨⟨⟨⟨H,I⟩,O⟩,T⟩,U⟩:=G;have hi':ops[i]?=some D:=by rw[<-sf];exact hi
 exact zfa hi' (Region.noSelect_spec ad) Y I O T U J h a w (zfb H) (Region.free_spec hi' ab) (by simpa using ac) ah Z F
def aM(i:Nat){F:h_}{D:pv}{G:Act}(h:tH P md ops Q S n J (D.setIfInBounds i true) G w)(hi:ops.toList[i]?=some F:=by rfl)(Y:Region.wanted F (yielded ops a.tmps)=true:=by rfl)(ac:∀w,S w->(execOp a.eval F).run P w=.ok (.value v) w:=by intro w h;(try dsimp only at h);go_simp;(try with_reducible rfl))(ab:Region.noSelect ops=true:=by kernel_rfl)(U:Region.free md ops D i=true:=by kernel_rfl)(Z:(Region.ready md ops D).contains i=true:=by kernel_rfl)(T:(zdw md ops n D&&Region.sinkB md ops n&&Region.chainB md ops n&&decide (n<ops.size)&&decide (i<n))=true:=by kernel_rfl)(I:S w:=by assumption)(H:∀c a w,Q (.panic c) (a.put F.dst v) w->Q (.panic c) a w:=by exact fun _ _ _ h=>h)(O:a.put F.dst v=G:=by simp only[Act.put,zA];rfl):tH P md ops Q S n (J+1) D a w:=by subst O;exact zk9 hi ab U Z T (ay ⟨Y,ac⟩) I h H
def zm2{F}(hr:Region.ready md ops F=[i])(ho:ops.toList[i]?=some o)(H:∀h:pt,Shut (∀a w,(i<n->S w)->((i<n->S w)->tH P md ops Q S n J (F.setIfInBounds i true) a w)->h a w)-> if Region.wanted o (yielded ops a.tmps)=true then Oper.wp P o a w h Q else h (a.put o.dst undef) w):tH P md ops Q S n (J+1) F a w:=by refine⟨fun h0=>Tc,fun j D=>?_⟩;rw[hr]at D;simp only[et,gJ,gX]at D;subst D;exact wpOp_step Sk (fun h hK=>H h (fun a w G I=>hK a w ⟨G,I G⟩))
def cm(i:Nat){D:pv}(F:∀h:pt,Shut (∀a w,(i<n->S w)->((i<n->S w)->tH P md ops Q S n J (D.setIfInBounds i true) a w)->h a w)->if Region.wanted o (yielded ops a.tmps)=true then Oper.wp P o a w h Q else h (a.put o.dst undef) w)(H:Region.ready md ops D=[i]:=by kernel_rfl)(G:ops.toList[i]?=some o:=by rfl):tH P md ops Q S n (J+1) D a w:=zm2 H G F
def gM{F}(D:Region.ready md ops F=[])(h:Q .normal a w):∀G,tH P md ops Q S n G F a w
 |0=>⟨D,h⟩
 |_+1=>⟨fun _=>h,by rw[D];simp⟩
def cU n{id}(F:P.follows .mixedOrders=true)(D:S w.drew)(h:S w.drew->tH P .any ops Q S n ops.size (Array.replicate ops.size false) a w.drew):(Code.region id ops true).wp P Q a w:=wp_region_any F (zdv _ _ _ _ (h D))
end
def rp(h:bL w B v rows us):∀u∈us,u.oneCell'=true:=fun u G=>by obtain⟨k,D⟩:=eH.1 G;obtain⟨r,_,F⟩:=h.nT D;obtain⟨H,I,rfl,_⟩:=F.p;rfl
def za0(w:aa)b j u:w.grownBy (w.setCell ⟨b,j,none⟩ u) (some b):=⟨rfl,rfl,rfl,Qt,fun k _ h=>eX w ⟨b,j,none⟩ k u (fun e=>h QC)⟩
def bL.m9{fr}(h:bL w B v rows us)(hb:w.heap[b]?=some (.cells cs 57 fr)):bL (w.setCell ⟨b,j,none⟩ u) B v rows us:=by
 refine⟨jA h.η (za0 w b j u) ?_,fun k x r F D=>aE.kept (h.ν k x r F D) (za0 w b j u) ?_,h.apart⟩
 .rcases h.η.2 with⟨rfl,_⟩|⟨g,ε,G,rfl,_,hg,_⟩
  .exact ay rfl
  .exact XO
 .rcases(h.ν k x r F D).2 with⟨rfl,_⟩|⟨g,ε,G,rfl,_,hg,_⟩
  .exact ay rfl
  .exact XO
def zfj(a p v h:Int)A ε rows w(Z:bt w A rows)(bo:rows.length<=160)(F6:∀r∈rows,r.length<=1000)(ba:0<=a)(bb:a<rows.length):az 255 (je (bK a) p (aA v h A rows ε)) w fun e w'=>∃u,e=.returned (.agg (en v h u))/\aY w' w u (rows.eraseIdx a.toNat)/\ag w w':=by
 refine Qc fun HM F_=>?_
 go_enter func255,ntmps255
 go_wp2_with fail
 refine(mQ _ _ _ _ _ _ (Z.ext (((al _ _).alloc Qt _ |>.alloc Qt _).alloc Rs _)) HM F_).x ?_;refine PT fun w1 FR us gA Ga hu _ _ _=>?_
 have⟨ao,bd,ap⟩:=cD w (.cells (bK a) 235) (.cells (aA v h A rows ε) 57) (.cells bx 57);have bc:=FR.size;simp only[dV]at bc;go_upto_region 2 with(fail)
 have⟨W2,FY⟩:=aR (w1.alloc (.cells (aA v h gA rows Ga) 57));rw[<-FY];have I:ag w1 W2:=UP;have bp:(W2:Nat)=w1+1:=Rr;have F:=aT FR I;have T:bA W2 w1 (aA v h gA rows Ga) 57:=TK;have am:=dg F ao;have an:=dg F ap;have Gf:bL W2 ((w:Nat)+3) (.slice gA rows Ga) rows us:=(hu.ext I).x Qt;have ah:∀g',gA=some ⟨g',0,none⟩->g' < (w1:Nat):=fun g' e=>UB
 have bn:∀(k:Nat) (x:aG),us[k]?=some x->∀b,x.ownBlock=some b->b < (w1:Nat):=fun k x hx b hb=>Vk
 have ac:ag w W2:=(ζ w _ _ _).t (F.x Rs);clear hu FR I F Z F6 ao bd ap FY;refine PI fun g GA Gy Gz=>?_
 subst GA;have bi:=ah g rfl;have av:=bB am 0;have a0:=bB T 2;simp only[dA,dm]at av a0;have⟨H,a1,a2,a3⟩:=gG Gf ac an T;clear Gf ac ah am an T;go_upto_region 3 with(go_at_call 257;refine(vl ((w:Nat)+3) g rows Ga a us _ H.η (rp H) ba bb Qu).x ?_;rintro e wr ⟨rfl,ad,J⟩;have D:=(J.block w1 Qu QW).t a3;have G:=zH J;have HO:=zH ad;have f2:=aK D 2;have c2:=bB D 2;simp only[dA,dm]at c2;have Y:=zH D;clear D J ad)
 have U:=bE wr w1 2 _ _ (.slice (bH g) (rows.length-1) Ga) Y;simp only[zA]at U;have O:=(eX wr ⟨w1,2,none⟩ ((w:Nat)+1+1) (.slice (bH g) (rows.length-1) Ga) Rs).t ((G.block _ Qu QW).t a2);have ab:=H.γ Qu HO G;have⟨HO,HE⟩:=bJ (show aY _ ((w:Nat)+3) _ _ from⟨_,ab.m9 Y (j:=2) (u:=.slice (bH g) (rows.length-1) Ga)⟩) ((a1.grown G Qu fun b hb=>RD).setCell (p:=⟨w1,2,none⟩) Rs (.slice (bH g) (rows.length-1) Ga));clear ab c2 f2 av a0;have⟨a4,a5,a6⟩:=cC U;have⟨a7,a8,a9⟩:=cC O;have⟨be,bg,bh⟩:=cd O;simp only[dA,dm]at a4 a5 a6 a7 a8 a9;clear U O;go_wp2;refine aI (v:=.agg (eO v h (bH g) (rows.length-1) Ga)) (by simp[results,results255,go_sem, *]) rfl ⟨_,rfl,?_,?_⟩
 .exact Ym
 .exact X7
def zg6(a p v h:Int)A ε rows w(a8:bt w A rows)(ct:rows.length<=160)(F6:∀r∈rows,r.length<=1000)(ca:0<=a)(cb:a<=rows.length)(ci:0<=v)(cj:v<=1000)(cc:0<=h)(ce:h<=1000):az 259 (je (bK a) p (aA v h A rows ε)) w fun e w'=>∃u,e=.returned (.agg (en v h u))/\aY w' w u (cT rows a.toNat (List.replicate (v+h).toNat 0))/\ag w w':=by
 refine Qc fun HM F_=>?_
 go_enter func259,ntmps259
 go_wp2_with fail
 refine(mQ _ _ _ _ _ _ (a8.ext (((al _ _).alloc Qt _ |>.alloc Qt _).alloc Rs _)) HM F_).x ?_;refine PT fun w1 FR us gA Ga hu _ _ _=>?_
 have⟨bn,bo,bp⟩:=cD w (.cells (bK a) 236) (.cells (aA v h A rows ε) 57) (.cells bx 57);have ch:=FR.size;simp only[dV]at ch;go_upto_region 2 with(fail)
 have⟨D,FY⟩:=aR (w1.alloc (.cells (aA v h gA rows Ga) 57));rw[<-FY];have ap:ag w1 D:=UP;have cu:(D:Nat)=w1+1:=Rr;have T:=aT FR ap;have a1:bA D w1 (aA v h gA rows Ga) 57:=TK;have bg:=dg T bn;have bh:=dg T bo;have bi:=dg T bp;have bc:bL D ((w:Nat)+3) (.slice gA rows Ga) rows us:=(hu.ext ap).x Qt;have bd:∀g',gA=some ⟨g',0,none⟩->g' < (w1:Nat):=fun g' e=>UB
 have cr:∀(k:Nat) (x:aG),us[k]?=some x->∀b,x.ownBlock=some b->b < (w1:Nat):=fun k x hx b hb=>Vk
 have ba:ag w D:=(ζ w _ _ _).t (T.x Rs);clear hu FR ap T a8 F6 bn bo bp FY;have a4:=bB bg 0;have⟨br,bu,bv⟩:=cC bh;have a5:=bB a1 2;simp only[dA,dm]at a4 br bu bv a5;have⟨ab,bz,b2,b3,b0⟩:=pD bc ba bi a1 bd;clear bc ba bd bg bh bi a1;refine cU (S:=fun w'=>af w' w 0 (zI a)/\af w' ((w:Nat)+1) 0 (zI v)/\af w' ((w:Nat)+1) 1 (zI h)/\af w' ((w:Nat)+1) 2 (.slice A rows ε)/\af w' w1 2 (.slice gA rows Ga)) 10 QT QD (fun hHeld=>?_);refine P8 ?_;refine aM 4 ?_;have am:∀a3,ag D a3->(fun w':World=>af w' w 0 (zI a)/\af w' ((w:Nat)+1) 0 (zI v)/\af w' ((w:Nat)+1) 1 (zI h)/\af w' ((w:Nat)+1) 2 (.slice A rows ε)/\af w' w1 2 (.slice gA rows Ga)) a3:=fun a3 hb=>
  ⟨ar hb a4,ar hb br,ar hb bu,ar hb bv,ar hb a5⟩
 refine cm 5 fun K hK=>?_
 go_simp;refine(oW v h _ _ ci cj cc ce).x ?_;rintro e bq ⟨rfl,U⟩;have U:ag D bq:=(al _ _).drew.t U;go_simp;refine hK.out _ _ (fun _=>am bq U) (fun hHeld=>?_);refine Mr fun hHeld=>?_;clear K hK
 refine cm 6 fun K hK=>?_
 go_simp;obtain⟨H,av⟩:∃H:Nat,v+h=H:=⟨(v+h).toNat,Qu⟩;have a7:=zH av;rw[av];clear av;refine(kO H _ (by have:=a7.o;omega)).x ?_;rintro e Z ⟨cA,rfl,Y,F⟩;have F:ag D Z:=aT U F;have Y:=Y.x U.size;obtain⟨ah,an,be,_⟩:=Y.p;try simp only[fA]at be
 subst be;dsimp only;refine hK.out _ _ (fun _=>am Z F) (fun hHeld=>?_);refine Mr fun hHeld=>?_;clear K hK
 have b1:=zH Y;clear Y;refine Ny fun K hK=>?_
 have G:Below D D (Z.alloc (.cells (bZ ah H an) 26)):=F.alloc F.size _;refine hK.out _ _ (fun _=>am _ G) (fun hHeld=>?_);refine Mr fun hHeld=>?_;clear K hK
 refine cm 8 fun K hK=>?_
 go_simp;have cz:=F.size;have ao:=ab.ext G;have F0:∀b,(Value.slice gA rows Ga).ownBlock=some b->(w:Nat)+3<=b/\b < (w1:Nat):=fun b hb=>⟨(bS ab.η b hb).1,by
  rcases ab.η.2 with⟨h1,_⟩|⟨g',ck,cn,h1,_⟩
  .rw[h1]at hb;cases hb
  .rw[h1]at hb;cases hb;exact b0 g' T8⟩
 refine(vM ((w:Nat)+3) rows Z a (.slice gA rows Ga) us (.slice ah H an) _ ao.η (rp ao) rfl (aH _ _ rfl) (fun e=>by have:=F0 _ e;omega) ca cb Qu Rs).x ?_;rintro e wr ⟨g,O,rfl,bb,J,_⟩;dsimp only;have I:∀p:dM,p.block=(w:Nat)∨p.block=(w:Nat)+1∨p.block=(w1:Nat)->∀x,(Z.alloc (.cells (bZ ah H an) 26)).cell? p=some x->wr.cell? p=some x:=fun p ad x hx=>J.cell hx (fun e=>by have:=F0 _ e.q;rcases ad with ad|ad|ad<;>omega)
 refine hK.out _ _ (fun _=>⟨I _ (ay rfl) _ hHeld.1,I _ (au (ay rfl)) _ hHeld.2.1,I _ (au (ay rfl)) _ hHeld.2.2.1,I _ (au (ay rfl)) _ hHeld.2.2.2.1,I _ (au (au rfl)) _ hHeld.2.2.2.2⟩) (fun hHeld=>?_);refine Mr fun hHeld=>?_;clear K hK
 refine cm 9 fun K hK=>?_
 go_simp;refine hK.out _ _ (fun _=>hHeld) (fun hHeld=>?_);refine Qm ?_;clear K hK;have ac:wr.heap[w1.heap.size]?=_:=(J.block w1 Rs (fun e=>TN)).t ((G.block w1 Qu).t b3);have a6:=zH ac;have f2:=aK ac 2;have c2:=bB ac 2;simp only[dA,dm]at c2;clear ac I hHeld;refine cm 10 fun K hK=>?_
 go_simp;refine Qn ?_;clear K hK;refine gM QT ?_ _;have a2:=bE wr w1 2 _ _ (.slice (bH g) (rows.length+1) O) a6;simp only[zA]at a2;have a0:=(eX wr ⟨w1,2,none⟩ ((w:Nat)+1+1) (.slice (bH g) (rows.length+1) O) Rs).t ((J.block _ Rs (fun e=>TN)).t ((G.block _ Qu).t b2));have a9:=ab.insert G (b1.ext ((al _ _).alloc (ae _) _)) Qu Qu bb J;have⟨HO,HE⟩:=bJ (show aY _ ((w:Nat)+3) _ _ from⟨_,a9.m9 a6 (j:=2) (u:=.slice (bH g) (rows.length+1) O)⟩) ((rY (bz.t (G.x Qu)) J Rs fun b hb=>by have:=F0 b hb;omega).setCell (p:=⟨w1,2,none⟩) Rs (.slice (bH g) (rows.length+1) O));clear a9 c2 f2 a4 a5 J bb F G ao F0;rw[show List.replicate H (0:Int)=List.replicate (v+h).toNat 0 by rw[a7.o];rfl]at HO;have⟨b4,b5,b6⟩:=cC a2;have⟨b7,b8,b9⟩:=cC a0;have⟨co,cp,cq⟩:=cd a0;simp only[dA,dm]at b4 b5 b6 b7 b8 b9;clear a2 a0;go_wp2;refine aI (v:=.agg (eO v h (bH g) (rows.length+1) O)) (by simp[results,results259,go_sem, *]) rfl ⟨_,rfl,?_,?_⟩
 .exact Ym
 .exact X7
def lE{h:Type}(f:h->h)(xs:List h)(k:Nat):List h:=(xs.map f).take k++xs.drop k
def nJ{h}(f:h->h)xs:lE f xs 0=xs:=by simp[lE]
def qi{h}(f:h->h)xs k(hk:xs.length<=k):lE f xs k=xs.map f:=by unfold lE;rw[cZ Rj,jR hk,lZ]
def qj{h}(f:h->h)xs k(D:k<xs.length):(lE f xs k)[k]?=xs[k]?:=by unfold lE;exact Wp
def eJ{h}(f:h->h)xs k(D:k<=xs.length):(lE f xs k).length=xs:=by unfold lE;simp;omega
def jI{h}f xs k(x:h)(hx:xs[k]?=some x):(lE f xs k).set k (f x)=lE f xs (k+1):=by have h1:=(bG.1 hx).1;unfold lE;rw[om _ _ QW,du];have D:xs.drop k=x::xs.drop (k+1):=Wo;have F:k-((xs.map f).take k).length=0:=QW;rw[D,F,rO];simp[hx]
def ie{D}{I}{fr}(F:w.ownsRow B D J v n I)(H:w.heap[b]?=some (.cells cs 57 fr))(G:D≠57):v.ownBlock=none∨v.ownBlock≠some b:=by
 rcases F.2 with⟨rfl,_⟩|⟨g,ε,O,rfl,_,h,_⟩
 .exact ay rfl
 .refine au fun e=>?_
  simp only[Value.ownBlock,dW]at e;subst e;rw[H]at h;simp at h;exact G h.2.1.q
def frz{a}(G:w.grownBy w' (some r))(h:w.frozen? a=false)(F:w.cell? a=some v)(F0:a.block≠r):w'.frozen? a=false:=by have D:=G.block a.block (jB w a F) RC;unfold World.frozen? at h ⊢;rw[D];exact h
def qX{a}(D:w.grownBy w' (some r))(h:w.cell? a=some v)(F0:a.block≠r):w'.cell? a=some v:=(l6 (w:=w) (D.block a.block (jB w a h) RC)).t h
def Be{h D:Type}(f:h->D)(l:List h)i:(l.map f).eraseIdx i=(l.eraseIdx i).map f:=by apply gk;intro j;rw[wN,bI,bI,wN]
def BR(b v h:Int)A ε rows w(ap:bt w A rows)(co:rows.length<=160)(F6:∀r∈rows,r.length<=1000)(ct:0<=v)(cu:v<=1000)(hb:0<=b)(cb:b<=1000)(cj:1<=h)(ck:h<=1000)(a0:∀r∈rows,v+b<r.length):az 271 (jy (aA v h A rows ε) b) w fun e w'=>∃u,e=.returned (.agg (en v (h-1) u))/\aY w' w u (rows.map (fun r=>r.eraseIdx (v+b).toNat))/\ag w w':=by
 have bg:=zH (show ∀r∈rows,v+b<r.length/\r.length<=1000 from fun r hr=>⟨a0 r hr,F6 r hr⟩);clear a0;refine Qc fun HM F_=>?_
 go_enter func271,ntmps271
 go_wp2_with fail
 refine(mQ _ _ _ _ _ _ (ap.ext ((al _ _).alloc Qt _ |>.alloc Qt _)) HM F_).x ?_;refine PT fun w1 FR us gA Ga hu _ _ _=>?_
 refine Of fun q1 q2=>?_
 have b4:=FR.size;simp only[dV]at b4;go_upto_region 2 with(fail)
 have⟨F,FY⟩:=aR (w1.alloc (.cells (aA v h gA rows Ga) 57));rw[<-FY];have T:ag w1 F:=UP;have cr:(F:Nat)=w1+1:=Rr;have J:=aT FR T;have Y:bA F w1 (aA v h gA rows Ga) 57:=TK;have a9:=dg J q1;have ba:=dg J q2;have a8:bL F ((w:Nat)+2) (.slice gA rows Ga) rows us:=(hu.ext T).x Qt;have av:ag w F:=((al w w).alloc Qt _ |>.alloc Qt _).t (J.x Rs);clear hu FR T J ap F6 q1 q2 FY;have ac:=bB a9 0;have bc:=bB Y 2;simp only[dA,dm]at ac bc;have⟨bn,be,bp,bq⟩:=gG a8 av ba Y;clear a8 av a9 ba Y;go_wp2;go_loopw [13] (fun i wr=>∃k:Nat,k<=rows.length/\i=.int .i64 k/\(∃bb,bL wr ((w:Nat)+2) (.slice gA rows Ga) (lE (fun r=>r.eraseIdx (v+b).toNat) rows k) bb)/\
   bA wr w1 (aA v h gA rows Ga) 57/\Below ((w:Nat)+2) F wr)
  (fun i _=>rows.length-(intOf i).toNat)
 case atStart=>exact⟨0,aW _,rfl,⟨us,by rw[nJ];exact bn⟩,bq,al _ _⟩
 case round=>
  obtain⟨k,hk,rfl,⟨bb,FT⟩,Hh,G⟩:=hrel;by_cases a1:k<rows.length
  .have⟨r,hr⟩:=aq a1;have a5:(lE (fun r=>r.eraseIdx (v+b).toNat) rows k)[k]?=some r:=(qj _ _ _ a1).t hr;obtain⟨cF,Hc,J5⟩:=FT.F a5;obtain⟨b3,cn⟩:=bg r (aU hr);obtain⟨b7,I,rfl,_⟩:=J5.p;obtain⟨gr,rfl,ch,ci⟩:=mr J5 Qu;obtain⟨g,rfl,cc,ce⟩:=mh FT Tf;have He:=FT.η;rw[eJ _ _ _ hk]at He;have bd:af wr g k (.slice (bH gr) r I):=Ub;have ad:af wr w 0 (zI v):=(G.cell Rs).t ac;refine Mh fun y2=>?_
   have cp:gr≠w1.heap.size:=fun e=>Xv
   have cq:g≠w1.heap.size:=fun e=>XJ
   have f0:=He.g k;have⟨HO,an,HW,bh,bo,bi⟩:=ny FT J5 G Hh Hc hr;clear He FT J5 G Hh a5 Hc hr;have cz:IntKind.i64.wrap (v+b)=v+b:=Rt;have cA:IntKind.i64.wrap (v+b+1)=v+b+1:=Rt;have a2:g≠gr:=by
    rcases gF HO.η an with h1|h1
    .cases h1
    .exact Wg
   have ah:=zH (Dt ((w:Nat)+2) gr r I (v+b) (r.map (Value.int .i64)) wr.drew (AB an) Vq Qu b3 Qu);go_wp2_with fail
   go_region_held3 (fun w'=>af w' w 0 (zI v)/\af w' w1 2 (.slice (bH g) rows Ga))
    (first|(exact b0)|(exact⟨ad,y2⟩)|(refine⟨?_,?_⟩<;>(first|(refine(fu Rs).t ?_;assumption)|(refine(lQ Rs).t ?_;assumption))))
    ((go_at_call 272;refine ah.x ?_;rintro e ab ⟨rfl,a4,D⟩;have f3:ab.frozen? ⟨g,k,none⟩=false:=(frz (w:=wr.drew) D f0 bd a2);have b5:=qX (w:=wr.drew) D ad (Qu:w.heap.size≠gr);have b6:=qX (w:=wr.drew) D y2 (Qu:w1.heap.size≠gr);have b0:=aQ b5 b6;clear ad y2;have cI:=qX (w:=wr.drew) D bd a2))
   have D:=cx (eG wr (some gr)) D;have a3:aE ab ((w:Nat)+2) (.slice (bH gr) (r.length-1) I) (r.eraseIdx (v+b).toNat):=by unfold aE;rw[<-Be,Ay Qu];exact a4
   have U:=HO.put (eJ _ _ _ hk).q bo D a3 (fun b hb=>ay hb);rw[jI _ _ _ _ bi.o]at U;have⟨HN,Hi,FZ⟩:=er U ((eX ab ⟨g,k,none⟩ w1 (.slice (bH gr) (r.length-1) I) Rs).t ((D.block w1 TY QW).t bh)) (lj (rY HW D TY (fun b hb=>RD)) (p:=⟨g,k,none⟩) Rs (.slice (bH gr) (r.length-1) I));clear U a3 a4 D ah;exact Yk
  .skip
   have b1:k=rows.length:=Qu;subst b1;rw[qi _ _ _ (ae _)]at FT;have H:=(G.block _ Qu).t bp;have O:=bB Hh 1;have ao:=aK Hh 1;simp only[dA,dm]at O;have⟨HO,HW,am,b2⟩:=gG FT G Hh H;have cB:IntKind.i64.wrap (h-1)=h-1:=Rt;clear FT G Hh H ac bc;go_upto_region 8 with(fail)
   have Z:=bE wr w1 1 _ _ (zI (h-1)) am;simp only[zA]at Z;have H:=(eX wr ⟨w1,1,none⟩ ((w:Nat)+1) (zI (h-1)) Rs).t b2;have a7:=HO.m9 am (j:=1) (u:=.int .i64 (h-1));have HO:=zH (show aY _ ((w:Nat)+2) _ _ from⟨_,a7⟩);have a6:=((be.t (HW.x Qu)).setCell (p:=⟨w1,1,none⟩) Rs (zI (h-1)));have HE:=zH a6;clear a7 a6;have⟨O,ao,br⟩:=cC Z;have⟨bu,bv,bz⟩:=cC H;have⟨b8,b9,ca⟩:=cd H;simp only[dA,dm]at O ao br bu bv bz;clear Z H;go_wp2;refine aI (v:=.agg (aA v (h-1) gA rows Ga)) (by simp[results,results271,go_sem, *]) rfl ⟨_,rfl,?_,?_⟩
   .exact Ym
   .exact X7
def zm1{r}{a}(G:w.grownBy w' r)(h:w.frozen? a=false)(F:w.cell? a=some v)(H:some a.block≠r):w'.frozen? a=false:=by have D:=G.block a.block (jB w a F) H;unfold World.frozen? at h ⊢;rw[D];exact h
def ze7{r}{a}(D:w.grownBy w' r)(h:w.cell? a=some v)(F:some a.block≠r):w'.cell? a=some v:=(l6 (w:=w) (D.block a.block (jB w a h) F)).t h
def ju{a}(h:w.cell? a=some v):a.block < (w:Nat):=jB w a h
def zds(b v h:Int)A ε rows w(a6:bt w A rows)(cK:rows.length<=160)(F6:∀r∈rows,r.length<=1000)(cV:0<=v)(cW:v<=1000)(T:0<=b)(cz:b<=1000)(cB:0<=h)(cF:h<=1000)(a9:∀r∈rows,v+b<=r.length):az 276 (jy (aA v h A rows ε) b) w fun e w'=>∃u,e=.returned (.agg (en v (h+1) u))/\aY w' w u (rows.map (fun r=>cT r (v+b).toNat 0))/\ag w w':=by
 have b2:=zH (show ∀r∈rows,v+b<=r.length/\r.length<=1000 from fun r hr=>⟨a9 r hr,F6 r hr⟩);clear a9;refine Qc fun HM F_=>?_
 go_enter func276,ntmps276
 go_wp2_with fail
 refine(mQ _ _ _ _ _ _ (a6.ext ((al _ _).alloc Qt _ |>.alloc Qt _)) HM F_).x ?_;refine PT fun w1 FR us gA Ga hu _ _ _=>?_
 refine Of fun q1 q2=>?_
 have co:=FR.size;simp only[dV]at co;go_upto_region 2 with(fail)
 have⟨H,FY⟩:=aR (w1.alloc (.cells (aA v h gA rows Ga) 57));rw[<-FY];have ah:ag w1 H:=UP;have cR:(H:Nat)=w1+1:=Rr;have Y:=aT FR ah;have ao:bA H w1 (aA v h gA rows Ga) 57:=TK;have bo:=dg Y q1;have bp:=dg Y q2;have bn:bL H ((w:Nat)+2) (.slice gA rows Ga) rows us:=(hu.ext ah).x Qt;have a7:ag w H:=((al w w).alloc Qt _ |>.alloc Qt _).t (Y.x Rs);clear hu FR ah Y a6 F6 q1 q2 FY;have a0:=bB bo 0;have br:=bB ao 2;simp only[dA,dm]at a0 br;have⟨b5,b1,b7,b8⟩:=gG bn a7 bp ao;clear bn a7 bo bp ao;go_wp2;go_loopw [13] (fun i wr=>∃k:Nat,k<=rows.length/\i=.int .i64 k/\(∃bq,bL wr ((w:Nat)+2) (.slice gA rows Ga) (lE (fun r=>cT r (v+b).toNat 0) rows k) bq)/\
   bA wr w1 (aA v h gA rows Ga) 57/\Below ((w:Nat)+2) H wr)
  (fun i _=>rows.length-(intOf i).toNat)
 case atStart=>exact⟨0,aW _,rfl,⟨us,by rw[nJ];exact b5⟩,b8,al _ _⟩
 case round=>
  obtain⟨k,hk,rfl,⟨bq,FT⟩,Hh,J⟩:=hrel;by_cases ba:k<rows.length
  .have⟨r,hr⟩:=aq ba;have bg:(lE (fun r=>cT r (v+b).toNat 0) rows k)[k]?=some r:=(qj _ _ _ ba).t hr;obtain⟨c4,Hc,U⟩:=FT.F bg;obtain⟨ck,cI⟩:=b2 r (aU hr);obtain⟨G,I,rfl,_⟩:=U.p;have am:∀c,(Value.slice G r I).ownBlock=some c->(w:Nat)+2<=c/\c < (wr:Nat):=U.lt;obtain⟨g,rfl,cA,a8⟩:=mh FT Tf;have He:=FT.η;rw[eJ _ _ _ hk]at He;have bz:af wr g k (.slice G r I):=Ub;have a1:af wr w 0 (zI v):=(J.cell Rs).t a0;refine Mh fun y2=>?_
   have bb:some w1.heap.size≠(Value.slice G r I).ownBlock:=fun e=>by
    rcases ie U Hh Qw with h1|h1
    .rw[h1]at e;cases e
    .exact h1 e.q
   have cO:g≠w1.heap.size:=fun e=>XJ
   have f0:=He.g k;have⟨HO,a3,HW,b3,b6,b4⟩:=ny FT U J Hh Hc hr;clear He FT U J Hh bg Hc hr;have c0:IntKind.i64.wrap (v+b)=v+b:=Rt;have bc:some g≠(Value.slice G r I).ownBlock:=by
    rcases gF HO.η a3 with h1|h1
    .cases h1
    .exact fun e=>h1 e
   have cn:some w.heap.size≠(Value.slice G r I).ownBlock:=fun e=>by have:=am _ e.q;omega
   have F:Below wr wr (wr.drew.alloc (.cells jz 3)):=(al _ _).drew.alloc (ae _) _;have⟨a4,Z⟩:=bJ (EU ((w:Nat)+2) r wr (v+b) (.slice G r I) (r.map (Value.int .i64)) (zI 0) (wr.drew.alloc (.cells jz 3)) (a3.ext F) Vq rfl (aH _ _ rfl) (fun e=>by have:=am _ e;omega) Qu ck Qu (by have:=HW.size;simp<;>omega)) F;have bu:=(ar F a1);have bv:=(ar F y2);have b0:=(ar F bz);have ce:=(i_ F f0 (ju bz));clear F;go_wp2_with fail
   go_region_held3 (fun w'=>af w' w 0 (zI v)/\af w' w1 2 (.slice (bH g) rows Ga))
    (first|(exact ch)|(exact⟨a1,y2⟩)|(exact⟨bu,bv⟩)|(refine⟨?_,?_⟩<;>(first|(refine(fu Rs).t ?_;assumption)|(refine(lQ Rs).t ?_;assumption))))
    ((go_at_call 277;refine a4.x ?_;rintro e av ⟨ad,ab,rfl,be,D,a8⟩;have f3:av.frozen? ⟨g,k,none⟩=false:=(zm1 D ce b0 bc);have cp:=ze7 D bu cn;have cq:=ze7 D bv bb;have ch:=aQ cp cq;clear a1 y2;have c5:=ze7 D b0 bc))
   have bd:aE av ((w:Nat)+2) (.slice (bH ad) (r.length+1) ab) (cT r (v+b).toNat 0):=by unfold aE;rw[show(cT r (v+b).toNat (0:Int)).length=r+1 from kQ _ _ _ Qu,show(cT r (v+b).toNat (0:Int)).map (Value.int .i64)=cT (r.map (Value.int .i64)) (v+b).toNat (zI 0) by simp[cT,List.map_take,List.map_drop]];exact be
   have an:=(HO.ext Z).put (eJ _ _ _ hk).q b6 D bd (fun b T=>by simp only[Value.ownBlock,dW]at T;subst T;exact a8);rw[jI (fun r=>cT r (v+b).toNat 0) rows k r b4]at an;have⟨HN,Hi,FZ⟩:=er an ((eX av ⟨g,k,none⟩ w1 (.slice (bH ad) (r.length+1) ab) Rs).t ((D.block w1 TY bb).t ((Z.block w1 To).t b3))) (lj (rY (HW.t (Z.x To)) D TY (fun b T=>(am b T).1)) (p:=⟨g,k,none⟩) Rs (.slice (bH ad) (r.length+1) ab));clear an bd be D a4;exact Yk
  .skip
   have ci:k=rows.length:=Qu;subst ci;rw[qi _ _ _ (ae _)]at FT;have O:=(J.block _ Qu).t b7;have ac:=bB Hh 1;have a5:=aK Hh 1;simp only[dA,dm]at ac;have⟨HO,HW,a2,cj⟩:=gG FT J Hh O;have c3:IntKind.i64.wrap (h+1)=h+1:=Rt;clear FT J Hh O a0 br;go_upto_region 8 with(fail)
   have ap:=bE wr w1 1 _ _ (zI (h+1)) a2;simp only[zA]at ap;have O:=(eX wr ⟨w1,1,none⟩ ((w:Nat)+1) (zI (h+1)) Rs).t cj;have bi:=HO.m9 a2 (j:=1) (u:=.int .i64 (h+1));have HO:=zH (show aY _ ((w:Nat)+2) _ _ from⟨_,bi⟩);have bh:=((b1.t (HW.x Qu)).setCell (p:=⟨w1,1,none⟩) Rs (zI (h+1)));have HE:=zH bh;clear bi bh;have⟨ac,a5,b9⟩:=cC ap;have⟨ca,cb,cc⟩:=cC O;have⟨cr,ct,cu⟩:=cd O;simp only[dA,dm]at ac a5 b9 ca cb cc;clear ap O;go_wp2;refine aI (v:=.agg (aA v (h+1) gA rows Ga)) (by simp[results,results276,go_sem, *]) rfl ⟨_,rfl,?_,?_⟩
   .exact Ym
   .exact X7
end Go.Proofs.YtpieilkmmiopfaaGreatDoor
