/- Parts of the walks. Conditions: as stated with each. -/
import Derived.Test.YtpieilkmmiopfaaGreatDoorPk44
import Derived.Test.YtpieilkmmiopfaaGreatDoorPk48
namespace Go.Proofs.YtpieilkmmiopfaaGreatDoor
open Go.RowKit Tryz
set_option linter.all false
set_option maxHeartbeats 8000000
set_option maxRecDepth 100000
variable{P:jk}{Q:gZ}{R:Rl}{V w:aa}{a:Act}{b:Nat}{g:Gr}{p:Int}{v1 v10 v2 v3 v4 v8 v9:aG}
attribute [local go_sem] Oper.semAt_some
def Fs(p:Int)h D F z2 G w(H:h=.agg #[D,F,z2,G]):az 134 #[h,p] w fun e w'=>e=.returned (.func (.func 188) #[] #[.pointer (bH w),.pointer (some ⟨(w:Nat)+1,0,none⟩)])/\w'=(w.alloc (.cells #[D,F,z2,G] 54)).alloc (.cells (bK p) 3):=by
 subst H;go_enter func134,ntmps134
 go_wp2;go_ret
 exact⟨rfl,rfl⟩
def ziV(w:aa)h D F G H:Below w w (((((w.alloc h).alloc D).alloc F).alloc G).alloc H)/\(((((w.alloc h).alloc D).alloc F).alloc G).alloc H).heap[w.heap.size]?=some h/\(((((w.alloc h).alloc D).alloc F).alloc G).alloc H).heap[(w:Nat)+1]?=some D/\(((((w.alloc h).alloc D).alloc F).alloc G).alloc H).heap[(w:Nat)+1+1]?=some F/\(((((w.alloc h).alloc D).alloc F).alloc G).alloc H).heap[(w:Nat)+1+1+1]?=some G/\(((((w.alloc h).alloc D).alloc F).alloc G).alloc H).heap[(w:Nat)+1+1+1+1]?=some H:=by have ab:=ζ w h D F;have⟨O,T,U⟩:=cD w h D F;have Y:=aH ((((w.alloc h).alloc D).alloc F).alloc G) H (n:=(w:Nat)+1+1+1+1) Qt;have Z:=aH (((w.alloc h).alloc D).alloc F) G (n:=(w:Nat)+1+1+1) Qt;have J:=aw (((w.alloc h).alloc D).alloc F) G;have I:=aw ((((w.alloc h).alloc D).alloc F).alloc G) H;exact⟨aJ ab (aJ J I),ai O (aJ J I),ai T (aJ J I),ai U (aJ J I),ai Z I,Y⟩
def ziW{g}{ps}{assign body}{gf:Nat}{lb}(H:a.eval g=.func (.func gf) #[] lb)(G:∀args w,(callFunc gf args).run P w=.ok (.enter gf args) w)(h:∀fn,Calls P gf (#[.func (.yield ((w:Nat)+1)) #[] #[]]++lb) ((w.alloc (.deferred (some []))).alloc (.loop {state:=.ready,pending:=none,fn:=fn,tmps:=a.tmps,params:=ps,assign:=assign,body:=body,defers:=w.heap.size})) (rangePost Fence.wide 3 P ((w:Nat)+1) Q {a with defers:={target:=.collected w,args:=#[]}::a.defers})):(Code.rangeFunc g ps assign body).wp P Q a w:=by
 refine(wpIn_wide (n:=3)).1 (wpIn_rangeFunc fun fn _=>?_);obtain⟨D,F⟩:∃D,D=(w.alloc (.deferred (some []))).alloc (.loop {state:=.ready,pending:=none,fn:=fn,tmps:=a.tmps,params:=ps,assign:=assign,body:=body,defers:=w.heap.size}):=⟨_,rfl⟩;have h:=h fn;rw[<-F]at h;refine⟨(w:Nat)+1,[{target:=.collected w,args:=#[]}],D,{target:=.fn (.func gf) lb,args:=#[.func (.yield ((w:Nat)+1)) #[] #[]]},D,gf,#[.func (.yield ((w:Nat)+1)) #[] #[]]++lb,D,?_,?_,fun _ _=>trivial,?_,?_,?_⟩
 .rw[F];exact run_enterLoop_outer _ _ _ _ _
 .simp only[resolve,H];simp[go_sem]
 .simp[invoke,go_sem,G]
 .intro h;cases h
 .exact callsIn_wide.2 h
def zg9 p g V A1 J O ac c1 c2 c3 ap w(cF:bV p=true)(ct:dZ w)(b2:jV w A1 J O g)(bg:g.B=true)(cV:g.pf p)(c5:stG p g=true)(b3:aO w ac V)(an:jX p V (g.w:Nat)=true):az 90 #[p,.agg (bj g A1 c1 J c2 O c3),.slice ac g.w ap] w fun e w'=>e=.returned (.tuple (rM (zdJ p g V)))/\ag w w':=by
 have⟨eo,es⟩:=cv cF;have cW:=Gr.iT.1 bg;have e9:g.w<=100:=cW.1;have b7:V.length=g.w:=by unfold jX at an;simp at an;omega
 obtain⟨d0,cn,co,ck⟩:=gG (show ∀x∈V,0<=x/\x<p from fun x av=>by unfold jX at an;rw[bN]at an;have:=eD.1 an.2 x av;unfold jY at this;simpa using this) (fun T (bc:ag w T)=>Calls.bl (Fo p g A1 J O c1 c2 c3 T (ct.ext bc) (b2.ext bc) bg) c5) (fun T (bc:ag w T)=>(by have:=Calls.cg (jO p (g.w:Nat) ac ap V T (b3.ext bc) SL) an;rw[b7]at this;exact this:az 88 #[p,.slice ac g.w ap,(g.w:Nat)] T fun e w'=>e=.returned (.bool true)/\T=w')) (fun T=>Fs p (.agg (bj g A1 c1 J c2 O c3)) _ _ _ _ T rfl);refine(callsIn_wide (n:=3)).1 ?_;refine callsIn_of_wp_marks func90 rfl trivial ?_ rfl;simp only[ntmps90,l5,jT,iN,Nat.reduceAdd,Nat.reduceSub,Array.replicate_succ,Array.replicate_zero,List.push_toArray,List.append_toArray,rP,wZ];refine(wpIn_wide (n:=3)).2 ?_;have⟨bz,bi,bn,bo,Z,ab⟩:=ziV w (.cells (bK p) 3) (.cells (bj g A1 c1 J c2 O c3) 54) (.cells #[.slice ac g.w ap] 26) (.cells #[.bool false] 4) (.cells #[.bool false] 4);go_upto_region 1 with(fail)
 generalize ((((w.alloc _).alloc _).alloc _).alloc _).alloc _=W at bz bi bn bo Z ab ⊢;have ce:=aF bi 0 rfl;have ch:=aF bo 0 rfl;have⟨e1,e2,e3,e4⟩:=aB bn;have⟨ci,d3,d4,d5,ba,a1,d1,dr,dT,dq,bu⟩:=zmM bz bi bn bo Z ab b3 b2 cV bg b7;clear bz bi bn bo Z ab b3 b2 cV bg ct c5 an cW b7;go_wp2_with (first|(go_at_call 133;(with_reducible refine(cn.o W ci.o).x ?_);rintro e I ⟨rfl,G⟩;have e5:=ar G ce;have z2:=ar G ch;have⟨ev,ey,ez,eA⟩:=aB (ai d4 G);have d2:=zH G;have a0:=zH (aT ci G);clear G)|(go_at_call 88;(with_reducible refine(co.o _ a0.o).x ?_);rintro e fb ⟨rfl,rfl⟩)|(go_at_call 134;(with_reducible refine(ck.o _).x ?_);rintro e fc ⟨rfl,rfl⟩))
 clear ce ch e1 e2 e3 e4 e5 z2 ev ey ez eA;have bd:=(aw I (.cells (bj g A1 c1 J c2 O c3) 54)).alloc Qt (.cells (bK p) 3);have b8:=(bO (I.alloc (.cells (bj g A1 c1 J c2 O c3) 54)) (.cells (bK p) 3) (k:=I.heap.size) Qt).t (aH I _ rfl);have b9:=aH (I.alloc (.cells (bj g A1 c1 J c2 O c3) 54)) (.cells (bK p) 3) (n:=(I:Nat)+1) Qt;generalize (I.alloc _).alloc _=h at bd b8 b9 ⊢;have⟨ea,eb,ao,H⟩:=gG b8 b9 (aT a0 bd) (aT d2 bd);clear bd b8 b9;have Gn:=zH (show(w:Nat)+1+1+1+1<h from gm (bk.1 a1).1 H.size);generalize b0:Code.region 4 _ _=e6;generalize b1:Code.block 1 _=e7;refine ziW (gf:=188) (lb:=#[.pointer (bH I),.pointer (some ⟨(I:Nat)+1,0,none⟩)]) rfl (enters_of func188 QT rfl) (fun fn=>?_);clear cn co ck;generalize a7:(Loop.mk _ _ _ _ _ _ _ _)=a8;have cp:=zH (show Below h h ((h.alloc (.deferred (some []))).alloc (.loop a8)) from(((al _ h).alloc (ae _) _).alloc Qt _));refine(zeT p g (fun row=>decide (Bz p row V g.w=0)) A1 J O c1 c2 c3 h _ ((h:Nat)+1) I ((I:Nat)+1) (fun W=>W.heap[(h:Nat)+1]?=some (.loop a8)/\W.heap[h.heap.size]?=some (.deferred (some []))/\ag h W)
  (fun W=>W.heap[(h:Nat)+1]?=some (.loop {a8 with state:=.done,pending:=some .ret})/\W.heap[h.heap.size]?=some (.deferred (some []))/\ag w W/\af W ((w:Nat)+1+1+1) 0 (.bool false)/\af W ((w:Nat)+1+1+1+1) 0 (.bool true))
  cF (dr.ext ao) dq dT ea eb (qe _) Qt cp ?_ ?_ ?_).x ?_
 .rintro X e8 ⟨bv,cr,eg⟩ G;exact⟨ai bv G,ai cr G,aT eg G⟩
 .exact⟨aH _ _ Qt,(bO _ _ Qt).t (aH _ _ rfl),cp⟩
 .rintro row A ε ad ⟨a6,cA,cu⟩ G Gb cB cR em;have c7:=run_yield (P:=prog) (args:=#[.slice A g.w ε]) a6 (by rw[<-a7];rfl);obtain⟨D,ah⟩:∃D,D=ad.putObj ((h:Nat)+1) (.loop {a8 with state:=.busy}):=⟨_,rfl⟩;have cI:ad.grownBy D (some ((h:Nat)+1)):=by rw[ah];exact grownBy_putObj' _ _ _
  have c0:∀r,some ((h:Nat)+1)=some r->∃o:Obj,ad.heap[r]?=some o/\o.isCells=false:=fun r e=>by cases e;exact⟨_,a6,rfl⟩
  have b4:Below h ad D:=by rw[ah];exact uJ (w:=h) (ae _) ad _ _ _ (qe _) a6 rfl rfl
  have F:=cu.t b4;have cO:aO D A row:=cR.E id fun⟨b,o,e,ei⟩=>⟨b,o,e,fun k x a5=>cell_kept (ei k x a5) cI c0⟩
  have U:D.heap[(h:Nat)+1]?=some (.loop {a8 with state:=.busy}):=by rw[ah];exact zce em
  have am:D.heap[h.heap.size]?=some (.deferred (some [])):=by rw[ah];exact(kF Qu).t cA
  have cK:∀k,(h:Nat)+1<k->D.heap[k]?=ad.heap[k]?:=fun k a5=>by rw[ah];exact kF Qu
  have dc:=zH (by rw[ah];exact run_beginRound a6 (by rw[<-a7]):(Instr.beginRound ((h:Nat)+1)).run prog ad=.ok () D);have bp:=zH (by
   have:=zkl p A ac ε ap row V D cO ((d1.ext ao).ext F) eo es RN (by rw[Gb,bu.o];exact ae _) (by rw[bu.o];omega) cB d0;rw[Gb,bu.o]at this;exact this:az 135 (wY p A g.w ε ac g.w ap) D fun e w'=>e=.returned (zI (Ξ row V g.w%p))/\D=w')
  have bq:=zH (show Bz p row V g.w=Ξ row V g.w%p from rfl);have ce:=aF (ai (ai d3 H) F) 0 rfl;have ch:=aF (ai (ai d5 H) F) 0 rfl;have eB:=aF (ai (ai ba H) F) 0 rfl;have e0:=aF (ai (ai a1 H) F) 0 rfl;have f3:=aK (ai (ai ba H) F) 0;have f4:=aK (ai (ai a1 H) F) 0;have⟨d6,d8,a0,a9,cj,dO,c9⟩:=zH7 (ai (ai ba H) F) (ai (ai a1 H) F) F U am cK b4;clear a6 cA cu G Gb cB cR cI c0 F cO U am ah cK b4;subst a7;refine⟨_,_,_,_,c7,roundIn_of_wpIn trivial ?_⟩;clear c7;dsimp only;rw[<-b0]
  gi_wp2
  refine⟨D,dc,?_⟩;rw[<-b1];have⟨d,cz⟩:=aR (Ξ row V g.w%p);rw[<-cz]at bp bq;clear cz;by_cases h0:d=0
  .subst h0
   gi_wp2_with fail
   refine⟨trivial,(CallsIn.inRound _ (callsIn_wide.2 bp)).x ?_⟩;rintro e w' ⟨rfl,rfl⟩
   gi_wp2
   have a5:=fun o=>uJ (n₀:=h.heap.size) (w:=h) (ae _) D _ _ o (qe _) a9.o rfl rfl
   exact⟨_,_,run_endRound none a9,ay ⟨rfl,bq,⟨(zce (bk.1 a9).1).t (by simp[b0,b1]),(kF Qu).t cj,a0.t (a5 _)⟩,⟨c9.t (a5 _),fun k bv cr=>(kF Qu).t (dO k bv)⟩⟩⟩
  .have fa:(d !=0)=true:=QL;have c8:=zH h0;clear h0
   gi_wp2_with fail
   refine⟨trivial,(CallsIn.inRound _ (callsIn_wide.2 bp)).x ?_⟩;rintro e w' ⟨rfl,rfl⟩
   gi_wp2
   have c6:=Gn.o;have ca:=bE D ((w:Nat)+1+1+1) 0 _ _ (.bool false) d6;have cb:=(a_ (D.setCell ⟨(w:Nat)+1+1+1,0,none⟩ (.bool false)) ⟨(w:Nat)+1+1+1+1,0,none⟩ (.bool true) ((w:Nat)+1+1+1) (by show(w:Nat)+1+1+1≠(w:Nat)+1+1+1+1;omega)).t ca;have cc:=bE (D.setCell ⟨(w:Nat)+1+1+1,0,none⟩ (.bool false)) ((w:Nat)+1+1+1+1) 0 _ _ (.bool true) ((a_ _ _ _ _ (by show(w:Nat)+1+1+1+1≠(w:Nat)+1+1+1;omega)).t d8);have b6:((D.setCell ⟨(w:Nat)+1+1+1,0,none⟩ (.bool false)).setCell ⟨(w:Nat)+1+1+1+1,0,none⟩ (.bool true)).heap[(h:Nat)+1]?=_:=((a_ _ _ _ _ (by show(h:Nat)+1≠(w:Nat)+1+1+1+1;omega)).t (a_ _ _ _ _ (by show(h:Nat)+1≠(w:Nat)+1+1+1;omega))).t a9;have a3:((D.setCell ⟨(w:Nat)+1+1+1,0,none⟩ (.bool false)).setCell ⟨(w:Nat)+1+1+1+1,0,none⟩ (.bool true)).heap[h.heap.size]?=_:=((a_ _ _ _ _ (by show h.heap.size≠(w:Nat)+1+1+1+1;omega)).t (a_ _ _ _ _ (by show h.heap.size≠(w:Nat)+1+1+1;omega))).t cj;have b5:=((aT ao a0).setCell (p:=⟨(w:Nat)+1+1+1,0,none⟩) (by show(w:Nat)<=w+1+1+1;omega) (.bool false)).setCell (p:=⟨(w:Nat)+1+1+1+1,0,none⟩) (by show(w:Nat)<=w+1+1+1+1;omega) (.bool true);exact⟨_,_,run_endRound (some .ret) b6,au ⟨rfl,by rw[bq.o];exact c8,(zce (bk.1 b6).1).t (by simp[b0,b1]),(kF Qu).t a3,b5.t (uJ (n₀:=w.heap.size) (w:=w) (ae _) _ _ _ _ Qu b6 rfl rfl),aF ((kF Qu).t cb) 0 rfl,aF ((kF Qu).t cc) 0 rfl⟩⟩
 .rintro e D ⟨⟨v,rfl⟩,(⟨be,U,am,F⟩|⟨be,U,am,F,ej,ek⟩)⟩
  .have av:=fun o=>uJ (n₀:=h.heap.size) (w:=h) (ae _) D _ _ o (qe _) U rfl rfl
   have bh:zdJ p g V=true:=be;subst a7;refine⟨none,_,run_endLoop U Qt,?_⟩;generalize Obj.loop _=Y;have a2:=F.t (av Y);have a3:(D.putObj ((h:Nat)+1) Y).heap[h.heap.size]?=some (.deferred (some [])):=(kF Qu).t am;generalize D.putObj _ Y=bb at a2 a3 ⊢;have Z:=ai (ai ba H) a2;have ab:=ai (ai a1 H) a2;have eB:=aF Z 0 rfl;have e0:=aF ab 0 rfl;have f3:=aK Z 0;have f4:=aK ab 0;have⟨br,db,dl,d7,d9⟩:=pD bh a2 a3 Z ab;clear av bh be U am F a2 a3 Z ab;dsimp only;go_wp2;have c6:=Gn.o;have ca:=bE bb ((w:Nat)+1+1+1) 0 _ _ (.bool true) d7;have cb:=(a_ (bb.setCell ⟨(w:Nat)+1+1+1,0,none⟩ (.bool true)) ⟨(w:Nat)+1+1+1+1,0,none⟩ (.bool true) ((w:Nat)+1+1+1) (by show(w:Nat)+1+1+1≠(w:Nat)+1+1+1+1;omega)).t ca;have cc:=bE (bb.setCell ⟨(w:Nat)+1+1+1,0,none⟩ (.bool true)) ((w:Nat)+1+1+1+1) 0 _ _ (.bool true) ((a_ _ _ _ _ (by show(w:Nat)+1+1+1+1≠(w:Nat)+1+1+1;omega)).t d9);have a4:((bb.setCell ⟨(w:Nat)+1+1+1,0,none⟩ (.bool true)).setCell ⟨(w:Nat)+1+1+1+1,0,none⟩ (.bool true)).heap[h.heap.size]?=_:=((a_ _ _ _ _ (by show h.heap.size≠(w:Nat)+1+1+1+1;omega)).t (a_ _ _ _ _ (by show h.heap.size≠(w:Nat)+1+1+1;omega))).t dl;have b5:=((aT ao db).setCell (p:=⟨(w:Nat)+1+1+1,0,none⟩) (by show(w:Nat)<=w+1+1+1;omega) (.bool true)).setCell (p:=⟨(w:Nat)+1+1+1+1,0,none⟩) (by show(w:Nat)<=w+1+1+1+1;omega) (.bool true);have c3:=aF ((kF (o:=.deferred none) (Qu:(w:Nat)+1+1+1≠h.heap.size)).t cb) 0 rfl;have c4:=aF ((kF (o:=.deferred none) (Qu:(w:Nat)+1+1+1+1≠h.heap.size)).t cc) 0 rfl;refine⟨Qt,.inl ⟨_,_,rfl,run_takeDeferred a4,?_⟩⟩;exact⟨.tuple #[.bool true,.bool true],UZ,by rw[br.o],b5.t (uJ (n₀:=w.heap.size) (w:=w) (ae _) _ _ _ _ ao.size a4 rfl rfl)⟩
  .have av:=fun o=>uJ (n₀:=w.heap.size) (w:=w) (ae _) D _ _ o Sx U rfl rfl
   have bh:zdJ p g V=false:=be;have br:=zH bh;subst a7;refine⟨some .ret,_,run_endLoop U Qt,?_⟩;generalize Obj.loop _=Y;dsimp only;refine(wpIn_wide (n:=3)).2 ?_;go_wp2;have c6:=Gn.o;have a4:(D.putObj ((h:Nat)+1) Y).heap[h.heap.size]?=_:=(kF Qu).t am;have c3:(D.putObj ((h:Nat)+1) Y).cell? ⟨(w:Nat)+1+1+1,0,none⟩=_:=(l6 (kF (by show(w:Nat)+1+1+1≠(h:Nat)+1;omega))).t ej;have c4:(D.putObj ((h:Nat)+1) Y).cell? ⟨(w:Nat)+1+1+1+1,0,none⟩=_:=(l6 (kF (by show(w:Nat)+1+1+1+1≠(h:Nat)+1;omega))).t ek;have c3:=(l6 (kF (o:=.deferred none) (r:=h.heap.size) (by show(w:Nat)+1+1+1≠h.heap.size;omega))).t c3;have c4:=(l6 (kF (o:=.deferred none) (r:=h.heap.size) (by show(w:Nat)+1+1+1+1≠h.heap.size;omega))).t c4;refine⟨Qt,.inl ⟨_,_,rfl,run_takeDeferred a4,?_⟩⟩;exact⟨.tuple uo,UZ,(by first|rfl|rw[br.o]),(F.t (av Y)).t (uJ (n₀:=w.heap.size) (w:=w) (ae _) _ _ _ _ ao.size a4 rfl rfl)⟩
def zl0(J:bV p=true)(F:g.pf p):stG p g=true:=by
 unfold stG ovG;rw[J];simp only[xm,bN,eD];refine⟨fun e h=>?_,fun e h=>?_⟩
 .have I:=(F e h).2.2.2.2;dsimp only at I;unfold ovE Õ;by_cases D:e.k=7∨e.k=13
  .simp[I D]
  .simp only[not_or]at D;simp[D.1,D.2]
 .have G:=(F e h).2.2.1;have H:=(F e h).2.2.2.1;dsimp only at G H;unfold ntE dlB;simp[G,H]
def zjQ{v}(H:2<=p)(D:R.Ok p)(O:v.length=R.l+R.r)(I:∀x∈v,0<=x/\x<p):∀k,k<=R.b.length->(xC p R.b v k).length=R.l+R.r/\∀x∈xC p R.b v k,0<=x/\x<p:=fun k J=>by have⟨F,G⟩:=zjX H D.Η D.red O (fun d h=>zF I Qu) k J;refine⟨F,fun x T=>?_⟩;obtain⟨d,h⟩:=eH.1 T;have U:=(bG.1 h).1;have:=(G d Qu).1;rw[bf,h]at this;exact this
def znc(w F:aa)(c1 c2:gg)(G H:aG)(V:aa):Prop:=∃h D,G=.pointer (bH h)/\H=.pointer (bH D)/\bA V h c1 54/\bA V D c2 67/\ag F V
def zld{h}(D:h.heap[b]?=V.heap[b]?)(s:af V b 1 v1/\af V b 2 v2/\af V b 3 v3/\af V b 4 v4/\af V b 8 v8/\af V b 9 v9/\af V b 10 v10):af h b 1 v1/\af h b 2 v2/\af h b 3 v3/\af h b 4 v4/\af h b 8 v8/\af h b 9 v9/\af h b 10 v10:=by
 have k:∀j,h.cell? ⟨b,j,none⟩=V.cell? ⟨b,j,none⟩:=fun j=>l6 D
 simp only[k];exact s
def xS p g R Q X F V cn cO cc ca ci ce d1 d2 d3 cu cz cA cB f1 f2 f3 cb ch cj ck a2 bb cF cs O T ao G1 ab ac bz b0 b1 bv E an a6 b9 a4 a5 ap w(am:bV p=true)(fl:dZ w)(co:jV w G1 ab ac g)(cr:g.B=true)(eg:g.pf p)(fs:bt w an R.b)(cK:R.Ok p)(fo:bt w a6 Q.b)(cI:Q.Ok p)(g6:R.l=g.i.length/\R.r=g.o.length)(eb:Q.l=R.l/\Q.r=R.r)(d6:aO w a4 X)(d7:aO w a5 F)(cp:aO w ap V)(ha:X.length<=1048576)(hb:F.length<=1048576)(bp:V.length<=1048576):az 54 (iV (lR p g.w G1 g.es d1 ab g.i d2 ac g.o d3 cc ca bv cb cj R.l R.r an R.b a2 cu bz cz f1 b0 cA f2 b1 cB f3 ci ce E ch ck Q.l Q.r a6 Q.b bb) (iK cn b9 cF cs cO a4 X O a5 F T ap V ao)) w (dt w (EH p g R Q X F V)):=by
 have⟨bn,ei⟩:=cv am;have g7:=Gr.iT.1 cr;have fy:=Gr.mE cr;have g5:=Rl.Ok.ι cK;have g4:=Rl.Ok.ι cI;have⟨dc,dl,db⟩:=er (fun h (D:ag w h)=>jO p (R.l:Nat) a4 O X h (d6.ext D) SL) (fun h (D:ag w h)=>jO p (R.r:Nat) a5 T F h (d7.ext D) SL) (fun h (D:ag w h)=>jO p (g.w:Nat) ap ao V h (cp.ext D) SL);have e3:=zH (fun(bo:jX p V (g.w:Nat)=true) h (D:ag w h)=>(by
  have g8:V.length=g.w:=by unfold jX at bo;simp at bo;omega
  rw[g8];exact zg9 p g V G1 ab ac ap d1 d2 d3 ao h am (fl.ext D) (co.ext D) cr eg (zl0 am eg) (cp.ext D) bo:az 90 #[p,.agg (bj g G1 d1 ab d2 ac d3),.slice ap V ao] h fun e w'=>e=.returned (.tuple (rM (zdJ p g V)))/\ag h w'))
 have c7:=zH (fun(hx:jX p X (R.l:Nat)=true) (I:jX p F (R.r:Nat)=true) h (D:ag w h) A c (d4:aO h A (X++F))=>(by
  rw[il]at hx I;have H:(X++F).length=R.l+R.r:=Ra;have h2:∀x∈X++F,0<=x/\x<p:=fun x ev=>(dP.1 ev).elim (hx.2 x) (I.2 x)
  exact BZ p (R.l:Nat) (R.r:Nat) (R.l+R.r) R.b (X++F) an A a2 c h bn ei (fs.ext D) d4 Qu Qu H (yE cK) (zjQ bn cK H h2):az 89 #[p,.agg (dh R.l R.r an R.b a2),.slice A (R.l+R.r) c] h (dt h (BN p R.b (X++F)))))
 have c5:=zH (fun(hx:jX p X (R.l:Nat)=true) (I:jX p F (R.r:Nat)=true) h (D:ag w h) A c (d4:aO h A (X++F))=>(by
  rw[il]at hx I;have H:(X++F).length=Q.l+Q.r:=Ra;have h2:∀x∈X++F,0<=x/\x<p:=fun x ev=>(dP.1 ev).elim (hx.2 x) (I.2 x)
  rw[<-eb.1,<-eb.2];exact BZ p (Q.l:Nat) (Q.r:Nat) (Q.l+Q.r) Q.b (X++F) a6 A bb c h bn ei (fo.ext D) d4 Qu Qu H (yE cI) (zjQ bn cI H h2):az 89 #[p,.agg (dh Q.l Q.r a6 Q.b bb),.slice A (R.l+R.r) c] h (dt h (BN p Q.b (X++F)))))
 obtain⟨e4,c3,g0,gB,b4,dT,fb,e6⟩:=zH8 (fun(hx:jX p X (R.l:Nat)=true) (I:jX p F (R.r:Nat)=true) h (D:ag w h)=>mS X F a4 a5 O T X F (R.l+R.r) h (d6.ext D) (d7.ext D) rfl rfl (by rw[il]at hx I;rw[bm];omega) (by rw[il]at hx I;omega)) (fun h (D:ag w h)=>mS (bD g.i) (bD g.o) ab ac d2 d3 g.i g.o (R.l+R.r) h (co.ext D).i (co.ext D).o (aS _).q (aS _).q (by rw[bm,aS,aS];omega) Qu) (fun h (D:ag w h)=>cp.ext D) (show ∀x∈g.i++g.o,x<g.w from zbD fy) (Ra:(g.i++g.o).length=R.l+R.r) (fun(hx:jX p X (R.l:Nat)=true) (I:jX p F (R.r:Nat)=true)=>(by rw[il]at hx I;rw[bm];omega:(X++F).length=R.l+R.r)) (fun(bo:jX p V (g.w:Nat)=true)=>(by rw[il]at bo;omega:V.length=g.w)) (Qu:R.l+R.r<=24);have d5:=((al w w).alloc (ae _) (.cells (lR p g.w G1 g.es d1 ab g.i d2 ac g.o d3 cc ca bv cb cj R.l R.r an R.b a2 cu bz cz f1 b0 cA f2 b1 cB f3 ci ce E ch ck Q.l Q.r a6 Q.b bb) 71)).alloc Qt (.cells (iK cn b9 cF cs cO a4 X O a5 F T ap V ao) 39);have Y:=(bO (w.alloc (.cells (lR p g.w G1 g.es d1 ab g.i d2 ac g.o d3 cc ca bv cb cj R.l R.r an R.b a2 cu bz cz f1 b0 cA f2 b1 cB f3 ci ce E ch ck Q.l Q.r a6 Q.b bb) 71)) (.cells (iK cn b9 cF cs cO a4 X O a5 F T ap V ao) 39) (k:=w.heap.size) Qt).t (aH w _ rfl);have em:=aH (w.alloc (.cells (lR p g.w G1 g.es d1 ab g.i d2 ac g.o d3 cc ca bv cb cj R.l R.r an R.b a2 cu bz cz f1 b0 cA f2 b1 cB f3 ci ce E ch ck Q.l Q.r a6 Q.b bb) 71)) (.cells (iK cn b9 cF cs cO a4 X O a5 F T ap V ao) 39) (n:=(w:Nat)+1) Qt;have⟨hk,d8⟩:=aR (EH p g R Q X F V);have a8:=zH d8;rw[<-d8];clear d8 fl co cr eg fs cK fo cI g6 eb d6 d7 cp ha hb bp g7 fy g5 g4 am bn ei;go_enter func54,ntmps54
 go_upto_region 1 with(fail)
 generalize ((w.alloc _).alloc _)=ah at d5 Y em ⊢;have⟨eB,e7,e8⟩:=er d5 Y em;have av:=aQ (aF Y 1 rfl) (aQ (aF Y 2 rfl) (aQ (aF Y 3 rfl) (aQ (aF Y 4 rfl) (aQ (aF Y 8 rfl) (aQ (aF Y 9 rfl) (aF Y 10 rfl))))));have b7:=zH (show(w:Nat)<ah from(bk.1 Y).1);clear d5 Y em;go_cut [5,6] from 12 (fun hg hh h=>znc w ah #[.int .i64 (g.w:Nat),.slice G1 g.es d1,.slice ab g.i d2,.slice ac g.o d3] #[.int .i64 (R.l:Nat),.int .i64 (R.r:Nat),.slice an R.b a2] hg hh h)
 case first=>
  go_region_held3 (fun h=>af h w 1 (zI (g.w:Nat))/\af h w 2 (.slice G1 g.es d1)/\af h w 3 (.slice ab g.i d2)/\af h w 4 (.slice ac g.o d3)/\af h w 8 (zI (R.l:Nat))/\af h w 9 (zI (R.r:Nat))/\af h w 10 (.slice an R.b a2)) (first|exact av|exact zld (V:=ah) (bO ah _ b7.o) av|exact zld (V:=ah) ((bO _ _ (by simp;have:=b7.o;omega)).t (bO ah _ b7.o)) av) ((fail))
  all_goals go_wp2_with fail
  all_goals
   go_meet
   first
    |exact⟨_,_,rfl,rfl,(bO _ _ Qt).t (aH ah _ rfl),aH _ _ Qt,((aw ah _).alloc Qt _).drew⟩
    |exact⟨_,_,rfl,rfl,aH _ _ Qt,(bO _ _ Qt).t (aH ah _ rfl),((aw ah _).alloc Qt _).drew⟩
 case rest=>
  obtain⟨hn,hr,rfl,rfl,ea,eo,cq⟩:=hcut;have ek:=ai e7 cq;have a1:=ai e8 cq;have J:=zH (aT eB cq);have bc:=aF ek 0 rfl;have he:=aF a1 3 rfl;have hf:=aF a1 4 rfl;have eA:=aF a1 5 rfl;have⟨bq,br,z2,bu⟩:=aB ea;have⟨u0,u1,u2⟩:=aD eo;have⟨b6,e9,e2,gL⟩:=gG ek a1 ea eo;clear ek a1 ea eo cq av e7 e8 eB b7;cases H:jX p X (R.l:Nat)
  .have ba:=zH (fun h D=>Calls.cg (dc h D) H);go_wp2_with (go_at_call 88;(with_reducible refine(ba.o _ J.o).x ?_);rintro e a3 ⟨rfl,rfl⟩)
   go_ret
   exact⟨aN (by rw[a8.o];unfold EH;simp[H]),J.o⟩
  have ba:=zH (fun h D=>Calls.cg (dc h D) H);cases h2:jX p F (R.r:Nat)
  .have bg:=zH (fun h D=>Calls.cg (dl h D) h2);go_wp2_with (first|(go_at_call 88;(with_reducible refine(ba.o _ J.o).x ?_);rintro e a3 ⟨rfl,rfl⟩)|(go_at_call 88;(with_reducible refine(bg.o _ J.o).x ?_);rintro e a3 ⟨rfl,rfl⟩))
   go_ret
   exact⟨aN (by rw[a8.o];unfold EH;simp[H,h2]),J.o⟩
  have bg:=zH (fun h D=>Calls.cg (dl h D) h2);cases U:jX p V (g.w:Nat)
  .have b8:=zH (fun h D=>Calls.cg (db h D) U);go_wp2_with (first|(go_at_call 88;(with_reducible refine(ba.o _ J.o).x ?_);rintro e a3 ⟨rfl,rfl⟩)|(go_at_call 88;(with_reducible refine(bg.o _ J.o).x ?_);rintro e a3 ⟨rfl,rfl⟩)|(go_at_call 88;(with_reducible refine(b8.o _ J.o).x ?_);rintro e a3 ⟨rfl,rfl⟩))
   go_ret
   exact⟨aN (by rw[a8.o];unfold EH;simp[H,h2,U]),J.o⟩
  have b8:=zH (fun h D=>Calls.cg (db h D) U);go_upto_region 4 with(first|(go_at_call 88;(with_reducible refine(ba.o _ J.o).x ?_);rintro e a3 ⟨rfl,rfl⟩)|(go_at_call 88;(with_reducible refine(bg.o _ J.o).x ?_);rintro e a3 ⟨rfl,rfl⟩)|(go_at_call 88;(with_reducible refine(b8.o _ J.o).x ?_);rintro e a3 ⟨rfl,rfl⟩))
  have b3:=zH (e4 H h2 _ J.o);go_upto_region 5 with(go_at_call 65;(with_reducible refine b3.o.x ?_);rintro e gb ⟨fd,f7,rfl,-,am,G⟩;have c4:=zH am.D;have ad:=zH G;clear am G)
  have a9:=zH (aT J.o ad);clear bc he hf eA bq br z2 bu u0 u1 u2 dc dl db ba bg b8 e4 b3;have⟨n,fz⟩:=aR (R.l+R.r);rw[<-fz]at c7 c5 c3 b4 dT e6 ⊢;have⟨c8,c6⟩:=bJ (c7 H h2 gb a9 fd f7 c4) (fun h (D:ag gb h)=>c5 H h2 h (aT a9 D) fd f7 (c4.ext D));clear fz;have ej:=ai b6 ad;have bc:=aF ej 0 rfl;have⟨u0,u1,u2⟩:=aD (ai gL ad);cases a0:BN p R.b (X++F)
  .have be:=zH (Calls.bl c8 a0);clear ej;go_wp2_with (go_at_call 89;(with_reducible refine be.o.x ?_);rintro e gc ⟨rfl,G⟩;have gv:=zH (aT a9 G);clear G)
   go_ret
   exact⟨aN (by rw[a8.o];unfold EH;simp[H,h2,U,a0]),gv⟩
  have be:=zH (Calls.bl c8 a0);clear ej;cases a7:BN p Q.b (X++F)
  rotate_left
  .have b5:=zH (fun h D=>Calls.bl (c6 h D) a7);go_wp2_with (first|(go_at_call 89;(with_reducible refine be.o.x ?_);rintro e gc ⟨rfl,G⟩;have Z:=ai (ai b6 ad) G;have bc:=aF Z 0 rfl;have gi:=aF Z 18 rfl;have gn:=aF Z 19 rfl;have gs:=aF Z 20 rfl;have bh:=zH G;clear G Z)|(go_at_call 89;(with_reducible refine(b5.o _ bh.o).x ?_);rintro e hc ⟨rfl,G⟩;have b2:=zH (a9.t ((aT bh G).x a9.size));clear G))
   go_ret
   exact⟨aN (by rw[a8.o];unfold EH;simp[H,h2,U,a0,a7]),b2⟩
  have⟨b5,c0⟩:=bJ (fun h D=>Calls.bl (c6 h D) a7) (e3 U);have⟨ga,es⟩:=aR (zdJ p g V);rw[<-es]at c0;have g1:=zH es;clear es;go_upto_region 8 with(first|(go_at_call 90;(with_reducible refine(c0.o _ b2.o).x ?_);rintro e hd ⟨rfl,G⟩;have dq:=zH (aT bi G);have e0:=zH (aT b2 G);clear G)|(go_at_call 89;(with_reducible refine be.o.x ?_);rintro e gc ⟨rfl,G⟩;have Z:=ai (ai b6 ad) G;have bc:=aF Z 0 rfl;have gi:=aF Z 18 rfl;have gn:=aF Z 19 rfl;have gs:=aF Z 20 rfl;have bh:=zH G;clear G Z)|(go_at_call 89;(with_reducible refine(b5.o _ bh.o).x ?_);rintro e hc ⟨rfl,G⟩;have bi:=zH (aT bh G);have b2:=zH (aT a9 bi);have f4:=ai (ai b6 ad) bi;have bc:=aF f4 0 rfl;have eA:=aF (ai (ai e9 ad) bi) 5 rfl;have⟨bq,br,z2,bu⟩:=aB (ai (ai e2 ad) bi);clear G f4))
  clear bc gi gn gs u0 u1 u2 eA bq br z2 bu;have⟨bq,br,z2,bu⟩:=aB (ai (ai e2 ad) dq);have⟨b3,gC,gR,fc,dO,gA⟩:=ny (c3 hd e0) (c4.ext dq) (ai (ai e9 ad) dq) (fb U) (dT H h2) (aQ H (aQ h2 (aQ U (aQ a0 a7))));clear c7 c5 c8 c6 be b5 e3 c0 c3 H h2 U a0 a7 dT fb;go_wp2_with (go_at_call 65;(with_reducible refine b3.o.x ?_);rintro e gd ⟨hj,hq,rfl,-,am,G⟩;have gw:=zH am.D;have dr:=zH G;clear am G)
  have⟨e1,fa,gK⟩:=er (aT e0 dr) (ai gR dr) (gC.ext dr);have gu:=zH (g0 gd e1);clear bq br z2 bu;have⟨bp,ee⟩:=aR V.length;rw[<-ee]at fa fc ⊢;have e5:=zH ee;clear ee;go_loopw [8,83] (fun u i wr=>∃k:Nat,k<=n/\i=.int .i64 k/\u=.bool (ga&&decide ((eC (g.i++g.o) V).take k=(X++F).take k))/\ag gd wr) (fun _ i _=>n-(intOf i).toNat)
  case atStart=>exact⟨0,aW _,rfl,Qt,al _ _⟩
  case round=>
   obtain⟨k,ho,rfl,rfl,G⟩:=hrel;have bd:=zH G;have hp:n<=24:=e6.o;by_cases ct:k<n
   .obtain⟨x,hx⟩:=aq (by rw[b4.o];exact ct:k < (g.i++g.o).length);obtain⟨y,I⟩:=aq (by rw[dO.o];exact ct:k < (X++F).length);have g9:=gB x (aU hx);have f6:x<bp:=by have:=fc.o;omega
    obtain⟨z,ey⟩:=aq (by rw[<-e5.o];exact f6:x<V.length);obtain⟨hm,hl,rfl,fx⟩:=(gw.ext G).θ (k:=k) (by rw[bm,aS,aS,<-bm,b4.o];exact ct);have c1:=fx k (x:Int) S9;obtain⟨cR,cV,rfl,a1⟩:=(gu.ext G).θ (k:=x) (by rw[<-e5.o];exact f6);have c2:=a1 x z ey;obtain⟨f8,f9,rfl,f0⟩:=(gK.ext G).θ (k:=k) (by rw[dO.o];exact ct);have O:=f0 k y I;have T:=aF (ai fa G) 5 rfl;have c9:=zH (show decide ((eC (g.i++g.o) V).take (k+1)=(X++F).take (k+1))=(decide ((eC (g.i++g.o) V).take k=(X++F).take k)&&decide (z=y)) from by
     have d0:(eC (g.i++g.o) V)[k]?=some z:=by unfold eC;rw[bI,hx];simp[bf,ey]
     rw[jl d0,jl I,jQ,bN,cf,cf,cf];constructor
     .intro g3;obtain⟨H,h2⟩:=List.append_inj g3 (by have:=(bG.1 d0).1;have:=(bG.1 I).1;rw[cQ,cQ];omega);exact⟨H,Rk⟩
     .rintro⟨H,rfl⟩;rw[H])
    have⟨b,d9⟩:=aR (ga&&decide ((eC (g.i++g.o) V).take k=(X++F).take k));have cW:=zH d9;rw[<-d9];clear d9 fx a1 f0 hx I ey G g9;have⟨hs,f5⟩:=aR wr;rw[<-f5]at bd c1 c2 O T ⊢;clear f5;cases b
    .go_upto_region 11 with(fail)
     clear c1 c2 O T;refine bU QT QT ?_
     repeat (go_big_quiet_step (fail))
     refine dJ ?_;rintro _ ⟨h,rfl⟩;go_wp2;go_roundw
     case rel=>exact⟨k+1,Qu,Qx,by rw[c9.o,<-xi,<-cW.o];rfl,aJ bd h.ok⟩
     case measure=>simp[intOf];omega
    .by_cases ez:z=y
     .subst ez;go_upto_region 11 with(fail)
      have av:=aQ T (aQ c2 O);go_region_held3 (fun h=>af h ((w:Nat)+1) 5 (.slice (some ⟨cR,cV,none⟩) bp ao)/\af h cR (cV+x) (zI z)/\af h f8 (f9+k) (zI z)) (exact av) ((fail))
      go_wp2;go_roundw
      case rel=>exact⟨k+1,Qu,Qx,by rw[c9.o,<-xi,<-cW.o];simp,bd.drew⟩
      case measure=>simp[intOf];omega
     .have d0:(z==y)=false:=by simp[ez]
      have g2:decide (z=y)=false:=by simp[ez]
      go_upto_region 11 with(fail)
      have av:=aQ T (aQ c2 O);go_region_held3 (fun h=>af h ((w:Nat)+1) 5 (.slice (some ⟨cR,cV,none⟩) bp ao)/\af h cR (cV+x) (zI z)/\af h f8 (f9+k) (zI y)) (exact av) ((fail))
      go_wp2;go_roundw
      case rel=>exact⟨k+1,Qu,Qx,by rw[c9.o,<-xi,<-cW.o,g2];rfl,bd.drew⟩
      case measure=>simp[intOf];omega
   .obtain rfl:k=n:=Qu;clear G;go_wp2;go_ret
    obtain⟨H,h2,U,a0,a7⟩:=gA.o;refine⟨aN ?_,aT e1 bd⟩;rw[a8.o];unfold EH;rw[H,h2,U,a0,a7,<-g1.o,cZ (by unfold eC;rw[bs,b4.o];exact ae _),cZ (by rw[dO.o];exact ae _)];rfl
end Go.Proofs.YtpieilkmmiopfaaGreatDoor
