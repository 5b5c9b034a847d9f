/- Parts of the walks. Conditions: as stated with each. -/
import Derived.Test.YtpieilkmmiopfaaGreatDoorPk18
namespace Go.Proofs.YtpieilkmmiopfaaGreatDoor
open Go.RowKit Tryz
set_option linter.all false
set_option maxHeartbeats 4000000
set_option maxRecDepth 100000
variable{A1:ax}{B B' J c1 c2 s:Nat}{T v v0 v1 v2 v3 z2:aG}{V w:aa}{g:Gr}
def bw.dQ{D}{h}{E}{xs:List D}(F:bw h s E w B v xs)(G:J<B):bw h s E (Go.Proofs.YtpieilkmmiopfaaGreatDoor.dQ w J v0 v1 v2 v3) B v xs:=F.y (fun k H _=>nZ Qu) (gp eK.q)
def Cu.of{F}{h D}(I:bA V J (bj g A1 c1 h c2 D F) 54)(G:bw 155 4 Cl V B' (.slice A1 g.es c1) g.es)(H:B<=B'):Cu V B J g:=⟨A1,c1,h,c2,D,F,I,G.x H⟩
def Cu.of4{F}{h D}{U Y}(O:bA V J #[T,U,z2,Y] 54)(G:bw 155 4 Cl V B' (.slice A1 g.es c1) g.es)(H:B<=B')(I:J<B'):Cu (dQ V J (zI (g.w:Nat)) (.slice A1 g.es c1) (.slice h g.i c2) (.slice D g.o F)) B J g:=⟨A1,c1,h,c2,D,F,cP O,(G.dQ I).x H⟩
def EB a b A1 A2 A3 D1 D2 D3 c1 c2 c3 d1 d2 d3 w(a3:px a)(a0:px b)(cq:jV w A1 A2 A3 a)(cr:jV w D1 D2 D3 b):az 163 (iV (bj a A1 c1 A2 c2 A3 c3) (bj b D1 d1 D2 d2 D3 d3)) w (zne a b w):=by
 have⟨dT,ca⟩:=bJ (fun(T:ax) (ab:Nat) (V:aa) (bu:ag w V) (br:aO V T (υ a.w))=>zl4 a3 A1 A2 A3 T c1 c2 c3 ab V (cq.ext bu) br) (fun(T:ax) (ab:Nat) (V:aa) (bu:ag w V) (br:aO V T (bD (dd a.w b.w)))=>zl5 a0 a.w a3.w D1 D2 D3 T d1 d2 d3 ab V (cr.ext bu) br);refine PX fun H7 q0 q1 q2=>?_
 have e7:=a3.w;have e8:=a0.w;have e9:a.es.length+b.es<=8192:=by have:=a3.es;have:=a0.es;omega
 have fa:IntKind.i64.wrap ((a.w:Int)+(b.w:Int))=(a.w:Int)+(b.w:Int):=Rt;clear cq cr a3 a0;go_enter func163,ntmps163
 go_upto_region 1 with(fail)
 generalize ((w.alloc _).alloc _).alloc _=F at H7 q0 q1 q2 ⊢;have bp:=(bk.1 q2).1;have⟨em,eo,es,ev⟩:=aB q0;have⟨c4,c5,c6,c7⟩:=aB q1;go_upto_region 2 with(fail)
 have⟨av,bc⟩:=bM F (.cells #[.int .i64 ((a.w:Int)+(b.w:Int)),dE,dE,dE] 54);have⟨ce,ch,ci,a2⟩:=gG (ai q0 av) (ai q1 av) (ai q2 av) (aT H7 av);clear em eo es ev c4 c5 c6 c7 q0 q1 q2 H7;generalize F.alloc _=W at av bc ce ch ci a2 ⊢;have d7:=zH bc;have b2:(F:Nat)<W:=(bk.1 bc).1;have⟨a7,b7⟩:=bJ b2 bp;have I:=aB ce;clear av bc b2 bp;go_cut [6] from 8 (fun ey V=>∃ap,ey=.pointer (bH ap)/\Cu V W ap a/\(W:Nat)<=ap/\ag W V)
 case first=>
  go_region_held3 (fun V=>af V w 0 (zI (a.w:Nat))/\af V w 1 (.slice A1 a.es c1)/\af V w 2 (.slice A2 a.i c2)/\af V w 3 (.slice A3 a.o c3))
   (first|with_reducible exact I|with_reducible exact gS (aC _) I|with_reducible exact gS (aw _ _).drew I|with_reducible exact gS GY.o I|with_reducible exact gS (GY.o.alloc GY.o.size _) I|with_reducible exact gS h.o I|with_reducible exact gS (h.o.alloc h.o.size _) I|with_reducible exact gS (bY h.o (ae _) _ _ _ _) I|with_reducible exact gS (bY h.o GY.o.size _ _ _ _) I)
   ((first|(go_at_call 62;refine(qu a.w _ Qu).x ?_;rintro e an ⟨u1,rfl,am,FR⟩;obtain⟨T,ab,rfl,a4,-⟩:=am.p;rw[dX]at am ⊢;have GY:Hd (ag W an):=VZ;have JL:=zH a4;have G5:=zH FR;clear am FR a4)|(go_at_call 205;refine(dT T ab _ (a2.t ((VR:ag W _).x a2.size)) VP).x ?_;rintro e ao ⟨a6,a8,b5,ck,b6,cn,rfl,ah,-,-,Gg⟩;have h:Hd (ag W ao):=V7;have Y:=zH ah;have ea:=zH Gg;(first|(have D:=ai (ai (ky W _) G5) Gg;have⟨bd,be,bg,bh⟩:=aB D;have⟨f0,f1,f2,f3⟩:=cN D;have Z:=zH D;clear D)|(have D:=ai (aH an _ rfl) Gg;have⟨bd,be,bg,bh⟩:=aB D;have⟨f0,f1,f2,f3⟩:=cN D;have Z:=zH D;clear D)|skip);clear ah Gg)))
  all_goals
   go_wp2_with fail
   go_meet
   first
    |with_reducible exact⟨ao,rfl,Cu.of (aH ao _ rfl) (Y.o.ext (aw _ _)) GY.o.size,h.o.size,h.o.alloc h.o.size _⟩
    |with_reducible exact⟨an,rfl,Cu.of4 Z.o Y.o (aZ GY.o.size (aw _ _).size) Qt,GY.o.size,bY h.o GY.o.size _ _ _ _⟩
    |with_reducible exact⟨W,rfl,Cu.of4 Z.o Y.o GY.o.size UN,ae _,bY h.o (ae _) _ _ _ _⟩
 case rest=>
  obtain⟨e0,rfl,cu,e6,ac⟩:=hcut;obtain⟨O,rfl⟩:∃O,O=wc:=⟨wc,rfl⟩;have⟨dc,c9,bi⟩:=er cu ac (aT a2 ac);have cj:=aB (ai ch ac);have U:=aQ (gS ac I).1 cj;have⟨d8,d5⟩:=bJ (ai d7 ac) (ai ci ac);have⟨G,bq⟩:=aR (b.map b.w (· +a.w));have b9:=zH bq;rw[<-bq]at ca;clear cu ac I cj bq;go_upto_region 3 with(fail)
  go_cut [7] from 8 (fun ez V=>∃ap,ez=.pointer (bH ap)/\Cu V O ap G/\ag O V)
  case first=>
   go_region_held3 (fun V=>af V w 0 (zI (a.w:Nat))/\af V ((w:Nat)+1) 0 (zI (b.w:Nat))/\af V ((w:Nat)+1) 1 (.slice D1 b.es d1)/\af V ((w:Nat)+1) 2 (.slice D2 b.i d2)/\af V ((w:Nat)+1) 3 (.slice D3 b.o d3))
    (first|with_reducible exact U|with_reducible exact kU (aC _) U|with_reducible exact kU (aw _ _).drew U|with_reducible exact kU GY.o U|with_reducible exact kU (GY.o.alloc GY.o.size _) U|with_reducible exact kU h.o U|with_reducible exact kU (h.o.alloc h.o.size _) U|with_reducible exact kU (bY h.o (ae _) _ _ _ _) U|with_reducible exact kU (bY h.o GY.o.size _ _ _ _) U)
    ((first|(go_at_call 66;refine(sJ a.w b.w _ Qu Qu).x ?_;rintro e an ⟨u1,rfl,am,FR⟩;obtain⟨T,ab,rfl,a4,-⟩:=am.p;rw[aS,c_]at am ⊢;have GY:Hd (ag O an):=VZ;have JL:=zH a4;have G5:=zH FR;clear am FR a4)|(go_at_call 205;refine(ca T ab _ (bi.t ((VR:ag O _).x bi.size)) VP).x ?_;rintro e ao ⟨a6,a8,b5,ck,b6,cn,rfl,ah,-,-,Gg⟩;have h:Hd (ag O ao):=V7;have Y:=zH ah;have ea:=zH Gg;(first|(have D:=ai (ai (ky O _) G5) Gg;have⟨bd,be,bg,bh⟩:=aB D;have⟨f0,f1,f2,f3⟩:=cN D;have Z:=zH D;clear D)|(have D:=ai (aH an _ rfl) Gg;have⟨bd,be,bg,bh⟩:=aB D;have⟨f0,f1,f2,f3⟩:=cN D;have Z:=zH D;clear D)|skip);clear ah Gg)))
   all_goals
    go_wp2_with fail
    go_meet
    first
     |with_reducible exact⟨ao,rfl,Cu.of (aH ao _ rfl) (Y.o.ext (aw _ _)) GY.o.size,h.o.alloc h.o.size _⟩
     |with_reducible exact⟨an,rfl,Cu.of4 Z.o Y.o (aZ GY.o.size (aw _ _).size) Qt,bY h.o GY.o.size _ _ _ _⟩
     |with_reducible exact⟨O,rfl,Cu.of4 Z.o Y.o GY.o.size UN,bY h.o (ae _) _ _ _ _⟩
  case rest=>
   obtain⟨e1,rfl,ej,ad⟩:=hcut;obtain⟨a6,a8,b5,ck,b6,cn,co,b4⟩:=dc.o;obtain⟨c8,f1,eA,f2,eB,f3,cp,c0⟩:=ej;have dl:=zH (show ∀g,(Value.slice a6 a.es a8).ownBlock=some g->g < (O:Nat) from fun g e=>by obtain⟨cs,ah⟩:=b4;exact(bS ah.η g e).2)
   have⟨ee,eg⟩:=bJ (b4.ext ad) c0;have cz:G.es.length=b.es:=by rw[b9.o];exact bs ..
   have b8:=zH (by rw[b9.o];rfl:fG a b=a.es++G.es);obtain⟨-,fx,-,-⟩:=aB (ai co ad);obtain⟨-,u1,-,-⟩:=aB cp;have⟨db,bo,d6⟩:=er (aT bi ad) (ai d8 ad) (ai d5 ad);have cA:=c9.size;have cB:=ad.size;have⟨cb,cc,dr⟩:=er cA cB cz;have⟨fb,fc,fd,fl⟩:=aB bo;have⟨f0,e2,e3,e4⟩:=cN bo;clear co b4 cp c0 ad cz cA cB;go_upto_region 5 with((at_builtin;refine qL zkj rfl (.tmp 31) (.tmp 33) rfl W O wc (.slice a6 a.es a8) (.slice c8 G.es f1) a.es G.es ee.o eg.o dl.o cb.o cc.o (by have:=dr.o;omega) rfl rfl ?_;intro fo a1 b1 bv;obtain⟨H,J,rfl,-⟩:=b1.p;have d0:=zH b1;have bn:=zH bv;have ba:=(bv.block F a7).t bo;have⟨cF,b3,cI,cK⟩:=aB ba;have⟨cO,cR,cV,cW⟩:=cN ba;have d9:=zH ba;clear b1 bv ba))
   have bb:=bE a1 F 1 _ _ (.slice H (a.es.length+G.es) J) d9;simp only[zA]at bb;have e5:(w:Nat)+1+1<F:=b7.o;have a5:(a1.setCell ⟨F,1,none⟩ (.slice H (a.es.length+G.es) J)).heap[(w:Nat)+1+1]?=some (.cells cw 54 (0,0)):=
    (a_ _ _ _ _ (by show(w:Nat)+1+1≠F.heap.size;omega)).t ((bn.block _ (by have:=a7.o;omega)).t d6)
   have a9:bw 155 4 Cl (a1.setCell ⟨F,1,none⟩ (.slice H (a.es.length+G.es) J)) W (.slice H (a.es.length+G.es) J) (a.es++G.es):=by have:=d0.setCell (a:=⟨F,1,none⟩) a7 (.slice H (a.es.length+G.es) J);rwa[bm]at this
   have bz:Below w w (a1.setCell ⟨F,1,none⟩ (.slice H (a.es.length+G.es) J)):=(db.t (bn.x a2.size)).setCell (p:=⟨F,1,none⟩) (by show(w:Nat)<=F;omega) _;have ct:(W:Nat)<=(a1.setCell ⟨F,1,none⟩ (.slice H (a.es.length+G.es) J)):=by have:=bn.size;have:=cb.o;have:=cc.o;simp;omega
   clear cF b3 cI cK cO cR cV cW;generalize a1.setCell ⟨F,1,none⟩ _=fs at bb a5 a9 bz ct ⊢;have⟨cF,b3,cI,cK⟩:=aB bb;have⟨bd,be,bg,bh⟩:=aB a5;have⟨cO,cR,cV,cW⟩:=cN a5;have⟨m,b0⟩:=aR (a.es.length+G.es);rw[<-b0]at b3 a9 ⊢;have dO:=zH b0;have y:=cP (v0:=.int .i64 ((a.w:Int)+(b.w:Int))) (v1:=.slice H m J) (v2:=dE) (v3:=dE) a5;have⟨c4,c5,c6,c7⟩:=aB y;have⟨dq,d4,eb⟩:=er (bY bz (b:=(w:Nat)+1+1) Qu (zI ((a.w:Int)+(b.w:Int))) (.slice H m J) (.slice none 0 0) (.slice none 0 0)) a9 ct;clear bb a5 a9 bz y b0;go_wp2;refine aI (v:=.agg (CW ((a.w:Int)+(b.w:Int)) H m J)) (by simp[results,results163,go_sem, *]) rfl ⟨H,J,?_,?_,dq⟩
   .rw[b8.o,bm,<-dO.o];rfl
   .rw[b8.o,eK];have ek:=d4.fr (fun _ _ _ _ a0 ei=>ei.ext a0) eb;have bp:=b7.o;have b2:=a7.o;exact(ek.dQ (b:=(w:Nat)+1+1) Qu).to Qu (ae _)
end Go.Proofs.YtpieilkmmiopfaaGreatDoor
