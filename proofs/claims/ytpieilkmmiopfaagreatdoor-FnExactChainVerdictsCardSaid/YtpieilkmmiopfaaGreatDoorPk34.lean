/- Parts of the walks and laws (Hg2). Conditions: as stated with each. -/
import Derived.Test.YtpieilkmmiopfaaGreatDoorPk21
namespace Go.Proofs.YtpieilkmmiopfaaGreatDoor
open Go.RowKit Tryz
set_option linter.all false
set_option maxHeartbeats 4000000
set_option maxRecDepth 100000
variable{A:aq}{B b c d n:Nat}{v2 v3:ax}{w:aa}{xs:aH}
theorem zcQ(t:aH)(f:ir)(l:bO)(A:aq)(cap n:Nat)(D:aq)(H:Nat)(w:aa)(R:n=t.length)(O:aJ w A t)(N:aJ w D (bt l))(T:t.length<=1048576)(hm:l.length<=1048576)(J:∀x∈l,t[x]?=some ((f x:Nat):Int)):aw 82 #[.slice D l.length H,.slice A n cap] w fun e w'=>∃h F,e=.returned (.slice h l.length F)/\Fr w' w.heap.size w'.heap.size (fun W=>aJ W h (bt (l.map f)))/\ag w w':=by subst R;have:=AH t A cap (bt l) D H w O N T SP (zv J);rw[aQ]at this;refine this.mono ?_;rintro e w' ⟨u,rfl,G,I⟩;rw[tu J]at G;obtain⟨h,F,rfl,-⟩:=G.view;exact⟨h,F,RR,G.fr I.size,I⟩
theorem aD.frO(h:aD w B (.slice A n c) xs)(D:B<=w.heap.size):Fr w B w.heap.size (fun W=>aD W B (.slice A n c) xs):=pZ (fun W F=>h.same F) (fun _ _ G h=>h.ext G) D
theorem zcR(t:aH)(f:ir)(l:bO)(A:aq)(cap n:Nat)(H:aq)(I:Nat)(B:Nat)(w:aa)(R:B<=w.heap.size)(U:n=t.length)(T:aJ w A t)(O:aJ w H (bt l))(V:t.length<=1048576)(hm:l.length<=1048576)(G:∀x∈l,t[x]?=some ((f x:Nat):Int)):aw 82 #[.slice H l.length I,.slice A n cap] w fun e w'=>∃h D,e=.returned (.slice h l.length D)/\Fr w' w.heap.size w'.heap.size (fun W=>aD W B (.slice h l.length D) (bt (l.map f)))/\(∀g,(Value.slice h l.length D).ownBlock=some g->w.heap.size<=g/\g<w'.heap.size)/\ag w w':=by subst U;have:=AH t A cap (bt l) H I w T O V SP (zv G);rw[aQ]at this;refine this.mono ?_;rintro e w' ⟨u,rfl,F,J⟩;rw[tu G]at F;obtain⟨h,D,rfl,-⟩:=F.view;have G:(bt (l.map f)).length=l.length:=RR;rw[G]at F ⊢;exact⟨h,D,rfl,(F.frO J.size).imp fun Y N=>N.mono R,fun g e=>bL F g e,J⟩
theorem zhE{a e:Nat}(D:∀g,v2.ownBlock=some g->a<=g/\g<b)(F:∀g,v3.ownBlock=some g->c<=g/\g<d)(H:b<=c)(I:b<=d)(J:d<=e):(∀g,v2.ownBlock=some g->v3.ownBlock≠some g/\g<e)/\∀g,v3.ownBlock=some g->g<e:=⟨fun g h=>⟨fun G=>by have:=D g h;have:=F g G;omega,by have:=D g h;omega⟩,fun g h=>by have:=F g h;omega⟩
structure xI(B0 B:Nat)(V:aa)(A1:aq)(c1:Nat)(A2:aq)(c2:Nat)(A3:aq)(c3:Nat)(g:Gr):Prop where
 b:B0<=B
 s:B<=V.heap.size
 i:aD V B0 (.slice A2 g.i.length c2) (bt g.i)
 o:aD V B0 (.slice A3 g.o.length c3) (bt g.o)
 d2:∀g',(Value.slice A2 g.i.length c2).ownBlock=some g'->(Value.slice A3 g.o.length c3).ownBlock≠some g'/\g'<B
 d3:∀g',(Value.slice A3 g.o.length c3).ownBlock=some g'->g'<B
 es:aV 155 4 yp V B (.slice A1 g.es.length c1) g.es
def uh(g:Gr)(w:aa)(e:Ending)(w':aa):Prop:=∃A1 c1 h c2 D F B,e=.returned (.agg (bl g A1 c1 h c2 D F))/\xI w.heap.size B w' A1 c1 h c2 D F g/\ag w w'
theorem xM(g:Gr)(N:Nat)(t:aH)(f:ir)(A1 O R Y:aq)(c1 c2 ab a1:Nat)(w:aa)(bo:j6 w A1 O R g)(bp:aJ w Y t)(a3:Ei t f g)(cI:t.length<=65536)(db:g.w<=65536)(c8:N<=65536)(am:g.es.length<=65536)(hi:g.i.length<=65536)(ho:g.o.length<=65536)(b4:∀e∈g.es,e.i.length<=65536/\e.o.length<=65536):aw 199 #[.agg (bl g A1 c1 O c2 R ab),.slice Y t.length a1,N] w (uh (g.map N f) w):=by
 obtain⟨bi,es,F,go⟩:=g;dsimp only at *;have b0:∀x∈F,t[x]?=some ((f x:Nat):Int):=fun x U=>a3 x (au U)
 have b1:∀x∈go,t[x]?=some ((f x:Nat):Int):=fun x U=>a3 x (an (au U))
 have LE:∀e∈es,(∀x∈e.i,t[x]?=some ((f x:Nat):Int))/\∀x∈e.o,t[x]?=some ((f x:Nat):Int):=fun e b8=>⟨fun x U=>a3 x (an (an ⟨e,b8,au U⟩)),fun x U=>a3 x (an (an ⟨e,b8,an U⟩))⟩
 have a2:=((aj w.heap.size w).alloc (af _) (.cells (oF bi A1 es c1 O F c2 R go ab) 54)).alloc Rq (.cells bQ 54);have a9:=(bJ (w.alloc (.cells (oF bi A1 es c1 O F c2 R go ab) 54)) (.cells bQ 54) (k:=w.heap.size) Rq).trans (aC w _ rfl);have ba:=aC (w.alloc (.cells (oF bi A1 es c1 O F c2 R go ab) 54)) (.cells bQ 54) (n:=w.heap.size+1) Rq;obtain⟨ap,a0,cp,cj⟩:=fU (bo.ext a2) (bp.ext a2) LE b4;have cA:F.length<=1048576:=Rr;have cB:go.length<=1048576:=Rr;have a7:t.length<=1048576:=Rr;obtain⟨co,bz⟩:=bD bo bp;clear bo bp a3 LE b4 hi ho cI;go_enter func199,ntmps199
 go_upto_region 1 with(fail)
 generalize (w.alloc _).alloc _=W at a2 a9 ba ap a0 ⊢;obtain⟨x0,x1,x2,x3⟩:=aA a9;obtain⟨a4,ct,cr,Fb,bu,bv⟩:=kE a2 ba a9 (show w.heap.size+2<=W.heap.size from(aT.1 ba).1) (fun(V:aa) (hV:ag W V)=>zcR t f F Y a1 t.length O c2 W.heap.size V hV.size rfl (a0.o.ext hV) (ap.o.i.ext hV) a7 cA b0) (fun(V:aa) (hV:ag W V)=>zcR t f go Y a1 t.length R ab W.heap.size V hV.size rfl (a0.o.ext hV) (ap.o.o.ext hV) a7 cB b1);have S0:=aF x2 x3;clear a2 ba a9 x0 x1 x2 x3 b0 b1;go_cut [7] from 10 (fun cO V=>∃Z H I D G,cO=.pointer (some ⟨Z,0,none⟩)/\aW V Z #[.int .i64 N,.slice none 0 0,.slice H F.length I,.slice D go.length G] 54/\W.heap.size<=Z/\qQ V W.heap.size Z (fun bg=>aD bg W.heap.size (.slice H F.length I) (bt (F.map f)))/\qQ V W.heap.size Z (fun bg=>aD bg W.heap.size (.slice D go.length G) (bt (go.map f)))/\((∀g,(Value.slice H F.length I).ownBlock=some g->(Value.slice D go.length G).ownBlock≠some g/\g<V.heap.size)/\∀g,(Value.slice D go.length G).ownBlock=some g->g<V.heap.size)/\ag W V)
 case first=>
  go_region_held3 (fun V=>ae V w.heap.size 2 (.slice O F.length c2)/\ae V w.heap.size 3 (.slice R go.length ab))
   (first|with_reducible exact S0|with_reducible exact ju (az _) S0|with_reducible exact ju (ak _ _).drew S0|with_reducible exact ju Fh.o S0|with_reducible exact ju (Fh.o.alloc Fh.o.size _) S0|with_reducible exact ju Hp.o S0|with_reducible exact ju (Hp.o.alloc Hp.o.size _) S0|with_reducible exact ju (bI Hp.o (af _) _ _ _ _) S0|with_reducible exact ju (bI Hp.o Fh.o.size _ _ _ _) S0)
   ((first|(go_at_call 82;(with_reducible refine(bu.o _ V8).mono ?_);rintro e w7 ⟨H,I,rfl,FJ,cF,EG⟩;have bc:=zH cF;have Fh:Hd (ag W w7):=Wj;have FI:=zH FJ;have FU:=zH EG;clear FJ EG)|(go_at_call 82;(with_reducible refine(bv.o _ Wd).mono ?_);rintro e w8 ⟨D,G,rfl,Fa,a8,E9⟩;have bd:=zH a8;have Hp:Hd (ag W w8):=Wk;have Hs:Hd (ag w7 w8):=Wi;have FK:=zH Fa;have c4:=zH E9;(first|(have J:=ah (ah (ja W _) FU.o) E9;obtain⟨ca,cb,cc,ce⟩:=aA J;obtain⟨f0,f1,f2,f3⟩:=bZ J;have HZ:=zH J;clear J)|(have J:=ah (aC w7 _ rfl) E9;obtain⟨ca,cb,cc,ce⟩:=aA J;obtain⟨f0,f1,f2,f3⟩:=bZ J;have HZ:=zH J;clear J)|skip);clear Fa E9)))
  all_goals
   go_wp2_with fail
   go_meet
   first
    |with_reducible exact⟨w8.heap.size,H,I,D,G,rfl,aC w8 _ rfl,Hp.o.size,qQ.mk ((FI.o.ext Hs.o (af _)).ext (ak _ _) Hs.o.size) (af _) (aR Hs.o.size (ak _ _).size) (an Hs.o.size),qQ.mk (FK.o.ext (ak _ _) (af _)) Fh.o.size (ak _ _).size (an (af _)),zhE bc.o bd.o Ug Hs.o.size UA,Hp.o.alloc Hp.o.size _⟩
    |with_reducible exact⟨w7.heap.size,H,I,D,G,rfl,cd HZ.o,Fh.o.size,qQ.mk4 (FI.o.ext Hs.o (af _)) (af _) Hs.o.size (an (af _)),qQ.mk4 FK.o (aR Fh.o.size (ak _ _).size) (af _) (au Rq),zhE bc.o bd.o Ug Hs.o.size UA,bI Hp.o Fh.o.size _ _ _ _⟩
    |with_reducible exact⟨W.heap.size,H,I,D,G,rfl,cd HZ.o,af _,qQ.mk4 (FI.o.ext Hs.o (af _)) (ak _ _).drew.size Hs.o.size (au Rq),qQ.mk4 FK.o Fh.o.size (af _) (au Vh),zhE bc.o bd.o Ug Hs.o.size UA,bI Hp.o (af _) _ _ _ _⟩
 case rest=>
  obtain⟨Z,H,I,D,G,rfl,J,b2,b5,b6,b3,ad⟩:=hcut;obtain⟨br,ck,cn,bq,HZ,cu⟩:=kE b3 b5 b6 ad b2 (ah ct.o ad);have b9:=(aT.1 J).1;have Hu:=zH b9;have S1:=(aA (ah cr.o ad)).2.1;obtain⟨z0,z1,z2,z3⟩:=aA J;obtain⟨c0,c5⟩:=bD (ap.o.ext ad) (a0.o.ext ad);clear b5 b6 ad b2 b9 b3 bu bv S0 ap a0;have c3:=zH (show(es.map (Ed.map f)).length=es.length from bh ..);go_wp2;go_loopw [23] (fun i wr=>∃k:Nat,k<=es.length/\i=.int .i64 k/\(∃C1 m1,aW wr Z #[.int .i64 N,.slice C1 k m1,.slice H F.length I,.slice D go.length G] 54/\aV 155 4 yp wr wc.heap.size (.slice C1 k m1) ((es.map (Ed.map f)).take k))/\bn Z (Z+1) wc wr) (fun i _=>es.length-(intOf i).toNat)
  case atStart=>exact⟨0,aX _,rfl,⟨none,0,J,aV.nil _ _ _ _ _⟩,bn.refl _ _ _⟩
  case round=>
   obtain⟨k,c9,rfl,⟨C1,m1,ao,EF⟩,T⟩:=hrel;clear z0 z1 z2 z3 J S1;have a6:ag w wr:=(a4.o.trans (bq.o.mono a4.o.size)).trans (T.below UN (a4.o.trans (bq.o.mono a4.o.size)).size);have FO:=T.size;by_cases cz:k<es.length
   .obtain⟨e,am⟩:=aB cz;obtain⟨c6,c7,D1,d1,D2,d2,rfl,x0,x1,x2,x3,hi1,hi2⟩:=gZ ((co.o.ext a6).es) am;obtain⟨L1,L2⟩:=cp.o e (aY am);obtain⟨N1,N2⟩:=cj.o e (aY am);have E_:=zH (by rw[dH,cC,am];rfl:(es.map (Ed.map f)).take (k+1)=(es.map (Ed.map f)).take k++[e.map f]);have b7:((es.map (Ed.map f)).take k).length=k:=by rw[cG,bh];omega
    obtain⟨Hw,a5,Gs,H8,Ho⟩:=mD b7 a6 T EF ao;have dc:=(aT.1 ao).1;obtain⟨ek,ev,ei,FR⟩:=e;dsimp only at x0 x1 x2 x3 hi1 hi2 L1 L2 N1 N2;obtain⟨FC,FT⟩:=bA wr (.cells (eD ek ev D1 ei d1 D2 FR d2) 155);have dl:Z≠wr.heap.size:=Rr;clear am b7 EF T ao a6;go_upto_region 5 with(fail)
    generalize wr.alloc _=w2 at FC FT ⊢;obtain⟨Gq,H7,Fv⟩:=dO FC (fun(V:aa) (hV:ag wr V)=>zcQ t f ei Y a1 t.length D1 d1 V rfl (bz.o.ext (a5.o.trans (hV.mono a5.o.size))) (hi1.ext hV) a7 Rr L1) (fun(V:aa) (hV:ag wr V)=>zcQ t f FR Y a1 t.length D2 d2 V rfl (bz.o.ext (a5.o.trans (hV.mono a5.o.size))) (hi2.ext hV) a7 Rr L2);exact Z8
   .obtain rfl:k=es.length:=Rr;obtain⟨z0,z1,z2,z3⟩:=aA ao;have bb:=iY cu.o T (au UN);have dq:Z<wr.heap.size:=(aT.1 ao).1;obtain⟨ca,cb,cc,ce⟩:=aA bb;obtain⟨f0,f1,f2,f3⟩:=bZ bb;have y:=cd (v0:=.int .i64 N) (v1:=.slice C1 es.length m1) (v2:=.slice H F.length I) (v3:=.slice D go.length G) bb;obtain⟨y0,y1,y2,y3⟩:=aA y;obtain⟨ci,Gs⟩:=bD (bI a6 (b:=w.heap.size+1) Rr (.int .i64 N) (.slice C1 es.length m1) (.slice H F.length I) (.slice D go.length G)) T;have a8:aV 155 4 yp wr wc.heap.size (.slice C1 es.length m1) (es.map (Ed.map f)):=WI;have cq:=zH a8;clear y ao bb T EF a8;go_wp2;have dr:=Fb.o;have ch:=HZ.o;have dT:=Hu.o;refine aE (v:=.agg (oF N C1 es m1 H F I D go G)) (by simp[results,results199,go_sem, *]) rfl ⟨C1,m1,H,I,D,G,wc.heap.size,?_,⟨?_,?_,?_,?_,?_,?_,?_⟩,ci.o⟩
    .show Ending.returned (Value.agg #[_,Value.slice C1 _ m1,Value.slice H _ I,Value.slice D _ G])=Ending.returned (Value.agg #[_,Value.slice C1 (es.map (Ed.map f)).length m1,Value.slice H (F.map f).length I,Value.slice D (go.map f).length G])
     rw[bh,bh,bh];rfl
    .omega
    .show wc.heap.size<=(dC wr (w.heap.size+1) _ _ _ _).heap.size
     rw[dV];exact Gs.o.size
    .show aD _ _ (Value.slice H (F.map f).length I) (bt (F.map f))
     rw[bh];exact((ck.o.late Gs.o ch).zcl (b:=w.heap.size+1) Rr).all.now.mono Rr
    .show aD _ _ (Value.slice D (go.map f).length G) (bt (go.map f))
     rw[bh];exact((cn.o.late Gs.o ch).zcl (b:=w.heap.size+1) Rr).all.now.mono Rr
    .show ∀ac,(Value.slice H (F.map f).length I).ownBlock=some ac->(Value.slice D (go.map f).length G).ownBlock≠some ac/\ac<wc.heap.size
     rw[bh,bh];exact br.o.1
    .show ∀ac,(Value.slice D (go.map f).length G).ownBlock=some ac->ac<wc.heap.size
     rw[bh];exact br.o.2
    .show aV _ _ _ _ _ (Value.slice C1 (es.map (Ed.map f)).length m1) (es.map (Ed.map f))
     rw[bh];exact(((cq.o.setCell (a:=⟨w.heap.size+1,0,none⟩) (by show w.heap.size+1<_;omega) _).setCell (a:=⟨w.heap.size+1,1,none⟩) (by show w.heap.size+1<_;omega) _).setCell (a:=⟨w.heap.size+1,2,none⟩) (by show w.heap.size+1<_;omega) _).setCell (a:=⟨w.heap.size+1,3,none⟩) (by show w.heap.size+1<_;omega) _
end Go.Proofs.YtpieilkmmiopfaaGreatDoor
