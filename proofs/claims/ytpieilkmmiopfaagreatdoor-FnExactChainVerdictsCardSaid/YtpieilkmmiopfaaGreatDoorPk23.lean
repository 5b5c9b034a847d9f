/- Parts of the walks and laws (Gr9). Conditions: as stated with each. -/
import Derived.Test.YtpieilkmmiopfaaGreatDoorPk18
namespace Go.Proofs.YtpieilkmmiopfaaGreatDoor
open Go.RowKit Tryz
set_option linter.all false
set_option maxHeartbeats 4000000
set_option maxRecDepth 100000
variable{A1 Q9 Y:aq}{B B' H Rn c1 c2 s:Nat}{J Rg w:aa}{R Ro T v v0 v1 v2 v3 z2:ax}{Rk:du}{g:Gr}
theorem aV.dC{h:Type}{E:World->h->List Value->Prop}{xs:List h}(D:aV Rk s E w B v xs)(F:H<B):aV Rk s E (Go.Proofs.YtpieilkmmiopfaaGreatDoor.dC w H v0 v1 v2 v3) B v xs:=D.same (fun k G _=>nr Rr) (fD dV.symm)
theorem tV.of(F:aW J H (bl g A1 c1 Y c2 Q9 Rn) 54)(h:aV 155 4 yp J B' (.slice A1 g.es.length c1) g.es)(D:B<=B'):tV J B H g:=⟨A1,c1,Y,c2,Q9,Rn,F,h.mono D⟩
theorem tV.of4(G:aW J H #[R,T,z2,Ro] 54)(h:aV 155 4 yp J B' (.slice A1 g.es.length c1) g.es)(D:B<=B')(F:H<B'):tV (dC J H (.int .i64 (g.w:Nat)) (.slice A1 g.es.length c1) (.slice Y g.i.length c2) (.slice Q9 g.o.length Rn)) B H g:=⟨A1,c1,Y,c2,Q9,Rn,cd G,(h.dC F).mono D⟩
theorem tV.ext(I:tV J B H g)(h:ag J Rg):tV Rg B H g:=by obtain⟨A1,c1,D,c2,F,G,N,O⟩:=I;exact⟨A1,c1,D,c2,F,G,ah N h,O.ext h⟩
theorem AE(a b:Gr)(A1 ap a0 a1 a2 a3:aq)(c1 c2 a9 d1 d2 d3:Nat)(w:aa)(ba:mL a)(a7:mL b)(c6:j6 w A1 ap a0 a)(c7:j6 w a1 a2 a3 b):aw 163 (iD (bl a A1 c1 ap c2 a0 a9) (bl b a1 d1 a2 d2 a3 d3)) w (ziB a b w):=by
 obtain⟨ey,cu⟩:=bD (fun(R:aq) (Y:Nat) (h:aa) (cb:ag w h) (ca:aJ h R (iota a.w))=>zhF ba A1 ap a0 R c1 c2 a9 Y h (c6.ext cb) ca) (fun(R:aq) (Y:Nat) (h:aa) (cb:ag w h) (ca:aJ h R (bt (eC a.w b.w)))=>zhG a7 a.w ba.w a1 a2 a3 R d1 d2 d3 Y h (c7.ext cb) ca);have bp:=below_alloc3 w (.cells (bl a A1 c1 ap c2 a0 a9) 54) (.cells (bl b a1 d1 a2 d2 a3 d3) 54) (.cells bQ 54);obtain⟨bv,bz,b0⟩:=cm w (.cells (bl a A1 c1 ap c2 a0 a9) 54) (.cells (bl b a1 d1 a2 d2 a3 d3) 54) (.cells bQ 54);have gf:=ba.w;have gg:=a7.w;have gi:a.es.length+b.es.length<=8192:=by have:=ba.es;have:=a7.es;omega
 have gn:IntKind.i64.wrap ((a.w:Int)+(b.w:Int))=(a.w:Int)+(b.w:Int):=Sq;clear c6 c7 ba a7;go_enter func163,ntmps163
 go_upto_region 1 with(fail)
 generalize ((w.alloc _).alloc _).alloc _=G at bp bv bz b0 ⊢;have b8:=(aT.1 b0).1;obtain⟨fn,fo,fs,fx⟩:=aA bv;obtain⟨d8,d9,ea,eb⟩:=aA bz;go_upto_region 2 with(fail)
 obtain⟨a6,b1⟩:=bA G (.cells #[.int .i64 ((a.w:Int)+(b.w:Int)),bW,bW,bW] 54);obtain⟨cB,cF,cI,a4⟩:=fU (ah bv a6) (ah bz a6) (ah b0 a6) (bp.trans (a6.mono bp.size));clear fn fo fs fx d8 d9 ea eb bv bz b0 bp;generalize G.alloc _=W at a6 b1 cB cF cI a4 ⊢;have e4:=zH b1;have cj:G.heap.size<W.heap.size:=(aT.1 b1).1;obtain⟨bi,cq⟩:=bD cj b8;have J:=aA cB.o;clear a6 b1 cj b8;go_cut [6] from 8 (fun fz h=>∃a5,fz=.pointer (some ⟨a5,0,none⟩)/\tV h W.heap.size a5 a/\W.heap.size<=a5/\ag W h)
 case first=>
  go_region_held3 (fun h=>ae h w.heap.size 0 (.int .i64 (a.w:Nat))/\ae h w.heap.size 1 (.slice A1 a.es.length c1)/\ae h w.heap.size 2 (.slice ap a.i.length c2)/\ae h w.heap.size 3 (.slice a0 a.o.length a9))
   (first|with_reducible exact J|with_reducible exact fJ (az _) J|with_reducible exact fJ (ak _ _).drew J|with_reducible exact fJ Fh.o J|with_reducible exact fJ (Fh.o.alloc Fh.o.size _) J|with_reducible exact fJ D.o J|with_reducible exact fJ (D.o.alloc D.o.size _) J|with_reducible exact fJ (bI D.o (af _) _ _ _ _) J|with_reducible exact fJ (bI D.o Fh.o.size _ _ _ _) J)
   ((first|(go_at_call 62;refine(pr a.w _ Rr).mono ?_;rintro e am ⟨u1,rfl,ad,EG⟩;obtain⟨R,Y,rfl,bb,-⟩:=ad.view;rw[ee]at ad ⊢;have Fh:Hd (ag W am):=Wj;have Gz:=zH bb;have FU:=zH EG;clear ad EG bb)|(go_at_call 205;refine(ey.o R Y _ (a4.o.trans ((Wd:ag W _).mono a4.o.size)) Wb).mono ?_;rintro e ao ⟨bd,bo,co,c0,cp,c3,rfl,ac,-,-,E9⟩;have D:Hd (ag W ao):=Wk;have U:=zH ac;have e7:=zH E9;(first|(have F:=ah (ah (ja W _) FU.o) E9;obtain⟨b2,b3,b4,b5⟩:=aA F;obtain⟨f0,f1,f2,f3⟩:=bZ F;have V:=zH F;clear F)|(have F:=ah (aC am _ rfl) E9;obtain⟨b2,b3,b4,b5⟩:=aA F;obtain⟨f0,f1,f2,f3⟩:=bZ F;have V:=zH F;clear F)|skip);clear ac E9)))
  all_goals
   go_wp2_with fail
   go_meet
   first
    |with_reducible exact⟨ao.heap.size,rfl,tV.of (aC ao _ rfl) (U.o.ext (ak _ _)) Fh.o.size,D.o.size,D.o.alloc D.o.size _⟩
    |with_reducible exact⟨am.heap.size,rfl,tV.of4 V.o U.o (aR Fh.o.size (ak _ _).size) Rq,Fh.o.size,bI D.o Fh.o.size _ _ _ _⟩
    |with_reducible exact⟨W.heap.size,rfl,tV.of4 V.o U.o Fh.o.size Vh,af _,bI D.o (af _) _ _ _ _⟩
 case rest=>
  obtain⟨f7,rfl,c9,gd,Z⟩:=hcut;obtain⟨O,rfl⟩:∃O,O=wc:=⟨wc,rfl⟩;obtain⟨ek,ei,bg⟩:=dO c9 Z (a4.o.trans (Z.mono a4.o.size));have cO:=aA (ah cF.o Z);have T:=aF (fJ Z J).1 cO;obtain⟨e5,e2⟩:=bD (ah e4.o Z) (ah cI.o Z);obtain⟨H,b9⟩:=aM (b.map b.w (· +a.w));have ct:=zH b9;rw[<-b9]at cu;clear c9 Z J cO b9;go_upto_region 3 with(fail)
  go_cut [7] from 8 (fun f4 h=>∃a5,f4=.pointer (some ⟨a5,0,none⟩)/\tV h O.heap.size a5 H/\ag O h)
  case first=>
   go_region_held3 (fun h=>ae h w.heap.size 0 (.int .i64 (a.w:Nat))/\ae h (w.heap.size+1) 0 (.int .i64 (b.w:Nat))/\ae h (w.heap.size+1) 1 (.slice a1 b.es.length d1)/\ae h (w.heap.size+1) 2 (.slice a2 b.i.length d2)/\ae h (w.heap.size+1) 3 (.slice a3 b.o.length d3))
    (first|with_reducible exact T|with_reducible exact iS (az _) T|with_reducible exact iS (ak _ _).drew T|with_reducible exact iS Fh.o T|with_reducible exact iS (Fh.o.alloc Fh.o.size _) T|with_reducible exact iS D.o T|with_reducible exact iS (D.o.alloc D.o.size _) T|with_reducible exact iS (bI D.o (af _) _ _ _ _) T|with_reducible exact iS (bI D.o Fh.o.size _ _ _ _) T)
    ((first|(go_at_call 66;refine(uF a.w b.w _ Rr Rr).mono ?_;rintro e am ⟨u1,rfl,ad,EG⟩;obtain⟨R,Y,rfl,bb,-⟩:=ad.view;rw[aQ,dw]at ad ⊢;have Fh:Hd (ag O am):=Wj;have Gz:=zH bb;have FU:=zH EG;clear ad EG bb)|(go_at_call 205;refine(cu.o R Y _ (bg.o.trans ((Wd:ag O _).mono bg.o.size)) Wb).mono ?_;rintro e ao ⟨bd,bo,co,c0,cp,c3,rfl,ac,-,-,E9⟩;have D:Hd (ag O ao):=Wk;have U:=zH ac;have e7:=zH E9;(first|(have F:=ah (ah (ja O _) FU.o) E9;obtain⟨b2,b3,b4,b5⟩:=aA F;obtain⟨f0,f1,f2,f3⟩:=bZ F;have V:=zH F;clear F)|(have F:=ah (aC am _ rfl) E9;obtain⟨b2,b3,b4,b5⟩:=aA F;obtain⟨f0,f1,f2,f3⟩:=bZ F;have V:=zH F;clear F)|skip);clear ac E9)))
   all_goals
    go_wp2_with fail
    go_meet
    first
     |with_reducible exact⟨ao.heap.size,rfl,tV.of (aC ao _ rfl) (U.o.ext (ak _ _)) Fh.o.size,D.o.alloc D.o.size _⟩
     |with_reducible exact⟨am.heap.size,rfl,tV.of4 V.o U.o (aR Fh.o.size (ak _ _).size) Rq,bI D.o Fh.o.size _ _ _ _⟩
     |with_reducible exact⟨O.heap.size,rfl,tV.of4 V.o U.o Fh.o.size Vh,bI D.o (af _) _ _ _ _⟩
  case rest=>
   obtain⟨f8,rfl,fd,ab⟩:=hcut;obtain⟨bd,bo,co,c0,cp,c3,c4,cn⟩:=ek.o;obtain⟨eg,f1,f5,f2,f6,f3,c5,d7⟩:=fd;have em:=zH (show ∀g,(Value.slice bd a.es.length bo).ownBlock=some g->g<O.heap.size from fun g e=>by obtain⟨cs,ac⟩:=cn;exact(bL ac.outer g e).2)
   obtain⟨e9,fa⟩:=bD (cn.ext ab) d7;have db:H.es.length=b.es.length:=by rw[ct.o];exact bh ..
   have cr:=zH (by rw[ct.o];rfl:ff a b=a.es++H.es);obtain⟨-,g0,-,-⟩:=aA (ah c4 ab);obtain⟨-,u1,-,-⟩:=aA c5;obtain⟨ej,b7,e3⟩:=dO (bg.o.trans (ab.mono bg.o.size)) (ah e5.o ab) (ah e2.o ab);have dc:=ei.o.size;have dl:=ab.size;obtain⟨cz,cA,es⟩:=dO dc dl db;obtain⟨gs,gw,gA,gB⟩:=aA b7.o;obtain⟨f0,f9,ga,gb⟩:=bZ b7.o;clear c4 cn c5 d7 ab db dc dl;go_upto_region 5 with((at_builtin;refine rY zf0 rfl (.tmp 31) (.tmp 33) rfl W.heap.size O.heap.size wc (.slice bd a.es.length bo) (.slice eg H.es.length f1) a.es H.es e9.o fa.o em.o cz.o cA.o (by have:=es.o;omega) rfl rfl ?_;intro gC a8 ci cc;obtain⟨I,N,rfl,-⟩:=ci.view;have e0:=zH ci;have b6:=zH cc;have br:=(cc.block G.heap.size bi.o).trans b7.o;obtain⟨dq,ck,dr,dT⟩:=aA br;obtain⟨d0,d4,d5,d6⟩:=bZ br;have e6:=zH br;clear ci cc br))
   have bu:=bm a8 G.heap.size 1 _ _ (.slice I (a.es.length+H.es.length) N) e6.o;simp only[zA]at bu;have gc:w.heap.size+1+1<G.heap.size:=cq.o;have bc:(a8.setCell ⟨G.heap.size,1,none⟩ (.slice I (a.es.length+H.es.length) N)).heap[w.heap.size+1+1]?=some (.cells bQ 54 (0,0)):=
    (aZ _ _ _ _ (by show w.heap.size+1+1≠G.heap.size;omega)).trans ((b6.o.block _ (by have:=bi.o;omega)).trans e3.o)
   have bq:aV 155 4 yp (a8.setCell ⟨G.heap.size,1,none⟩ (.slice I (a.es.length+H.es.length) N)) W.heap.size (.slice I (a.es.length+H.es.length) N) (a.es++H.es):=by have:=e0.o.setCell (a:=⟨G.heap.size,1,none⟩) bi.o (.slice I (a.es.length+H.es.length) N);rwa[bx]at this
   have ce:Below w.heap.size w (a8.setCell ⟨G.heap.size,1,none⟩ (.slice I (a.es.length+H.es.length) N)):=(ej.o.trans (b6.o.mono a4.o.size)).setCell (p:=⟨G.heap.size,1,none⟩) (by show w.heap.size<=G.heap.size;omega) _;have c8:W.heap.size<=(a8.setCell ⟨G.heap.size,1,none⟩ (.slice I (a.es.length+H.es.length) N)).heap.size:=by have:=b6.o.size;have:=cz.o;have:=cA.o;simp;omega
   clear dq ck dr dT d0 d4 d5 d6;generalize a8.setCell ⟨G.heap.size,1,none⟩ _=gL at bu bc bq ce c8 ⊢;obtain⟨dq,ck,dr,dT⟩:=aA bu;obtain⟨b2,b3,b4,b5⟩:=aA bc;obtain⟨d0,d4,d5,d6⟩:=bZ bc;obtain⟨m,ch⟩:=aM (a.es.length+H.es.length);rw[<-ch]at ck bq ⊢;have ev:=zH ch;have y:=cd (v0:=.int .i64 ((a.w:Int)+(b.w:Int))) (v1:=.slice I m N) (v2:=bW) (v3:=bW) bc;obtain⟨d8,d9,ea,eb⟩:=aA y;obtain⟨eo,e1,e8⟩:=dO (bI ce (b:=w.heap.size+1+1) Rr (.int .i64 ((a.w:Int)+(b.w:Int))) (.slice I m N) (.slice none 0 0) (.slice none 0 0)) bq c8;clear bu bc bq ce y ch;go_wp2;refine aE (v:=.agg (yW ((a.w:Int)+(b.w:Int)) I m N)) (by simp[results,results163,go_sem, *]) rfl ⟨I,N,?_,?_,eo.o⟩
   .rw[cr.o,bx,<-ev.o];rfl
   .rw[cr.o,dV];have fl:=e1.o.fr (fun _ _ _ _ a7 fb=>fb.ext a7) e8.o;have b8:=cq.o;have cj:=bi.o;exact(fl.dC (b:=w.heap.size+1+1) Rr).to Rr (af _)
end Go.Proofs.YtpieilkmmiopfaaGreatDoor
