/- Parts of the walks and laws (Gr10, Gr11, Gr12). Conditions: as stated with each. -/
import Derived.Test.YtpieilkmmiopfaaGreatDoorPk23
namespace Go.Proofs.YtpieilkmmiopfaaGreatDoor
open Go.RowKit Tryz
set_option linter.all false
set_option maxHeartbeats 4000000
set_option maxRecDepth 100000
variable{B H Rn k n s x:Nat}{J Rg w:aa}{Q6 QP Ra:dk}{R Ro T v v1 v2 v3 v4:ax}{e:Ed}{g:Gr}{l:bO}
theorem BK{h D:Type}{l:List h}{m:List D}{x:h}{y:D}(F:l[k]?=some x)(G:m[k]?=some y):(l.zip m).take (k+1)=(l.zip m).take k++[(x,y)]:=by rw[dH,List.getElem?_zip_eq_some (z:=(x,y)) |>.2 ⟨F,G⟩];rfl
theorem kp3{p2 a:dk}(h:Ra.block≠a.block)(D:p2.block≠a.block)(F:Q6.block≠a.block)(t:w.cell? Ra=some v1/\w.cell? p2=some v2/\w.cell? Q6=some v3):(w.setCell a v).cell? Ra=some v1/\(w.setCell a v).cell? p2=some v2/\(w.setCell a v).cell? Q6=some v3:=⟨(bV h).trans t.1,(bV D).trans t.2.1,(bV F).trans t.2.2⟩
theorem kp4{p2 a:dk}(h:Ra.block≠a.block)(D:p2.block≠a.block)(F:Q6.block≠a.block)(G:QP.block≠a.block)(t:w.cell? Ra=some v1/\w.cell? p2=some v2/\w.cell? Q6=some v3/\w.cell? QP=some v4):(w.setCell a v).cell? Ra=some v1/\(w.setCell a v).cell? p2=some v2/\(w.setCell a v).cell? Q6=some v3/\(w.setCell a v).cell? QP=some v4:=⟨(bV h).trans t.1,(bV D).trans t.2.1,(bV F).trans t.2.2.1,(bV G).trans t.2.2.2⟩
theorem yG(v0 v1 v2 v3 v4:ax)(w:aa):(Instr.field 204 (.agg #[v0,v1,v2,v3,v4]) 0).run prog w=.ok (.agg #[v0,v1,v2,v3]) w:=RP
theorem BL(a b:Gr)(A1 G I ad am T:aq)(c1 c2 Z d1 d2 d3:Nat)(w:aa)(b1:mL a)(U:mL b)(gd:a.o.length=b.i.length)(a1:j6 w A1 G I a)(d0:j6 w ad am T b):aw 121 (iD (bl a A1 c1 G c2 I Z) (bl b ad d1 am d2 T d3)) w (sL (nX a b) w):=by
 obtain⟨cb,c4⟩:=bD (fun(h:aa) (N:ag w h)=>AE a b A1 G I ad am T c1 c2 Z d1 d2 d3 h b1 U (a1.ext N) (d0.ext N)) (show ∀h,ag w h->j6 h A1 G I a/\j6 h ad am T b from fun h N=>⟨a1.ext N,d0.ext N⟩);have d5:=below_alloc3 w (.cells (bl a A1 c1 G c2 I Z) 54) (.cells (bl b ad d1 am d2 T d3) 54) (.cells bQ 54);obtain⟨a3,a4,cu⟩:=cm w (.cells (bl a A1 c1 G c2 I Z) 54) (.cells (bl b ad d1 am d2 T d3) 54) (.cells bQ 54);obtain⟨a7,V⟩:=bD b1 U;have hG:=b1.w;have d8:=U.w;have hF:=b1.o;have hH:=U.i;obtain⟨es,gf⟩:=aM ((ff a b).length);obtain⟨e9,e8⟩:=bD gf gd;clear a1 d0 b1 U gf gd;go_enter func121,ntmps121
 go_upto_region 1 with(fail)
 generalize ((w.alloc _).alloc _).alloc _=hz at d5 a3 a4 cu ⊢;have ck:=(aT.1 cu).1;have cO:=zH ck;obtain⟨ab,b8,ac,b9⟩:=aA a3;obtain⟨bp,ey,e0,bq⟩:=aA a4;obtain⟨c0,fs,fx,fz⟩:=fU d5 a3 a4 cu;clear d5 a3 a4 cu ck;go_upto_region 2 with(go_at_call 163;refine(cb.o _ c0.o).mono ?_;intro e D ap;obtain⟨cA,dc,a0,b3,bd⟩:=ap;rw[<-e9.o]at a0;subst a0;have e5:=zH b3;have c3:=zH bd;clear b3 bd)
 obtain⟨cn,cq⟩:=bA D (.cells (yW ((a.w:Int)+(b.w:Int)) cA es dc) 54);clear ab b8 ac b9 bp ey e0 bq;obtain⟨e6,br⟩:=bD (e5.o.ext cn (af _)) (c3.o.trans (cn.mono c3.o.size));generalize D.alloc _=H at cn cq e6 br ⊢;have fb:=zH cq;have ct:D.heap.size<H.heap.size:=(aT.1 cq).1;obtain⟨ce,c7,bz,c8,hf,ao⟩:=kE ct c3.o.size (ah fs.o br.o) (ah fx.o br.o) (ah fz.o br.o) (c0.o.trans (br.o.mono c0.o.size));clear cn cq ct e5 cb fs fx fz;go_upto_region 3 with(fail)
 have fa:=zH (aV.lit 202 2 EPr H H.heap.size (af _));have co:=ak H (.cells #[] 202);have e2:=zH co;obtain⟨ab,b8,ac,b9⟩:=aA (ah bz.o co);generalize H.alloc _=hA at fa e2 ab b8 ac b9 co ⊢;clear co;go_wp2;clear ab b8 ac b9;obtain⟨Y,d4⟩:=aM (xW a b);obtain⟨c5,bu⟩:=bD d4 (by rw[d4];unfold xW;rw[List.length_zip,bh,<-e8.o,wB]:Y.length=a.o.length);clear d4;go_loopw [6,16] (fun u i wr=>∃k:Nat,k<=a.o.length/\i=.int .i64 k/\aV 202 2 EPr wr H.heap.size u (Y.take k)/\ag H wr) (fun _ i _=>a.o.length-(intOf i).toNat)
 case atStart=>exact⟨0,aX _,rfl,fa.o,e2.o⟩
 case round=>
  obtain⟨k,bg,rfl,a2,R⟩:=hrel;obtain⟨cc,a8⟩:=bD a2 R;obtain⟨f6,f7⟩:=c4.o wr (ao.o.trans (R.mono ao.o.size));by_cases EH:k<a.o.length
  .obtain⟨x,b5⟩:=aB EH;have ea:k<b.i.length:=by rw[<-e8.o];exact EH
   obtain⟨y,b6⟩:=aB ea;obtain⟨hC,hS,rfl,f8⟩:=f6.o.here (k:=k) S_;obtain⟨ch,ev,rfl,f9⟩:=f7.i.here (k:=k) (by rw[aQ];exact ea);have hh:=f8 k _ (dJ b5);have gL:=zH (f9 k _ (dJ b6));have ga:ae H ch (ev+k) (.int .i64 (y:Nat)):=by
    obtain⟨hB,hR,bc,hn⟩:=(c4.o H ao.o).2.i.here (k:=k) (by rw[aQ];exact ea);cases bc
    exact hn k _ (dJ b6)
   obtain⟨z,O⟩:=aM (y+a.w);have hu:y<b.w:=V.o.inr y (au (aY b6));have hL:IntKind.i64.wrap ((a.w:Int)+(y:Int))=(z:Int):=Sq;obtain⟨ha,EW⟩:=bD (by rw[c5.o];exact BK b5 (by rw[cC,b6,O];rfl):Y.take (k+1)=Y.take k++[(x,z)]) (by rw[cG,bu.o];omega:(Y.take k).length=k);obtain⟨u0,hg,rfl,-⟩:=a2.view;rw[EW.o]at cc ⊢;have GY:=zH EH;have a3:=al R (aA bz.o).1;obtain⟨-,-,a4,-⟩:=aA (ah c8.o R);have F:=aF a3 (aF a4 gL.o);obtain⟨fn,g4,g5,g6⟩:=fU R.size (show w.heap.size<H.heap.size from(aT.1 bz.o).1) (show w.heap.size+1<H.heap.size from(aT.1 c8.o).1) (show ch<H.heap.size from jA _ _ ga);clear a2 R f6 f7 f8 f9 b5 b6 O hu a3 a4 ga;go_upto_region 6 with(fail)
   clear hh;go_region_held3 (fun h=>ae h w.heap.size 0 (.int .i64 (a.w:Nat))/\ae h (w.heap.size+1) 2 (.slice (some ⟨ch,ev,none⟩) b.i.length d2)/\ae h ch (ev+k) (.int .i64 (y:Nat)))
    (first|with_reducible exact F|with_reducible exact kf (az _) F|with_reducible exact kf (ak _ _) F|with_reducible exact kf (ak _ _).drew F|with_reducible exact f4)
    ((refine fN zix rfl (.tmp 21) (.tmp 32) rfl H.heap.size (wr.alloc (.cells (bf x z) 202)).drew (.slice u0 k hg) (Y.take k) (x,z) [.int .i64 x,.int .i64 z] wr.heap.size (cc.o.ext (ak _ _).drew) rfl TK (iV.flat (cc.o.ext (ak _ _).drew) (by have:=fn.o;simp;omega) fun W=>rfl) SQ (by have:=fn.o;simp;omega) rfl rfl (ja _ _) ?_;intro ci hE hU eb hr hl b2;rw[EW.o]at eb ⊢;have g8:=zH eb;have gC:=zH ((a8.o.trans ((ak _ _).drew.mono a8.o.size)).trans b2);have f4:=aF (Below.si b2 (kf (ak _ _).drew F).1 g4.o) (aF (Below.si b2 (kf (ak _ _).drew F).2.1 g5.o) (Below.si b2 (kf (ak _ _).drew F).2.2 g6.o));clear eb hr hl b2))
   have hJ:=GY.o;clear F f4;go_wp2;go_roundw
   case rel=>exact⟨k+1,Tp,Rt,by rw[ha.o];exact g8.o,gC.o⟩
   case measure=>have:=GY.o;simp[intOf];omega
  .obtain rfl:k=a.o.length:=Rr;rw[cY (by rw[bu.o];exact af _)]at a2;obtain⟨e1,f5,rfl,-⟩:=a2.view;rw[bu.o]at ⊢;have g9:=zH a2;have d8:=ao.o.trans (R.mono ao.o.size);have e3:=zH d8;have e7:=zH (show ∀h,ag wr h->j6 h A1 G I a/\j6 h ad am T b from fun h N=>c4.o h (e3.o.trans (N.mono e3.o.size)));obtain⟨g0,g7⟩:=bD (fun(h:aa) (N:ag wr h)=>(by have:=ls G c2 (bt a.i) h (e7.o h N).1.i (by rw[aQ];have:=a7.o.i;omega);rw[aQ]at this;exact this:aw 71 #[.slice G a.i.length c2] h fun e w'=>∃u,e=.returned u/\aD w' h.heap.size u (bt a.i)/\ag h w')) (fun(ca:aq) (db:Nat) (h:aa) (N:ag wr h) (hk:aJ h ca (bt (eC a.w b.w)))=>pF (bt (eC a.w b.w)) (fun x=>x+a.w) b.o ca db b.w T d3 h RQ hk (e7.o h N).2.o SW (by have:=V.o.o;omega) (fun x b5=>nT V.o.inr a.w x (an (au b5))));obtain⟨ab,-,ac,-⟩:=aA (ah bz.o R);obtain⟨bp,-,-,bq⟩:=aA (ah c8.o R);have F:=aF ab (aF ac (aF bp bq));obtain⟨a9,ba⟩:=bD (show w.heap.size≠D.heap.size by have:=(aT.1 bz.o).1;have a0:=c7.o;have cj:=cO.o;omega) (show w.heap.size+1≠D.heap.size by have a0:=c7.o;have cj:=cO.o;omega);clear a2 R d8 cc ab ac bp bq;go_upto_region 8 with(fail)
   go_region_held3 (fun h=>ae h w.heap.size 0 (.int .i64 (a.w:Nat))/\ae h w.heap.size 2 (.slice G a.i.length c2)/\ae h (w.heap.size+1) 0 (.int .i64 (b.w:Nat))/\ae h (w.heap.size+1) 3 (.slice T b.o.length d3))
    (first|with_reducible exact F|with_reducible exact fJ (az _) F|with_reducible exact fJ c6.o F|with_reducible exact fJ bv.o F|with_reducible exact fJ bb.o F|with_reducible exact kp4 a9.o a9.o ba.o ba.o (fJ bb.o F)|with_reducible exact kp4 a9.o a9.o ba.o ba.o (kp4 a9.o a9.o ba.o ba.o (fJ bb.o F)))
    ((first|(go_at_call 71;refine(g0.o _ (az _)).mono ?_;rintro e hV ⟨u1,rfl,cr,bd⟩;obtain⟨a5,bi,rfl,-⟩:=cr.view;have c6:=zH ((az wr).trans (bd.mono (az wr).size));have hb:=zH ((cr.fr bd.size).to (lo':=wr.heap.size) Rq (af _));rw[aQ]at cr ⊢;clear cr bd)|(go_at_call 66;refine(uF a.w b.w _ Rr Rr).mono ?_;rintro e hW ⟨u2,rfl,ej,d6⟩;obtain⟨ca,db,rfl,gc,-⟩:=ej.view;rw[aQ,dw]at ej ⊢;have bv:=zH (c6.o.trans (d6.mono c6.o.size));have g3:=zH gc;have fo:=zH d6;clear ej d6 gc)|(go_at_call 164;refine(g7.o ca db _ bv.o g3.o).mono ?_;rintro e b7 ⟨a6,bo,rfl,gb,d7⟩;have bb:=zH (bv.o.trans (d7.mono bv.o.size));have hd:=zH d7;have hc:=zH gb;have O:=ah (ah fb.o a8.o) bb.o;obtain⟨gs,gw,gA,gB⟩:=aA O;obtain⟨f0,f1,f2,f3⟩:=bZ O;clear O gb d7)))
   have b0:=a8.o.trans (bb.o.mono a8.o.size);have gi:=ah fb.o b0;have eg:=bm b7 D.heap.size 2 _ _ (.slice a5 a.i.length bi) gi;simp only[zA]at eg;have cp:=bm _ D.heap.size 3 _ _ (.slice a6 b.o.length bo) eg;simp only[zA]at cp;have b4:∀k,k≠D.heap.size->((b7.setCell ⟨D.heap.size,2,none⟩ (.slice a5 a.i.length bi)).setCell ⟨D.heap.size,3,none⟩ (.slice a6 b.o.length bo)).heap[k]?=b7.heap[k]?:=fun k bg=>(aZ _ _ _ _ bg).trans (aZ _ _ _ _ bg)
   have ct:=ce.o;have hv:=c7.o;have ck:=cO.o;have ht:=a8.o.size;have dl:=((e6.o.ext b0 (fV ce.o)).same (fun k _ bg=>b4 k Rr)).now;have dq:=(((hb.o.ext fo.o (af _)).ext hd.o fo.o.size).same (fun k bg _=>b4 k Rr)).now;have hs:=bv.o.size;have dr:=(hc.o.same (fun k bg _=>b4 k Rr)).now;have dT:=((g9.o.ext bb.o).setCell (a:=⟨D.heap.size,2,none⟩) ce.o (.slice a5 a.i.length bi)).setCell (a:=⟨D.heap.size,3,none⟩) ce.o (.slice a6 b.o.length bo);obtain⟨hx,hD,bc,ci,-⟩:=dT.view;simp only[dW]at bc;obtain⟨rfl,-,rfl⟩:=bc;have ei:=(b4 (w.heap.size+1+1) Rr).trans (ah hf.o b0);have d9:Below w.heap.size w ((b7.setCell ⟨D.heap.size,2,none⟩ (.slice a5 a.i.length bi)).setCell ⟨D.heap.size,3,none⟩ (.slice a6 b.o.length bo)):=((ao.o.trans (b0.mono ao.o.size)).setCell (p:=⟨D.heap.size,2,none⟩) (by show w.heap.size<=D.heap.size;omega) _).setCell (p:=⟨D.heap.size,3,none⟩) (by show w.heap.size<=D.heap.size;omega) _;generalize (b7.setCell ⟨D.heap.size,2,none⟩ _).setCell ⟨D.heap.size,3,none⟩ _=X at cp dl dq dr dT ci ei d9 ⊢;obtain⟨J,a1⟩:=aM (iA (im a b) Y);obtain⟨fl,fd,e4⟩:=dO (by rw[a1,c5.o];rfl:nX a b=J) ei d9;have g2:=zH (show aw 165 #[.agg #[.int .i64 ((a.w:Int)+(b.w:Int)),.slice cA es dc,.slice a5 a.i.length bi,.slice a6 b.o.length bo],.slice e1 a.o.length f5] X (fun e w'=>∃A1 c1 G c2 I Z cz gn c9,e=.returned (.agg #[(J.w:Nat),.slice A1 J.es.length c1,.slice G J.i.length c2,.slice I J.o.length Z,.slice cz gn c9])/\Fr w' X.heap.size w'.heap.size (fun W=>j6 W A1 G I J)/\ag X w') from by
    have hm:∀e∈(im a b).es,e.i.length<=65536/\e.o.length<=65536:=fun e ho=>by
     rcases eh.1 ho with ap|ap
     .have:=a7.o.el e ap;omega
     .obtain⟨bc,hp,rfl⟩:=cM.1 ap;have:=V.o.el bc hp;simp only[Ed.map,bh];omega
    have hq:(im a b).es.length<=65536:=by
     show(ff a b).length<=65536
     unfold ff;rw[bx,bh];have:=a7.o.es;have:=V.o.es;omega
    have gg:(im a b).o.length=b.o.length:=bh ..;have:=zey (im a b) Y cA a5 a6 e1 dc bi bo f5 X ⟨dl,dq,dr⟩ ci (rp a7.o.inr V.o.inr) (by rw[c5.o];exact uI a7.o.inr V.o.inr) (by show a.w+b.w<=65536;omega) hq (by have:=a7.o.i;show a.i.length<=65536;omega) (by rw[gg];have:=V.o.o;omega) hm (by rw[bu.o];omega);rw[bu.o,show(im a b).es.length=es from e9.o.symm,gg]at this;refine gG this fun e w' ap=>?_
    obtain⟨A1,c1,G,c2,I,Z,cz,c9,a0,cj,hj⟩:=ap;rw[<-a1]at a0 cj;exact⟨A1,c1,G,c2,I,Z,cz,_,c9,a0,cj,hj⟩)
   obtain⟨ab,b8,ac,b9⟩:=aA cp;clear b0 gi eg cp b4 ct hv ck ht dl dq hs dr dT ci ei d9 a1 gs gw gA gB f0 f1 f2 f3 F;have hI:=yG;go_wp2_with (go_at_call 165;refine g2.o.mono ?_;rintro e hT ⟨cB,ek,cF,em,cI,eo,hy,gn,hQ,rfl,b3,U⟩;have O:=ah fd.o U;obtain⟨gs,gw,gA,gB⟩:=aA O;obtain⟨hM,hN,hO,hP⟩:=bZ O;have he:=zH O;have g1:=zH b3;have cb:=zH U;clear O b3 U)
   have y:=cd (v0:=.int .i64 (J.w:Nat)) (v1:=.slice cB J.es.length ek) (v2:=.slice cF J.i.length em) (v3:=.slice cI J.o.length eo) he.o;obtain⟨bp,ey,e0,bq⟩:=aA y;unfold dC at bp ey e0 bq;refine aE (v:=.agg (bl J cB ek cF em cI eo)) (by simp[results,results121,go_sem, *]) rfl ⟨cB,ek,cF,em,cI,eo,by rw[fl.o],?_,bI (e4.o.trans (cb.o.mono e4.o.size)) (b:=w.heap.size+1+1) Rr _ _ _ _⟩;rw[fl.o];have hw:=(aT.1 fd.o).1;exact(g1.o.dC (b:=w.heap.size+1+1) hw).to Rr (fD dV.symm)
theorem zcq(F G:bO)(A1 H:aq)(c1 c2 I n2 n:Nat)(h:aa)(Z:aJ h A1 (bt F))(ab:aJ h H (bt G))(U:I=F.length)(V:n2=G.length)(Y:n=(F++G).length)(ap:I+n2<=1048576):aw 65 #[.slice (some ⟨h.heap.size,0,none⟩) 2 2] (h.alloc (.cells (kX A1 I c1 H n2 c2) 26)) fun e w'=>∃N R,e=.returned (.slice N n R)/\Fr w' h.heap.size w'.heap.size (fun W=>aJ W N (bt (F++G)))/\ag h w':=by
 have J:=ak h (.cells (kX A1 I c1 H n2 c2) 26);obtain⟨am,ao,-,-⟩:=dd (aC h (.cells (kX A1 I c1 H n2 c2) 26) rfl);have ac:bk (h.alloc (.cells (kX A1 I c1 H n2 c2) 26)) (some ⟨h.heap.size,0,none⟩) [bt F,bt G]:=an ⟨h.heap.size,0,rfl,fun k r D=>by
  match k,D with
  |0,D=>simp at D;subst D;exact⟨A1,c1,by rw[aQ,<-U];exact am,Z.ext J⟩
  |1,D=>simp at D;subst D;exact⟨H,c2,by rw[aQ,<-V];exact ao,ab.ext J⟩
  |k+2,D=>simp at D⟩
 have:=tz [bt F,bt G] (some ⟨h.heap.size,0,none⟩) 2 _ ac Rq (fun k _=>by
  match k with
  |0=>simp
  |1=>simp[aQ];omega
  |k+2=>simp[aQ];omega)
 refine gG this ?_;rintro e w' ⟨u,rfl,O,T⟩;have ad:[bt F,bt G].flatten=bt (F++G):=by simp[kI]
 rw[ad]at O;obtain⟨N,R,rfl,-⟩:=O.view;rw[aQ,<-Y];rw[aQ]at O;exact⟨N,R,rfl,(O.fr T.size).to J.size (af _),J.trans (T.mono J.size)⟩
theorem Bo(a b:Gr)(A1 H I Y J N:aq)(c1 c2 a1 d1 d2 d3:Nat)(w:aa)(a9:mL a)(ba:mL b)(cn:j6 w A1 H I a)(co:j6 w Y J N b):aw 122 (iD (bl a A1 c1 H c2 I a1) (bl b Y d1 J d2 N d3)) w (sL (jT a b) w):=by
 obtain⟨c4,e4⟩:=bD (fun(h:aa) (F:ag w h)=>AE a b A1 H I Y J N c1 c2 a1 d1 d2 d3 h a9 ba (cn.ext F) (co.ext F)) (show ∀h,ag w h->j6 h A1 H I a/\j6 h Y J N b from fun h F=>⟨cn.ext F,co.ext F⟩);have cp:=below_alloc3 w (.cells (bl a A1 c1 H c2 I a1) 54) (.cells (bl b Y d1 J d2 N d3) 54) (.cells bQ 54);obtain⟨b7,b8,b9⟩:=cm w (.cells (bl a A1 c1 H c2 I a1) 54) (.cells (bl b Y d1 J d2 N d3) 54) (.cells bQ 54);obtain⟨e2,a6⟩:=bD a9 ba;have gs:=a9.w;have gA:=ba.w;have gn:=a9.o;have gw:=ba.i;obtain⟨b6,em⟩:=aM ((ff a b).length);have db:=zH em;clear cn co a9 ba em;go_enter func122,ntmps122
 go_upto_region 1 with(fail)
 generalize ((w.alloc _).alloc _).alloc _=d8 at cp b7 b8 b9 ⊢;have b1:=(aT.1 b9).1;have a4:=zH b1;obtain⟨ca,ey,bo,bp⟩:=aA b7;obtain⟨bq,c0,a2,a3⟩:=aA b8;obtain⟨cb,d5,d6,d7⟩:=fU cp b7 b8 b9;clear cp b7 b8 b9 b1;go_upto_region 2 with(go_at_call 163;refine(c4.o _ cb.o).mono ?_;intro e D fs;obtain⟨br,bz,b0,ea,bb⟩:=fs;rw[<-db.o]at b0;subst b0;have c6:=zH ea;have cc:=zH bb;clear ea bb)
 obtain⟨b2,b4⟩:=bA D (.cells (yW ((a.w:Int)+(b.w:Int)) br b6 bz) 54);clear ca ey bo bp bq c0 a2 a3;obtain⟨c7,a5⟩:=bD (c6.o.ext b2 (af _)) (cc.o.trans (b2.mono cc.o.size));generalize D.alloc _=fo at b2 b4 c7 a5 ⊢;have dq:=zH b4;have b5:D.heap.size<fo.heap.size:=(aT.1 b4).1;obtain⟨d0,ce⟩:=bD b5 cc.o.size;obtain⟨R,eo⟩:=aM ((a.i++b.i.map (fun x=>x+a.w)).length);obtain⟨T,es⟩:=aM ((a.o++b.o.map (fun x=>x+a.w)).length);obtain⟨dc,dl⟩:=bD eo es;clear eo es;obtain⟨ch,d4,fn,bu⟩:=fU (ah d5.o a5.o) (ah d6.o a5.o) (ah d7.o a5.o) (cb.o.trans (a5.o.mono cb.o.size));have fz:=aF (aA ch.o).1 (aA d4.o).1;obtain⟨ca,bq⟩:=fz;clear b2 b4 b5 c6 c4 d5 d6 d7;go_upto_region 3 with(go_at_call 66;refine(uF a.w b.w _ Rr Rr).mono ?_;rintro e wr ⟨u2,rfl,cz,bc⟩;obtain⟨c3,d9,rfl,ek,-⟩:=cz.view;rw[aQ,dw]at cz ⊢;have Z:=zH bc;have c9:=zH ek;clear cz bc ek)
 clear ca bq;have c5:=zH (bu.o.trans (Z.o.mono bu.o.size));have bv:=zH (show ∀h,ag wr h->j6 h A1 H I a/\j6 h Y J N b from fun h F=>e4.o h (c5.o.trans (F.mono c5.o.size)));obtain⟨e5,e6⟩:=bD (fun(h:aa) (F:ag wr h)=>pF (bt (eC a.w b.w)) (fun x=>x+a.w) b.i c3 d9 b.w J d2 h RQ (c9.o.ext F) (bv.o h F).2.i SW (by have:=a6.o.i;omega) (fun x cA=>nT a6.o.inr a.w x (au cA))) (fun(h:aa) (F:ag wr h)=>pF (bt (eC a.w b.w)) (fun x=>x+a.w) b.o c3 d9 b.w N d3 h RQ (c9.o.ext F) (bv.o h F).2.o SW (by have:=a6.o.o;omega) (fun x cA=>nT a6.o.inr a.w x (an (au cA))));obtain⟨-,-,bo,bp⟩:=aA (ah ch.o Z.o);obtain⟨-,-,a2,a3⟩:=aA (ah d4.o Z.o);have G:=aF bo (aF bp (aF a2 a3));obtain⟨ao,ap,e8,e9⟩:=fU (show w.heap.size≠D.heap.size by have:=(aT.1 ch.o).1;have b0:=ce.o;have fx:=a4.o;omega) (show w.heap.size+1≠D.heap.size by have b0:=ce.o;have fx:=a4.o;omega) (show a.i.length+b.i.length<=1048576 by have:=e2.o.i;omega) (show a.o.length+b.o.length<=1048576 by have:=a6.o.o;omega);clear bo bp a2 a3;go_region_held3 (fun h=>ae h w.heap.size 2 (.slice H a.i.length c2)/\ae h w.heap.size 3 (.slice I a.o.length a1)/\ae h (w.heap.size+1) 2 (.slice J b.i.length d2)/\ae h (w.heap.size+1) 3 (.slice N b.o.length d3))
  (first|with_reducible exact G|with_reducible exact fJ (az _) G|with_reducible exact fJ ab.o G|with_reducible exact fJ (ab.o.alloc ab.o.size _) G|with_reducible exact fJ a7.o G|with_reducible exact fJ ac.o G|with_reducible exact fJ (ac.o.alloc ac.o.size _) G|with_reducible exact fJ a0.o G|with_reducible exact kp4 ao.o ao.o ap.o ap.o (fJ a0.o G)|with_reducible exact kp4 ao.o ao.o ap.o ap.o (kp4 ao.o ao.o ap.o ap.o (fJ a0.o G)))
  ((first|(go_at_call 164;with_reducible refine(e5.o _ (az _)).mono ?_;rintro e cI ⟨e0,f6,rfl,eb,bb⟩;have ab:=zH ((az wr).trans (bb.mono (az wr).size));have fa:=zH eb.now;clear eb bb)|(go_at_call 65;with_reducible refine(zcq a.i (b.i.map (fun x=>x+a.w)) H e0 c2 f6 a.i.length b.i.length R cI (bv.o cI ab.o).1.i fa.o rfl (bh ..).symm dc.o e8.o).mono ?_;rintro e gi ⟨U,ad,rfl,eg,bc⟩;have a7:=zH (ab.o.trans (bc.mono ab.o.size));have fb:=zH eg;clear eg bc)|(go_at_call 164;with_reducible refine(e6.o _ a7.o).mono ?_;rintro e cO ⟨e1,f7,rfl,ei,cq⟩;have ac:=zH (a7.o.trans (cq.mono a7.o.size));have fd:=zH ei.now;have dr:=zH cq;clear ei cq)|(go_at_call 65;with_reducible refine(zcq a.o (b.o.map (fun x=>x+a.w)) I e1 a1 f7 a.o.length b.o.length T cO (bv.o cO ac.o).1.o fd.o rfl (bh ..).symm dl.o e9.o).mono ?_;rintro e O ⟨V,am,rfl,ej,cr⟩;have a0:=zH (ac.o.trans (cr.mono ac.o.size));have dT:=zH cr;have fl:=zH ej;have cF:=ah (ah dq.o Z.o) a0.o;obtain⟨f8,f9,ga,gb⟩:=aA cF;obtain⟨f0,f1,f2,f3⟩:=bZ cF;clear cF ej cr)))
 have a8:=Z.o.trans (a0.o.mono Z.o.size);have ev:=ah dq.o a8;have cu:=bm O D.heap.size 2 _ _ (.slice U R ad) ev;simp only[zA]at cu;have b3:=bm _ D.heap.size 3 _ _ (.slice V T am) cu;simp only[zA]at b3;have bg:∀k,k≠D.heap.size->((O.setCell ⟨D.heap.size,2,none⟩ (.slice U R ad)).setCell ⟨D.heap.size,3,none⟩ (.slice V T am)).heap[k]?=O.heap[k]?:=fun k bd=>(aZ _ _ _ _ bd).trans (aZ _ _ _ _ bd)
 have b5:=d0.o;have f5:=ce.o;have b1:=a4.o;have f4:=Z.o.size;have gd:=ab.o.size;have gf:=a7.o.size;have gg:=ac.o.size;have gc:=a0.o.size;have t3:=dr.o.size;have t4:=dT.o.size;have cB:((O.setCell ⟨D.heap.size,2,none⟩ (.slice U R ad)).setCell ⟨D.heap.size,3,none⟩ (.slice V T am)).heap.size=O.heap.size:=Rq;have ci:=((c7.o.ext a8 (fV d0.o)).same (fun k _ bd=>bg k Rr)).to (af _) (Rr:D.heap.size<=O.heap.size);have cj:=(((fb.o.ext dr.o (af _)).ext dT.o t3).same (fun k bd _=>bg k Rr)).to (Rr:d8.heap.size<=cI.heap.size) (Rr:gi.heap.size<=O.heap.size);have ck:=(fl.o.same (fun k bd _=>bg k Rr)).to (Rr:d8.heap.size<=cO.heap.size) (af _);have bi:=(bg (w.heap.size+1+1) Rr).trans (ah fn.o a8);have ct:Below w.heap.size w ((O.setCell ⟨D.heap.size,2,none⟩ (.slice U R ad)).setCell ⟨D.heap.size,3,none⟩ (.slice V T am)):=((bu.o.trans (a8.mono bu.o.size)).setCell (p:=⟨D.heap.size,2,none⟩) (by show w.heap.size<=D.heap.size;omega) _).setCell (p:=⟨D.heap.size,3,none⟩) (by show w.heap.size<=D.heap.size;omega) _;generalize (O.setCell ⟨D.heap.size,2,none⟩ _).setCell ⟨D.heap.size,3,none⟩ _=X at b3 ci cj ck bi ct cB ⊢;have c8:=zH (Bv (g:=jT a b) ci cj ck);rw[<-cB]at c8;obtain⟨e7,e3⟩:=bD bi ct;obtain⟨ca,ey,bo,bp⟩:=aA b3;obtain⟨gB,gC,gL,g0⟩:=aA bi;obtain⟨g1,g2,g3,g4⟩:=bZ bi;clear a8 ev cu b3 bg b5 f5 b1 f4 gd gf gg gc t3 t4 ci cj ck bi ct cB f8 f9 ga gb f0 f1 f2 f3 G;go_wp2;have y:=cd (v0:=.int .i64 ((a.w:Int)+(b.w:Int))) (v1:=.slice br b6 bz) (v2:=.slice U R ad) (v3:=.slice V T am) e7.o;obtain⟨bq,c0,a2,a3⟩:=aA y;unfold dC at bq c0 a2 a3;refine aE (v:=.agg (kW ((a.w:Int)+(b.w:Int)) br b6 bz U R ad V T am)) (by simp[results,results122,go_sem, *]) rfl ⟨br,bz,U,ad,V,am,by rw[show(jT a b).es.length=b6 from db.o.symm,show(jT a b).i.length=R from dc.o.symm,show(jT a b).o.length=T from dl.o.symm];rfl,?_,bI e3.o (b:=w.heap.size+1+1) Rr _ _ _ _⟩;exact(c8.o.dC (b:=w.heap.size+1+1) a4.o).to (by have:=a4.o;omega) (fD dV.symm)
theorem zee(D:e.jt=true):et e.k 3 14=true/\gvB e.k e.v=true/\gwI e.k=(e.i.length:Nat)/\gwO e.k=(e.o.length:Nat):=by
 unfold Ed.jt at D;simp only[bE,bX]at D;obtain⟨I,R,hi,O⟩:=D;have J:e.k≠1:=Rr;have N:e.k≠2:=Rr;have h:=I;rw[<-DH]at h;unfold lwO at h;simp only[qz,jG,av J,av N]at h;have H:et e.k 3 14=true:=by
  by_cases D:et e.k 3 14=true
  .exact D
  .rw[av D]at h;cases h
 rw[ay H]at h;have F:=(za7 I).1;have G:=(za7 I).2;unfold lwA at F;unfold lwB at G;simp only[qz,jG,av J,av N,ay H]at F G;exact⟨H,h,by rw[hi,F],by rw[O,G]⟩
theorem zch(e:Ed)(A1 D:aq)(c1 c2:Nat)(w:aa)(V:e.jt=true):aw 168 (cy (uQ e A1 c1 D c2)) w fun r w'=>r=.returned (.bool true)/\ag w w':=by
 obtain⟨O,Z,J,N⟩:=zee V;obtain⟨k,v,i,o⟩:=e;dsimp only at *;obtain⟨a,Y⟩:=aM i.length;obtain⟨b,h⟩:=aM o.length;rw[<-Y]at J ⊢;rw[<-h]at N ⊢;have H:3<=k/\k<=14:=by simpa[et]using O
 obtain⟨ao,ap,am⟩:=dO (fun(W:aa)=>(by have:=h_ k W H.1 H.2;rw[J,N]at this;exact this:aw 167 (bs k) W fun e w'=>e=.returned (.agg (gl a b))/\ag W w')) O Z;obtain⟨I,R⟩:=bA w (.cells (sx k v A1 a c1 D b c2) 155);clear J N Y h V H O Z;go_enter func168,ntmps168
 go_upto_region 1 with(fail)
 generalize w.alloc _=W at I R ⊢;obtain⟨ab,a0,ac,ad⟩:=aA R;have T:=zH I;clear I R;go_upto_region 3 with(first|(go_at_call 210;refine(Calls.cT (mq _ _) ap.o).mono ?_;rintro e w' ⟨rfl,rfl⟩)|(go_at_call 211;refine(Calls.cT (me _ _ _) am.o).mono ?_;rintro e w' ⟨rfl,rfl⟩))
 have F:=aF ab (aF ac ad);clear ab a0 ac ad;go_region_held3 (fun G=>ae G w.heap.size 0 (.int .i64 k)/\ae G w.heap.size 2 (.slice A1 a c1)/\ae G w.heap.size 3 (.slice D b c2))
  (first|with_reducible exact F|with_reducible exact kf (az _) F|with_reducible exact kf U.o F)
  ((go_at_call 167;refine(ao.o _).mono ?_;rintro e a1 ⟨rfl,h⟩;have U:=zH ((az W).trans (h.mono (az W).size));clear h))
 go_wp2;go_ret
 exact⟨rfl,T.o.trans (U.o.mono T.o.size)⟩
def qR:List Bool->Nat
 |[]=>0
 |b::l=>qR l+if b=true then 1 else 0
theorem En:∀{l:Bg} {x:Nat},l[x]?=some false->qR (l.set x true)=qR l+1
 |[],x,h=>RM
 |b::l,0,h=>by simp at h;subst h;simp[qR]
 |b::l,x+1,h=>by have:=En (l:=l) (x:=x) R9;simp only[sH,qR];omega
theorem zcm:∀l:Bg,qR l<=l.length
 |[]=>af _
 |b::l=>by have:=zcm l;simp only[qR,jc];split <;>omega
theorem Eo:∀{l:Bg},(∀b∈l,b=true)->qR l=l.length
 |[],_=>rfl
 |b::l,h=>by
  have:=Eo (l:=l) fun b D=>h b (lg _ D)
  simp only[qR,jc,this,h b (lh ..),m8]
theorem zc_(n:Nat):qR (List.replicate n false)=0:=by
 induction n with
 |zero=>rfl
 |succ n ih=>rw[List.replicate_succ];simp[qR,ih]
theorem tv(h:x<n):(List.range n).getD x 0=x:=by simp[List.getD,h]
def jv(n:Nat)(d:List (List Nat)):List Bool:=kG n (List.range n) d
theorem B9:∀{l:Bg} {x:Nat} {b:Bool},l[x]?=some b->l.set x b=l
 |[],_,_,h=>RM
 |a::l,0,b,h=>by simp at h;subst h;rfl
 |a::l,x+1,b,h=>by rw[sH,B9 (l:=l) R9]
structure SI(n B bg ug s uc:Nat)(x1 x2 x3:ax)(d:List (List Nat))(V:aa):Prop where
 ne:bg<ug/\ug<s
 hg:aW V bg #[.int .i64 n,x1,x2,x3] 54
 hs:aW V s (cg (some ⟨ug,0,none⟩) n uc) 209
 ho:aW V (s+1) #[.bool true] 4
 hc:aW V (s+1+1) (bs (qR (jv n d):Nat)) 3
 us:V.ownsRow B 4 1 (.slice (some ⟨ug,0,none⟩) n uc) n ((jv n d).map Value.bool)
theorem SI.ext{ug:Nat}{d:List (List Nat)}(D:SI n B H ug s Rn R T Ro d J)(h:ag J Rg):SI n B H ug s Rn R T Ro d Rg:=⟨D.ne,ah D.hg h,ah D.hs h,ah D.ho h,ah D.hc h,ik D.us (row:=none) ⟨h.os,h.tape,h.output,h.size,fun k F _=>h.block k F⟩ TO⟩
theorem B_{d:List (List Nat)}(D:l[k]?=some x)(h:x<n):(jv n (d++[l.take k])).set x true=jv n (d++[l.take (k+1)]):=by have:=BZ (n:=n) (C:=List.range n) (d:=d) D (by rw[tv h];exact h);rw[tv h]at this;exact this
theorem SI.old{ug:Nat}{d:List (List Nat)}(h:SI n B H ug s Rn R T Ro (d++[l.take k]) J)(G:l[k]?=some x)(D:x<n)(F:(jv n (d++[l.take k]))[x]?=some true):SI n B H ug s Rn R T Ro (d++[l.take (k+1)]) J:=by have e:=B_ (d:=d) G D;rw[B9 F]at e;exact⟨h.ne,h.hg,h.hs,h.ho,by rw[<-e];exact h.hc,by rw[<-e];exact h.us⟩
theorem SI.new{ug:Nat}{d:List (List Nat)}(h:SI n B H ug s Rn R T Ro (d++[l.take k]) J)(U:l[k]?=some x)(I:x<n)(O:(jv n (d++[l.take k]))[x]?=some false):SI n B H ug s Rn R T Ro (d++[l.take (k+1)]) ((J.setCell ⟨ug,x,none⟩ (.bool true)).setCell ⟨s+1+1,0,none⟩ (.int .i64 ((qR (jv n (d++[l.take k])):Nat)+1))):=by
 have e:=B_ (d:=d) U I;have D:=En O;rw[e]at D;have F:=h.us.stored x (.bool true);rw[<-fh,e]at F;have V:=h.ne;have G:=bm (J.setCell ⟨ug,x,none⟩ (.bool true)) (s+1+1) 0 _ _ (.int .i64 ((qR (jv n (d++[l.take k])):Nat)+1)) ((aZ _ _ _ _ (by show s+1+1≠ug;omega)).trans h.hc);refine⟨h.ne,(aZ _ _ _ _ (by show H≠s+1+1;omega)).trans ((aZ _ _ _ _ (by show H≠ug;omega)).trans h.hg),(aZ _ _ _ _ (by show s≠s+1+1;omega)).trans ((aZ _ _ _ _ (by show s≠ug;omega)).trans h.hs),(aZ _ _ _ _ (by show s+1≠s+1+1;omega)).trans ((aZ _ _ _ _ (by show s+1≠ug;omega)).trans h.ho),?_,?_⟩
 .rw[G,D];simp
 .exact ik F.1 (row:=some (s+1+1)) ⟨rfl,rfl,rfl,Rq,fun k _ N=>aZ _ _ _ _ (by show k≠s+1+1;intro e;exact N (by rw[e]))⟩ (an Uu)
theorem C4(n B G ug s N:Nat)(O R T:ax)(d:List (List Nat))(l:bO)(A:aq)(cap:Nat)(D:aa)(h:SI n B G ug s N O R T d D)(ac:aJ D A (bt l))(ad:∀x∈l,x<n)(bg:n<=1048576)(bd:l.length<=1048576)(ao:∀b o,A=some ⟨b,o,none⟩->0<l.length->b<ug):aw 170 #[.slice A l.length cap,.pointer (some ⟨G,0,none⟩),.pointer (some ⟨s+1,0,none⟩),.pointer (some ⟨s,0,none⟩),.pointer (some ⟨s+1+1,0,none⟩)] D fun e Z=>e=.returned (.tuple #[])/\SI n B G ug s N O R T (d++[l]) Z/\bn ug (s+1+1+1) D Z:=by
 obtain⟨a0,a1,a2⟩:=dO ac ad ao;have a3:=zH (show SI n B G ug s N O R T (d++[l.take 0]) D from by
  have e:jv n (d++[l.take 0])=jv n d:=by unfold jv kG mH;simp
  exact⟨h.ne,h.hg,h.hs,h.ho,by rw[e];exact h.hc,by rw[e];exact h.us⟩)
 clear h ac ad ao;go_enter func170,ntmps170
 go_wp2;go_loopw [10] (fun i wr=>∃k:Nat,k<=l.length/\i=.int .i64 k/\SI n B G ug s N O R T (d++[l.take k]) wr/\bn ug (s+1+1+1) D wr) (fun i _=>l.length-(intOf i).toNat)
 case atStart=>exact⟨0,aX _,rfl,a3.o,bn.refl _ _ _⟩
 case round=>
  obtain⟨k,bc,rfl,hu,hw⟩:=hrel;by_cases EH:k<l.length
  .obtain⟨x,F⟩:=aB EH;obtain⟨b,o,rfl,U⟩:=a0.o.here (k:=k) S_;have bi:=a2.o b o rfl Rr;have ap:=hu.ne;have a7:=hw.cell (U k _ (dJ F)) (by show b<ug∨s+1+1+1<=b;omega);have V:=a1.o x (aY F);obtain⟨q,hq⟩:=aB (by unfold jv;rw[jQ];exact V:x < (jv n (d++[l.take k])).length);have a8:ae wr ug x (.bool q):=Vt;have ba:=hu.us.frozenAt x;have a5:=aI hu.hg 0 rfl;have a6:=aI hu.hs 0 rfl;have ab:=aI hu.hc 0 rfl;have f3:=aK hu.hc 0;have a4:=zH hw;have am:=hu.ne;have bo:IntKind.i64.wrap ((n:Int)-1)=(n:Int)-1:=Sq;have Y:=zH (SE:et (x:Int) 0 ((n:Int)-1)=true);have I:=zcm (jv n (d++[l.take k]));unfold jv at I;rw[jQ]at I;obtain⟨c,H⟩:=aM (qR (jv n (d++[l.take k])));cases q
   .obtain⟨J,FX⟩:=bD (hu.new F V hq) ((hw.nC (p:=⟨ug,x,none⟩) (v:=.bool true) (af _) (by show ug<s+1+1+1;omega)).nC (p:=⟨s+1+1,0,none⟩) (v:=.int .i64 ((qR (jv n (d++[l.take k])):Nat)+1)) (by show ug<=s+1+1;omega) (by show s+1+1<s+1+1+1;omega));have bb:(wr.setCell ⟨ug,x,none⟩ (.bool true)).cell? ⟨s+1+1,0,none⟩=some (.int .i64 (c:Nat)):=(bV (by show s+1+1≠ug;omega)).trans (by rw[H];exact ab);rw[<-H]at J FX ab;have a9:IntKind.i64.wrap ((c:Int)+1)=(c:Int)+1:=by
     have:c<=n:=by rw[H];exact I
     rw[bM];omega
    clear U F hu hw hq I H ap am;go_wp2_with (go_at_call 143;refine(Calls.cT (da _ _ _ _) Y.o).mono ?_;rintro e w' ⟨rfl,rfl⟩)
    go_roundw
    case rel=>exact⟨k+1,Rr,Rt,J.o,FX.o⟩
    case measure=>simp[intOf];omega
   .have J:=zH (hu.old F V hq);clear U F hu hw hq I H ap am;go_wp2_with (go_at_call 143;refine(Calls.cT (da _ _ _ _) Y.o).mono ?_;rintro e w' ⟨rfl,rfl⟩)
    go_roundw
    case rel=>exact⟨k+1,Rr,Rt,J.o,a4.o⟩
    case measure=>simp[intOf];omega
  .exact Yo
theorem G1.el(h:g.G1):∀e∈g.es,e.i.length<=12/\e.o.length<=12:=fun e D=>by have:=h.fit e D;unfold Ed.jt at this;simp only[bE,bX]at this;obtain⟨F,_,hi,G⟩:=this;have:=pT F;omega
theorem G1.count(F:g.G1):qR (jv g.w (dE g))=g.w:=by
 rw[Eo,show(jv g.w (dE g)).length=g.w from jQ ..];intro b G;obtain⟨r,h⟩:=fk.1 G;have D:r<g.w:=by have:=(bG.1 h).1;rw[show(jv g.w (dE g)).length=g.w from jQ ..]at this;exact this
 unfold jv at h;rw[lp _ _ D]at h;cases h
 obtain⟨l,H,I⟩:=(uf g r).2 (F.on r D);unfold mH;rw[k7];refine⟨l,H,?_⟩;rw[k7];exact⟨r,I,by rw[tv D];simp⟩
theorem qZ(g:Gr)(A1 N O:aq)(c1 c2 U:Nat)(w:aa)(b6:j6 w A1 N O g)(a2:g.G1)(ch:g.w<=65536)(I:g.es.length<=65536)(hi:g.i.length<=65536)(ca:g.o.length<=65536):aw 124 (cy (bl g A1 c1 N c2 O U)) w (dM w (gM g)):=by
 have bz:=zH (fun(v2 v3 v4:ax)=>BJ g A1 N O c1 c2 U (.pointer (some ⟨w.heap.size,0,none⟩)) v2 v3 v4);obtain⟨n,ab⟩:=aM g.w;obtain⟨F,am⟩:=aM g.es.length;obtain⟨H,bb⟩:=aM g.i.length;obtain⟨J,bc⟩:=aM g.o.length;obtain⟨G,cu,br,bu⟩:=fU (by rw[ab,am,bb,bc];rfl:gM g=(decide (n<=100)&&(decide (F<=60)&&(decide (H<=12)&&decide (J<=12))))) (by rw[ab];exact G1.count a2:qR (jv n (dE g))=n) b6 a2;have eb:n<=65536:=by rw[ab];exact ch
 obtain⟨cz,d0⟩:=bD (show ∀l∈dE g,l.length<=65536 from zck hi ca fun e I=>by have:=G1.el a2 e I;omega) I;rw[<-ab,<-am,<-bb,<-bc]at bz ⊢;obtain⟨cA,cB⟩:=bD ab am;have hq:=aC w (.cells (kW n A1 F c1 N H c2 O J U) 54) rfl;have hB:=ak w (.cells (kW n A1 F c1 N H c2 O J U) 54);have d7:F<=65536:=by rw[am];exact I
 have ck:∀lo hi (W:aa),aw 143 (fP n lo hi) W fun e w'=>e=.returned (.bool (et n lo hi))/\W=w':=fun lo hi W=>da _ _ _ _
 have Gs:=zH ck;clear b6 a2 ch I hi ca ab am bb bc ck;have ea:∀(b3:Fn) (first cap:eU) (w:aa),(Instr.makeFunc b3 first cap).run prog w=.ok (.func b3 first cap) w:=fun _ _ _ _=>rfl
 by_cases ac:n<=100
 .have R:et (n:Int) 0 100=true:=SE;have E1:=zH R;by_cases Z:F<=60
  .by_cases ad:H<=12
   .by_cases ap:J<=12
    .have a9:decide ((60:Int) < (F:Int))=false:=RS;have b2:decide ((12:Int) < (H:Int))=false:=RS;have c3:decide ((12:Int) < (J:Int))=false:=RS;rw[show gM g=true by rw[G.o];simp[ac,Z,ad,ap]];clear Z ad ap R G;go_enter func124,ntmps124
     go_upto_region 1 with(fail)
     generalize w.alloc _=W at hq hB ⊢;obtain⟨x0,x1,x2,x3⟩:=aA hq;obtain⟨HB,cF⟩:=bD hB hq;clear hq hB;go_wp2_with (go_at_call 143;refine(Calls.cT (Gs.o _ _ _) E1.o).mono ?_;rintro e w' ⟨rfl,rfl⟩)
     go_loopw [33] (fun i wr=>∃k:Nat,k<=F/\i=.int .i64 k/\ag W wr) (fun i _=>F-(intOf i).toNat)
     case atStart=>exact⟨0,aX _,rfl,aj _ _⟩
     case round=>
      obtain⟨k,d8,rfl,T⟩:=hrel;have V:=HB.o.trans (T.mono HB.o.size);have a3:=ah cF.o T;clear x0 x1 x2 x3;by_cases dc:k<F
      .obtain⟨e,I⟩:=aB (by rw[<-cB.o];exact dc:k<g.es.length);obtain⟨d5,d6,bo,d1,bp,d2,rfl,u0,u1,u2,u3,-,-⟩:=gZ br.o.es I;have bq:=zH (fun Y=>zch e bo bp d1 d2 Y (bu.o.fit e (aY I)));have bi:=al V u0;have a6:=al V u1;have z2:=al V u2;have cq:=al V u3;obtain⟨c5,c7,c4,c6⟩:=e;dsimp only at bi a6 z2 cq bq;obtain⟨ba,bd⟩:=bA wr (.cells (eD c5 c7 bo c4 d1 bp c6 d2) 155);have a7:=zH (T.trans (ba.mono T.size));clear u0 u1 u2 u3 I a3 V T;go_upto_region 6 with(fail)
       generalize wr.alloc _=em at ba bd a7 ⊢;obtain⟨eg,ei,n2,ej⟩:=aA bd;clear bi a6 z2 cq ba bd;go_wp2_with (go_at_call 168;refine(bq.o _).mono ?_;rintro e eo ⟨rfl,a1⟩;have cr:=zH (a7.o.trans (a1.mono a7.o.size));clear a1)
       go_roundw
       case rel=>exact⟨k+1,Rr,Rt,cr.o⟩
       case measure=>simp[intOf];omega
      .obtain rfl:k=F:=Rr;obtain⟨h,rfl⟩:∃h,h=wr:=⟨wr,rfl⟩;obtain⟨x0,x1,x2,x3⟩:=aA a3;obtain⟨b1,ao⟩:=bD a3 V;obtain⟨cp,b9,cn,co,EK⟩:=de zt;clear a3 V T;go_upto_region 10 with((at_make;refine jb _ rfl _ _ 209 rfl h.heap.size 4 cp (.bool false) 1 underlying209 b9 cn co .i64 .i64 n n n rfl rfl rfl rfl SA TD (af _) ?_;intro D cb b8;have b0:=zH cb;have bv:=zH (cD b8);clear cb b8))
       have cc:h.heap.size<D.heap.size:=(bL b0.o _ rfl).2;have b7:=below_alloc3 D (.cells (cg (some ⟨h.heap.size,0,none⟩) n n) 209) (.cells #[.bool true] 4) (.cells ij 3);obtain⟨t0,t1,t2⟩:=cm D (.cells (cg (some ⟨h.heap.size,0,none⟩) n n) 209) (.cells #[.bool true] 4) (.cells ij 3);have a0:=bv.o.trans (b7.mono bv.o.size);have cj:w.heap.size<h.heap.size:=(aT.1 b1.o).1;have ce:D.ownsRow h.heap.size 4 1 (.slice (some ⟨h.heap.size,0,none⟩) n n) n ((jv n []).map Value.bool):=by have:=b0.o;rw[tq,<-wT n (List.range n)]at this;exact this
       have a4:SI n h.heap.size w.heap.size h.heap.size D.heap.size n (.slice A1 k c1) (.slice N H c2) (.slice O J U) [] (((D.alloc (.cells (cg (some ⟨h.heap.size,0,none⟩) n n) 209)).alloc (.cells #[.bool true] 4)).alloc (.cells ij 3)):=
        ⟨⟨cj,cc⟩,ah b1.o a0,t0,t1,by rw[show jv n []=List.replicate n false from wT _ _,zc_];exact t2,km (km (km ce _) _) _⟩
       have bg:D.heap.size+1+1+1<=(((D.alloc (.cells (cg (some ⟨h.heap.size,0,none⟩) n n) 209)).alloc (.cells #[.bool true] 4)).alloc (.cells ij 3)).heap.size:=Rq;clear x0 x1 x2 x3 t0 t1 t2 ce b7 cp b9 cn co EK;generalize ((D.alloc _).alloc _).alloc _=dT at a0 a4 bg ⊢;have a8:=zH (ao.o.trans (a0.mono ao.o.size));have ct:=zH (bz.o (.pointer (some ⟨D.heap.size+1,0,none⟩)) (.pointer (some ⟨D.heap.size,0,none⟩)) (.pointer (some ⟨D.heap.size+1+1,0,none⟩)) h.heap.size (D.heap.size+1+1+1) w dT (fun d Y=>SI n h.heap.size w.heap.size h.heap.size D.heap.size n (.slice A1 k c1) (.slice N H c2) (.slice O J U) d Y) br.o Rr cz.o (fun d Y d3 c8 a1=>c8.ext a1) a8.o ao.o.size bg a4 (fun d l A cap Y c9 b5 T dl d9=>
        C4 n h.heap.size w.heap.size h.heap.size D.heap.size n (.slice A1 k c1) (.slice N H c2) (.slice O J U) d l A cap Y c9 (b5.ext T) (fun x dq=>by rw[cA.o];exact bu.o.inr x (dl x dq)) Rr Rr (fun b o e b4=>by
         subst e;obtain⟨d4,ek,c0,db⟩:=b5.here (k:=0) (by rw[aQ];exact b4);cases c0
         obtain⟨y,dr⟩:=aB b4;have ac:=jA _ _ (db 0 _ (dJ dr));have:b<w.heap.size:=ac;omega)))
       obtain⟨x0,x1,x2,x3⟩:=aA a4.hg;have cO:=zH ao.o.size;clear a0 a4 bg cc cj;go_wp2_with (go_at_call 169;refine ct.o.mono ?_;rintro e es ⟨rfl,a5,ci⟩;have bi:=aI a5.ho 0 rfl;have a6:=aI a5.hc 0 rfl;rw[cu.o]at a6;have z2:=aI a5.hg 0 rfl;have cI:=zH ci;clear a5 ci)
       go_ret
       exact⟨rfl,a8.o.trans (cI.o.below (aR cO.o (af _)) a8.o.size)⟩
    .have a9:decide ((60:Int) < (F:Int))=false:=RS;have b2:decide ((12:Int) < (H:Int))=false:=RS;have c3:decide ((12:Int) < (J:Int))=true:=RS;rw[show gM g=false by rw[G.o];simp[ap]];clear G Z ad ap R;exact Zg
   .have a9:decide ((60:Int) < (F:Int))=false:=RS;have b2:decide ((12:Int) < (H:Int))=true:=RS;rw[show gM g=false by rw[G.o];simp[ad]];clear G Z ad R;exact Zg
  .have a9:decide ((60:Int) < (F:Int))=true:=RS;rw[show gM g=false by rw[G.o];simp[Z]];clear G Z R;exact Zg
 .have R:et (n:Int) 0 100=false:=SE;have E1:=zH R;rw[show gM g=false by rw[G.o];simp[ac]];clear G ac R;exact Zg
end Go.Proofs.YtpieilkmmiopfaaGreatDoor
