/- Parts of the walks. Conditions: as stated with each. -/
import Derived.Test.YtpieilkmmiopfaaGreatDoorPk23
namespace Go.Proofs.YtpieilkmmiopfaaGreatDoor
open Go.RowKit Tryz
set_option linter.all false
set_option maxHeartbeats 4000000
set_option maxRecDepth 100000
variable{A:ax}{B J c k n s:Nat}{Q:gZ}{W w w':aa}{a:Act}{o:h_}{ops:iI}{rest:List Oper}{row:Option Nat}{t:dL}{u v v0 v1 v2 v3 z:aG}{xs:aL}
def aE.o_(D:aE w B v xs)(F:w.grownBy w' row)(G:∀g,row=some g->v.ownBlock≠some g):aE w' B v xs:=
 D.kept F (by
  cases e:v.ownBlock with
  |none=>exact ay rfl
  |some g=>exact au fun h=>G g h.q e)
def zbw(W:aa)b i v:W.grownBy (W.setCell ⟨b,i,none⟩ v) (some b):=⟨rfl,rfl,rfl,Qt,fun k _ h=>a_ _ _ _ _ (fun e=>h Qv)⟩
def zdj(W:aa)(h:Nat)(o:Obj):World:={W with heap:=W.heap.setIfInBounds h o}
def zaG{o}(h:J < (W:Nat)):(zdj W J o).heap[J]?=some o:=by simp[zdj,h]
def D_{o}(h:k≠J):(zdj W J o).heap[k]?=W.heap[k]?:=by simp[zdj,Array.getElem?_setIfInBounds_ne (k_ h)]
def zeY{p}(h:W.heap[p.block]?=w.heap[p.block]?):w.cell? p=W.cell? p:=by unfold World.cell?;rw[h]
def zhh{ab}(G:bA w J #[v0,v1,v2,v3] 54)(D:bw 155 4 Cl w B (.slice A n c) ab)(a3:∀x,v1≠.int .i64 x)(ac:B<=(w:Nat)):Fr (w.setCell ⟨J,1,none⟩ u) B w (fun V=>bR 4 Cl V A ab):=fun W O=>by
 have a1:=(bk.1 G).1;by_cases ap:B<=J
 rotate_left
 .exact(D.fr (fun _ _ _ _ T D=>D.ext T) ac) W fun k I F=>(O k I F).t (a_ _ _ _ _ (by show k≠J;omega))
 have y:=bE w J 1 _ _ u G;simp only[zA]at y;have ad:=(O J ap a1).t y;have ah:=(bk.1 ad).1;have F:=(D.fr (fun _ _ _ _ T D=>D.ext T) ac) (zdj W J (.cells #[v0,v1,v2,v3] 54 (0,0))) fun k I F=>by
  by_cases e:k=J
  .subst e;rw[zaG ah,G]
  .rw[D_ e];exact(O k I F).t (a_ _ _ _ _ e)
 have a2:=zem D G Qw;have am:∀p:dM,p.block≠J->W.cell? p=(zdj W J (.cells #[v0,v1,v2,v3] 54 (0,0))).cell? p:=fun p Z=>zeY (D_ Z)
 have av:∀(b o:Nat) (x:Int),(zdj W J (.cells #[v0,v1,v2,v3] 54 (0,0))).cell? ⟨b,o,none⟩=some (.int .i64 x)->af W b o (zI x):=fun b o x h=>by
  by_cases e:b=J
  .subst e;have Z:=zaG (W:=W) (o:=.cells #[v0,v1,v2,v3] 54 (0,0)) ah;unfold World.cell? at h ⊢;rw[Z]at h;rw[ad];dsimp only at h ⊢
   match o,h with
   |0,h=>simpa using h
   |1,h=>simp at h;exact absurd h (a3 x)
   |2,h=>simpa using h
   |3,h=>simpa using h
   |o+4,h=>simp at h
  .rw[am _ e];exact h
 have an:∀(H:ax) (xs:aL),aO (zdj W J (.cells #[v0,v1,v2,v3] 54 (0,0))) H xs->aO W H xs:=fun H xs D=>D.E id fun⟨b,o,e,U⟩=>⟨b,o,e,fun k x Y=>av _ _ _ (U k x Y)⟩
 rcases F with F|⟨b,o,e,U⟩
 .exact ay F
 .subst e;refine au ⟨b,o,rfl,fun k x Y=>?_⟩;obtain⟨c,d1,A1,c1,ao,c2,d2,d3,d4⟩:=U k x Y;refine⟨c,fun j y a0=>?_,A1,c1,ao,c2,d2,an _ _ d3,an _ _ d4⟩;rw[am _ (fun e=>a2 (by rw[show b=J from e];rfl))];exact d1 j y a0
def vA(G:o.guard=none)s x(I:o.op=.call {callee:=.builtin .append,args:=#[s,x],argTypes:=#[26,26]})B W v xs ys A n c(J:a.eval s=v)(hx:a.eval x=.slice A n c)(Z:n=ys.length)(FT:aE W B v xs)(Ha:aO W A ys)(am:xs.length+ys<=1099511627776)(T:B<=(W:Nat))(h:∀D w',aE w' B D (xs++ys)->W.grownBy w' v.ownBlock->(∀g,D.ownBlock=some g->v.ownBlock=some g∨g=(W:Nat))->Below B W w'->wpList prog ops Q rest (a.put o.dst D) w'):wpList prog ops Q (o::rest) a W:=by
 subst Z;have⟨i0,hi,ac,ad,ah⟩:=dp gD;cases A with
 |none=>
  have hy:ys=[]:=Wq;subst hy;refine l7 G fun K hK=>?_
  refine MZ fun J9 hx=>?_
  simp[execOp,I,resolve,invoke,builtin,J,hx,J9,Result.andThen];exact hK _ _ (h v W RJ ⟨rfl,rfl,rfl,ae _,fun _ _ _=>rfl⟩ (fun g e=>ay e) (al _ _))
 |some O=>
  refine AE W G s x 26 I B 3 i0 (zI 0) 1 8 dR hi ac ad ah rfl Qw v _ _ J FT O ys c (ys.map (Value.int .i64)) hx Qt ?_ ?_ ?_ ?_ ?_ ?_
  .exact YH
  .intro u ab;obtain⟨y,_,rfl⟩:=cH.1 ab;rfl
  .unfold maxLen;omega
  .omega
  .omega
  .intro D w' J_ H _ U;exact h D w' Ta H (fun g e=>U.elim (fun F=>ay (F ▸ e)) fun F=>au (by rw[e]at F;cases F;rfl)) ((al _ _).grown H T fun k Y=>(bS FT k Y).1)
def Co{T}{F}{bytes}{E}(hT:RT prog t F s z bytes)(U:o.guard=none)O x(Y:o.op=.call {callee:=.builtin .append,args:=#[O,x],argTypes:=#[t,t]})B G W v v2(xs ys:List T)(D:bw F s E W B v xs)(h2:bw F s E W G v2 ys)(hd:∀g,v.ownBlock=some g->g<G)(a7:B<=G)(a8:G<=(W:Nat))(Gb:xs.length+ys<=1048576)(Z:a.eval O=v)(hx:a.eval x=v2)(h:∀v' w',bw F s E w' B v' (xs++ys)->W.grownBy w' v.ownBlock->Below B W w'->wpList prog ops Q rest (a.put o.dst v') w'):wpList prog ops Q (o::rest) a W:=by
 have⟨ab,hi,ao,ap,av⟩:=dp hT.Ï;obtain⟨cs,D⟩:=D;obtain⟨ds,h2⟩:=h2;have ah:∀(k:Nat) (x:T) (c:cL),ys[k]?=some x->ds[k]?=some c->c.length=s/\(∀u∈c,u.oneCell'=true)/\kn E W B v x c:=fun k x c hx hc=>YK
 rcases h2.η.2 with⟨rfl,ac⟩|⟨g,ε,a0,rfl,bc,bb,bd,a9,ba,be⟩
 .have J:ys=[]:=iq ac;subst J;refine l7 U fun K hK=>?_
  have an:=iZ (P:=prog) (w:=W) B t o.type F ab s hT.und hi v _ 0 _ D.η;unfold Oper.wp;simp[execOp,Y,resolve,invoke,builtin,Z,hx,an,Result.andThen];exact hK _ _ (h v W ⟨cs,by simpa using D⟩ ⟨rfl,rfl,rfl,ae _,fun _ _ _=>rfl⟩ (al _ _))
 .have ad:=oz h2.η (g:=g) rfl;refine AE W U O x t Y B F ab z s bytes hT.und hi ao ap av hT.zs hT.pos v _ _ Z D.η ⟨g,0,none⟩ ys ε ds.flatten hx (by rw[mL h2.cl,h2.ι]) (fun j u am=>ad j u am) ?_ ?_ ?_ Qu ?_
  .intro u I;obtain⟨c,hc,I⟩:=uv.1 I;obtain⟨k,H⟩:=eH.1 hc;obtain⟨y,J⟩:=aq (by rw[<-h2.ι];exact(bG.1 H).1:k<ys.length);exact(h2.ν k y c J H).2.1 u I
  .unfold maxLen;omega
  .exact XL
  .refine OL fun v' w' FT Gx _ Ha hv=>?_
   exact h v' w' ⟨cs++ds,D.th h2.ι ah FT Gx hv⟩ Gx ((al _ _).grown Gx Qu fun k H=>(bS D.η k H).1)
def zlC(g:Gr)(w:aa)(e:Ending)(w':aa):Prop:=∃A1 c1 h c2 D F,e=.returned (.agg (bj g A1 c1 h c2 D F))/\(g.i.length<=c2/\g.o.length<=F)/\Fr w' w w' (fun W=>jV W A1 h D g)/\ag w w'
def zg a b A1 A2 A3 D1 D2 D3 c1 c2 c3 d1 d2 d3 w(a6:px a)(G:px b)(ga:jV w A1 A2 A3 a)(gb:jV w D1 D2 D3 b):az 154 (iV (bj a A1 c1 A2 c2 A3 c3) (bj b D1 d1 D2 d2 D3 d3)) w (zlC (ls a b) w):=by
 have⟨hL,hi,hI,hJ,FU⟩:=dp gD;have⟨hz,hu⟩:=bJ (fun(V:aa) (db:ag w V)=>zhU a A1 A2 A3 c1 c2 c3 V (ga.ext db) a6) (fun(V:aa) (db:ag w V) eo hF (hH:aO V eo (bD (dd a.w b.w)))=>zlZ G a.w a6.w D1 D2 D3 eo d1 d2 d3 hF V (gb.ext db) hH);refine PX fun H7 q0 q1 q2=>?_
 have hS:=a6.w;have hW:=G.w;have hQ:=a6.i;have hR:=a6.o;have hP:=a6.es;have hU:=G.i;have hV:=G.o;have hT:=G.es;have hZ:IntKind.i64.wrap ((a.w:Int)+(b.w:Int))=(a.w:Int)+(b.w:Int):=Rt;have co:=zH (show(b.map b.w (· +a.w)).es=b.es.map (Ed.map (· +a.w))/\(b.map b.w (· +a.w)).i=b.i.map (· +a.w)/\(b.map b.w (· +a.w)).o=b.o.map (· +a.w)/\(b.map b.w (· +a.w)).w=b.w from⟨rfl,rfl,rfl,rfl⟩);clear ga gb a6 G;go_enter func154,ntmps154
 go_upto_region 1 with(fail)
 generalize ((w.alloc _).alloc _).alloc _=W at H7 q0 q1 q2 ⊢;have⟨y0,y1,y2,y3⟩:=aB q1;have⟨g7,fs,hD,hE⟩:=gG H7 q0 q1 q2;clear H7 q0 q1 q2;go_wp2_with ((at_make;refine jg _ rfl _ _ 26 rfl W.heap.size 3 hL (zI 0) 1 dR hi hI hJ .i64 .i64 b.w b.w b.w rfl rfl rfl rfl RF SL (ae _) ?_;intro hM FT gs))
 have e0:=zH (cy gs);rw[jn]at FT;have bz:=zH (QU:(bD (dd a.w b.w)).length=b.w);have e7:=zH (by rw[iP,bz.o];exact FT:hM.ownsRow W 3 1 (.slice (bH W) b.w b.w) b.w ((eF (bD (dd a.w b.w)) 0 0).map (Value.int .i64)));clear FT gs y0 y1 y2 y3;go_loopw [6,14] (fun _ i wr=>∃k:Nat,k<=b.w/\i=.int .i64 k/\wr.ownsRow W 3 1 (.slice (bH W) b.w b.w) b.w ((eF (bD (dd a.w b.w)) 0 k).map (Value.int .i64))/\ag W wr) (fun _ i _=>b.w-(intOf i).toNat)
 case atStart=>exact⟨0,aW _,rfl,e7,e0⟩
 case round=>
  obtain⟨k,gu,rfl,FT,a7⟩:=hrel;clear e7 e0;by_cases gv:k<b.w
  .have hX:af wr W k (zI 0):=by rw[FT.C k Qu,bI,lD _ _ _ (by rw[bz.o];exact gv)];rfl
   have dc:=FT.g k;have GW:=(FT.j k (zI ((k:Int)+(a.w:Int)))).1;rw[<-eW,jq _ _ _ _ (by rw[dK (qh gv)];simp:(bD (dd a.w b.w))[k]?=some ((k:Int)+(a.w:Int)))]at GW;have⟨HS,Ho⟩:=bJ GW (a7.setCell (p:=⟨W,k,none⟩) (ae _) (zI ((k:Int)+(a.w:Int))));have⟨ei,ej,ek,em⟩:=aB (ai fs a7);have hY:IntKind.i64.wrap ((k:Int)+(a.w:Int))=(k:Int)+(a.w:Int):=Rt;exact Ys
  .rw[jo _ _ _ (by rw[bz.o];omega)]at FT;have gw:aE wr W (.slice (bH W) b.w b.w) (bD (dd a.w b.w)):=by unfold aE;rw[bz.o];exact FT
   obtain⟨hN,hO,b4,f8,-⟩:=gw.p;rw[bz.o]at b4;cases b4
   have⟨fo,cn⟩:=bJ f8 (aT g7 a7);have⟨ei,ej,ek,em⟩:=aB (ai fs a7);have⟨c7,c8⟩:=bJ (ai hD a7) (ai hE a7);have⟨ck,gB⟩:=aR wr;rw[<-gB]at ei ej ek em c7 c8 cn fo ⊢;have fc:=zH (show(w:Nat)+1+1<ck from(bk.1 c8).1);clear FT gw f8 a7 gB;go_upto_region 8 with(go_at_call 198;(with_reducible refine(hz.o _ cn.o).x ?_);intro e D h;unfold yB at h;obtain⟨a9,bi,bq,e2,ba,ab,ah,hG,b6,gd⟩:=h;subst hG;have am:=zH b6;have a3:=zH gd;clear b6 gd)
   clear ei ej ek em;have ac:=aw D (.cells (bj a a9 bi bq e2 ba ab) 54);have⟨fa,e8,bb,Je⟩:=gG (aH D (.cells (bj a a9 bi bq e2 ba ab) 54) rfl) (am.ext ac) (aT a3 ac) (Qt:(D:Nat) < (D.alloc (.cells (bj a a9 bi bq e2 ba ab) 54)));have⟨cI,cK,z2,cO⟩:=aB (ai c7 bb);have⟨fl,eB⟩:=bJ (fo.ext bb) ac;generalize D.alloc _=h1 at fa e8 bb Je fl eB cI cK z2 cO ⊢;clear ac;have hA:=zH (aT cn bb);go_upto_region 9 with(go_at_call 199;(with_reducible refine(hu.o _ hA.o _ _ fl.o).x ?_);intro e ad h;unfold yB at h;obtain⟨br,f1,bu,f2,bv,f3,es,f7,b6,gi⟩:=h;rw[co.o.1,co.o.2.1,co.o.2.2.1,co.o.2.2.2,bs,bs,bs]at f7;subst f7;have bd:=zH b6;have cR:=zH gi;clear b6 gi)
   clear cI cK z2 cO;have ac:=aw ad (.cells (bj b br f1 bu f2 bv f3) 54);have⟨cp,c4,a4,bc,e3⟩:=pD (aH ad (.cells (bj b br f1 bu f2 bv f3) 54) rfl) (bd.ext ac) (aT cR ac) (Qt:(ad:Nat) < (ad.alloc (.cells (bj b br f1 bu f2 bv f3) 54))) ac;generalize ad.alloc _=F at cp c4 a4 bc e3 ⊢;clear ac;have⟨c5,e9,ha,g9⟩:=gG (ai fa a4) (e8.ext a4) (aT bb a4) (aT eB a4);have⟨a0,a1,p2,a2⟩:=aB c5;have⟨an,ao,ap,av⟩:=cN c5;have⟨cI,cK,z2,cO⟩:=aB ((ai c7 bb |> fun h=>ai h a4));go_upto_region 10 with(fail)
   clear a0 a1 p2 a2 an ao ap av cI cK z2 cO;have gc:ah<=(D:Nat):=am.s;obtain⟨be,bg,HZ7,Lf⟩:=gG (fun g (e:(Value.slice bq a.i e2).ownBlock=some g)=>am.d2 g e) (fun g (e:(Value.slice ba a.o ab).ownBlock=some g)=>am.d3 g e) gc (show(D:Nat)<F from gm Je a4.size);have b2:=bE F D 0 _ _ (zI ((a.w:Int)+(b.w:Int))) c5;simp only[zA]at b2;have cB:=zbw F D 0 (zI ((a.w:Int)+(b.w:Int)));have d0:=e9.i.o_ cB (fun g e e2=>by cases e;have:=(be.o _ e2).2;omega);have d6:=e9.o.o.o_ cB (fun g e e2=>by cases e;have:=bg.o _ e2;omega);have b8:∀k,k≠D.heap.size->(F.setCell ⟨D,0,none⟩ (zI ((a.w:Int)+(b.w:Int)))).heap[k]?=F.heap[k]?:=fun k gu=>a_ _ _ _ _ gu
   have d9:(F.setCell ⟨D,0,none⟩ (zI ((a.w:Int)+(b.w:Int))):Nat)=F:=Qt;have ey:=zH (ha.setCell (p:=⟨D,0,none⟩) a3.size (zI ((a.w:Int)+(b.w:Int))));generalize F.setCell ⟨D,0,none⟩ _=ee at b2 cB d0 d6 b8 d9 ey ⊢;have fy:=(b8 ad (by have:=Je.o;have:=cR.size;omega)).t cp;have gA:(D:Nat)<ad:=gm Je cR.size;have HW24:=zH gA
   -- In
   have⟨a0,a1,p2,a2⟩:=aB b2;have⟨q0,q1,q2,bo⟩:=aB fy;have⟨hn,hw,hb,hq,bh⟩:=pD d0 d6 b2 b8 d9;have hC:=zH (show aO ee bu (bD (b.i.map (· +a.w))) from(c4.fr.E fun V h=>h.i) ee fun k a5 T=>b8 k St);have hs:=zH (by rw[bm,aS,aS,bs]:(bD a.i++bD (b.i.map (· +a.w))).length=a.i+b.i);have ht:=zH (by rw[bm,aS,aS,bs]:(bD a.o++bD (b.o.map (· +a.w))).length=a.o+b.o);clear cB d0 d6 b2 b8 d9 fy gA gc;go_upto_region 11 with((at_builtin;refine vA rfl (.tmp 39) (.tmp 41) rfl ck ee (.slice bq a.i e2) (bD a.i) (bD (b.i.map (· +a.w))) bu b.i f2 rfl rfl QV hn.o hC.o (by rw[aS,aS,bs];omega) (by have:=bh.o;have:=a3.size;have:=Lf.o;omega) ?_;intro v7 ci Y U b5 G;obtain⟨H,O,f6,-,dl,-⟩:=Y.p;rw[hs.o]at f6 dl;subst f6;have hf:=zH dl;clear dl;have cu:=(U.block D (by have:=bh.o;have:=Lf.o;omega) (fun e=>by have:=(be.o _ e.q).2;have:=HZ7.o;omega)).t hb;have⟨ca,cb,ce,ch⟩:=aB cu;have⟨an,ao,ap,av⟩:=cN cu;have ho:=zH Y;have cW:=zH U;have eA:=zH b5;have hc:=zH cu;have g4:=zH (ey.t G);clear Y U b5 G cu))
   clear a0 a1 p2 a2 q0 q1 q2 bo ca cb ce ch an ao ap av;have g1:=hw.o_ cW (fun g e e2=>(be g e).1 e2);have dr:∀g,(Value.slice H (a.i.length+b.i) O).ownBlock=some g->g<ah∨(F:Nat)<=g:=fun g e=>(eA g e).elim (fun e2=>ay (be g e2).2) fun e2=>au (by rw[e2,bh.o];exact ae _)
   have gn:∀g,(Value.slice H (a.i.length+b.i) O).ownBlock=some g->(Value.slice ba a.o ab).ownBlock≠some g:=fun g e ab=>(eA g e).elim (fun e2=>(be g e2).1 ab) fun e2=>by have:=bg g ab;have:=bh.o;have:=HZ7.o;have:=Lf.o;omega
   have b3:=bE ci D 2 _ _ (.slice H (a.i.length+b.i) O) hc;simp only[zA]at b3;have cF:=zbw ci D 2 (.slice H (a.i.length+b.i) O);have d4:=ho.o_ cF (fun g e e2=>by cases e;have:=dr _ e2;have:=HZ7.o;have:=Lf.o;omega);have d7:=g1.o_ cF (fun g e e2=>by cases e;have:=bg.o _ e2;have:=HZ7.o;omega);have b9:∀k,ah<=k->k < (F:Nat)->k≠D.heap.size->(ci.setCell ⟨D,2,none⟩ (.slice H (a.i.length+b.i) O)).heap[k]?=F.heap[k]?:=fun k a5 T bn=>(a_ _ _ _ _ bn).t ((cW.block k (by rw[bh.o];exact T) (fun e=>by have:=(be.o _ e.q).2;omega)).t (hq k bn))
   have ea:(F:Nat)<=(ci.setCell ⟨D,2,none⟩ (.slice H (a.i.length+b.i) O)):=by have:=cW.size;rw[bh.o]at this;simpa using this
   have ez:=zH (g4.setCell (p:=⟨D,2,none⟩) a3.size (.slice H (a.i.length+b.i) O));generalize ci.setCell ⟨D,2,none⟩ _=eg at b3 cF d4 d7 b9 ea ez ⊢;have fz:=(b9 ad Um bc (by have:=HW24.o;omega)).t cp
   -- Out
   have⟨a0,a1,p2,a2⟩:=aB b3;have⟨q0,q1,q2,bo⟩:=aB fz;have⟨hp,hx,hd,hr,b0,HR7,hh⟩:=zH7 d4 d7 b3 b9 ea dr gn;have hB:=zH (show aO eg bv (bD (b.o.map (· +a.w))) from(c4.fr.E fun V h=>h.o) eg fun k a5 T=>b9 k Uf T St);clear cF d4 d7 b3 b9 ea fz g1 dr gn;go_upto_region 12 with((at_builtin;refine vA rfl (.tmp 45) (.tmp 47) rfl ck eg (.slice ba a.o ab) (bD a.o) (bD (b.o.map (· +a.w))) bv b.o f3 rfl rfl QV hx.o hB.o (by rw[aS,aS,bs];omega) (by have:=b0.o;have:=a3.size;have:=Lf.o;omega) ?_;intro v9 cj Y U b5 G;obtain⟨I,Z,b4,-,dq,-⟩:=Y.p;rw[ht.o]at b4 dq;subst b4;have hg:=zH dq;clear dq;have cz:=(U.block D (by have:=b0.o;have:=Lf.o;omega) (fun e=>by have:=bg.o _ e.q;have:=HZ7.o;omega)).t hd;have⟨ca,cb,ce,ch⟩:=aB cz;have⟨an,ao,ap,av⟩:=cN cz;have hy:=zH Y;have c0:=zH U;have g6:=zH b5;have he:=zH cz;have g5:=zH (ez.t G);clear Y U b5 G cz))
   clear a0 a1 p2 a2 q0 q1 q2 bo ca cb ce ch an ao ap av;have gL:=hp.o_ c0 (fun g e e2=>hh g e2 e);have dO:∀g,(Value.slice I (a.o.length+b.o) Z).ownBlock=some g->g<ah∨(F:Nat)<=g:=fun g e=>(g6 g e).elim (fun e2=>ay (bg g e2)) fun e2=>au (by rw[e2];exact b0)
   have b1:=bE cj D 3 _ _ (.slice I (a.o.length+b.o) Z) he;simp only[zA]at b1;have cA:=zbw cj D 3 (.slice I (a.o.length+b.o) Z);have dT:=gL.o_ cA (fun g e e2=>VG);have d5:=hy.o_ cA (fun g e e2=>by cases e;have:=dO _ e2;have:=HZ7.o;have:=Lf.o;omega);have b7:∀k,ah<=k->k < (F:Nat)->k≠D.heap.size->(cj.setCell ⟨D,3,none⟩ (.slice I (a.o.length+b.o) Z)).heap[k]?=F.heap[k]?:=fun k a5 T bn=>(a_ _ _ _ _ bn).t ((c0.block k (gm T b0) (fun e=>by have:=bg.o _ e.q;omega)).t (hr k a5 T bn))
   have d8:(F:Nat)<=(cj.setCell ⟨D,3,none⟩ (.slice I (a.o.length+b.o) Z)):=by have:=c0.size;have:=b0.o;simp;omega
   have ev:=zH (g5.setCell (p:=⟨D,3,none⟩) a3.size (.slice I (a.o.length+b.o) Z));generalize cj.setCell ⟨D,3,none⟩ _=eb at b1 cA dT d5 b7 d8 ev ⊢;have fx:=(b7 ad Um bc (by have:=HW24.o;omega)).t cp
   -- Edges
   have f0:bw 155 4 Cl eb ah (.slice a9 a.es bi) a.es:=am.es.y (fun k a5 T=>(b7 k a5 (by have:=Lf.o;omega) Qu).t (g9.block k T)) (by have:=Lf.o;omega);have f10:bw 155 4 Cl eb es (.slice br b.es f1) (b.es.map (Ed.map (· +a.w))):=by have:=bd.es;rw[show(b.map b.w (· +a.w)).es.length=b.es from bs ..]at this;refine this.y (fun k a5 T=>?_) (by have:=bc.o;omega);have bn:=bd.b;exact(b7 k Uf (by have:=bc.o;omega) St).t (e3.block k T)
   have cq:=zH (show ∀g,(Value.slice a9 a.es bi).ownBlock=some g->ah<=g/\g < (D:Nat) from fun g e=>by obtain⟨cs,h⟩:=am.es;exact bS h.η g e)
   have⟨a0,a1,p2,a2⟩:=aB b1;have⟨q0,q1,q2,bo⟩:=aB fx;obtain⟨hm,hv,g8,c6,fb,hj,hl,e6⟩:=zH8 dT d5 b1 d8 dO f0 f10 (by unfold fG;rw[bm,bs]:(fG a b).length=a.es+b.es);clear cA dT d5 b1 b7 d8 fx gL dO f0 f10;go_upto_region 13 with((at_builtin;refine Co zkj rfl (.tmp 51) (.tmp 53) rfl ah es eb (.slice a9 a.es bi) (.slice br b.es f1) a.es (b.es.map (Ed.map (· +a.w))) hj.o hl.o (fun g e=>by have:=(cq g e).2;have:=Je.o;have:=bd.b;omega) (by have:=HZ7.o;have:=Je.o;have:=bd.b;omega) (by have:=bd.s;have:=bc.o;have:=c6.o;omega) (by rw[bs];omega) rfl rfl ?_;intro v11 a8 Y U G;obtain⟨G1,J,f4,-⟩:=Y.p;rw[show(a.es++b.es.map (Ed.map (· +a.w))).length=a.es+b.es from e6.o]at f4;subst f4;have cr:=(U.block D (by have:=c6.o;have:=Lf.o;omega) (fun e=>by have:=(cq.o _ e.q).2;omega)).t g8;have⟨ca,cb,ce,ch⟩:=aB cr;have⟨an,ao,ap,av⟩:=cN cr;have hk:=zH Y;have cV:=zH U;have e1:=zH cr;have g3:=zH (ev.t (G.x am.b));clear Y U G cr))
   clear a0 a1 p2 a2 q0 q1 q2 bo ca cb ce ch an ao ap av;have gC:=hm.o_ cV (fun g e e2=>by have:=cq g e;have:=HR7 g e2;have:=Lf.o;omega);have gR:=hv.o_ cV (fun g e e2=>by have:=cq g e;have:=fb g e2;have:=Lf.o;omega);have ct:=bE a8 D 1 _ _ (.slice G1 (a.es.length+b.es) J) e1;simp only[zA]at ct;have c9:=zbw a8 D 1 (.slice G1 (a.es.length+b.es) J);have gK:=gC.o_ c9 (fun g e e2=>VG);have g0:=gR.o_ c9 (fun g e e2=>by cases e;have:=fb.o _ e2;have:=HZ7.o;have:=Lf.o;omega);have f9:=hk.o;have f5:=zhh (u:=.slice G1 (a.es.length+b.es) J) (A:=G1) (n:=a.es.length+b.es) (c:=J) e1 f9 (fun x h=>Qy) (by have:=cV.size;have:=c6.o;have:=Lf.o;have:=HZ7.o;omega);have bp:=g3.setCell (p:=⟨D,1,none⟩) a3.size (.slice G1 (a.es.length+b.es) J);have g2:(a8.setCell ⟨D,1,none⟩ (.slice G1 (a.es.length+b.es) J):Nat)=a8:=Qt;have dc:Fr (a8.setCell ⟨D,1,none⟩ (.slice G1 (a.es.length+b.es) J)) ck (a8.setCell ⟨D,1,none⟩ (.slice G1 (a.es.length+b.es) J)) (fun V=>jV V G1 H I (ls a b)):=
    Fv (g:=ls a b) (f5.to am.b (gp g2.q)) ((gK.fr bp.size).E fun V h=>by show aO V H (bD (a.i++b.i.map (· +a.w)));rw[jr];exact h) ((g0.fr bp.size).E fun V h=>by show aO V I (bD (a.o++b.o.map (· +a.w)));rw[jr];exact h)
   have cc:=(bp.block _ fc.o).t c8;obtain⟨e5,e4,fd⟩:=er dc (aT cn bp) (show(w:Nat)+1+1<ck from fc.o);generalize a8.setCell ⟨D,1,none⟩ _=h0 at ct cc e5 e4 ⊢;have⟨a0,a1,p2,a2⟩:=aB ct;have⟨q0,q1,q2,bo⟩:=aB cc;have⟨an,ao,ap,av⟩:=cN cc;have y:=cP (v0:=.int .i64 ((a.w:Int)+(b.w:Int))) (v1:=.slice G1 (a.es.length+b.es) J) (v2:=.slice H (a.i.length+b.i) O) (v3:=.slice I (a.o.length+b.o) Z) cc;refine O2 fun y0 y1 y2 y3=>?_
   clear gC gR c9 gK g0 f9 f5 bp g2 dc cc y ct;go_wp2;refine aI (v:=.agg (nh ((a.w:Int)+(b.w:Int)) G1 (a.es.length+b.es) J H (a.i.length+b.i) O I (a.o.length+b.o) Z)) (by simp[results,results154,go_sem, *]) rfl ⟨G1,J,H,O,I,Z,?_,⟨by show(a.i++b.i.map (· +a.w)).length<=O;rw[bm,bs];exact hf,by show(a.o++b.o.map (· +a.w)).length<=Z;rw[bm,bs];exact hg⟩,(e5.dQ (b:=(w:Nat)+1+1) fd).to (by have:=fd.o;omega) (gp eK.q),bY e4 (b:=(w:Nat)+1+1) Qu _ _ _ _⟩;rw[<-e6.o]
   show _=Ending.returned (Value.agg #[.int .i64 ((a.w+b.w:Nat):Int),.slice G1 (fG a b) J,.slice H (a.i++b.i.map (· +a.w)) O,.slice I (a.o++b.o.map (· +a.w)) Z])
   rw[bm,bm,bs,bs,C3]
def zhi a b A1 A2 A3 D1 D2 D3 c1 c2 c3 d1 d2 d3 w(ad:px a)(ah:px b)(Z:jV w A1 A2 A3 a)(ab:jV w D1 D2 D3 b):az 109 (iV (bj a A1 c1 A2 c2 A3 c3) (bj b D1 d1 D2 d2 D3 d3)) w (xr (ls a b) w):=by
 have U:=zH (fun(V:aa) (ac:ag w V)=>zg a b A1 A2 A3 D1 D2 D3 c1 c2 c3 d1 d2 d3 V ad ah (Z.ext ac) (ab.ext ac));refine PX fun H7 q0 q1 q2=>?_
 have⟨g,an⟩:=aR (ls a b);rw[<-an]at U ⊢;clear Z ab ad ah an;go_enter func109,ntmps109
 go_upto_region 1 with(fail)
 generalize ((w.alloc _).alloc _).alloc _=W at H7 q0 q1 q2 ⊢;have⟨a9,ba,bb,bc⟩:=aB q0;have⟨bd,be,bg,bh⟩:=aB q1;obtain⟨T,av,GX⟩:=er H7 q2 (show(w:Nat)+1+1<W from(bk.1 q2).1);clear H7 q0 q1 q2;go_wp2_with ((go_at_call 154;(with_reducible refine(U.o _ T.o).x ?_);intro e a8 Y;unfold zlC at Y;obtain⟨h,G,D,H,F,I,a0,-,am,O⟩:=Y;subst a0;have J:=ai av O;have⟨a4,a5,a6,a7⟩:=aB J;have⟨f0,f1,f2,f3⟩:=cN J;have y:=cP (v0:=.int .i64 (g.w:Nat)) (v1:=.slice h g.es G) (v2:=.slice D g.i H) (v3:=.slice F g.o I) J;have⟨a1,a2,z2,a3⟩:=aB y;unfold dQ at a1 a2 z2 a3;have ap:=zH am;have ao:=zH (bY (aT T.o O) (b:=(w:Nat)+1+1) Qu (zI (g.w:Nat)) (.slice h g.es G) (.slice D g.i H) (.slice F g.o I));clear J y am O))
 exact aI (v:=.agg (bj g h G D H F I)) (by simp[results,results109,go_sem, *]) rfl ⟨h,G,D,H,F,I,rfl,(ap.dQ (b:=(w:Nat)+1+1) GX).to SJ (gp eK.q),ao⟩
end Go.Proofs.YtpieilkmmiopfaaGreatDoor
