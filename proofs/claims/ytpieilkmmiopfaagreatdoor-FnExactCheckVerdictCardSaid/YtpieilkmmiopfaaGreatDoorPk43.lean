/- Parts of the walks. Conditions: as stated with each. -/
import Derived.Test.YtpieilkmmiopfaaGreatDoorPk29
import Derived.Test.YtpieilkmmiopfaaGreatDoorPk38
namespace Go.Proofs.YtpieilkmmiopfaaGreatDoor
open Go.RowKit Tryz
set_option linter.all false
set_option maxHeartbeats 8000000
set_option maxRecDepth 100000
variable{A:ax}{Q:gZ}{a:Act}{g:Gr}{hi lo:Nat}{o:h_}{ops:iI}{p:Int}{rest:List Oper}{rows:aP}{w:aa}
def zcU{ys}(G:Fr w lo hi (fun V=>bt V A ys))(D:ys≠[]):∃b o,A=some ⟨b,o,none⟩/\lo<=b/\b<hi:=by
 rcases G w (fun k _ _=>rfl)with h|⟨b,o,e,U⟩
 .exact absurd h D
 .refine⟨b,o,e,?_⟩;refine AD fun ap=>?_
  have ab:0<ys.length:=List.length_pos_iff.2 D;have⟨y,J⟩:=aq ab;obtain⟨ac,am,Z,_⟩:=U 0 y J;have T:b < (w:Nat):=jB _ _ Z;obtain⟨V,H⟩:∃V:aa,V={w with heap:=w.heap.setIfInBounds b (.cells #[] 0 (0,0))}:=⟨_,rfl⟩;have O:bA V b #[] 0:=by rw[H];show(w.heap.setIfInBounds b _)[b]?=_;rw[Array.getElem?_setIfInBounds_self_of_lt T]
  rcases G V (fun k an ao=>by rw[H];show(w.heap.setIfInBounds b _)[k]?=_;rw[Array.getElem?_setIfInBounds_ne Qu])with h|⟨ah,av,F,Y⟩
  .exact D h
  .rw[e]at F;cases F
   obtain⟨ad,c2,I,_⟩:=Y 0 y J;rw[bB O]at I;simp at I
def ERa(w:aa)(r:aL)(c:cL):Prop:=∃A ε,c=[.slice A r ε]/\aO w A r
def yb:RT prog 55 26 1 (.slice none 0 0) 24:=⟨iA,QT,Qw,Qw,Qw⟩
def sq(h:bR 1 ERa w A rows):bt w A rows:=by
 rcases h with h|⟨b,o,e,H⟩
 .exact ay h
 .refine au ⟨b,o,e,fun k r I=>?_⟩;obtain⟨c,F,D,ε,rfl,G⟩:=H k r I;have:=F 0 _ rfl;rw[fk,jf]at this;exact⟨D,ε,this,G⟩
def Ba(a6:o.guard=none)a1 x(a8:o.op=.call {callee:=.builtin .append,args:=#[a1,x],argTypes:=#[55,55]})B lo hi W v xs ys A ε(I:bw 26 1 ERa W B v xs)(ad:Fr W lo hi (fun V=>bt V A ys))(bo:∀g,v.ownBlock=some g->g<lo∨hi<=g)(be:B<=lo)(bq:hi<=(W:Nat))(a3:B<=(W:Nat))(b3:xs.length+ys<=1048576)(a9:a.eval a1=v)(U:a.eval x=.slice A ys ε)(h:∀v' w',bw 26 1 ERa w' B v' (xs++ys)->W.grownBy w' v.ownBlock->(∀g,v'.ownBlock=some g->v.ownBlock=some g∨(W:Nat)<=g)->Below B W w'->wpList prog ops Q rest (a.put o.dst v') w'):wpList prog ops Q (o::rest) a W:=by
 have⟨ba,a7,bu,bv,bz⟩:=dp yb.Ï;obtain⟨cs,I⟩:=I;cases A with
 |none=>
  have J:ys=[]:=AD fun J=>by have⟨b,a0,e,_⟩:=zcU ad J;cases e
  subst J;refine l7 a6 fun K hK=>?_
  have br:=iZ (P:=prog) (w:=W) B 55 o.type 26 ba 1 yb.und a7 v _ ε _ I.η;unfold Oper.wp;simp only[iN]at U;simp[execOp,a8,resolve,invoke,builtin,a9,U,br,Result.andThen];exact hK _ _ (h v W ⟨cs,by simpa using I⟩ ⟨rfl,rfl,rfl,ae _,fun _ _ _=>rfl⟩ (fun g e=>ay e) (al _ _))
 |some Y=>
  have bn:∀(k:Nat) (y:aL),ys[k]?=some y->∃D F,W.cell? (Y.add k)=some (.slice D y F)/\Fr W lo hi (fun V=>ERa V y [.slice D y F]):=fun k y G=>by
   have J:ys≠[]:=fun e=>by rw[e]at G;simp at G
   have⟨b,a0,bb,bg,bh⟩:=zcU ad J;cases bb
   rw[dF];rcases ad W (fun _ _ _=>rfl)with ah|⟨b1,b4,e,ab⟩
   .exact absurd ah J
   .cases e
    obtain⟨D,F,O,Z⟩:=ab k y G;refine⟨D,F,O,fun V a4=>?_⟩;rcases ad V a4 with ah|⟨b2,b5,bc,bi⟩
    .exact absurd ah J
    .cases bc
     obtain⟨b0,c2,a2,bd⟩:=bi k y G;have:V.cell? ⟨b,a0+k,none⟩=W.cell? ⟨b,a0+k,none⟩:=l6 (a4 b bg bh);rw[this,O]at a2;cases a2
     exact⟨D,F,rfl,bd⟩
  obtain⟨us,ap⟩:∃us:cL,us=(List.range ys).map fun k=>(W.cell? (Y.add k)).getD undef:=⟨_,rfl⟩
  obtain⟨ds,ac⟩:∃ds:List (List Value),ds=us.map fun u=>[u]:=⟨_,rfl⟩
  have T:us.length=ys:=by rw[ap];simp
  have a5:ds.length=ys:=by rw[ac,bs,T]
  have am:ds.flatten=us:=by rw[ac];clear ac a5 T ap;induction us with
   |nil=>rfl
   |cons u us ih=>simp[ih]
  have ao:∀(k:Nat) (y:aL) (u:aG),ys[k]?=some y->us[k]?=some u->W.cell? (Y.add k)=some u/\∃D F,u=.slice D y F/\Fr W lo hi (fun V=>ERa V y [.slice D y F]):=fun k y u G H=>by obtain⟨D,F,O,Z⟩:=bn k y G;rw[ap,bI,iy (bG.1 G).1]at H;simp only[ox,O,xd,dW]at H;exact⟨by rw[O,H],D,F,H.q,Z⟩
  have bp:∀(k:Nat) (x:aL) (c:cL),ys[k]?=some x->ds[k]?=some c->c.length=1/\(∀u∈c,u.oneCell'=true)/\kn ERa W B v x c:=fun k x c U ab=>by rw[ac,bI]at ab;obtain⟨u,H,rfl⟩:=oF.1 ab;obtain⟨_,D,F,rfl,Z⟩:=ao k x u U H;exact⟨rfl,fun u H=>by simp at H;subst H;rfl,lo,hi,be,bq,bo,Z⟩
  refine AE W a6 a1 x 55 a8 B 26 ba (.slice none 0 0) 1 24 yb.und a7 bu bv bz yb.zs yb.pos v _ _ a9 I.η Y ys ε ds.flatten U (by rw[am,T];simp) (fun j u an=>?_) ?_ ?_ ?_ a3 ?_
  .rw[am]at an;have⟨y,av⟩:=aq (by rw[<-T];exact(bG.1 an).1:j<ys.length);exact(ao j y u av an).1
  .intro u H;rw[am]at H;obtain⟨k,G⟩:=eH.1 H;have⟨y,av⟩:=aq (by rw[<-T];exact(bG.1 G).1:k<ys.length);obtain⟨_,D,F,rfl,_⟩:=ao k y u av G;rfl
  .unfold maxLen;omega
  .omega
  .refine OL fun v' w' FT Gx _ Ha hv=>?_
   exact h v' w' ⟨cs++ds,I.th a5 bp FT Gx hv⟩ Gx hv ((al _ _).grown Gx a3 fun k G=>(bS I.η k G).1)
def zh1 p(g:Gr):g.rows p=g.es.flatMap fun e=>(e.G p).map (iE p g.w):=by unfold Gr.rows Gr.V;rw[List.map_flatMap]
def zbW p g A1 H I c1 c2 ab w(ba:bV p=true)(a6:jV w A1 H I g)(hg:g.B=true)(bd:∀e∈g.es,0<=e.v/\e.v<p):az 116 (gj p (bj g A1 c1 H c2 I ab)) w (Ct (g.lN p) w):=by
 have⟨hp,JC⟩:=cv ba;refine OF fun G8 If Ie F0=>?_
 obtain⟨bu,IW,JE,HV,a1,ao⟩:=ny (fun V (hV:ag w V)=>a6.ext hV) If G8.2.2.2.2.1 bd (zh1 p g) (fun V ah b5 N (h:bt V ah (g.rows p)) (b9:N=(g.rows p).length) (ca:N<=1048576)=>zen p (g.rows p) ah b5 N g.w V ba h (by rw[b9];have:=Gr.zc hp G8.2.2.2.2.1 If;rw[<-this.1]at this;exact this) ca Qu);have⟨gw,ac⟩:=aR g.w;have IV:=zH ac;rw[<-ac]at Ie ao a1 ⊢;have hq:=aH w (.cells (fw gw A1 g.es c1 H g.i c2 I g.o ab) 54) rfl;have hB:=aw w (.cells (fw gw A1 g.es c1 H g.i c2 I g.o ab) 54);clear a6 hg bd G8 If ac;go_enter func116,ntmps116
 go_upto_region 1 with(fail)
 generalize w.alloc _=Z at hq hB ⊢;refine NQ fun x0 x1 x2 x3 HB HQ=>?_
 clear hB hq;go_wp2;go_loopw [5,11] (fun u i wr=>∃(j:Nat) (X:aP),j<=g.es.length/\i=.int .i64 j/\X=((g.es.take j).flatMap fun e=>(e.G p).map (iE p gw))/\X.length<=2*j/\bw 26 1 ERa wr Z u X/\ag Z wr) (fun _ i _=>g.es.length-(intOf i).toNat)
 case atStart=>exact⟨0,[],aW _,rfl,Qt,Qt,bw.nil _ _ _ _ _,al _ _⟩
 case round=>
  obtain⟨j,X,cp,rfl,J,a7,G,F⟩:=hrel;have Y:=zH (aT HB F);clear x0 x1 x2 x3;by_cases ce:j<g.es.length
  .have⟨e,T⟩:=aq ce;have⟨cn,co,D1,e1,D2,e2,cb,u0,u1,u2,u3,hi1,hi2⟩:=fU (bu wr Y).es T;subst cb;have a3:=zH (by rw[du,T,Di,J];simp:((g.es.take (j+1)).flatMap fun e=>(e.G p).map (iE p gw))=X++(e.G p).map (iE p gw));have I0:=aU T;obtain⟨kk,vv,ei,JH⟩:=e;dsimp only at u0 u1 u2 u3 hi1 hi2;have⟨D,ad⟩:=bM wr (.cells (eh kk vv D1 ei e1 D2 JH e2) 155);refine Pg fun Ib R hR=>?_
   rw[<-hR]at Ib a3;have⟨a0,a4,av,U,am,ap⟩:=ny (Vh:R.length<=2) a7 (ai (ai HQ F) D) (aT F D) D (G.ext D);have b1:=zH (show ∀g,u5.ownBlock=some g->g < (wr:Nat) from fun g h=>by obtain⟨cs,ch⟩:=G;exact(bS ch.η g h).2)
   clear T hi1 hi2 I0 hR F G J a7;go_upto_region 5 with(fail)
   have a2:=zH (Qt:(wr:Nat)<=(wr.alloc (.cells (eh kk vv D1 ei e1 D2 JH e2) 155)));generalize wr.alloc _=cj at D ad av U am ap a2 ⊢;have⟨cq,cr,n2,ct⟩:=aB ad;have⟨x0,x1,x2,x3⟩:=aB av;clear u0 u1 u2 u3 ad D;go_wp2_with (first|(go_at_call 113;(with_reducible refine(Ib.o _ am.o).x ?_);intro e bh h;unfold zhg at h;obtain⟨bi,b3,b7,bb,O⟩:=h;subst b7;have br:=zH bb;have an:=zH (aT U O);have b0:=zH (ap.ext O);have ck:=zH O.size;clear bb O)|(at_builtin;refine Ba rfl _ _ rfl Z cj bh bh _ X R bi b3 b0.o br.o (fun g h=>ay (by have:=b1 g h;have:=a2.o;omega)) U.o.size (ae _) (by have:=an.size;omega) (by have:=a4.o;have:=a0.o;omega) rfl rfl ?_;intro cu wc bc cc ci a8;have bz:=zH bc;have bp:=zH (an.t a8);clear bc cc ci a8))
   go_roundw
   case rel=>exact⟨j+1,X++R,Qu,Qx,a3.q,by rw[bm];have:=a4.o;have:=a0.o;omega,bz,bp⟩
   case measure=>simp[intOf];omega
  .obtain rfl:j=g.es.length:=Qu;rw[cZ (ae _),<-a1.o]at J;subst J;obtain⟨bn,b4,rfl,a5,-⟩:=G.p;have bv:=zH (ao wr bn b4 _ (sq a5) rfl Qu);have⟨x0,x1,x2,x3⟩:=aB (ai HQ F);clear G a5 F;go_wp2_with (go_at_call 157;refine bv.x ?_;intro e cz h;obtain⟨bo,b6,b8,bg,a9⟩:=h;subst b8;have b2:=zH bg;have bq:=zH a9;clear bg a9)
   go_ret
   have be:g.lN p=xN p gw (g.rows p):=by unfold Gr.lN;rw[IV.o]
   exact⟨bo,b6,by rw[be];rfl,by rw[be];exact b2.x Y.size,aT Y bq⟩
def zdC l v:nA v (bD l)=eC l v:=by unfold nA eC bD;rw[nr];exact kB fun x _=>Qt
def zdD(h:bV p=true)(F:∀e∈g.es,e.jd=true)(H:g.In):(g.lN p).length<=g.w:=by
 have D:=(cv h).1;unfold Gr.lN xN;have s:=wE (p:=p) (n:=g.w) (R:=j5 p g.w (g.rows p)) D;have:=Eu h s;have G:(xM g.w (j5 p g.w (g.rows p))).length<=g.w:=by unfold xM;exact aZ (C4 _ _) Qt
 unfold zdx;omega
def zbD(D:g.In):∀x∈g.i++g.o,x<g.w:=fun x F=>by
 rcases dP.1 F with h|h
 .exact D _ (ay h)
 .exact D _ (au (ay h))
def zjl(G:bV p=true)(F:∀e∈g.es,e.jd=true)(h:g.In):eV p (g.lN p) (g.i.length+g.o) ((g.lN p).map (eC (g.i++g.o))):=by
 have D:=Gr.D0 G F h;refine eV.yP D fun r H=>?_
 refine⟨by unfold eC;rw[bs,bm],fun d hd=>?_⟩;rw[CH RP];exact D.vY H (zbD h _ (ku RP))
def zm6(R:Rl)(w:aa)(e:Ending)(w':aa):Prop:=∃A c,e=.returned (.tuple (fH (dh R.l R.r A R.b c)))/\Fr w' w w' (fun W=>cS W A R.b)/\ag w w'
def zdE p g A1 F H c1 c2 I w(Y:bV p=true)(am:jV w A1 F H g)(an:g.B=true)(c0:∀e∈g.es,0<=e.v/\e.v<p)(cr:Ð p g=true):az 80 (gj p (bj g A1 c1 F c2 H I)) w (zm6 (g.qw p) w):=by
 have⟨fd,fl⟩:=cv Y;have T:=Gr.iT.1 an;have ac:=Gr.mE an;have e8:g.w<=100:=T.1;have fb:g.i.length<=12:=T.2.2.1;have fc:g.o.length<=12:=T.2.2.2.1;obtain⟨d2,b4,bd,b9,cj,ck,dr⟩:=zH7 (fun V (J:ag w V)=>am.ext J) (fun V (J:ag w V)=>(by have:=BO p g A1 F H c1 c2 I V (am.ext J) an;rw[cr]at this;exact this:az 76 (gj p (bj g A1 c1 F c2 H I)) V (dt V true))) (fun V (J:ag w V)=>zbW p g A1 F H c1 c2 I V Y (am.ext J) an c0) (fun V (J:ag w V)=>(by have:=iR F c2 (bD g.i) V (am.ext J).i Rn;rw[aS]at this;exact this:az 70 #[.slice F g.i c2] V fun e w'=>∃u,e=.returned u/\aE w' V u (bD g.i)/\ag V w')) (Gr.D0 Y T.2.2.2.2.1 ac) (zdD (p:=p) Y T.2.2.2.2.1 ac) (zbD ac);have bh:=zH (fun V A ε N (h:bt V A ((g.lN p).map (eC (g.i++g.o)))) (em:N=(g.lN p).length)=>(by
  subst em;exact ziA p g.i g.o (g.lN p) ((g.lN p).map (eC (g.i++g.o))) A ε V Y h (zjl Y T.2.2.2.2.1 ac) (by have:=zdD (p:=p) Y T.2.2.2.2.1 ac;omega) Qu:
  az 117 #[p,(g.i:Nat),(g.o:Nat),.slice A N ε] V (lJ (g.qw p) V)))
 have⟨G,cq⟩:=aR (g.lN p);rw[<-cq]at bd cj ck bh;have⟨n,cO⟩:=aR (g.i.length+g.o);have be:=zH (by rw[bm,aS,aS,cO]:(bD g.i++bD g.o).length=n);have fa:n<=24:=Qu;have fo:G.length<=100:=by have:=ck.o;omega
 have a5:=(bO (w.alloc (.cells (bj g A1 c1 F c2 H I) 54)) (.cells bx 67) (k:=w.heap.size) Qt).t (aH w _ rfl);have hr:=aH (w.alloc (.cells (bj g A1 c1 F c2 H I) 54)) (.cells bx 67) (n:=(w:Nat)+1) Qt;have bo:=((al w w).alloc (ae _) (.cells (bj g A1 c1 F c2 H I) 54)).alloc Qt (.cells bx 67);clear am an c0 T ac cr cq cO;go_enter func80,ntmps80
 go_upto_region 1 with(fail)
 generalize (w.alloc _).alloc _=W at bo a5 hr ⊢;have⟨a6,a7,a8,a9⟩:=aB a5;have⟨b5,d6,d7⟩:=er bo a5 hr;clear bo a5 hr;go_upto_region 3 with(go_at_call 76;(with_reducible refine(b4.o _ b5.o).x ?_);rintro e c5 ⟨rfl,bq⟩;have cn:=zH bq;have bc:=zH (aT b5 bq);clear bq)
 have⟨cc,d9⟩:=bJ (ai d6 cn) (ai d7 cn);have⟨c6,c7,b2,c8⟩:=aB cc;have a1:=aQ b2 c8;clear a6 a7 a8 a9 c6 c7 b2 c8;go_region_held3 (fun V=>af V w 2 (.slice F g.i c2)/\af V w 3 (.slice H g.o I))
  (first|with_reducible exact j6 av.o a1|with_reducible exact j6 a0.o a1|exact a1)
  ((first|(go_at_call 70;(with_reducible refine(b9.o _ (bc.o.drew)).x ?_);rintro e c4 ⟨u1,rfl,cV,ct⟩;have av:=zH ((aC c5).t ct);have ea:=zH cV;have d3:=zH (d2 c4 (aT bc av)).o;clear cV ct)|(refine df rfl (.tmp 17) (.tmp 19) rfl c5 c4 u1 (bD g.i) (bD g.o) H g.o I (aS _).q rfl rfl ea.o d3.o Rn av.o.size ?_;intro v5 eB cW cu;obtain⟨ba,co,ei,cI,-,-⟩:=cW.p;subst ei;have a0:=zH (av.t (cu.x (ae _)));have b8:=zH cI;rw[be.o];clear cW cu cI)))
 have⟨b6,cb,d8⟩:=er (aT bc a0) (ai cc a0) (ai d9 a0);clear a1 b9 b4;obtain⟨c9,ca⟩:=bJ (by rw[jr];exact b8:aO eB ba (bD (g.i++g.o))) (by rw[jr];exact be:(bD (g.i++g.o)).length=n);have⟨a6,a7,a8,a9⟩:=aB cb;clear b8 be;go_wp2_with (go_at_call 116;(with_reducible refine(bd.o _ b6.o).x ?_);intro e b0 h;obtain⟨e2,d,eg,cB,br⟩:=h;subst eg;have eb:=zH (cB.fr br.size);have bi:=zH br;clear cB br)
 have db:=zH (aT b6 bi);clear a6 a7 a8 a9 bd;go_loopw [7,25] (fun u i wr=>∃k:Nat,k<=G.length/\i=.int .i64 k/\bw 26 1 ERa wr b0 u ((G.take k).map (eC (g.i++g.o)))/\ag b0 wr) (fun _ i _=>G.length-(intOf i).toNat)
 case atStart=>exact⟨0,aW _,rfl,by simpa using bw.nil _ _ _ _ _,al _ _⟩
 case round=>
  obtain⟨k,e9,rfl,ad,U⟩:=hrel;by_cases ey:k<G.length
  .have⟨r,hr⟩:=aq ey;have ez:=cj.row r (aU hr);rcases eb wr (fun q e6 ek=>U.block q ek)with h|⟨fx,fy,es,cA⟩
   .exact V9
   subst es;obtain⟨b3,cp,e7,cK⟩:=cA k r hr;have ab:=aT bi U;have b7:=zH (by
    have:=qG r b3 cp (bD (g.i++g.o)) ba co wr cK (c9.ext ab) Qu (by rw[ca.o];omega) (fun i hi=>by obtain⟨x,eA,rfl⟩:=cH.1 hi;have:=dr x eA;omega)
    rw[ca.o,zdC]at this;exact this:az 82 #[.slice ba n co,.slice b3 r cp] wr fun e w'=>∃u,e=.returned u/\aE w' wr u (eC (g.i++g.o) r)/\ag wr w')
   obtain⟨Gl,Gu⟩:=bJ (by rw[du,hr,kA];rfl:(G.take (k+1)).map (eC (g.i++g.o))=(G.take k).map (eC (g.i++g.o))++[eC (g.i++g.o) r]) (by rw[bs,cQ];omega:((G.take k).map (eC (g.i++g.o))).length=k);obtain⟨u0,a2,rfl,-⟩:=ad.p;rw[Gu.o];have⟨bg,ap⟩:=bJ ad U;have⟨y,c3⟩:=aR (eC (g.i++g.o) r);rw[<-c3]at b7 Gl;have d5:=zH (show ∀g,(Value.slice u0 k a2).ownBlock=some g->g < (wr:Nat) from fun g e=>by obtain⟨cs,h⟩:=bg.o;rw[Gu.o]at h;exact(bS h.η g e).2)
   rw[Gu.o]at bg;clear ad U cA cK hr c3 ab ez;go_wp2_with (first|(go_at_call 82;refine b7.x ?_;rintro e ao ⟨u,rfl,bv,a3⟩;obtain⟨bb,bz,rfl,-⟩:=bv.p;have bn:=zH a3;have dT:=zH (bv.fr a3.size);have d4:=zH (bg.ext a3);clear bv a3)|(at_builtin;refine de yb rfl (.tmp 29) (.tmp 33) rfl b0 (ao.alloc (.cells (aV bb y bz) 26)) (.slice u0 k a2) ((G.take k).map (eC (g.i++g.o))) y [.slice bb y bz] ao (d4.ext (aw _ _)) rfl SU ⟨wr,ao,ap.size,(aw _ _).size,fun g e=>ay (d5 g e),(dT.ext (aw _ _) (ae _)).E fun V J=>⟨bb,bz,rfl,J⟩⟩ R5 (aZ ap.size (aZ bn.size (aw _ _).size)) rfl rfl (aH ao _ rfl) ?_;intro e5 e4 fz bu ev eo cz;rw[Gu.o]at bu ⊢;have Gv:=zH bu;have dc:=zH (((aT ap bn).t ((aw ao _).x (aZ ap.size bn.size))).t cz);clear bu ev eo cz))
   go_roundw
   case rel=>exact⟨k+1,Qu,Qx,Tb,dc⟩
   case measure=>simp[intOf];omega
  .obtain rfl:k=G.length:=Qu;rw[cZ (ae _)]at ad;obtain⟨u0,a2,rfl,cR,-⟩:=ad.p;rw[bs];have ab:=aT bi U;have⟨ci,dq,ce⟩:=er (bh wr u0 a2 G (sq cR) rfl) (aT db U) (ai d8 ab);have⟨a6,a7,a8,a9⟩:=aB (ai cb ab);clear ad cR U ab bh;have⟨D,bp⟩:=aR (g.qw p);rw[<-bp]at ci;have ch:=zH bp;clear bp;go_wp2_with (go_at_call 117;(with_reducible refine ci.o.x ?_);intro e b1 h;obtain⟨O,Z,ej,cF,a4⟩:=h;subst ej;have ah:=ai ce a4;have⟨e0,e1,z2⟩:=aD ah;have f0:=aK ah 0;have f1:=aK ah 1;have f2:=aK ah 2;have ee:=zH ah;have d0:=zH cF;have dl:=zH (aT dq a4);have e3:=zH a4.size;clear ah cF a4)
   have y:=ja (v0:=.int .i64 (D.l:Nat)) (v1:=.int .i64 (D.r:Nat)) (v2:=.slice O D.b Z) ee;have⟨c6,c7,b2⟩:=aD y;have dO:=zH (e_ dl (b:=(w:Nat)+1) Qu (zI (D.l:Nat)) (zI (D.r:Nat)) (.slice O D.b Z));have fs:(w:Nat)+1<wr:=(bk.1 ce).1;have d1:=zH (show Fr (((b1.setCell ⟨(w:Nat)+1,0,none⟩ (zI (D.l:Nat))).setCell ⟨(w:Nat)+1,1,none⟩ (zI (D.r:Nat))).setCell ⟨(w:Nat)+1,2,none⟩ (.slice O D.b Z)) w (((b1.setCell ⟨(w:Nat)+1,0,none⟩ (zI (D.l:Nat))).setCell ⟨(w:Nat)+1,1,none⟩ (zI (D.r:Nat))).setCell ⟨(w:Nat)+1,2,none⟩ (.slice O D.b Z)) (fun W=>cS W O D.b) from(d0.y (w':=(((b1.setCell ⟨(w:Nat)+1,0,none⟩ (zI (D.l:Nat))).setCell ⟨(w:Nat)+1,1,none⟩ (zI (D.r:Nat))).setCell ⟨(w:Nat)+1,2,none⟩ (.slice O D.b Z))) fun q a _=>(a_ _ _ _ _ (by show q≠(w:Nat)+1;omega)).t ((a_ _ _ _ _ (by show q≠(w:Nat)+1;omega)).t (a_ _ _ _ _ (by show q≠(w:Nat)+1;omega)))).to Qu Qt);clear y e0 e1 z2 f0 f1 f2;exact aI (v:=.tuple (fH (dh D.l D.r O D.b Z))) (by simp[results,results80,go_sem, *]) rfl ⟨O,Z,by rw[<-ch.o],by rw[<-ch.o];exact d1,dO⟩
end Go.Proofs.YtpieilkmmiopfaaGreatDoor
