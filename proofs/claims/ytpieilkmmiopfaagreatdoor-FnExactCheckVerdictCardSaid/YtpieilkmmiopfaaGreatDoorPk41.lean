/- Parts of the walks. Conditions: as stated with each. -/
import Derived.Test.YtpieilkmmiopfaaGreatDoorPk38
import Derived.Test.YtpieilkmmiopfaaGreatDoorPk40
namespace Go.Proofs.YtpieilkmmiopfaaGreatDoor
open Go.RowKit Tryz
set_option linter.all false
set_option maxHeartbeats 8000000
set_option maxRecDepth 100000
variable{B J c k m n x y:Nat}{K:pt}{V:aa}{a:Act}{e:Ed}{g:Gr}{o:h_}{ops:iI}{p:Int}{rest:List Oper}{rows:aP}
section
variable{Q:gZ}
def zR(m:Nat)(r:aL):List Int:=List.replicate m 0++r
def eR(p:Int)(g:Gr)(e:Ed):List (List Int):=((e.G p).map (iE p g.w)).map (zR g.f_)
def sR(p:Int)(g:Gr)(m:Nat):List (List Int):=g.H p++(g.es.take m).flatMap (eR p g)
def zgh p g:sR p g 0=g.H p:=by simp[sR]
def zgi(h:g.es[m]?=some e):sR p g (m+1)=sR p g m++eR p g e:=by unfold sR;rw[jl h,Di,fJ];simp
def zjB p g:sR p g g.es=g.og p:=by
 unfold sR Gr.og Gr.rows Gr.V;rw[uA];congr 1
 rw[nr,List.map_flatMap];congr 1
 funext e
 unfold eR;rw[nr];rfl
def zjC m:(sR p g m).length<=g.f_+2*g.es:=by
 unfold sR;rw[bm];have h:(g.H p).length=g.f_:=by unfold Gr.H;simp
 have D:=EP (f:=eR p g) (fun e=>by unfold eR Ed.G;rw[bs,bs];split<;>exact td ..) (g.es.take m);have F:(g.es.take m).length<=g.es:=Rv;omega
def Cx(S:Sy)(w:aa)(e:Ending)(w':aa):Prop:=∃A c,e=.returned (.agg (da S A c))/\Fr w' w w' (fun V=>cS V A S.rows)/\ag w w'
def uW{E}(I:o.guard=none)s x(J:o.op=.call {callee:=.builtin .append,args:=#[s,x],argTypes:=#[55,55]})B h W v u rows r(FT:aY h B v rows)(D:ag h W)(hu:aE W h u r)(ah:rows.length+1<=1073741824)(G:B<=(h:Nat))(U:a.eval s=v)(Y:a.eval x=.slice (bH W) 1 1)(F:∀g ε w',aY w' B (.slice (bH g) (rows.length+1) ε) (rows++[r])->Below B h w'->(W:Nat)<=w'.heap.size->(∀k,k < (W:Nat)->some k≠v.ownBlock->w'.heap[k]?=W.heap[k]?)->(v.ownBlock=some g∨(W:Nat)<=g)->K (a.put o.dst (.slice (bH g) (rows.length+1) ε)) w'):if Region.wanted o (yielded ops a.tmps)=true then Oper.wp prog o a (W.alloc (.cells #[u] 26)) K Q else E:=by
 have⟨ad,hi,Z,ab,ac⟩:=dp kX;obtain⟨us,FT⟩:=FT;have hW:=FT.ext D;have O:=nm hW.η (.cells #[u] 26);have am:=D.size;refine step_append_lies _ I s x 55 J B 26 ad (.slice none 0 0) 1 24 iA hi Z ab ac rfl Qw v _ _ U O ⟨W,0,none⟩ 1 1 [u] Y rfl ?_ ?_ Qw ?_ ?_ ?_ _ rfl ?_
 .exact X9
 .exact Xo
 .unfold maxLen;omega
 .omega
 .simp;omega
 .intro g ε w' T Gx H _;refine Pc fun hg=>?_
  refine F g ε w' ⟨us++[u],?_,?_,?_⟩ (D.x G |>.t ((al _ _).grown hg Qu fun k hk=>(bS hW.η k hk).1)) hg.size (fun k hk F0=>hg.block k hk F0) (H.E id fun e=>by rw[e];simp)
  .simpa using T
  .exact Zt
  .exact ZL
structure CP(B Z:Nat)(V:aa)(f_ gw:Nat)(C:ax)(m c:Nat)(rows:aP):Prop where
 Β:bA V Z (gH f_ gw C m c) 57
 μ:aY V B (.slice C m c) rows
 ι:rows.length=m
 lz:Z<B
 le:B<=(V:Nat)
def CP.ext{F}{f_ G}{C}(h:CP B J V f_ G C m c rows)(D:ag V F):CP B J F f_ G C m c rows:=⟨ai h.Β D,h.μ.ext D,h.ι,h.lz,aZ h.le D.size⟩
def CP.j{I D}{f_ H}{C}{G F}{r}(h:CP B J I f_ H C m c rows)(U:aY D B (.slice (bH G) (m+1) F) (rows++[r]))(O:Below B I D):CP B J (D.setCell ⟨J,2,none⟩ (.slice (bH G) (m+1) F)) f_ H (some ⟨G,0,none⟩) (m+1) F (rows++[r])/\bA D J (gH f_ H C m c) 57:=by have T:=(O.block J h.lz).t h.Β;have y:=bE D J 2 _ _ (.slice (bH G) (m+1) F) T;simp only[zA]at y;exact⟨⟨y,U.setCell (a:=⟨J,2,none⟩) h.lz _,by rw[bm,h.ι];rfl,h.lz,by have:=h.le;have:=O.size;simp;omega⟩,T⟩
end
def zjc p g A1 A2 A3 c1 c2 c3 w(hp:2<=p)(JC:p<=97)(Z:jV w A1 A2 A3 g)(hg:g.B=true)(bu:∀e∈g.es,0<=e.v/\e.v<p):az 77 (gj p (bj g A1 c1 A2 c2 A3 c3)) w (Cx (g.N p) w):=by
 have⟨cF,cq,cA,cB,FU⟩:=dp gD;refine OF fun G8 If Ie F0=>?_
 have d0:g.i.length<=12:=G8.2.2.1;have d1:g.o.length<=12:=G8.2.2.2.1;obtain⟨IY,IW,JE,HV,a3⟩:=pD (fun V (hV:ag w V)=>Z.ext hV) If G8.2.2.2.2.1 bu (fun V (hV:ag w V)=>(by have:=iR A2 c2 (bD g.i) V (Z.ext hV).i Rn;rw[aS]at this;exact this:az 70 #[.slice A2 g.i c2] V fun e w'=>∃u,e=.returned u/\aE w' V u (bD g.i)/\ag V w'));refine PN fun f_ LL LR Gh gw Ie IV N LS LA Lv LW hB hq hr=>?_;clear Z hg bu G8 If
 go_enter func77,ntmps77
 go_upto_region 1 with(fail)
 generalize (w.alloc _).alloc _=W at hB hq hr ⊢;have⟨x0,x1,x2,x3⟩:=aB hq;obtain⟨HB,HQ,HR,c0⟩:=gG hB hq hr (show(w:Nat)+1<W from(bk.1 hr).1);have S0:=aQ x2 x3;clear hB hq hr x0 x1 x2 x3;go_region_held3 (fun V=>af V w 2 (.slice A2 g.i c2)/\af V w 3 (.slice A3 g.o c3))
  (first|with_reducible exact j6 GY.o S0|with_reducible exact j6 Hk.o S0|exact S0)
  ((first|(go_at_call 70;(with_reducible refine(a3.o _ (HB.o.drew)).x ?_);rintro e b1 ⟨u1,rfl,bq,bb⟩;have GY:=zH ((aC W).t bb);have a8:=zH bq;have a4:=zH (IY b1 (aT HB GY)).o;clear bq bb)|(refine df rfl (.tmp 15) (.tmp 17) rfl W b1 u1 (bD g.i) (bD g.o) A3 g.o c3 (aS _).q rfl rfl a8.o a4.o Rn GY.o.size ?_;intro v5 w2 br Gg;obtain⟨cV,c6,T,bh,-,-⟩:=br.p;subst T;have Hk:=zH (GY.t (Gg.x (ae _)));have a2:=zH bh;rw[LR.o];clear br Gg bh)))
 refine Pf fun FV IX IZ x0 x1 x2 x3 LX _ _ _ _ w3 Gm hz IS Ia JG LC=>?_
 clear Gm hz x0 x1 x2 x3 S0 HB HQ HR a3 Hk a8 a4 GY;go_wp2;go_loopw [26] (fun i wr=>∃(k:Nat) (C1:ax) (m1:Nat),k<=f_/\i=.int .i64 k/\CP w3 w2 wr f_ gw C1 k m1 ((g.H p).take k)/\ag w2 wr) (fun i _=>f_-(intOf i).toNat)
 case atStart=>exact⟨0,none,0,aW _,rfl,JG,Ia⟩
 case round=>
  obtain⟨k,C1,m1,dr,rfl,hS,Gg⟩:=hrel;clear JG;by_cases FX:k<f_
  .obtain⟨x,hx⟩:=aq (show k < (g.i++g.o).length by have:=LL.o;rw[bm];unfold Gr.f_ at this;omega);obtain⟨c4,c5,rfl,F⟩:=(a2.ext Gg).θ (k:=k) (by rw[LR.o];exact FX);have dl:=F k (x:Int) S9;have cz:x<gw:=XN;have cj:=zH (RL:(g.i++g.o).getD k 0=x);have Gl:=zH (show(g.H p).take (k+1)=(g.H p).take k++[iE p N [(k,1),(f_+x,p-1)]] from by refine jl ?_;unfold Gr.H;rw[bI,iy (by rw[<-LL.o];exact FX),Lv.o,LL.o,IV.o,<-cj.o];rfl)
   have⟨y,bv⟩:=aR (f_+x);have d2:IntKind.i64.wrap ((f_:Int)+(x:Int))=(y:Int):=Rt;rw[<-bv]at Gl;have LN:y<N:=SG;have Lx:k<N:=SG;obtain⟨O,G5⟩:=bJ ((sD (p:=p) (n:=N) (L:=[(k,1),(y,p-1)]) hp (fun q hq=>Vw)).1) (fun U Y V (h1:bA V U (iL k y) 3) (h2:bA V Y (uq (p-1)) 3)=>(show az 112 (CV p N (bH U) (bH Y)) V (fun e w'=>∃g,e=.returned (.slice (bH g) N N)/\nC V N g (iE p N [(k,1),(y,p-1)]) w'/\ag V w') from zaP p N [(k,1),(y,p-1)] (some ⟨U,0,none⟩) (some ⟨Y,0,none⟩) 2 2 V hp JC LA Qt (ki h1 rfl) (ki h2 rfl) (fun q hq=>by simp at hq;rcases hq with rfl|rfl;exact⟨Lx,RY,RY⟩;exact⟨LN,RY,RY⟩)));have⟨row,bp⟩:=aR (iE p N [(k,1),(y,p-1)]);rw[<-bp]at Gl O G5;have⟨z0,z1,z2⟩:=aD hS.Β;have S0:=aQ z0 (aQ z1 z2);have⟨JG,Ho⟩:=bJ hS Gg;clear F hx cz bv LN Lx bp hS Gg z0 z1 z2;go_upto_region 6 with(fail)
   refine cU (S:=(fun V=>af V w2 0 (zI (f_:Nat))/\af V w2 1 (zI (gw:Nat))/\af V w2 2 (.slice C1 k m1))) 19 QT S0 (fun hHeld=>?_);refine Qj ?_;refine aM 9 ?_;refine aM 10 ?_;refine aM 11 ?_;refine aM 12 ?_;refine aM 14 ?_;refine aM 15 ?_;refine zjz (i:=13) (j:=16) QT rfl rfl (fun K hK=>?_) (fun K hK=>?_)
   .go_simp;refine hK.out _ _ (fun _=>jH VQ S0) (fun hHeld=>?_);clear hK K hHeld;refine P9 ?_;refine cm 16 fun K hK=>?_
    exact Z4
   .go_simp;refine hK.out _ _ (fun _=>jH VQ S0) (fun hHeld=>?_);clear hK K hHeld;refine P9 ?_;refine cm 13 fun K hK=>?_
    exact Z4
  .have cr:f_=k:=Qu;subst cr;rw[show(g.H p).take f_=sR p g 0 from VK]at hS;have⟨x0,x1,x2,x3⟩:=aB (ai IZ Gg);have⟨a7,a0⟩:=bJ hS Gg;clear hS Gg LS LW LA Ia a2;go_wp2;go_loopw [56] (fun i wr=>∃(j m m1:Nat) (C1:ax),j<=g.es.length/\i=.int .i64 j/\CP w3 w2 wr f_ gw C1 m m1 (sR p g j)/\ag w2 wr) (fun i _=>g.es.length-(intOf i).toNat)
   case atStart=>exact⟨0,_,_,_,aW _,rfl,a7,a0⟩
   case round=>
    obtain⟨j,m,m1,C1,dq,rfl,hS,Gg⟩:=hrel;clear a7 a0 x0 x1 x2 x3;by_cases FX:j<g.es.length
    .have⟨e,I⟩:=aq FX;have⟨c8,c9,D1,e1,D2,e2,ab,u0,u1,u2,u3,hi1,hi2⟩:=fU (IY wr (aT FV Gg)).es I;subst ab;obtain⟨kk,vv,ei,JH⟩:=e;dsimp only at u0 u1 u2 u3 hi1 hi2;have⟨Gm,ad⟩:=bM wr (.cells (eh kk vv D1 ei e1 D2 JH e2) 155);have I0:=aU I;refine Pg fun Ib R hR=>?_
     rw[<-hR]at Ib;have Lw:=zH (by rw[zgi I,hR,LL.o,IV.o];rfl:sR p g (j+1)=sR p g j++R.map (zR f_));have O:=zH (show ∀r∈R,r.length=gw from fun r hr=>by rw[hR]at hr;obtain⟨L,co,rfl⟩:=cH.1 hr;refine(sD hp fun q hq=>?_).1;rw[IV.o];exact Gr.yh JE IW L (lh.2 ⟨_,I0,co⟩) q hq)
     have cp:R.length<=2:=by rw[hR,bs];unfold Ed.G;split<;>exact td ..
     have ct:m<=200:=VO;have⟨a6,G,a1,av⟩:=gG (ai (ai IZ Gg) Gm) (hS.ext Gm) (aT Gg Gm) Gm;clear I hi1 hi2 I0 hR hS Gg;go_upto_region 11 with(fail)
     generalize wr.alloc _=ao at Gm ad a6 G a1 av ⊢;have⟨cI,cK,n2,cO⟩:=aB ad;have⟨x0,x1,x2,x3⟩:=aB a6;clear u0 u1 u2 u3 ad Gm;go_wp2_with (go_at_call 113;(with_reducible refine(Ib.o _ av.o).x ?_);intro e J h;unfold zhg at h;obtain⟨cW,c7,T,be,Js⟩:=h;subst T;have b7:=zH be;have Jo:=zH Js;have ce:=zH (G.ext Js);have b6:=zH (aT a1 Js);clear be Js)
     have a5:=zH (show ∀g,(Value.slice C1 m m1).ownBlock=some g->g < (ao:Nat) from fun g h=>by obtain⟨us,cu⟩:=G.μ;exact(bS cu.η g h).2)
     clear cI cK n2 cO x0 x1 x2 x3;have⟨l,ac⟩:=aR R.length;have HL:=zH ac;rw[<-ac]at cp ⊢;clear ac;go_loopw [66] (fun i wr=>∃(q m m1:Nat) (C1:ax),q<=l/\i=.int .i64 q/\CP w3 w2 wr f_ gw C1 m m1 (sR p g j++(R.take q).map (zR f_))/\ag w2 wr/\(∀k,(ao:Nat)<=k->k < (J:Nat)->wr.heap[k]?=J.heap[k]?)/\(∀g,(Value.slice C1 m m1).ownBlock=some g->g < (ao:Nat)∨(J:Nat)<=g)/\(J:Nat)<=wr/\m<=200+q) (fun i _=>l-(intOf i).toNat)
     case atStart=>exact⟨0,_,_,_,aW _,rfl,(by simpa using ce.o),b6,fun _ _ _=>rfl,fun g h=>ay (a5 g h),ae _,ct⟩
     case round=>
      obtain⟨q,bz,b0,ap,hq,rfl,hS,Gg,LV,hC,LQ,LJ⟩:=hrel;clear a5;by_cases dO:q<l
      .obtain⟨r,hr⟩:=aq (show q<R.length by have:=HL.o;omega);have am:r.length=gw:=O r (aU hr);rcases b7 wr LV with h|⟨d4,d5,ab,F⟩
       .exact V9
       subst ab;obtain⟨b3,cn,bd,bi⟩:=F q r hr;rw[am]at bd;have Gl:=zH (by rw[jl hr];simp:sR p g j++(R.take (q+1)).map (zR f_)=(sR p g j++(R.take q).map (zR f_))++[zR f_ r]);have⟨z0,z1,z2⟩:=aD hS.Β;have S0:=aQ z0 z2;have⟨JG,Ho,ca,HC,ci,b8,cb⟩:=zH7 hS Gg LV hC LQ bi am;clear hr am F bi z0 z1 z2 hS Gg LV hC LQ;go_upto_region 14 with(fail)
       refine cU (S:=fun V=>af V w2 0 (zI (f_:Nat))/\af V w2 2 (.slice ap bz b0)) 8 QT S0 (fun hHeld=>?_);refine P8 ?_;refine aM 5 ?_;refine cm 4 fun K hK=>?_
       refine za3 _ rfl (.tmp 73) (.tmp 73) 26 rfl wr 3 cF (zI 0) 1 dR cq cA cB .i64 .i64 f_ f_ f_ rfl rfl rfl rfl RF SL Qt ?_;intro b2 ah bg;rw[jn]at ah;obtain⟨H,ch⟩:=bJ ((aC wr).t (cy bg)) (by simpa[aE]using ah:aE b2 wr (.slice (bH wr) f_ f_) (List.replicate f_ 0));clear ah bg;rw[show(wr.drew:Nat)=wr from rfl];refine hK.out _ _ (fun _=>j6 H S0) (fun hHeld=>?_);clear hK K hHeld;refine P9 ?_;refine cm 6 fun K hK=>?_
       refine df rfl (.tmp 74) (.tmp 75) rfl wr b2 (.slice (bH wr) f_ f_) (List.replicate f_ 0) r b3 gw cn cb.o.q rfl rfl ch.o (b8.ext H) (by rw[fA];omega) H.o.size ?_;intro v7 w7 bo bc;have D:=zH (H.t bc);have an:aE w7 wr v7 (zR f_ r):=bo;obtain⟨b4,ck,a9,-,-,-⟩:=an.p;have⟨cR,bn⟩:=aR ((zR f_ r).length);rw[<-bn]at a9;subst a9;have HU7:=zH an;clear bo bc an bn;refine hK.out _ _ (fun _=>j6 D S0) (fun hHeld=>?_);clear hK K hHeld;refine P9 ?_;refine Ny fun K hK=>?_
       refine hK.out _ _ (fun _=>j6 (D.alloc D.size _) S0) (fun hHeld=>?_);clear hK K hHeld;refine P9 ?_;refine cm 8 fun K hK=>?_
       refine uW rfl (.tmp 71) (.tmp 77) rfl w3 wr w7 (.slice ap bz b0) (.slice b4 cR ck) _ (zR f_ r) JG.o.μ D.o HU7.o SV JG.o.le rfl rfl ?_;intro g5 Jr w5 Lu Js hs5 hk5 ba;rw[JG.o.ι]at Lu ⊢;have⟨GW,hz5⟩:=CP.j JG Lu Js;have⟨z0,z1,z2⟩:=aD hz5;have⟨f0,f1,f2⟩:=cd hz5;have⟨IH,b5,cc,b9,LK⟩:=pD GW Js hs5 hk5 ba;clear Lu Js hs5 hk5 GW hz5 ba;refine Qn ?_;clear K hK;refine cm 9 fun K hK=>?_
       go_simp;refine Qn ?_;clear K hK;refine cm 10 fun K hK=>?_
       go_simp;refine Qn ?_;clear K hK;refine gM QT ?_ _;clear S0 z0 z1 z2 f0 f1 f2 bd;go_wp2;go_roundw
       case rel=>
        have h:=IH.o;rw[<-Gl.o]at h;have db:=G.le;have d3:=D.size;have dc:=cc.o;have LQ:=ci.o;have dT:=IS.o;refine⟨q+1,_,_,_,Qu,Qx,h,(Ho.t (b5.x (ix IS))).setCell (p:=⟨w2,2,none⟩) (ae _) _,fun k h1 h2=>?_,fun g h=>?_,QW,Qu⟩
        .refine(a_ _ _ _ _ (by show k≠w2.heap.size;omega)).t ((b9 k Qu (fun e=>?_)).t ((D.block k Qu).t (ca k h1 h2)));have:=HC k e.q;omega
        .exact Yb
       case measure=>simp[intOf];omega
      .exact Ze
    .have Ly:j=g.es.length:=Qu;rw[Ly,zjB]at hS;have⟨z0,z1,z2⟩:=aD hS.Β;have Lr:=ai IX.o Gg;have⟨r0,r1,r2⟩:=aD Lr;have⟨f0,f1,f2⟩:=cd Lr;have y:=ik (v0:=.int .i64 (f_:Nat)) (v1:=.int .i64 (gw:Nat)) (v2:=.slice C1 m m1) Lr;have⟨y0,y1,y2⟩:=aD y;have hf:=hS.μ.from.frC hS.le;have Hl:=IS.o
     refine P6 fun LG HF HE Lt LU=>?_
     clear hS Gg Lr y hf Hl LG Ly;go_wp2;refine aI (v:=.agg (gH f_ gw C1 m m1)) (by simp[results,results77,go_sem, *]) rfl ?_;exact Wx
structure GdT(p:Int)(L:List eE)(t:Tm):Prop where
 tr:fp (cJ L) []=some [t]
 ty:∃c,t.ty=some c
 fl:cJ L=t.d
 ln:L.length<=400
 f:bV p=true
 ov:qp p (cJ L)=true
 st:qS (cJ L)=true
 gb:t.pM=true
def grL(L:List eE):Bool:=match jE (cJ L)with|some t=>t.pM|none=>false
def qf(p:Int)(L:List eE):Bool:=Cg p L&&grL L
def v_{L}(h:kj (cJ L)=true):∃t c,jE (cJ L)=some t/\fp (cJ L) []=some [t]/\t.ty=some c/\cJ L=t.d/\L.length<=400:=by
 unfold kj at h;simp only[bN,cf]at h;obtain⟨-,H,I⟩:=h;obtain⟨t,G⟩:=Av.1 I;have F:fp (cJ L) []=some [t]:=by
  have D:=G;unfold jE at D;split at D
  .rename_i O e;cases D;exact e
  .cases D
 obtain⟨e,c,J⟩:=sZ.2 F;exact⟨t,c,G,F,J,e,by simpa[cJ]using H⟩
def DB{L}{t}(h:jE (cJ L)=some t):grL L=t.pM:=by unfold grL;rw[h]
def oc{p}{L}(h:qf p L=true):∃t,jE (cJ L)=some t/\GdT p L t:=by unfold qf Cg zU at h;simp only[bN]at h;obtain⟨⟨⟨F,G,H⟩,I⟩,J⟩:=h;have⟨t,c,D,Y,O,T,U⟩:=v_ G;exact⟨t,D,Y,⟨c,O⟩,T,U,F,H,I,by rw[<-DB D];exact J⟩
section
variable{p:Int}{L:List eE}{t:Tm}(h:GdT p L t)
include h
def GdT.ok:t.gr.B=true:=Tm.DN h.gb
def GdT.Q:t.pf p:=by obtain⟨c,D⟩:=h.ty;exact(Tm.DE D).2 (by rw[<-h.fl];exact⟨h.st,h.ov⟩)
def GdT.p2:2<=p/\p<=97:=cv h.f
def GdT.val:∀e∈t.gr.es,0<=e.v/\e.v<p:=fun e I=>by
 have H:=Tm.zbn h.Q h.gb e I;have F:=H.1;unfold Ed.jd at F;simp only[bN,cf]at F;have O:e.v<p:=zc3 h.p2.1 F.1 RY (fun J=>H.2.2.2.2 J);refine⟨?_,O⟩;have D:=F.1;unfold dI at D;dsimp only at D;rw[bN]at D;have D:=D.2;rw[aj Qu]at D;by_cases G:e.k=7∨e.k=13
 .rw[ak G]at D;simp only[bN,cf]at D;omega
 .rw[aj G]at D;simp only[bN,cf]at D;omega
def GdT.N:(t.gr.N p).Ok p:=Gr.zlU h.f h.ok
def GdT.Z:(t.rel p).l=t.gr.i.length/\(t.rel p).r=t.gr.o.length:=by obtain⟨c,G⟩:=h.ty;have D:=Tm.qF G;have F:=Tm.tN h.f G h.Q;exact⟨F.1.t D.2.1.q,F.2.1.t D.2.2.q⟩
end
def zlo{p}:Ð p g=(bV p&&zkm p g):=by
 unfold Ð gdG zkm;rw[xi];congr 2
 congr 1
 funext e
 show(!(decide (e.k=8)||decide (e.k=14)))=(decide (e.k≠8)&&decide (e.k≠14))
 rw[Bool.not_or];simp
def zfO{p}{L}{t}(J:jE (cJ L)=some t)(F:tgB p L=true):qf p L=(t.pM&&Ð p t.gr):=by
 unfold tgB at F;simp only[bN]at F;obtain⟨G,D,H⟩:=F;have⟨Z,c,O,Y,T,I,U⟩:=v_ G;rw[J]at O;cases O
 unfold qf Cg zU;rw[G,D,H,DB J,zlo,D,Tm.zkn (cv D).1 T (by rw[<-I];exact H),<-I];simp[Bool.and_comm]
def ziD{p}{L}(h:tgB p L=false):qf p L=false:=by
 rw[uF];intro D;obtain⟨t,-,g⟩:=oc D;have:zU p L=true:=by unfold qf Cg at D;simp only[bN]at D;exact D.1.1
 unfold zU at this;unfold tgB at h;simp only[bN]at this;rw[this.1,this.2.1,this.2.2]at h;cases h
def tyB(D F:List eE):Bool:=match jE (cJ D),jE (cJ F)with|some s,some t=>decide (s.gr.i.length=t.gr.i)&&decide (s.gr.o.length=t.gr.o)|_,_=>false
def mN(p:Int)(D F:List eE):Bool:=qf p D&&(qf p F&&tyB D F)
def jM(p:Int)(L:List eE):Sy:=match jE (cJ L)with|some t=>t.gr.N p|none=>⟨0,0,[]⟩
def sG{p}{L}{t}(h:jE (cJ L)=some t):jM p L=t.gr.N p:=by unfold jM;rw[h]
def ziE{p}{L}(h:qf p L=true):(jM p L).Ok p:=by have⟨t,D,g⟩:=oc h;unfold jM;rw[D];exact g.N
section
open Go.Maps
section
variable{N:Nat}{Q:gZ}
def vV(Jf:o.guard=none)s x(J:o.op=.call {callee:=.builtin .append,args:=#[s,x],argTypes:=#[55,55]})B h W v u rows r(O:aY h B v rows)(H:ag h W)(U:aE W h u r)(I:rows.length+1<=1073741824)(G:B<=(h:Nat))(T:a.eval s=v)(Y:a.eval x=.slice (bH W) 1 1)(D:∀g ε w',aY w' B (.slice (bH g) (rows.length+1) ε) (rows++[r])->Below B h w'->(W:Nat)<=w'.heap.size->(∀k,k < (W:Nat)->some k≠v.ownBlock->w'.heap[k]?=W.heap[k]?)->(v.ownBlock=some g∨(W:Nat)<=g)->wpList prog ops Q rest (a.put o.dst (.slice (bH g) (rows.length+1) ε)) w'):wpList prog ops Q (o::rest) a (W.alloc (.cells #[u] 26)):=
 l7 Jf fun K hK=>by have F:=uW (ops:=ops) (E:=True) (K:=K) (Q:=Q) Jf s x J B h W v u rows r O H U I G T Y (fun g ε w' a b c d e=>hK _ _ (D g ε w' a b c d e));rwa[ak Tz]at F
def znf(H:2<=p)(hk:k<N)(G:y<N)(F:k≠y):(kg N k).set y (p-1)=iE p N [(k,1),(y,p-1)]:=by
 have h:(List.replicate N (0:Int)).getD k 0=0:=by rw[bf,fI,ak hk];rfl
 have D:((List.replicate N (0:Int)).set k 1).getD y 0=0:=by rw[Ch Rj,aj F,bf,fI,ak G];rfl
 show((List.replicate N (0:Int)).set k 1).set y (p-1)=((List.replicate N (0:Int)).set k (((List.replicate N (0:Int)).getD k 0+1)%p)).set y ((((List.replicate N (0:Int)).set k (((List.replicate N (0:Int)).getD k 0+1)%p)).getD y 0+(p-1))%p)
 rw[h,show((0:Int)+1)%p=1 from nq Qu Qu,D,uQ,nq Qu Qu]
def Fb(p:Int)(f_ n:Nat)(L:iH)(left:Lit->Bool):List Int:=zR f_ ((List.range n).map fun d:Nat=>if left (.int .i64 d)=true then 0 else iD L d%p)
def zY{f_}{L}{left}:(Fb p f_ n L left).length=f_+n:=by simp[Fb,zR]
def zfE{f_}{L}{D}(F:pE D L):Fb p f_ n L (Maps.has D)=List.replicate (f_+n) 0:=by
 unfold Fb zR;rw[<-List.replicate_append_replicate];congr 1
 refine gk fun d=>?_
 rw[bI,fI];by_cases h:d<n
 .rw[iy h,ak h]
  show some (if Maps.has D (.int .i64 (d:Int))=true then(0:Int) else iD L d%p)=some 0
  rw[F.h d];split
  .rfl
  .rename_i hk;rw[AT Rj];simp
 .rw[eP (by simpa using h),aj h];rfl
def zh3{f_}{L}{left}(F:x<n):(Fb p f_ n L left).set (f_+x) (iD L x%p)=Fb p f_ n L (fun z=>left z&&!z.sameKey (.int .i64 x)):=by
 have h:(List.replicate f_ (0:Int)).length=f_:=fA ..;unfold Fb zR;rw[om _ _ (by rw[h];omega),h,iY];congr 1
 refine gk fun d=>?_
 rw[pV,bI,bs,fK];by_cases D:d<n
 .rw[bI,iy D];by_cases e:x=d
  .subst e;rw[ak rfl,ak F];have:(Lit.int .i64 (x:Int)).sameKey (.int .i64 x)=true:=by simp[Lit.sameKey]
   simp[this]
  .rw[aj e];have:(Lit.int .i64 (d:Int)).sameKey (.int .i64 x)=false:=by simp[Lit.sameKey];omega
   simp[this]
 .have:x≠d:=Qu;rw[bI,eP (by simpa using D),aj this];rfl
def zjV{f_}{L}{left}(h:∀D,left D=false):Fb p f_ n L left=zR f_ (pj p n L):=by unfold Fb pj;simp[h]
def zkU(F:2<=p)(h:∀L∈e.G p,∀q∈L,q.1<g.w):eR p g e=(e.zbO.map (pj p g.w)).map (zR g.f_):=by
 unfold eR;rw[<-Ed.zdO];congr 1
 exact kB fun L D=>zhP F (h L D)
def zkV{L}(h:È L x=true):∃q∈L,q.1=x:=by unfold È at h;rw[nl]at h;obtain⟨q,D,e⟩:=h;exact⟨q,D,by simpa using e⟩
def zkW{M}(G:e.jd=true)(hi:∀x∈e.i,x<n)(U:∀x∈e.o,x<n)(ah:1<=M)(am:0<=e.v/\e.v<=M):∀L∈e.zbO,L.length<=3/\∀q∈L,q.1<n/\-M<=q.2/\q.2<=M:=by
 have gen:∀(k:Int) (i o:bP),xz k<=i.length->mf k<=o.length->(∀x∈i,x<n)->(∀x∈o,x<n)->∀L∈zbN k e.v i o,L.length<=3/\∀q∈L,q.1<n/\-M<=q.2/\q.2<=M:=by
  intro k i o H I ac ad L h;have gi:∀j,j<i.length->i.getD j 0<n:=fun j T=>ac _ (ku T)
  have go:∀j,j<o.length->o.getD j 0<n:=fun j T=>ad _ (ku T)
  unfold zbN at h;unfold xz at H;unfold mf at I;split at h
  .rename_i F;subst F;simp at H I;simp only[et,gJ,gX]at h;rcases h with rfl|rfl
   all_goals
    refine⟨Qt,fun q D=>?_⟩;simp only[et,gJ,gX]at D;rcases D with rfl|rfl
    .exact WU
    .exact WT
  split at h
  .rename_i F;subst F;simp at H I;simp only[et,gJ,gX]at h;subst h;refine⟨Qt,fun q D=>?_⟩;simp only[et,gJ,gX]at D;rcases D with rfl|rfl|rfl
   .exact WU
   .exact WT
   .exact WT
  split at h
  .rename_i F;subst F;simp at H I;simp only[et,gJ,gX]at h;subst h;refine⟨Qt,fun q D=>?_⟩;simp only[et,gJ,gX]at D;subst D;exact WU
  split at h
  .rename_i F;subst F;simp at H I;simp only[et,gJ,gX]at h;subst h;refine⟨Qt,fun q D=>?_⟩;simp only[et,gJ,gX]at D;rcases D with rfl|rfl
   .exact WU
   .exact WT
  .simp at h
 obtain⟨k,v,an,lo⟩:=e;dsimp only at *;unfold Ed.jd at G;simp only[bN,cf]at G;have⟨Y,Z⟩:=vU (v:=v) G.2.1;have J:=G.2.2.1;have O:=G.2.2.2;try dsimp only at J O
 rw[Y]at J;rw[Z]at O;have ab:=CK G.1;try dsimp only at ab
 unfold Ed.zbO;try dsimp only
 split
 .refine gen _ _ _ ?_ ?_ U hi
  .rw[O];unfold xz BC
   (repeat' split)<;>omega
  .rw[J];unfold mf BB
   (repeat' split)<;>omega
 .refine gen _ _ _ ?_ ?_ hi U
  .rw[J];unfold xz BB
   (repeat' split)<;>omega
  .rw[O];unfold mf BC
   (repeat' split)<;>omega
end
end
section
open Go.Maps
def yJ p g A1 A2 A3 c1 c2 c3 w(ci:2<=p)(ht:p<=97)(c9:jV w A1 A2 A3 g)(hg:g.B=true)(eb:∀e∈g.es,0<=e.v/\e.v<p):az 86 (gj p (bj g A1 c1 A2 c2 A3 c3)) w (Cx (g.N p) w):=by
 have⟨hA,f7,gv,gA,gB⟩:=dp gD;refine OF fun G8 If Ie F0=>?_
 have hp:g.i.length<=12:=G8.2.2.1;have hs:g.o.length<=12:=G8.2.2.2.1;have⟨IY,IW,b0,HV⟩:=gG (fun V (be:ag w V)=>c9.ext be) If G8.2.2.2.2.1 eb;refine PN fun f_ LL LR Gh gw Ie IV N LS LA Lv LW hB hq hr=>?_;clear c9 hg eb G8 If
 go_enter func86,ntmps86
 go_upto_region 1 with(fail)
 generalize (w.alloc _).alloc _=W at hB hq hr ⊢;have⟨x0,x1,x2,x3⟩:=aB hq;have⟨HB,HQ,HR⟩:=er hB hq hr;have b5:=hB;clear hB hq;have g8:=zH (show(w:Nat)+1<W from(bk.1 hr).1);have ev:=zH (IY W b5).i;have e2:=zH (IY W b5).o;clear b5 f7 gv gA gB;go_upto_region 2 with(go_at_call 65;(with_reducible refine(mS (bD g.i) (bD g.o) A2 A3 c2 c3 g.i g.o f_ W ev.o e2.o (aS _).q (aS _).q LR.o.q Qu).x ?_);rintro e w2 ⟨g6,hb,rfl,-,a2,F⟩;have Hk:=zH F;have cu:=zH a2.D;clear a2 F)
 clear x0 x1 x2 x3;refine Pf fun FV IX IZ x0 x1 x2 x3 LX _ _ _ _ w3 Gm hz IS Ia JG LC=>?_
 clear Gm hz x0 x1 x2 x3 HB HQ HR Hk;go_wp2;go_loopw [30] (fun i wr=>∃(k:Nat) (C1:ax) (m1:Nat),k<=f_/\i=.int .i64 k/\CP w3 w2 wr f_ gw C1 k m1 ((g.H p).take k)/\ag w2 wr) (fun i _=>f_-(intOf i).toNat)
 case atStart=>exact⟨0,none,0,aW _,rfl,JG,Ia⟩
 case round=>
  obtain⟨k,C1,m1,bi,rfl,hS,Gg⟩:=hrel;clear JG;by_cases FX:k<f_
  .obtain⟨x,hx⟩:=aq (show k < (g.i++g.o).length by have:=LL.o;rw[bm];unfold Gr.f_ at this;omega);obtain⟨g9,ha,rfl,a0⟩:=(cu.ext Gg).θ (k:=k) (by rw[LR.o];exact FX);have hm:=a0 k (x:Int) S9;have gs:x<gw:=XN;have fc:=zH (RL:(g.i++g.o).getD k 0=x);have am:=zH (show(g.H p).take (k+1)=(g.H p).take k++[iE p N [(k,1),(f_+x,p-1)]] from by refine jl ?_;unfold Gr.H;rw[bI,iy (by rw[<-LL.o];exact FX),Lv.o,LL.o,IV.o,<-fc.o];rfl)
   have⟨y,ee⟩:=aR (f_+x);have hu:IntKind.i64.wrap ((f_:Int)+(x:Int))=(y:Int):=Rt;rw[<-ee]at am;have LN:y<N:=SG;have Lx:k<N:=SG;have a7:=zH ((sD (p:=p) (n:=N) (L:=[(k,1),(y,p-1)]) ci (fun q hq=>Vw)).1);have⟨row,G⟩:=aR (iE p N [(k,1),(y,p-1)]);have e6:=zH (by rw[G];exact znf ci Lx LN Qu:(kg N k).set y (p-1)=row);rw[<-G]at am a7;have⟨z0,z1,z2⟩:=aD hS.Β;obtain⟨b2,fa,JG,Ho,b4⟩:=pD (fun V a5=>(by have:=oW (f_:Int) (gw:Int) a5 V Qu Qu Qu Qu;rw[show(f_:Int)+(gw:Int)=(N:Int) by have:=Lv.o;omega]at this;exact this:az 64 #[.agg #[(f_:Nat),(gw:Nat),a5]] V fun e w'=>e=.returned (.int .i64 (N:Nat))/\ag V w')) (fun V=>(by have:=DP N k V Qu Lx;exact this:az 125 (iL N k) V fun e w'=>∃u,e=.returned u/\aE w' V u (kg N k)/\ag V w')) hS Gg LN;clear a0 hx gs ee Lx G hS Gg;go_upto_region 7 with(first|(go_at_call 64;(with_reducible refine(b2.o _ _).x ?_);rintro e g4 ⟨rfl,av⟩;have ac:=zH av;clear av)|(go_at_call 125;(with_reducible refine(fa.o _).x ?_);rintro e O ⟨u,rfl,Z,ap⟩;obtain⟨D,U,J,an,-⟩:=pW Z (by rw[kh];omega);rw[kh]at J;subst J;have T:=zH (aT ac ap);have a9:=zH (Z.x ac.size);have ei:=zH (aZ ac.size an);clear Z ap an))
   have G:=a9.row (kh N k);obtain⟨v0,a3⟩:=aq (by rw[kh];exact b4:y < (kg N k).length);have a1:af O D y (.int .i64 v0):=by rw[G.C y (by have:=b4.o;omega),bI,a3];rfl
   have b8:=G.g y;have H:=(G.j y (.int .i64 (p-1))).1;rw[<-eW,e6.o]at H;obtain⟨c0,b3⟩:=bJ (by unfold aE;rw[a7.o];exact H:aE (O.setCell ⟨D,y,none⟩ (.int .i64 (p-1))) wr (.slice (bH D) N U) row) (T.o.setCell (p:=⟨D,y,none⟩) ei (.int .i64 (p-1)));have y0:=ar T.o z0;have LN:=b4.o;clear G a3 H z0 z1 z2;go_upto_region 8 with(fail)
   clear y0 a1 b8 LN;generalize O.setCell ⟨D,y,none⟩ _=g3 at c0 b3 ⊢;have⟨y0,y1,y2⟩:=aD (ai JG.Β b3);go_wp2_with ((at_builtin;refine vV rfl (.tmp 48) (.tmp 50) rfl w3 wr g3 (.slice C1 k m1) (.slice (bH D) N U) _ row JG.o.μ b3.o c0.o SV JG.o.le rfl rfl ?_;intro g5 fl g2 Y F bo bn bg;rw[JG.o.ι]at Y ⊢;have⟨H,I⟩:=CP.j JG Y F;have⟨z0,z1,z2⟩:=aD I;have f0:=aK I 0;have f1:=aK I 1;have f2:=aK I 2;have ah:=zH H;have cq:=zH F;clear Y F bo bn H I bg))
   go_roundw
   case rel=>
    have h:=ah.o;rw[<-am.o]at h;exact⟨k+1,_,_,Qu,Qx,h,(Ho.t (cq.x (ix IS))).setCell (p:=⟨w2,2,none⟩) (ae _) _⟩
   case measure=>simp[intOf];omega
  .have f8:f_=k:=Qu;subst f8;rw[show(g.H p).take f_=sR p g 0 from VK]at hS;have⟨x0,x1,x2,x3⟩:=aB (ai IZ Gg);have⟨cO,cr⟩:=bJ hS Gg;clear hS Gg LW Ia cu;go_wp2;go_loopw [57] (fun i wr=>∃(j m m1:Nat) (C1:ax),j<=g.es.length/\i=.int .i64 j/\CP w3 w2 wr f_ gw C1 m m1 (sR p g j)/\ag w2 wr) (fun i _=>g.es.length-(intOf i).toNat)
   case atStart=>exact⟨0,_,_,_,aW _,rfl,cO,cr⟩
   case round=>
    obtain⟨j,m,m1,C1,dT,rfl,hS,Gg⟩:=hrel;clear cO cr x0 x1 x2 x3;by_cases FX:j<g.es.length
    .have⟨e,bh⟩:=aq FX;have⟨he,hh,cn,c7,co,c8,b7,u0,u1,u2,u3,cb,cc⟩:=fU (IY wr (aT FV Gg)).es bh;subst b7;obtain⟨bp,br,ba,bb⟩:=e;dsimp only at u0 u1 u2 u3 cb cc;have⟨Gm,ch⟩:=bM wr (.cells (eh bp br cn ba c7 co bb c8) 155);have I0:=aU bh;have cK:=zH (fun V (be:ag wr V)=>zb1 ⟨bp,br,ba,bb⟩ cn co c7 c8 V (cb.ext be) (cc.ext be) (b0.o _ I0) (fun x hx=>by have:=IW x (au (au ⟨_,I0,ay hx⟩));have:=IV.o;omega) (fun x hx=>by have:=IW x (au (au ⟨_,I0,au hx⟩));have:=IV.o;omega) (HV.o _ I0).1 Vp);have⟨R,ao⟩:=aR ((Ed.mk bp br ba bb).zbO);rw[<-ao]at cK;have Lw:=zH (show sR p g (j+1)=sR p g j++(R.map (pj p gw)).map (zR f_) by rw[zgi bh,zkU ci (fun L bd q hq=>Gr.yh b0 IW L (lh.2 ⟨_,I0,bd⟩) q hq),ao,LL.o,IV.o])
     have a7:=zH (show ∀L∈R,L.length<=3/\∀q∈L,q.1<gw/\-97<=q.2/\q.2<=97 from fun L bd=>by rw[ao]at bd;exact zkW (M:=97) (b0.o _ I0) (fun x hx=>Vt) (fun x hx=>Vs) Qw ⟨(HV.o _ I0).1,Vp⟩ L bd)
     have fz:R.length<=2:=by have:=oy List.length (Ed.zdO (p:=p) (e:=⟨bp,br,ba,bb⟩) (n:=0));rw[bs,bs,<-ao]at this;rw[<-this];unfold Ed.G;split<;>exact td ..
     have ga:m<=200:=VO;have⟨e4,a8,ct,cp⟩:=gG (ai (ai IZ Gg) Gm) (hS.ext Gm) (aT Gg Gm) Gm;clear bh cb cc I0 ao hS Gg;go_upto_region 13 with(fail)
     generalize wr.alloc _=ck at Gm ch e4 a8 ct cp ⊢;have⟨gL,gR,n2,g0⟩:=aB ch;clear u0 u1 u2 u3 ch Gm;go_wp2_with (go_at_call 126;(with_reducible refine(cK.o _ cp.o).x ?_);intro e bv h;unfold zkX at h;obtain⟨g7,hc,fs,a2,F⟩:=h;subst fs;have em:=zH a2;have cq:=zH F;have e8:=zH (a8.ext F);have ek:=zH (aT ct F);clear a2 F)
     have cA:=zH (show ∀g,(Value.slice C1 m m1).ownBlock=some g->g < (ck:Nat) from fun g h=>by obtain⟨us,gc⟩:=a8.μ;exact(bS gc.η g h).2)
     clear gL gR n2 g0;have⟨l,ce⟩:=aR R.length;have HL:=zH ce;rw[<-ce]at fz ⊢;clear ce;go_loopw [64] (fun i wr=>∃(q m m1:Nat) (C1:ax),q<=l/\i=.int .i64 q/\CP w3 w2 wr f_ gw C1 m m1 (sR p g j++((R.take q).map (pj p gw)).map (zR f_))/\ag w2 wr/\(∀k,(ck:Nat)<=k->k < (bv:Nat)->wr.heap[k]?=bv.heap[k]?)/\(∀g,(Value.slice C1 m m1).ownBlock=some g->g < (ck:Nat)∨(bv:Nat)<=g)/\(bv:Nat)<=wr/\m<=200+q) (fun i _=>l-(intOf i).toNat)
     case atStart=>exact⟨0,_,_,_,aW _,rfl,(by simpa using e8.o),ek,fun _ _ _=>rfl,fun g h=>ay (cA g h),ae _,ga⟩
     case round=>
      obtain⟨q,gC,gK,eg,hq,rfl,hS,Gg,LV,hC,LQ,LJ⟩:=hrel;clear cA;by_cases hn:q<l
      .obtain⟨L,hr⟩:=aq (show q<R.length by have:=HL.o;omega);have db:=a7 L (aU hr);rcases em wr LV with h|⟨hD,b7,a0⟩
       .exact V9
       subst b7;obtain⟨a4,bz,a1,d4,dc⟩:=a0 q L hr;have am:=zH (by rw[jl hr];simp:sR p g j++((R.take (q+1)).map (pj p gw)).map (zR f_)=(sR p g j++((R.take q).map (pj p gw)).map (zR f_))++[zR f_ (pj p gw L)]);have⟨z0,z1,z2⟩:=aD hS.Β;obtain⟨ad,rfl⟩:∃ad,ad=wr:=⟨wr,rfl⟩;obtain⟨b2,fd,JG,Ho,ez,HC,fb,cB,b1,LU⟩:=zjZ (fun V a5=>(by have:=oW (f_:Int) (gw:Int) a5 V Qu Qu Qu Qu;rw[show(f_:Int)+(gw:Int)=(N:Int) by have:=Lv.o;omega]at this;exact this:az 64 #[.agg #[(f_:Nat),(gw:Nat),a5]] V fun e w'=>e=.returned (.int .i64 (N:Nat))/\ag V w')) (fun V=>kO N V Qu) hS Gg LV hC LQ d4 dc db;clear hr a0 hS Gg LV hC LQ d4 dc db;go_upto_region 17 with(first|(go_at_call 64;(with_reducible refine(b2.o _ _).x ?_);rintro e g4 ⟨rfl,av⟩;have ac:=zH av;clear av)|(go_at_call 98;(with_reducible refine(fd.o _).x ?_);rintro e O ⟨u,rfl,Z,ap⟩;obtain⟨a6,U,J,-,-,-⟩:=Z.p;rw[fA]at J;subst J;have T:=zH (aT ac ap);have a9:=zH (Z.x ac.size);clear Z ap))
       have⟨e3,cz⟩:=bJ (zeb cB T.o) (fun g (h:(Value.slice a6 N U).ownBlock=some g)=>(bS a9 g h).2);clear z0 z1 z2 a1;go_wp2_with (at_range;refine wpList_range_own _ rfl _ 167 rfl 3 3 ziB underlying167 _ a4 3 bz rfl e3.o ?_;intro hE d8 b9 gd)
       go_frame
       have⟨cI,cV,c4⟩:=er d8 (a9.ext (cy b9)) (T.o.t ((cy b9).x T.o.size));clear d8 b9 gd;go_loopw [15] (fun _ wr=>∃(left:Lit->Bool) (c6:Nat),wr.ranges prog 3 (plainElem prog 3) a4 O 3 bz left c6/\Hd (∀bq,left bq=true->Maps.has bz bq=true)/\aE wr ad (.slice a6 N U) (Fb p f_ gw L left)/\ag ad wr) (fun _ wr=>wr.rangeLeft a4 O)
       case atStart=>exact⟨_,_,cI,zH (fun _ h=>h),by rw[zfE b1,<-Lv.o];exact cV,c4⟩
       case round=>
        obtain⟨left,c6,d7,d1,dl,dr⟩:=hrel;have⟨cF,cR,ab⟩:=er d7 dl dr;clear d7 dl dr cI cV c4;go_wp2_with (at_next;refine wpList_next_ranges_ii _ rfl _ rfl 3 3 .i64 .i64 ziB fL fL a4 O 3 _ _ _ rfl cF.o ?_ ?_)
        .intro f4 d0;have e9:=zH (show aE wr ad (.slice a6 N U) (zR f_ (pj p gw L)) by have h:=cR.o;rw[zjV d0]at h;exact h);have⟨y0,y1,y2⟩:=aD (ai JG.Β ab);clear f4 d0;go_wp2_with ((at_builtin;refine vV rfl (.tmp 88) (.tmp 90) rfl w3 ad wr (.slice eg gC gK) (.slice a6 N U) _ (zR f_ (pj p gw L)) JG.o.μ ab.o e9.o SV JG.o.le rfl rfl ?_;intro g5 fl g2 Y F bo bn bg;rw[JG.o.ι]at Y ⊢;have⟨H,I⟩:=CP.j JG Y F;have⟨z0,z1,z2⟩:=aD I;have f0:=aK I 0;have f1:=aK I 1;have f2:=aK I 2;have ah:=zH H;have ej:=zH F;have e7:=zH bo;have ey:=zH bn;have LK:=zH bg;clear Y F bo bn H I bg))
         go_roundw
         case rel=>
          have h:=ah.o;rw[<-am.o]at h;have hj:=a8.le;have hw:=ab.size;have hk:=e7.o;have LQ:=fb.o;have ho:=IS.o;refine⟨q+1,_,_,_,Qu,Qx,h,(Ho.t (ej.x (ix IS))).setCell (p:=⟨w2,2,none⟩) (ae _) _,fun k h1 h2=>?_,fun g h=>?_,QW,Qu⟩
          .refine(a_ _ _ _ _ (by show k≠w2.heap.size;omega)).t ((ey k Qu (fun e=>?_)).t ((ab.block k Qu).t (ez k h1 h2)));have:=HC k e.q;omega
          .exact Yb
         case measure=>simp[intOf];omega
        .intro x c bu fo cj gn d3 dq d9 d2 ca gi f5;obtain⟨y,fx,bi⟩:=b1.n _ (d1.o _ d3);obtain rfl:x=(y:Int):=by simpa using fx
         have h1:=(dq (.lit (.int .i64 0))).q.t (b1.a y bi _);have b6:c=iD L y:=Rp;have⟨g1,d5,d6⟩:=zkV bi;have gu:y<gw:=by rw[<-d6];exact(LU.2 g1 d5).1
         have f3:=Dx (M:=97) Qw (L:=L) (x:=y) (fun q hq=>(LU.2 q hq).2);have f9:=LU.1;have hl:-291<=c/\c<=291:=Qu;have⟨z,hz⟩:=aR (f_+y);have hy:z<N:=SG;have hv:IntKind.i64.wrap ((f_:Int)+(y:Int))=(z:Int):=Rt;obtain⟨cW,c5⟩:=bJ (aE.o_ cR ca (fun g e h=>by cases e;have:=cz.o _ h;omega)) (ab.grown ca ab.size (fun j dT=>by cases dT;exact T.o.size));obtain⟨D,hd,J,an,fy⟩:=pW cW (by rw[zY];omega);simp only[ep]at J;obtain⟨rfl,-,-⟩:=J;have dO:D < (O:Nat):=cz D rfl;have G:=cW.row (by rw[zY];exact Lv.q);obtain⟨v0,a3⟩:=aq (by rw[zY];omega:z < (Fb p f_ gw L left).length);have a1:af bu D z (.int .i64 v0):=by rw[G.C z Qu,bI,a3];rfl
         have b8:=G.g z;have H:=(G.j z (.int .i64 (c%p))).1;rw[<-eW,hz,b6,zh3 gu,<-b6,<-hz]at H;have⟨ah,eB⟩:=bJ H (fun V=>CL p c V Qu Qu Qu Qu);have⟨y0,y1,y2⟩:=aD (ai JG.Β c5);have gb:=cB.lt;obtain⟨e1,e0,eo,es,e5,eA⟩:=ny (Qu:a4≠D) (show w2.heap.size≠D by have:=JG.lz;have:=JG.le;omega) an dO d9 d2;clear G a3 H gb an fy dO hz b6 f3 f9 d5 d6 bi h1 d3 d2 d9 ca gi dq cj gn;go_upto_region 20 with(fail)
         go_region_held3 (fun V=>af V w2 0 (.int .i64 (f_:Nat)))
          (first|exact y0|exact(cE e0.o).t y0)
          ((go_at_call 127;(with_reducible refine(eB.o _).x ?_);rintro e w' ⟨rfl,rfl⟩))
         clear y0 y1 y2 a1 b8 f5;go_wp2_with fail
         have bc:=((al D bu).setCell (p:=⟨D,z,none⟩) (ae _) (.int .i64 (c%p))).drew;have f6:bu.grownBy (bu.setCell ⟨D,z,none⟩ (.int .i64 (c%p))).drew (some D):=⟨bc.os,bc.tape,bc.output,bc.size,fun k _ F0=>a_ _ _ _ _ (fun e=>F0 Qv)⟩;have ea:=e5.o.kept f6 (fun e=>e1 (ji e)) (fun e=>by have:=ji e;have:=es.o;omega);go_roundw
         case rel=>
          refine⟨_,fo,ea,zH (fun bq h=>d1 bq (by simp only[bN]at h;exact h.1)),?_,(c5.setCell (p:=⟨D,z,none⟩) eo _).drew⟩;have h:=ah.o;unfold aE;rw[zY,<-Lv.o];exact h
         case measure=>rw[ea.left_eq,cF.o.left_eq];exact eA
      .exact Ze
    .have Ly:j=g.es.length:=Qu;rw[Ly,zjB]at hS;have⟨z0,z1,z2⟩:=aD hS.Β;have Lr:=ai IX.o Gg;have⟨r0,r1,r2⟩:=aD Lr;have⟨f0,f1,f2⟩:=cd Lr;have y:=ik (v0:=.int .i64 (f_:Nat)) (v1:=.int .i64 (gw:Nat)) (v2:=.slice C1 m m1) Lr;have⟨y0,y1,y2⟩:=aD y;have hf:=hS.μ.from.frC hS.le;have Hl:=IS.o
     have cj:=LC.o;refine P6 fun LG HF HE Lt LU=>?_
     clear hS Gg Lr y hf Hl cj LG Ly;go_wp2;refine aI (v:=.agg (gH f_ gw C1 m m1)) (by simp[results,results86,go_sem, *]) rfl ?_;exact Wx
end
end Go.Proofs.YtpieilkmmiopfaaGreatDoor
