/- Parts of the walks. Conditions: as stated with each. -/
import Derived.Test.YtpieilkmmiopfaaGreatDoorPk13
namespace Go.Proofs.YtpieilkmmiopfaaGreatDoor
open Go.RowKit Tryz
set_option linter.all false
set_option maxHeartbeats 8000000
set_option maxRecDepth 100000
variable{A:ax}{B' J N x:Nat}{R:Rl}{T z2:aG}
section
open Go.Maps
def yJ p g A1 A2 A3 c1 c2 c3 w(ci:2<=p)(ht:p<=97)(c9:jV w A1 A2 A3 g)(hg:g.B=true)(eb:∀e∈g.es,0<=e.v/\e.v<p):az 86 (gj p (bj g A1 c1 A2 c2 A3 c3)) w (Cx (g.N p) w):=by
 have⟨hA,f7,gv,gA,gB⟩:=dp gD;refine OF fun G8 If Ie F0=>?_
 have hp:g.i.length<=12:=G8.2.2.1;have hs:g.o.length<=12:=G8.2.2.2.1;have⟨IY,IW,b0,HV⟩:=gG (fun V (be:ag w V)=>c9.ext be) If G8.2.2.2.2.1 eb;refine PN fun f_ LL LR Gh gw Ie IV N LS LA Lv LW hB hq hr=>?_;clear c9 hg eb G8 If
 go_enter func86,ntmps86
 go_upto_region 1 with(fail)
 generalize (w.alloc _).alloc _=W at hB hq hr ⊢;have⟨x0,x1,x2,x3⟩:=aB hq;have⟨HB,HQ,HR⟩:=er hB hq hr;have b5:=hB;clear hB hq;have g8:=zH (show(w:Nat)+1<W from(bk.1 hr).1);have ev:=zH (IY W b5).i;have e2:=zH (IY W b5).o;clear b5 f7 gv gA gB;go_upto_region 2 with(go_at_call 65;(with_reducible refine(mS (bD g.i) (bD g.o) A2 A3 c2 c3 g.i g.o f_ W ev.o e2.o (aS _).q (aS _).q LR.o.q Qu).x ?_);rintro e w2 ⟨g6,hb,rfl,-,a2,F⟩;have Hk:=zH F;have cu:=zH a2.D;clear a2 F)
 clear x0 x1 x2 x3;refine Pf fun FV IX IZ x0 x1 x2 x3 LX _ _ _ _ w3 Gm hz IS Ia JG LC=>?_
 clear Gm hz x0 x1 x2 x3 HB HQ HR Hk;go_wp2;go_loopw [30] (fun i wr=>∃(k:Nat) (C1:ax) (m1:Nat),k<=f_/\i=.int .i64 k/\CP w3 w2 wr f_ gw C1 k m1 ((g.H p).take k)/\ag w2 wr) (fun i _=>f_-(intOf i).toNat)
 case atStart=>exact⟨0,none,0,aW _,rfl,JG,Ia⟩
 case round=>
  obtain⟨k,C1,m1,bi,rfl,hS,Gg⟩:=hrel;clear JG;by_cases FX:k<f_
  .obtain⟨x,hx⟩:=aq (show k < (g.i++g.o).length by have:=LL.o;rw[bm];unfold Gr.f_ at this;omega);obtain⟨g9,ha,rfl,a0⟩:=(cu.ext Gg).θ (k:=k) (by rw[LR.o];exact FX);have hm:=a0 k (x:Int) S9;have gs:x<gw:=XN;have fc:=zH (RL:(g.i++g.o).getD k 0=x);have am:=zH (show(g.H p).take (k+1)=(g.H p).take k++[iE p N [(k,1),(f_+x,p-1)]] from by refine jl ?_;unfold Gr.H;rw[bI,iy (by rw[<-LL.o];exact FX),Lv.o,LL.o,IV.o,<-fc.o];rfl)
   have⟨y,ee⟩:=aR (f_+x);have hu:IntKind.i64.wrap ((f_:Int)+(x:Int))=(y:Int):=Rt;rw[<-ee]at am;have LN:y<N:=SG;have Lx:k<N:=SG;have a7:=zH ((sD (p:=p) (n:=N) (L:=[(k,1),(y,p-1)]) ci (fun q hq=>Vw)).1);have⟨row,G⟩:=aR (iE p N [(k,1),(y,p-1)]);have e6:=zH (by rw[G];exact znf ci Lx LN Qu:(kg N k).set y (p-1)=row);rw[<-G]at am a7;have⟨z0,z1,z2⟩:=aD hS.Β;obtain⟨b2,fa,JG,Ho,b4⟩:=pD (fun V a5=>(by have:=oW (f_:Int) (gw:Int) a5 V Qu Qu Qu Qu;rw[show(f_:Int)+(gw:Int)=(N:Int) by have:=Lv.o;omega]at this;exact this:az 64 #[.agg #[(f_:Nat),(gw:Nat),a5]] V fun e w'=>e=.returned (.int .i64 (N:Nat))/\ag V w')) (fun V=>(by have:=DP N k V Qu Lx;exact this:az 125 (iL N k) V fun e w'=>∃u,e=.returned u/\aE w' V u (kg N k)/\ag V w')) hS Gg LN;clear a0 hx gs ee Lx G hS Gg;go_upto_region 7 with(first|(go_at_call 64;(with_reducible refine(b2.o _ _).x ?_);rintro e g4 ⟨rfl,av⟩;have ac:=zH av;clear av)|(go_at_call 125;(with_reducible refine(fa.o _).x ?_);rintro e O ⟨u,rfl,Z,ap⟩;obtain⟨D,U,J,an,-⟩:=pW Z (by rw[kh];omega);rw[kh]at J;subst J;have T:=zH (aT ac ap);have a9:=zH (Z.x ac.size);have ei:=zH (aZ ac.size an);clear Z ap an))
   have G:=a9.row (kh N k);obtain⟨v0,a3⟩:=aq (by rw[kh];exact b4:y < (kg N k).length);have a1:af O D y (.int .i64 v0):=by rw[G.C y (by have:=b4.o;omega),bI,a3];rfl
   have b8:=G.g y;have H:=(G.j y (.int .i64 (p-1))).1;rw[<-eW,e6.o]at H;obtain⟨c0,b3⟩:=bJ (by unfold aE;rw[a7.o];exact H:aE (O.setCell ⟨D,y,none⟩ (.int .i64 (p-1))) wr (.slice (bH D) N U) row) (T.o.setCell (p:=⟨D,y,none⟩) ei (.int .i64 (p-1)));have y0:=ar T.o z0;have LN:=b4.o;clear G a3 H z0 z1 z2;go_upto_region 8 with(fail)
   clear y0 a1 b8 LN;generalize O.setCell ⟨D,y,none⟩ _=g3 at c0 b3 ⊢;have⟨y0,y1,y2⟩:=aD (ai JG.Β b3);go_wp2_with ((at_builtin;refine vV rfl (.tmp 48) (.tmp 50) rfl w3 wr g3 (.slice C1 k m1) (.slice (bH D) N U) _ row JG.o.μ b3.o c0.o SV JG.o.le rfl rfl ?_;intro g5 fl g2 Y F bo bn bg;rw[JG.o.ι]at Y ⊢;have⟨H,I⟩:=CP.j JG Y F;have⟨z0,z1,z2⟩:=aD I;have f0:=aK I 0;have f1:=aK I 1;have f2:=aK I 2;have ah:=zH H;have cq:=zH F;clear Y F bo bn H I bg))
   go_roundw
   case rel=>
    have h:=ah.o;rw[<-am.o]at h;exact⟨k+1,_,_,Qu,Qx,h,(Ho.t (cq.x (ix IS))).setCell (p:=⟨w2,2,none⟩) (ae _) _⟩
   case measure=>simp[intOf];omega
  .have f8:f_=k:=Qu;subst f8;rw[show(g.H p).take f_=sR p g 0 from VK]at hS;have⟨x0,x1,x2,x3⟩:=aB (ai IZ Gg);have⟨cO,cr⟩:=bJ hS Gg;clear hS Gg LW Ia cu;go_wp2;go_loopw [57] (fun i wr=>∃(j m m1:Nat) (C1:ax),j<=g.es.length/\i=.int .i64 j/\CP w3 w2 wr f_ gw C1 m m1 (sR p g j)/\ag w2 wr) (fun i _=>g.es.length-(intOf i).toNat)
   case atStart=>exact⟨0,_,_,_,aW _,rfl,cO,cr⟩
   case round=>
    obtain⟨j,m,m1,C1,dT,rfl,hS,Gg⟩:=hrel;clear cO cr x0 x1 x2 x3;by_cases FX:j<g.es.length
    .have⟨e,bh⟩:=aq FX;have⟨he,hh,cn,c7,co,c8,b7,u0,u1,u2,u3,cb,cc⟩:=fU (IY wr (aT FV Gg)).es bh;subst b7;obtain⟨bp,br,ba,bb⟩:=e;dsimp only at u0 u1 u2 u3 cb cc;have⟨Gm,ch⟩:=bM wr (.cells (eh bp br cn ba c7 co bb c8) 155);have I0:=aU bh;have cK:=zH (fun V (be:ag wr V)=>zb1 ⟨bp,br,ba,bb⟩ cn co c7 c8 V (cb.ext be) (cc.ext be) (b0.o _ I0) (fun x hx=>by have:=IW x (au (au ⟨_,I0,ay hx⟩));have:=IV.o;omega) (fun x hx=>by have:=IW x (au (au ⟨_,I0,au hx⟩));have:=IV.o;omega) (HV.o _ I0).1 Vp);have⟨R,ao⟩:=aR ((Ed.mk bp br ba bb).zbO);rw[<-ao]at cK;have Lw:=zH (show sR p g (j+1)=sR p g j++(R.map (pj p gw)).map (zR f_) by rw[ż bh,zkU ci (fun L bd q hq=>Gr.yh b0 IW L (lh.2 ⟨_,I0,bd⟩) q hq),ao,LL.o,IV.o])
     have a7:=zH (show ∀L∈R,L.length<=3/\∀q∈L,q.1<gw/\-97<=q.2/\q.2<=97 from fun L bd=>by rw[ao]at bd;exact zkW (M:=97) (b0.o _ I0) (fun x hx=>Vt) (fun x hx=>Vs) Qw ⟨(HV.o _ I0).1,Vp⟩ L bd)
     have fz:R.length<=2:=by have:=oy List.length (Ed.zdO (p:=p) (e:=⟨bp,br,ba,bb⟩) (n:=0));rw[bs,bs,<-ao]at this;rw[<-this];unfold Ed.G;split<;>exact td ..
     have ga:m<=200:=VO;have⟨e4,a8,ct,cp⟩:=gG (ai (ai IZ Gg) Gm) (hS.ext Gm) (aT Gg Gm) Gm;clear bh cb cc I0 ao hS Gg;go_upto_region 13 with(fail)
     generalize wr.alloc _=ck at Gm ch e4 a8 ct cp ⊢;have⟨gL,gR,n2,g0⟩:=aB ch;clear u0 u1 u2 u3 ch Gm;go_wp2_with (go_at_call 126;(with_reducible refine(cK.o _ cp.o).x ?_);intro e bv h;unfold Ϟ at h;obtain⟨g7,hc,fs,a2,F⟩:=h;subst fs;have em:=zH a2;have cq:=zH F;have e8:=zH (a8.ext F);have ek:=zH (aT ct F);clear a2 F)
     have cA:=zH (show ∀g,(Value.slice C1 m m1).ownBlock=some g->g < (ck:Nat) from fun g h=>by obtain⟨us,gc⟩:=a8.μ;exact(bS gc.η g h).2)
     clear gL gR n2 g0;have⟨l,ce⟩:=aR R.length;have HL:=zH ce;rw[<-ce]at fz ⊢;clear ce;go_loopw [64] (fun i wr=>∃(q m m1:Nat) (C1:ax),q<=l/\i=.int .i64 q/\CP w3 w2 wr f_ gw C1 m m1 (sR p g j++((R.take q).map (pj p gw)).map (zR f_))/\ag w2 wr/\(∀k,(ck:Nat)<=k->k < (bv:Nat)->wr.heap[k]?=bv.heap[k]?)/\(∀g,(Value.slice C1 m m1).ownBlock=some g->g < (ck:Nat)∨(bv:Nat)<=g)/\(bv:Nat)<=wr/\m<=200+q) (fun i _=>l-(intOf i).toNat)
     case atStart=>exact⟨0,_,_,_,aW _,rfl,(by simpa using e8.o),ek,fun _ _ _=>rfl,fun g h=>ay (cA g h),ae _,ga⟩
     case round=>
      obtain⟨q,gC,gK,eg,hq,rfl,hS,Gg,LV,hC,LQ,LJ⟩:=hrel;clear cA;by_cases hn:q<l
      .obtain⟨L,hr⟩:=aq (show q<R.length by have:=HL.o;omega);have db:=a7 L (aU hr);rcases em wr LV with h|⟨hD,b7,a0⟩
       .exact V9
       subst b7;obtain⟨a4,bz,a1,d4,dc⟩:=a0 q L hr;have am:=zH (by rw[jl hr];simp:sR p g j++((R.take (q+1)).map (pj p gw)).map (zR f_)=(sR p g j++((R.take q).map (pj p gw)).map (zR f_))++[zR f_ (pj p gw L)]);have⟨z0,z1,z2⟩:=aD hS.Β;obtain⟨ad,rfl⟩:∃ad,ad=wr:=⟨wr,rfl⟩;obtain⟨b2,fd,JG,Ho,ez,HC,fb,cB,b1,LU⟩:=ϟ (fun V a5=>(by have:=oW (f_:Int) (gw:Int) a5 V Qu Qu Qu Qu;rw[show(f_:Int)+(gw:Int)=(N:Int) by have:=Lv.o;omega]at this;exact this:az 64 #[.agg #[(f_:Nat),(gw:Nat),a5]] V fun e w'=>e=.returned (.int .i64 (N:Nat))/\ag V w')) (fun V=>kO N V Qu) hS Gg LV hC LQ d4 dc db;clear hr a0 hS Gg LV hC LQ d4 dc db;go_upto_region 17 with(first|(go_at_call 64;(with_reducible refine(b2.o _ _).x ?_);rintro e g4 ⟨rfl,av⟩;have ac:=zH av;clear av)|(go_at_call 98;(with_reducible refine(fd.o _).x ?_);rintro e O ⟨u,rfl,Z,ap⟩;obtain⟨a6,U,J,-,-,-⟩:=Z.p;rw[fA]at J;subst J;have T:=zH (aT ac ap);have a9:=zH (Z.x ac.size);clear Z ap))
       have⟨e3,cz⟩:=bJ (zeb cB T.o) (fun g (h:(Value.slice a6 N U).ownBlock=some g)=>(bS a9 g h).2);clear z0 z1 z2 a1;go_wp2_with (at_range;refine wpList_range_own _ rfl _ 167 rfl 3 3 Ϧ underlying167 _ a4 3 bz rfl e3.o ?_;intro hE d8 b9 gd)
       go_frame
       have⟨cI,cV,c4⟩:=er d8 (a9.ext (cy b9)) (T.o.t ((cy b9).x T.o.size));clear d8 b9 gd;go_loopw [15] (fun _ wr=>∃(left:Lit->Bool) (c6:Nat),wr.ranges prog 3 (plainElem prog 3) a4 O 3 bz left c6/\Hd (∀bq,left bq=true->Maps.has bz bq=true)/\aE wr ad (.slice a6 N U) (Fb p f_ gw L left)/\ag ad wr) (fun _ wr=>wr.rangeLeft a4 O)
       case atStart=>exact⟨_,_,cI,zH (fun _ h=>h),by rw[zfE b1,<-Lv.o];exact cV,c4⟩
       case round=>
        obtain⟨left,c6,d7,d1,dl,dr⟩:=hrel;have⟨cF,cR,ab⟩:=er d7 dl dr;clear d7 dl dr cI cV c4;go_wp2_with (at_next;refine wpList_next_ranges_ii _ rfl _ rfl 3 3 .i64 .i64 Ϧ fL fL a4 O 3 _ _ _ rfl cF.o ?_ ?_)
        .intro f4 d0;have e9:=zH (show aE wr ad (.slice a6 N U) (zR f_ (pj p gw L)) by have h:=cR.o;rw[zjV d0]at h;exact h);have⟨y0,y1,y2⟩:=aD (ai JG.Β ab);clear f4 d0;go_wp2_with ((at_builtin;refine vV rfl (.tmp 88) (.tmp 90) rfl w3 ad wr (.slice eg gC gK) (.slice a6 N U) _ (zR f_ (pj p gw L)) JG.o.μ ab.o e9.o SV JG.o.le rfl rfl ?_;intro g5 fl g2 Y F bo bn bg;rw[JG.o.ι]at Y ⊢;have⟨H,I⟩:=CP.j JG Y F;have⟨z0,z1,z2⟩:=aD I;have f0:=aK I 0;have f1:=aK I 1;have f2:=aK I 2;have ah:=zH H;have ej:=zH F;have e7:=zH bo;have ey:=zH bn;have LK:=zH bg;clear Y F bo bn H I bg))
         go_roundw
         case rel=>
          have h:=ah.o;rw[<-am.o]at h;have hj:=a8.le;have hw:=ab.size;have hk:=e7.o;have LQ:=fb.o;have ho:=IS.o;refine⟨q+1,_,_,_,Qu,Qx,h,(Ho.t (ej.x (ix IS))).setCell (p:=⟨w2,2,none⟩) (ae _) _,fun k h1 h2=>?_,fun g h=>?_,QW,Qu⟩
          .refine(a_ _ _ _ _ (by show k≠w2.heap.size;omega)).t ((ey k Qu (fun e=>?_)).t ((ab.block k Qu).t (ez k h1 h2)));have:=HC k e.q;omega
          .exact Yb
         case measure=>simp[intOf];omega
        .intro x c bu fo cj gn d3 dq d9 d2 ca gi f5;obtain⟨y,fx,bi⟩:=b1.n _ (d1.o _ d3);obtain rfl:x=(y:Int):=by simpa using fx
         have h1:=(dq (.lit (.int .i64 0))).q.t (b1.a y bi _);have b6:c=iD L y:=Rp;have⟨g1,d5,d6⟩:=zkV bi;have gu:y<gw:=by rw[<-d6];exact(LU.2 g1 d5).1
         have f3:=Dx (M:=97) Qw (L:=L) (x:=y) (fun q hq=>(LU.2 q hq).2);have f9:=LU.1;have hl:-291<=c/\c<=291:=Qu;have⟨z,hz⟩:=aR (f_+y);have hy:z<N:=SG;have hv:IntKind.i64.wrap ((f_:Int)+(y:Int))=(z:Int):=Rt;obtain⟨cW,c5⟩:=bJ (aE.o_ cR ca (fun g e h=>by cases e;have:=cz.o _ h;omega)) (ab.grown ca ab.size (fun j dT=>by cases dT;exact T.o.size));obtain⟨D,hd,J,an,fy⟩:=pW cW (by rw[zY];omega);simp only[ep]at J;obtain⟨rfl,-,-⟩:=J;have dO:D < (O:Nat):=cz D rfl;have G:=cW.row (by rw[zY];exact Lv.q);obtain⟨v0,a3⟩:=aq (by rw[zY];omega:z < (Fb p f_ gw L left).length);have a1:af bu D z (.int .i64 v0):=by rw[G.C z Qu,bI,a3];rfl
         have b8:=G.g z;have H:=(G.j z (.int .i64 (c%p))).1;rw[<-eW,hz,b6,zh3 gu,<-b6,<-hz]at H;have⟨ah,eB⟩:=bJ H (fun V=>CL p c V Qu Qu Qu Qu);have⟨y0,y1,y2⟩:=aD (ai JG.Β c5);have gb:=cB.lt;obtain⟨e1,e0,eo,es,e5,eA⟩:=ny (Qu:a4≠D) (show w2.heap.size≠D by have:=JG.lz;have:=JG.le;omega) an dO d9 d2;clear G a3 H gb an fy dO hz b6 f3 f9 d5 d6 bi h1 d3 d2 d9 ca gi dq cj gn;go_upto_region 20 with(fail)
         go_region_held3 (fun V=>af V w2 0 (.int .i64 (f_:Nat)))
          (first|exact y0|exact(cE e0.o).t y0)
          ((go_at_call 127;(with_reducible refine(eB.o _).x ?_);rintro e w' ⟨rfl,rfl⟩))
         clear y0 y1 y2 a1 b8 f5;go_wp2_with fail
         have bc:=((al D bu).setCell (p:=⟨D,z,none⟩) (ae _) (.int .i64 (c%p))).drew;have f6:bu.grownBy (bu.setCell ⟨D,z,none⟩ (.int .i64 (c%p))).drew (some D):=⟨bc.os,bc.tape,bc.output,bc.size,fun k _ F0=>a_ _ _ _ _ (fun e=>F0 Qv)⟩;have ea:=e5.o.kept f6 (fun e=>e1 (ji e)) (fun e=>by have:=ji e;have:=es.o;omega);go_roundw
         case rel=>
          refine⟨_,fo,ea,zH (fun bq h=>d1 bq (by simp only[bN]at h;exact h.1)),?_,(c5.setCell (p:=⟨D,z,none⟩) eo _).drew⟩;have h:=ah.o;unfold aE;rw[zY,<-Lv.o];exact h
         case measure=>rw[ea.left_eq,cF.o.left_eq];exact eA
      .exact Ze
    .have Ly:j=g.es.length:=Qu;rw[Ly,zjB]at hS;have⟨z0,z1,z2⟩:=aD hS.Β;have Lr:=ai IX.o Gg;have⟨r0,r1,r2⟩:=aD Lr;have⟨f0,f1,f2⟩:=cd Lr;have y:=ik (v0:=.int .i64 (f_:Nat)) (v1:=.int .i64 (gw:Nat)) (v2:=.slice C1 m m1) Lr;have⟨y0,y1,y2⟩:=aD y;have hf:=hS.μ.from.frC hS.le;have Hl:=IS.o
     have cj:=LC.o;refine P6 fun LG HF HE Lt LU=>?_
     clear hS Gg Lr y hf Hl cj LG Ly;go_wp2;refine aI (v:=.agg (gH f_ gw C1 m m1)) (by simp[results,results86,go_sem, *]) rfl ?_;exact Wx
end
structure Kl(n0 l:Nat)(W W':aa):Prop where
 lo:Below n0 W W'
 hi:∀k,l<k->k < (W:Nat)->W'.heap[k]?=W.heap[k]?
def í(p:Int)(n:Nat)(h:List Int->Bool)(e:Ed):Bool:=(e.yk p).all fun r=>h (iE p n ((e.i++e.o).zip r))
def ê(V:aa)(B D:Nat)(R:Rl):Prop:=∃A c,bA V D (dh R.l R.r A R.b c) 67/\Fr V B V (fun h=>cS h A R.b)
def ê.of{V}{B c}(D:Fr V B' V (fun h=>cS h A R.b))(F:B<=B'):ê (V.alloc (.cells (dh R.l R.r A R.b c) 67)) B V R:=⟨A,c,aH V _ rfl,(D.ext (aw V _) (ae _)).x F Qt⟩
def ê.of3{V}{B c}{H}(G:bA V J #[T,H,z2] 67)(D:Fr V B' V (fun h=>cS h A R.b))(U:B<=B')(Y:J<B'):ê (((V.setCell ⟨J,0,none⟩ (zI (R.l:Nat))).setCell ⟨J,1,none⟩ (zI (R.r:Nat))).setCell ⟨J,2,none⟩ (.slice A R.b c)) B J R:=⟨A,c,ja G,fun h F=>D h fun k I O=>(F k Qu QW).t (zaU Qu)⟩
def zmx{k v}{b}(h:3<=k):pC ⟨k,v,b⟩<=2/\sC ⟨k,v,b⟩<=2/\1<=pC ⟨k,v,b⟩ +sC ⟨k,v,b⟩:=by
 unfold pC sC;dsimp only
 (repeat' split)<;>omega
structure xt(B n ga c:Nat)(l:aL)(V:aa):Prop where
 row:V.ownsRow B 3 1 (.slice (bH ga) n c) n (l.map (Value.int .i64))
 ι:l.length=n
section
variable{B n ga c:Nat}{l:aL}{V V':aa}
def xt.μ(h:xt B n ga c l V):aE V B (.slice (bH ga) n c) l:=by unfold aE;rw[h.ι];exact h.row
def xt.ext(h:xt B n ga c l V)(D:ag V V'):xt B n ga c l V':=⟨by
 have:=h.μ.ext D;unfold aE at this;rw[h.ι]at this;exact this,h.ι⟩
def xt.ints(h:xt B n ga c l V):aO V (some ⟨ga,0,none⟩) l:=by obtain⟨A,ε,e,hi,-⟩:=h.μ.p;cases e;exact hi
def xt.at(h:xt B n ga c l V){y}(hx:l[x]?=some y):af V ga x (zI y)/\V.frozen? ⟨ga,x,none⟩=false:=Yd
def xt.put(h:xt B n ga c l V)x y:xt B n ga c (l.set x y) (V.setCell ⟨ga,x,none⟩ (zI y)):=by have D:=(h.row.j x (zI y)).1;rw[<-eW]at D;exact⟨D,SM⟩
def xt.la(h:xt B n ga c l V):B<=ga:=(bS h.row ga rfl).1
end
def zeT p g G A1 d5 d6 c1 c2 hZ(Z cr:aa)l e9 a0(ap e7:j4)(bc:bV p=true)(fo:jV Z A1 d5 d6 g)(hg:g.B=true)(g4:g.pf p)(gd:bA Z e9 (bj g A1 c1 d5 c2 d6 hZ) 54)(gi:bA Z a0 (bK p) 3)(h5:(Z:Nat)<=l)(g0:l < (cr:Nat))(d2:ag Z cr)(fy:∀A B,ap A->ag A B->ap B)(fd:ap cr)(gb:∀row A ε a7,ap a7->ag Z a7->row.length=g.w->(∀x∈row,0<=x/\x<p)->aO a7 A row->l<a7.heap.size->YieldAt Fence.wide 2 prog l #[.slice A g.w ε] a7 fun e a6=>(e=.returned (.bool true)/\G row=true/\ap a6/\Kl Z l a7 a6)∨(e=.returned (.bool false)/\G row=false/\e7 a6)):az 188 #[.func (.yield l) #[] #[],.pointer (bH e9),.pointer (bH a0)] cr fun e a6=>(∃v,e=.returned v)/\((g.es.all (í p g.w G)=true/\ap a6)∨(g.es.all (í p g.w G)=false/\e7 a6)):=by
 have⟨g6,kk⟩:=cv bc;refine OF fun G8 If Ie F0=>?_
 have⟨hv,em,hM,e4,eo,ct,cu,hE,hW,hC⟩:=ϟ (fun V (c9:ag Z V)=>fo.ext c9) If g4 gb fy gd gi g0 d2 fd;have⟨D,bz⟩:=aR g.w;have hw:=zH bz;rw[<-bz]at Ie e4 ct ⊢;obtain⟨-,id,-,-⟩:=aB (ai ct d2);clear fo hg G8 If g4 bz gb fy gd gi h5 g0 d2 fd;go_enter func188,ntmps188
 go_wp2;clear id;go_loopw [16] (fun i wr=>∃j:Nat,j<=g.es.length/\i=.int .i64 j/\(g.es.take j).all (í p D G)=true/\ap wr/\ag Z wr/\l < (wr:Nat)) (fun i _=>g.es.length-(intOf i).toNat)
 case atStart=>exact⟨0,aW _,rfl,rfl,hC,hW,hE⟩
 case round=>
  obtain⟨j,kc,rfl,bu,f3,gs,g1⟩:=hrel;have⟨ea,ev,cz,b6⟩:=gG bu f3 gs g1;clear bu f3 gs g1;by_cases h6:j<g.es.length
  rotate_left
  .obtain rfl:j=g.es.length:=Qu;go_wp2;go_end0
   refine⟨⟨_,rfl⟩,ay ⟨?_,ev⟩⟩;have:=ea.o;rw[cZ (ae _)]at this;exact this
  have⟨e,ci⟩:=aq h6;have⟨i9,jp,d7,fa,d8,fb,dl,u0,u1,u2,u3,dr,dO⟩:=fU (hv wr cz).es ci;subst dl;have b1:=aU ci;obtain⟨hG,hU⟩:=bJ b1 (by rw[du,ci,rV];simp:(g.es.take (j+1)).all (í p D G)=((g.es.take j).all (í p D G)&&í p D G e));obtain⟨Y,T,H,I⟩:=e;dsimp only at u0 u1 u2 u3 dr dO;obtain⟨dq,b0⟩:=hM.o _ b1;dsimp only at b0;have cj:=tf dq;obtain⟨c0,c3,c4,-⟩:=CN bc b0;have⟨R,ce⟩:=aR (rm p ⟨Y,T,true⟩);have ei:=zH (show ∀s V,az 130 (gj p (dN Y T s)) V (lJ R V) from fun s V=>by rw[ce];exact BU p Y T s _ V bc b0);rw[<-ce]at c0 c3 c4;have f8:R.l=H.length:=c0.t cj.2.2.1.q;have f9:R.r=I.length:=c3.t cj.2.2.2.q;obtain⟨a4,a5,cR,eB,hT,hx,hz⟩:=ß f8 f9 c4 (by rw[ce];rfl:Ed.yk p ⟨Y,T,H,I⟩=ql p R.b (H.length+I)) (Ed.zdp bc dq b0) dr dO;have b5:=zH (show ∀x∈H++I,x<D from fun x O=>by
   rw[hw.o];rcases dP.1 O with h|h
   .exact em x (au (au ⟨_,b1,ay h⟩))
   .exact em x (au (au ⟨_,b1,au h⟩)))
  have Gn:=zH (show H.length+I<=24/\0<H.length+I from by have fl:=cj;dsimp only at fl;have:=zmx (v:=T) (b:=true) fl.1;omega);clear ci b1 dq b0 cj c0 c3 c4 ce f8 f9 dr dO;go_upto_region 3 with(fail)
  have⟨ch,ck⟩:=bM wr (.cells (eh Y T d7 H fa d8 I fb) 155);have bi:=zH ch;generalize wr.alloc _=an at ch ck bi ⊢;have⟨hI,eg⟩:=bJ ck (aT cz ch);have bd:=aF (ai cu eg) 0 rfl;obtain⟨hf,hh,-,-⟩:=aB ck;have U:af an a0 0 (zI p)/\af an wr 0 (zI Y)/\af an wr 1 (zI T):=⟨bd,hf,hh⟩;clear u0 u1 u2 u3 ck ch bd hf hh;go_cut [6] from 20 to 27 (fun io V=>∃e8,io=.pointer (bH e8)/\ê V an e8 R/\ag an V)
  case first=>
   go_region_held3 (fun V=>af V a0 0 (zI p)/\af V wr 0 (zI Y)/\af V wr 1 (zI T))
    (first|with_reducible exact U|with_reducible exact jH (aC _) U|with_reducible exact jH (aw _ _).drew U|with_reducible exact jH GY.o U|with_reducible exact jH (GY.o.alloc GY.o.size _) U|with_reducible exact jH ad.o U|with_reducible exact jH (ad.o.alloc ad.o.size _) U|with_reducible exact jH (e_ ad.o (ae _) _ _ _) U|with_reducible exact jH (e_ ad.o GY.o.size _ _ _) U)
    ((first|(go_at_call 189;refine(zeh Y T _).x ?_;rintro e b2 ⟨⟨sb,rfl⟩,FR⟩;have GY:Hd (ag an b2):=VZ;have G5:=zH FR;clear FR)|(go_at_call 130;refine(ei sb _).x ?_;intro e hk h;unfold lJ at h;obtain⟨i0,i8,h1,av,Gg⟩:=h;subst h1;have ad:Hd (ag an hk):=V7;have cO:=zH av;have i1:=zH Gg;(first|(have F:=ai (ai (ky an _) G5) Gg;have⟨ia,hj,ib⟩:=aD F;have f0:=aK F 0;have f1:=aK F 1;have f2:=aK F 2;have cW:=zH F;clear F)|(have F:=ai (aH b2 _ rfl) Gg;have⟨ia,hj,ib⟩:=aD F;have f0:=aK F 0;have f1:=aK F 1;have f2:=aK F 2;have cW:=zH F;clear F)|skip);clear av Gg)))
   all_goals
    go_wp2_with fail
    go_meet
    first
     |with_reducible exact⟨hk,rfl,ê.of cO.o GY.o.size,ad.o.alloc ad.o.size _⟩
     |with_reducible exact⟨b2,rfl,ê.of3 cW.o cO.o (aZ GY.o.size (aw _ _).size) Qt,e_ ad.o GY.o.size _ _ _⟩
     |with_reducible exact⟨an,rfl,ê.of3 cW.o cO.o GY.o.size UN,e_ ad.o (ae _) _ _ _⟩
  case rest=>
   obtain⟨a8,rfl,gu,ba⟩:=hcut;obtain⟨d4,rfl⟩:∃d4,d4=wc:=⟨wc,rfl⟩;have⟨ee,eb,hq,hJ⟩:=gG gu ba (aT eg ba) (ai hI ba);obtain⟨-,-,n2,h8⟩:=aB hJ;have⟨hy,hA⟩:=bJ (hx.ext (aT bi ba)) (hz.ext (aT bi ba));clear gu ba U;have⟨J,f5⟩:=aR (H.length+I);have ac:=zH f5;clear f5;go_upto_region 5 with(go_at_call 65;(with_reducible refine(mS (bD H) (bD I) d7 d8 fa fb H I J d4 hy.o hA.o (aS _).q (aS _).q (by rw[bm,aS,aS];exact ac.o) Sx).x ?_);rintro e bh ⟨is,i5,rfl,-,gC,gc⟩;have b7:=zH gc;have ek:=zH gC;clear gC gc)
   clear n2 h8;have ho:=zH (aT hq b7);obtain⟨b3,cb,hb,av⟩:=ee.o;have⟨hc,hd,he⟩:=aD (ai hb b7);have bp:af bh a0 0 (zI p)/\af bh a8 0 (zI (R.l:Nat))/\af bh a8 1 (zI (R.r:Nat))/\af bh a8 2 (.slice b3 R.b cb):=⟨aF (ai cu ho) 0 rfl,hc,hd,he⟩;have e2:=zH (av.D.at.ext b7);clear hb av hc hd he;have e3:=zH (fun v V=>(by have:=zgA (R.l:Nat) (R.r:Nat) v V Qu (by rw[a4.o];have:=Gn.o;omega) Qu (by rw[a5.o];have:=Gn.o;omega);rw[show((R.l:Nat):Int)+(R.r:Nat)=(J:Nat) by rw[ac.o,a4.o,a5.o];omega]at this;exact this:az 191 #[.agg #[(R.l:Nat),(R.r:Nat),v]] V fun e w'=>e=.returned (zI (J:Nat))/\ag V w'));have⟨ah,c8⟩:=aR (Ed.yk p ⟨Y,T,H,I⟩);have cK:=zH c8;have eA:=zH (fun V (c9:ag bh V)=>(by
    have s:=cR.Η;unfold Rl.eV at s;have:=DU p R.b b3 cb R.b (R.l+R.r) V bc (e2.ext c9) s (by have:=Rl.Ok.ι cR;rw[a4.o,a5.o]at this;have:=Gn.o;omega) (by rw[a4.o,a5.o];have:=Gn.o;omega);rw[a4.o,a5.o,<-eB.o,<-c8,<-ac.o]at this;exact this:az 190 #[p,.slice b3 R.b cb,(J:Nat)] V (Ct ah V)))
   clear c8;go_region_held3 (fun V=>af V a0 0 (zI p)/\af V a8 0 (zI (R.l:Nat))/\af V a8 1 (zI (R.r:Nat))/\af V a8 2 (.slice b3 R.b cb))
    (first|with_reducible exact bp|with_reducible exact gS b9.o bp|with_reducible exact gS b8.o bp|exact bp)
    ((first|(go_at_call 191;refine(e3.o _ _).x ?_;rintro e k4 ⟨rfl,am⟩;have b8:=zH ((aC bh).t am);clear am)|(go_at_call 190;refine(eA.o _ b8.o).x ?_;intro e d3 h;unfold Ct at h;obtain⟨it,i6,h0,av,am⟩:=h;subst h0;have b9:=zH (aT b8 am);have ey:=zH (av.fr am.size);have hS:=zH b8.size;clear am av)))
   clear bp;have O:=aT bi eb;have O:=aT O b7;obtain⟨ca,e0,hL⟩:=er (aT O b9) ((ek.ext b9 (ae _)).x (lo':=l+1) (by have:=b6.o;have:=bi.size;have:=eb.size;omega) b9.size) (ey.x (lo':=l+1) (by have:=b6.o;have:=hS.o;have:=O.size;omega) (ae _));have⟨hD,hp⟩:=bJ (eo.o _ _ ev ca) (aT cz ca);clear O;have⟨bo,c7⟩:=aR ah.length;have Ka:=zH c7;rw[<-c7];clear c7 ek ey e3 eA ei e2 ee;have⟨L,br⟩:=aR (H++I);obtain⟨cI,ej,hP⟩:=er (by rw[br,bm,ac.o]:L.length=J) (show í p D G ⟨Y,T,H,I⟩=ah.all fun r=>G (iE p D (L.zip r)) by rw[br,cK.o];rfl) (by rw[br,jr]:bD H++bD I=bD L);rw[hP.o]at e0;rw[<-br]at b5;clear br;have j1:J<=24:=by have:=Gn.o;have:=ac.o;omega
   have j0:bo<=24:=by have s:=cR.Η;unfold Rl.eV at s;rw[a4.o,a5.o,<-ac.o]at s;obtain⟨hj,k1,a9,a1,-⟩:=xV bc g6 s;have a2:=a1.1;rw[ac.o,<-eB.o,<-cK.o,<-Ka.o]at a2;omega
   obtain⟨hl,rfl⟩:∃hl,hl=wr:=⟨wr,rfl⟩;go_wp2;go_loopw [40] (fun i ao=>∃q:Nat,q<=bo/\i=.int .i64 q/\((ah.take q).all fun r=>G (iE p D (L.zip r)))=true/\ap ao/\ag Z ao/\(∀k,l+1<=k->k < (d3:Nat)->ao.heap[k]?=d3.heap[k]?)/\(d3:Nat)<=ao) (fun i _=>bo-(intOf i).toNat)
   case atStart=>exact⟨0,aW _,rfl,rfl,hD,hp,fun _ _ _=>rfl,ae _⟩
   case round=>
    obtain⟨q,g7,rfl,bu,fz,gn,gR,g8⟩:=hrel;have⟨d9,es,b4,cF,bn⟩:=pD bu fz gn gR g8;clear bu fz gn gR g8;by_cases kd:q<bo
    rotate_left
    .obtain rfl:q=bo:=Qu;go_wp2;go_roundw
     case rel=>exact⟨j+1,Qu,Qx,by
      have h:=d9.o;rw[cZ Sv]at h;rw[hU.o,ea.o,ej.o,h];rfl,es,b4,by have:=b6.o;have:=bn.o;have:=ca.size;omega⟩
     case measure=>simp[intOf];omega
    obtain⟨r,hr⟩:=aq (show q<ah.length by have:=Ka.o;omega);have hH:=zH (aU hr);have dT:eV p ah J ah:=by have s:=hT.o;rw[<-cK.o,<-ac.o]at s;exact s
    have cn:r.length=J:=dT.row r (aU hr);have hQ:=zH (show ∀y∈r,0<=y/\y<p from fun y ha=>by obtain⟨d,bv⟩:=eH.1 ha;have:=dT.vY (aU hr) (d:=d) (by rw[<-cn];exact(bG.1 bv).1);rw[bf,bv]at this;exact this)
    rcases hL wr cF with h|⟨k2,k3,dl,gv⟩
    .exact V9
    subst dl;obtain⟨ip,i7,gw,gK⟩:=gv q r hr;rw[cn]at gw;obtain⟨hV,hO,hB,e1⟩:=gG (by rw[du,hr,rV];simp:((ah.take (q+1)).all fun r=>G (iE p D (L.zip r)))=(((ah.take q).all fun r=>G (iE p D (L.zip r)))&&G (iE p D (L.zip r)))) (e0 wr cF) gK cn;have bz:0<D:=by have a9:=Gn.2;have a1:=cI.o;have a2:=ac.o;have⟨x,O⟩:=aq (Qu:0<L.length);have:=b5 x (aU O);omega
    obtain⟨ii,-,-,-⟩:=aB (ai ct b4);have hN:=zH (aF (ai cu b4) 0 rfl);clear gv hr dT gK cn;go_upto_region 9 with(go_at_call 98;refine(ziS D _ Qu bz).x ?_;rintro e b2 ⟨ga,c5,rfl,g5,am⟩;have ez:=zH g5;have hX:=zH am;clear g5 am)
    clear ii gw;obtain⟨hn,e6,e5⟩:=er (show xt wr D ga c5 (iE p D ((L.zip r).take 0)) b2 from⟨ez,by show(List.replicate D (0:Int)).length=D;simp⟩) (by rw[List.length_zip,cI.o,e1.o,rX]:(L.zip r).length=J) (fun k=>sD (p:=p) (n:=D) (L:=(L.zip r).take k) g6 fun q g7=>b5 q.1 (pS (AG g7)).1);clear ez;obtain⟨ao,rfl⟩:∃ao,ao=wr:=⟨wr,rfl⟩;go_wp2;go_loopw [49] (fun i hm=>∃m:Nat,m<=J/\i=.int .i64 m/\xt ao D ga c5 (iE p D ((L.zip r).take m)) hm/\ag ao hm) (fun i _=>J-(intOf i).toNat)
    case atStart=>exact⟨0,aW _,rfl,hn,hX⟩
    case round=>
     obtain⟨m,ke,rfl,cc,bb⟩:=hrel;have⟨a3,ab⟩:=bJ cc bb;by_cases g2:m<J
     .obtain⟨⟨x,y⟩,F⟩:=aq (show m < (L.zip r).length by have:=e6.o;omega);obtain⟨cp,cq⟩:=Aj.1 F;dsimp only at cp cq;have f6:=hO.ext bb;obtain⟨b,o,h3,gA⟩:=f6.θ (k:=m) (by rw[aS,cI.o];exact g2);subst h3;obtain⟨hY,h9,h2,gB⟩:=(hB.ext bb).θ (k:=m) (by rw[e1.o];exact g2);subst h2;have j2:=gA m (x:Int) (dK cp);have dc:=gB m y cq;have h7:=b5 x (aU cp);obtain⟨kw,k0⟩:=hQ y (aU cq);obtain⟨be,bg⟩:=e5.o m;have co:=bg x h7;have⟨v,d0⟩:=aq (Qu:x < (iE p D ((L.zip r).take m)).length);have d1:(iE p D ((L.zip r).take m)).getD x 0=v:=by rw[bf,d0];rfl
      rw[d1]at co;have kl:0<=v:=by rw[co];exact gV _ Qu
      have kp:v<p:=by rw[co];exact gW _ Qu
      have cV:=zH (zaO (p:=p) (n:=D) F);rw[d1]at cV;dsimp only at cV;obtain⟨db,j3⟩:=cc.at d0;have bd:=ar bb hN;have hF:=zH (fun V=>CL p (v+y) V Qu Qu Qu Qu);have ks:IntKind.i64.wrap (v+y)=v+y:=Rt;clear f6 gA gB F cp cq be bg co d0 d1 cc bb;go_upto_region 12 with(fail)
      refine cU (S:=fun V=>af V a0 0 (zI p)/\af V ga x (zI v)/\af V hY (h9+m) (zI y)) 14 QT ⟨bd,db,dc⟩ (fun hHeld=>?_);refine Qj ?_;refine aM 9 ?_;refine aM 10 ?_;refine aM 11 ?_;refine cm 12 fun K hK=>?_
      go_simp;refine(hF.o _).x ?_;rintro e w' ⟨rfl,rfl⟩;go_simp;refine hK.out _ _ (fun _=>⟨bd,db,dc⟩) (fun hHeld=>?_);clear hK K hHeld;refine P9 ?_;refine cm 13 fun K hK=>?_
      go_simp;refine hK.out _ _ (fun _=>⟨bd,db,dc⟩) (fun hHeld=>?_);clear hK K hHeld;refine P9 ?_;refine MU fun K hK=>?_
      refine Qn ?_;clear K hK;refine gM QT ?_ _;go_wp2;go_roundw
      case rel=>
       have h:=a3.put x ((v+y)%p);rw[<-cV.o]at h;exact⟨m+1,Qu,Qx,Up,by first|exact ab.setCell (p:=⟨ga,x,none⟩) a3.la _|exact(ab.setCell (p:=⟨ga,x,none⟩) a3.la _).drew|exact ab.drew.setCell (p:=⟨ga,x,none⟩) a3.la _⟩
      case measure=>simp[intOf];omega
     .obtain rfl:m=J:=Qu;clear cc bb;have g9:(L.zip r).take m=L.zip r:=cZ (gp e6.o);obtain⟨be,bg⟩:=e5.o m;rw[g9]at be bg a3;have f4:=eo.o _ _ es ab;have c6:=aT b4 ab;have g3:l < (wr:Nat):=by have:=bn.o;have:=ca.size;have:=b6.o;have:=ab.size;omega
      obtain⟨fn,tm,i3,i4,ha,f7⟩:=e4 (iE p D (L.zip r)) (some ⟨ga,0,none⟩) c5 wr f4 c6 be (fun x O=>by obtain⟨d,bv⟩:=eH.1 O;have a2:=bg d (by rw[<-be];exact(bG.1 bv).1);rw[bf,bv]at a2;have a2:x=_:=a2;rw[a2];exact⟨gV _ Qu,gW _ Qu⟩) a3.ints g3
      have⟨hs,hR⟩:=bJ c6 f7;clear g9 be bg f4 c6 f7 g3;go_upto_region 14 with(fail)
      refine(wpIn_wide (n:=3)).1 ?_
      gi_wp2
      refine hR.x ?_;rintro e i2 (⟨rfl,fx,bq,gL⟩|⟨rfl,fs,bq⟩)
      .have⟨hu,cA,cB⟩:=er fx bq gL;clear fx bq gL
       gi_wp2
       go_wp2;go_roundw
       case rel=>exact⟨q+1,Qu,Qx,by rw[hV.o,d9.o,hu.o];rfl,cA,hs.t cB.lo,fun k a9 a1=>(cB.hi k Qu (by have:=bn.o;have:=ab.size;omega)).t ((ab.block k (by have:=bn.o;omega)).t (cF k a9 a1)),by have:=bn.o;have:=ab.size;have:=cB.lo.size;omega⟩
       case measure=>simp[intOf];omega
      .have⟨ht,cA⟩:=bJ fs bq;clear fs bq
       gi_wp2
       go_wp2;refine aI (results_none rfl _ _ _) rfl ?_;refine⟨⟨_,rfl⟩,au ⟨?_,cA⟩⟩;rw[uF];intro h4;have a9:=eD.1 h4 _ hG.o;rw[ej.o]at a9;have a1:=eD.1 a9 _ hH.o;rw[ht.o]at a1;cases a1
def ERl(w:aa)(R:Rl)(c:cL):Prop:=∃A ε,c=[.int .i64 (R.l:Nat),.int .i64 (R.r:Nat),.slice A R.b ε]/\cS w A R.b
def Đ:RT prog 169 67 3 (.agg bx) 40:=⟨underlying169,QT,Qw,Qw,Qw⟩
def ze9 p L t c A ε w(cO:bV p=true)(cF:bR 3 jK w A L)(eo:L.length<=400)(ap:fp (cJ L) []=some [t])(d7:t.ty=some c)(c5:qS (cJ L)=true)(ah:qp p (cJ L)=true):az 87 (gj p (aV A L ε)) w (lJ (t.rel p) w):=by
 have⟨d2,d0,dr,ao⟩:=gG (Bg.φ (p:=p) ap) c5 ah cO;have br:=(bO (w.alloc (.cells (aV A L ε) 35)) (.cells bx 67) (k:=w.heap.size) Qt).t (aH w _ rfl);have b3:=aH (w.alloc (.cells (aV A L ε) 35)) (.cells bx 67) (n:=(w:Nat)+1) Qt;have b9:=((al w w).alloc (ae _) (.cells (aV A L ε) 35)).alloc Qt (.cells bx 67);have dq:=zH (show ∀wr,ag w wr->bR 3 jK wr A L from fun wr h=>bQ cF h);have⟨Q,ca⟩:=aR (t.rel p);have dO:=zH ca;rw[<-ca];clear cF ap d7 c5 ah cO ca;go_enter func87,ntmps87
 go_upto_region 1 with(fail)
 generalize (w.alloc _).alloc _=W at br b3 b9 ⊢;obtain⟨dl,dT,Gn,b6⟩:=gG b9 b3 (show(w:Nat)+1<W from(bk.1 b3).1) (bw.lit 67 3 ERl W W (ae _));have I:=aw W (.cells #[] 67);have bv:=zH I;have db:=aF (ai br I) 0 rfl;clear br b3 b9;go_upto_region 2 with(fail)
 generalize W.alloc _=eg at b6 bv db I ⊢;have cq:=zH (ai dT I);clear I;go_wp2;go_loopw [5,13] (fun u i wr=>∃(k:Nat) (T:List Tm),i=.int .i64 k/\Bg p L t T k/\bw 67 3 ERl wr W u (xu p T)/\bA wr ((w:Nat)+1) bx 67/\ag w wr/\(W:Nat)<=wr) (fun _ i _=>L.length-(intOf i).toNat)
 case atStart=>exact⟨0,[],rfl,d2,b6,cq,aT dl bv,bv.size⟩
 case round=>
  obtain⟨k,T,rfl,ap,bq,bc,bg,c7⟩:=hrel;clear db b6 bv cq;by_cases c0:k<L.length
  .have⟨x,ck⟩:=aq c0;obtain⟨b,o,rfl,cr,c1,c2⟩:=iF (dq wr bg) ck;obtain⟨H,ab,Z⟩:=x;dsimp only at cr c1 c2;have⟨I,cj⟩:=bM wr (.cells (dN H ab Z) 95);have⟨b7,HT,II,Ib,Gc,GX⟩:=ny ck ap (bq.ext I) (ai bc I) (aT bg I) (aZ c7 I.size);clear ck ap bq bc bg c7;go_upto_region 5 with(fail)
   generalize wr.alloc _=w2 at I cj II Ib Gc GX ⊢;clear cr c1 c2 I;obtain⟨cp,c6,rfl,cI,cK,-⟩:=bw.p II;have bz:=zH cI;clear cI;rw[q6]at II cK ⊢;have⟨n,ci⟩:=aR T.length;rw[<-ci]at II cK ⊢;have Le:=zH ci;have es:n<=400:=UR;have ev:IntKind.i64.wrap ((n:Int)-1)=(n:Int)-1:=Rt;clear ci;have⟨c8,c9,n2⟩:=aD cj;clear cj;go_upto_region 6 with(fail)
   by_cases h1:H=15
   .skip
    have bp:=HT.δ b7 (show(⟨H,ab,Z⟩:eE).k=15∨(⟨H,ab,Z⟩:eE).k=16 from ay h1);obtain⟨tb,ta,S,z,rfl,a7,Y,Li⟩:=bp;dsimp only at a7 Li Y;subst h1;refine Pk fun m K8 m1 Lm K4 Hl=>?_
    have Lc:xu p (tb::ta::S)=xu p S++[ta.rel p]++[tb.rel p]:=by rw[qv,qv]
    have Ld:(xu p S).length=m:=by rw[q6,K8]
    have bn:(xu p (tb::ta::S))[m]?=some (ta.rel p):=VD;have bo:(xu p (tb::ta::S))[m1]?=some (tb.rel p):=VC;obtain⟨gb,go,rfl,a5⟩:=bz.θ (k:=m) (by rw[q6,<-Le.o];omega);obtain⟨ea,J,X1,p1,ce,a3⟩:=a5 m (ta.rel p) bn;obtain⟨eb,O,Y1,q1,ch,a4⟩:=a5 m1 (tb.rel p) bo;subst ce ch;have⟨d3,d4,bh,bi,a6⟩:=Tm.qE a7;have⟨a8,cn,b4,a9⟩:=ϛ ao bh Y.1;have⟨ba,b5,co,bb⟩:=ϛ ao bi Y.2;have⟨ra,am⟩:=aR (ta.rel p);have⟨rb,an⟩:=aR (tb.rel p);have cV:ra.r=rb.l:=by
     unfold gP at a6;rw[ak rfl]at a6;split at a6
     .rename_i br;rw[am,an,b4,b5];exact br
     .cases a6
    have Lo:(Tm.op 15 ta tb).rel p=DF p ra rb:=by rw[am,an];rfl
    rw[<-am]at J a3 a8 a9;rw[<-an]at O a4 ba bb;have a0:af w2 gb (go+m*3) (zI (ra.l:Nat)):=J 0 _ rfl;have a1:=J 1 _ rfl;have a2:=J 2 _ rfl;have b0:af w2 gb (go+m1*3) (zI (rb.l:Nat)):=O 0 _ rfl;have b1:=O 1 _ rfl;have b2:=O 2 _ rfl;have Ln:=zH (zbG p ra rb X1 Y1 ra.b rb.b p1 q1 w2.drew ao.o (a3.ext (aC _)) (a4.ext (aC _)) a8 ba a9 bb (by have:=cV;omega) rfl rfl);have⟨G,hG⟩:=aR (DF p ra rb);have⟨U,hU⟩:=aR (Tm.op 15 ta tb)
    rw[<-hU]at Li;have⟨T0,KZ⟩:=aR S;have KX:=zH (by rw[qv,hU,hG,Lo]:xu p (U::T0)=xu p T0++[G]);have Lk:=II.o.pop (n:=m) (by rw[q6];exact Le.o) Qu;rw[show(xu p (tb::ta::S)).take m=xu p S by rw[Lc,fJ,oG Sz,cZ Sz]]at Lk;rw[<-KZ]at Li Lk;have⟨K5,Ll,Jy⟩:=er Lk Li (Sl:(xu p T0).length=m);have KW:m<=400:=Qu;have Lg:m<=c6:=Qu;have IQ:m<n:=Qu;have IU:m1<n:=Qu;rw[<-hG]at Ln;have S0:=aQ a0 (aQ a1 (aQ a2 (aQ b0 (aQ b1 b2))));have S1:=n_ (aC w2) S0;have Jw:=zH (show ∀g,(Value.slice (some (⟨gb,go,none⟩:dM)) m c6).ownBlock=some g->g < (w2:Nat) from fun g e=>by obtain⟨cs,h⟩:=K5.o;exact(bS h.η g e).2)
    clear KZ hU hG Lo am an a8 cn b4 a9 ba b5 co bb bh bi a6 Li a7 bn bo a5 J O a3 a4 Lc Ld Lk II bz Le a0 a1 a2 b0 b1 b2 K4 K8 Lm Y cV;go_upto_region 9 with(fail)
    refine OO fun hHeld=>?_;clear c9 n2 c8
    refine Qj ?_;refine OU ?_;refine MU fun K hK=>?_
    refine Ln.x ?_;intro e F h;unfold lJ at h;obtain⟨D,d,be,ad,ac⟩:=h;subst be;have⟨HX4,bd⟩:=bJ ((aC w2).t (ac.x (aC w2).size)) (ad.to (lo':=w2.heap.size) Qt (ae _));clear ad ac hHeld;go_simp;refine hK.out _ _ (fun _=>n_ HX4 S0) (fun hHeld=>?_);clear hK K hHeld;refine P9 ?_;refine cm 15 fun K hK=>?_
    go_simp;refine hK.out _ _ (fun _=>n_ (HX4.alloc HX4.size _) S0) (fun hHeld=>?_);clear hK K hHeld;refine P9 ?_;refine cm 16 fun K hK=>?_
    refine im Đ rfl (.tmp 33) (.tmp 45) rfl W (F.alloc (.cells (dh G.l G.r D G.b d) 67)) (.slice (some ⟨gb,go,none⟩) m c6) (xu p T0) G [.int .i64 (G.l:Nat),.int .i64 (G.r:Nat),.slice D G.b d] F ((K5.ext HX4).ext (aw _ _)) rfl SU ⟨w2,F,GX,(aw _ _).size,fun g e=>ay (Jw g e),(bd.ext (aw _ _) (ae _)).E fun V av=>⟨D,d,rfl,av⟩⟩ RW (aZ GX (aZ HX4.size (aw _ _).size)) rfl rfl (aH F _ rfl) ?_;exact ZM
   by_cases h2:H=16
   .skip
    clear h1;have d5:((16:Int)==15)=false:=Qw;have bp:=HT.δ b7 (show(⟨H,ab,Z⟩:eE).k=15∨(⟨H,ab,Z⟩:eE).k=16 from au h2);obtain⟨tb,ta,S,z,rfl,a7,Y,Li⟩:=bp;dsimp only at a7 Li Y;subst h2;refine Pk fun m K8 m1 Lm K4 Hl=>?_
    have Lc:xu p (tb::ta::S)=xu p S++[ta.rel p]++[tb.rel p]:=by rw[qv,qv]
    have Ld:(xu p S).length=m:=by rw[q6,K8]
    have bn:(xu p (tb::ta::S))[m]?=some (ta.rel p):=VD;have bo:(xu p (tb::ta::S))[m1]?=some (tb.rel p):=VC;obtain⟨gb,go,rfl,a5⟩:=bz.θ (k:=m) (by rw[q6,<-Le.o];omega);obtain⟨ea,J,X1,p1,ce,a3⟩:=a5 m (ta.rel p) bn;obtain⟨eb,O,Y1,q1,ch,a4⟩:=a5 m1 (tb.rel p) bo;subst ce ch;have⟨d3,d4,bh,bi,a6⟩:=Tm.qE a7;have⟨a8,cn,b4,a9⟩:=ϛ ao bh Y.1;have⟨ba,b5,co,bb⟩:=ϛ ao bi Y.2;have⟨ra,am⟩:=aR (ta.rel p);have⟨rb,an⟩:=aR (tb.rel p);have Lo:(Tm.op 16 ta tb).rel p=EW p ra rb:=by rw[am,an];rfl
    rw[<-am]at J a3 a8 a9;rw[<-an]at O a4 ba bb;have a0:af w2 gb (go+m*3) (zI (ra.l:Nat)):=J 0 _ rfl;have a1:=J 1 _ rfl;have a2:=J 2 _ rfl;have b0:af w2 gb (go+m1*3) (zI (rb.l:Nat)):=O 0 _ rfl;have b1:=O 1 _ rfl;have b2:=O 2 _ rfl;have Ln:=zH (zeH p ra rb X1 Y1 ra.b rb.b p1 q1 w2.drew ao.o (a3.ext (aC _)) (a4.ext (aC _)) a8 ba a9 bb rfl rfl);have⟨G,hG⟩:=aR (EW p ra rb);have⟨U,hU⟩:=aR (Tm.op 16 ta tb)
    rw[<-hU]at Li;have⟨T0,KZ⟩:=aR S;have KX:=zH (by rw[qv,hU,hG,Lo]:xu p (U::T0)=xu p T0++[G]);have Lk:=II.o.pop (n:=m) (by rw[q6];exact Le.o) Qu;rw[show(xu p (tb::ta::S)).take m=xu p S by rw[Lc,fJ,oG Sz,cZ Sz]]at Lk;rw[<-KZ]at Li Lk;have⟨K5,Ll,Jy⟩:=er Lk Li (Sl:(xu p T0).length=m);have KW:m<=400:=Qu;have Lg:m<=c6:=Qu;have IQ:m<n:=Qu;have IU:m1<n:=Qu;rw[<-hG]at Ln;have S0:=aQ a0 (aQ a1 (aQ a2 (aQ b0 (aQ b1 b2))));have S1:=n_ (aC w2) S0;have Jw:=zH (show ∀g,(Value.slice (some (⟨gb,go,none⟩:dM)) m c6).ownBlock=some g->g < (w2:Nat) from fun g e=>by obtain⟨cs,h⟩:=K5.o;exact(bS h.η g e).2)
    clear KZ hU hG Lo am an a8 cn b4 a9 ba b5 co bb bh bi a6 Li a7 bn bo a5 J O a3 a4 Lc Ld Lk II bz Le a0 a1 a2 b0 b1 b2 K4 K8 Lm Y;go_upto_region 11 with(fail)
    refine OO fun hHeld=>?_;clear c9 n2 c8
    refine Qj ?_;refine OU ?_;refine MU fun K hK=>?_
    refine Ln.x ?_;intro e F h;unfold lJ at h;obtain⟨D,d,be,ad,ac⟩:=h;subst be;have⟨HX4,bd⟩:=bJ ((aC w2).t (ac.x (aC w2).size)) (ad.to (lo':=w2.heap.size) Qt (ae _));clear ad ac hHeld;go_simp;refine hK.out _ _ (fun _=>n_ HX4 S0) (fun hHeld=>?_);clear hK K hHeld;refine P9 ?_;refine cm 15 fun K hK=>?_
    go_simp;refine hK.out _ _ (fun _=>n_ (HX4.alloc HX4.size _) S0) (fun hHeld=>?_);clear hK K hHeld;refine P9 ?_;refine cm 16 fun K hK=>?_
    refine im Đ rfl (.tmp 52) (.tmp 64) rfl W (F.alloc (.cells (dh G.l G.r D G.b d) 67)) (.slice (some ⟨gb,go,none⟩) m c6) (xu p T0) G [.int .i64 (G.l:Nat),.int .i64 (G.r:Nat),.slice D G.b d] F ((K5.ext HX4).ext (aw _ _)) rfl SU ⟨w2,F,GX,(aw _ _).size,fun g e=>ay (Jw g e),(bd.ext (aw _ _) (ae _)).E fun V av=>⟨D,d,rfl,av⟩⟩ RW (aZ GX (aZ HX4.size (aw _ _).size)) rfl rfl (aH F _ rfl) ?_;exact ZM
   obtain⟨cW,c3⟩:=HT.leaf d0 dr b7 h1 h2;have d5:(H==15)=false:=Rp;have ek:(H==16)=false:=Rk;have⟨G,hG⟩:=aR (rm p ⟨H,ab,Z.toList.isEmpty⟩);have Ln:=zH (show ∀V,az 130 (gj p (dN H ab Z)) V (lJ G V) from fun V=>by rw[hG];exact BU p H ab Z _ V ao cW);have⟨U,hU⟩:=aR (Tm.lf ⟨H,ab,Z.toList.isEmpty⟩);obtain⟨KX,Ll,Jy⟩:=er (by rw[qv,hU,hG];rfl:xu p (U::T)=xu p T++[G]) (by rw[hU];exact c3:Bg p L t (U::T) (k+1)) (by rw[q6,Le.o]:(xu p T).length=n);have Jw:=zH (show ∀g,(Value.slice cp n c6).ownBlock=some g->g < (w2:Nat) from fun g e=>by obtain⟨cs,h⟩:=II.o;exact(bS h.η g e).2)
   clear cW c3 hG hU h1 h2;go_wp2_with (first|(go_at_call 130;refine(Ln.o _).x ?_;intro e F h;unfold lJ at h;obtain⟨D,d,be,ad,ac⟩:=h;subst be;have HX4:=zH ac;have bd:=zH ad;clear ad ac)|(at_builtin;refine de Đ rfl (.tmp 22) (.tmp 26) rfl W (F.alloc (.cells (dh G.l G.r D G.b d) 67)) (.slice cp n c6) (xu p T) G [.int .i64 (G.l:Nat),.int .i64 (G.r:Nat),.slice D G.b d] F ((II.ext HX4).ext (aw _ _)) rfl SU ⟨w2,F,GX,(aw _ _).size,fun g e=>ay (Jw g e),(bd.ext (aw _ _) (ae _)).E fun V av=>⟨D,d,rfl,av⟩⟩ RW (aZ GX (aZ HX4.size (aw _ _).size)) rfl rfl (aH F _ rfl) ?_;intro g8 Lp w8 Lj Lq K9 K3;rw[Jy.o]at Lj ⊢;have Gv:=zH Lj;have G0:=zH (((HX4.alloc HX4.size (.cells (dh G.l G.r D G.b d) 67)).x GX).t K3);clear Lj Lq K9 K3))
   have⟨JA,K_⟩:=bJ ((G0.block ((w:Nat)+1) Gn).t Ib) (Gc.t (G0.x Sx));go_roundw
   case rel=>exact⟨k+1,U::T,Qx,Ll,by rw[KX.o];exact Gv,JA,K_,aZ GX G0.size⟩
   case measure=>simp[intOf];omega
  .have d6:=ap.U c0;subst d6;have c4:xu p [t]=[Q]:=by rw[dO.o];rfl
   rw[c4]at bq;obtain⟨gb,ei,rfl,em,-⟩:=bq.form Qt;obtain⟨cs,ah⟩:=bq;obtain⟨ct,cb⟩:=aq (by rw[ah.ι];simp:0<cs.length);obtain⟨-,-,lo,hi,cA,cB,-,b8⟩:=ah.ν 0 Q ct rfl cb;obtain⟨bu,d1,he,-⟩:=b8.D;have Jz:=fun j (bp:j<3) (v:aG) (d9:ct[j]?=some v)=>oz ah.η (g:=gb) rfl (0*3+j) v (by rw[mM ah.cl cb bp];exact d9)
   have a0:af wr gb 0 (zI (Q.l:Nat)):=VJ;have a1:af wr gb 1 (zI (Q.r:Nat)):=VI;have a2:af wr gb 2 (.slice bu Q.b d1):=VH;have cR:Fr wr W wr (fun V=>cS V bu Q.b):=(b8.E fun V av=>by obtain⟨ee,ej,cc,d8⟩:=av;rw[he]at cc;simp only[List.cons.injEq,ep,true_and,and_true]at cc;obtain⟨rfl,-⟩:=cc;exact d8).to cA cB
   have⟨ey,ez,eA⟩:=aD bc;have⟨f0,f1,f2⟩:=cd bc;have⟨cu,cz,v0,v1,v2⟩:=yt (d:=d1) bc cR bg (b:=(w:Nat)+1) Qu Gn;have⟨G1,dc⟩:=bJ cu cz;unfold zE at v0 v1 v2;clear cR bc bg Jz b8 cA cB ah cb he ap cu cz c4;go_wp2;exact aI (v:=.agg (dh Q.l Q.r bu Q.b d1)) (by simp[results,results87,go_sem, *]) rfl ⟨bu,d1,rfl,G1,dc⟩
def zmK(p:Int)(S:Sy)(w:aa)(e:Ending)(w':aa):Prop:=∃(v D:Int) (h:ax) (d n:Nat),e=.returned (.tuple (ka (eO v D h n d) (ic p S.v S.h S.rows)))/\(ic p S.v S.h S.rows=true->v=S.v/\D=S.h/\n=S.rows.length/\bt w' h S.rows)/\ag w w'
def š n:υ n=bD (dd 0 n):=by
 refine gk fun k=>?_
 by_cases h:k<n
 .rw[sM h,dK (qh h)];simp
 .rw[eP Ru,eP Sa]
def zhY{a b}{h D:Nat}(Y:a.v=(J:Int))(T:b.v=(J:Int))(H:a.h=(h:Int))(O:b.h=(D:Int))(U:N=J+(h+D))(G:∀r∈a.rows,r.length=J+h)(I:∀r∈b.rows,r.length=J+D):kT N (dd 0 J++dd J h) a.rows++kT N (dd 0 J++dd (J+h) D) b.rows=(kK a b).rows:=by
 unfold kT kK;dsimp only;rw[T,H,O];simp only[Da];congr 1
 .refine kB fun r F=>?_
  rw[Ņ (G r F) (ae _) Qu,pR,show N-J-h=D by omega];simp
 .refine kB fun r F=>?_
  rw[Ņ (I r F) Qu Qu,show J+h-J=h by omega,show N-(J+h)-D=0 by omega];simp
def zjR p a b A B ca cb w(e5:dZ w)(e0:bt w A a.rows)(e1:bt w B b.rows)(am:a.Ok p)(a3:b.Ok p)(e8:b.v=a.v):az 37 (j9 p (da a A ca) (da b B cb)) w (zmK p (kK a b) w):=by
 obtain⟨nv,ba⟩:∃n:Nat,a.v=n:=⟨a.v.toNat,by have:=am.v0;omega⟩;obtain⟨na,cR⟩:∃n:Nat,a.h=n:=⟨a.h.toNat,by have:=am.h0;omega⟩;obtain⟨nb,cW⟩:∃n:Nat,b.h=n:=⟨b.h.toNat,by have:=a3.h0;omega⟩;have c0:b.v=(nv:Int):=by rw[e8,ba]
 have gB:nv<=24:=by have:=am.Â;omega
 have gs:na<=100:=by have:=am.χ;omega
 have gu:nb<=100:=by have:=a3.χ;omega
 have dc:∀r∈a.rows,r.length=nv+na:=fun r I=>by have:=am.ι r I;omega
 have dl:∀r∈b.rows,r.length=nv+nb:=fun r I=>by have:=a3.ι r I;omega
 have⟨M,e3⟩:=aR (na+nb);have⟨N,e4⟩:=aR (nv+M);have a0:=zhY (N:=N) ba c0 cR cW (by rw[e4,e3]) dc dl;have dT:(kK a b).v=(nv:Int):=ba;have dO:(kK a b).h=(M:Int):=by show a.h+b.h=_;omega
 have⟨S,e6⟩:=aR (kK a b);rw[<-e6]at a0 dT dO ⊢;have⟨a4,bz,bv⟩:=er a0 dT dO;have ez:=zH (fun V bo c (a1:ag w V) (h:bt V bo S.rows)=>(by
  have g6:S.rows.length<=320:=by rw[<-a0,bm,mB,mB];have:=am.n;have:=a3.n;omega
  have gA:∀r∈S.rows,r.length<=maxLen:=fun r I=>by
   rw[<-a0]at I;have:r.length=N:=by rcases dP.1 I with I|I<;>(obtain⟨q,_,rfl⟩:=cH.1 I;unfold ì;rw[yT,fA])
   unfold maxLen;omega
  exact dk p (nv:Int) (M:Int) bo c S.rows V (e5.ext a1) h SL gA:az 67 (gj p (dh nv M bo S.rows c)) V fun e w'=>(ic p (nv:Int) (M:Int) S.rows=true->e=.returned (.tuple (fH (dh nv M bo S.rows c))))/\(ic p (nv:Int) (M:Int) S.rows=false->e=.returned (.tuple (dz bx)))/\ag V w'))
 have ev:=zH (fun V=>qu nv V Qu);have co:=zH (fun V e9=>(by
  have:=oW (nv:Int) (M:Int) e9 V Qu Qu Qu Qu;rw[show(nv:Int)+(M:Int)=(N:Int) by omega]at this;exact this:az 64 #[.agg #[(nv:Nat),(M:Nat),e9]] V fun e w'=>e=.returned (zI (N:Nat))/\ag V w'))
 have⟨Y,e2⟩:=aR (nv+na);have⟨eg,ei⟩:=bJ (fun V=>sJ nv na V Qu Qu) (fun V=>sJ Y nb V Qu Qu);have⟨ct,cF⟩:=aR (nv+na);have⟨cu,cI⟩:=aR (nv+nb);have ej:=zH (fun V A1 H c1 c2 (an:aO V A1 (υ nv)) (ao:aO V H (bD (dd nv na)))=>(by
  have:=mS (υ nv) (bD (dd nv na)) A1 H c1 c2 nv na ct V an ao (dX _).q QU (by rw[bm,dX,aS,c_];exact cF) Qu;rw[š,<-jr]at this;exact this))
 have ek:=zH (fun V A1 H c1 c2 (an:aO V A1 (υ nv)) (ao:aO V H (bD (dd Y nb)))=>(by
  have:=mS (υ nv) (bD (dd Y nb)) A1 H c1 c2 nv nb cu V an ao (dX _).q QU (by rw[bm,dX,aS,c_];exact cI) Qu;rw[š,<-jr]at this;exact this))
 have c6:(dd 0 nv++dd nv na).length=ct:=by rw[bm,c_,c_];omega
 have c7:(dd 0 nv++dd Y nb).length=cu:=by rw[bm,c_,c_];omega
 have c5:∀x y z:Nat,y+z<=N->nv<=N->x∈dd 0 nv++dd y z->x<N:=fun x y z an ao bh=>by rcases dP.1 bh with h|h<;>(unfold dd at h;obtain⟨k,gv,rfl⟩:=cH.1 h;rw[fj]at gv;omega)
 have br:=zH (fun V H c2 (a1:ag w V) (h:aO V H (bD (dd 0 nv++dd nv na)))=>(by
  have:=DM a.rows A ca N (dd 0 nv++dd nv na) H c2 V (e0.ext a1) h (by have:=am.n;omega) Qu (fun r I=>by rw[dc r I,c6,cF]) (fun x bh=>c5 x _ _ Qu Qu bh) Qu;rw[c6]at this;exact this:az 63 #[.slice A a.rows ca,(N:Nat),.slice H ct c2] V fun e w'=>∃u,e=.returned u/\aY w' V u (kT N (dd 0 nv++dd nv na) a.rows)/\ag V w'))
 have bu:=zH (fun V H c2 (a1:ag w V) (h:aO V H (bD (dd 0 nv++dd Y nb)))=>(by
  have:=DM b.rows B cb N (dd 0 nv++dd Y nb) H c2 V (e1.ext a1) h (by have:=a3.n;omega) Qu (fun r I=>by rw[dl r I,c7,cI]) (fun x bh=>c5 x _ _ Qu Qu bh) Qu;rw[c7]at this;exact this:az 63 #[.slice B b.rows cb,(N:Nat),.slice H cu c2] V fun e w'=>∃u,e=.returned u/\aY w' V u (kT N (dd 0 nv++dd Y nb) b.rows)/\ag V w'))
 rw[<-e2]at a0;clear a4;obtain⟨a4,cn⟩:=bJ a0 (show(kT N (dd 0 nv++dd nv na) a.rows).length+(kT N (dd 0 nv++dd Y nb) b.rows)<=1048576 by rw[mB,mB];have:=am.n;have:=a3.n;omega);have g7:IntKind.i64.wrap ((na:Int)+(nb:Int))=(M:Int):=Rt;have g8:IntKind.i64.wrap ((nv:Int)+(na:Int))=(Y:Int):=Rt;rw[ba,cR,c0,cW];have⟨la,c8⟩:=aR a.rows.length;have⟨lb,c9⟩:=aR b.rows.length;rw[<-c8]at br ⊢;rw[<-c9]at bu ⊢;have⟨cz,cK⟩:=aR (kT N (dd 0 nv++dd nv na) a.rows);have⟨cA,cO⟩:=aR (kT N (dd 0 nv++dd Y nb) b.rows);obtain⟨fx,fy⟩:=bJ (by rw[cK,mB,c8]:cz.length=la) (by rw[cO,mB,c9]:cA.length=lb);rw[<-cK]at br a4 cn;rw[<-cO]at bu a4 cn;refine MO fun OV q0 q1 q2=>?_
 clear e5 e0 e1 am a3 e8 ba cR cW c0 gB gs gu dc dl e3 e4 a0 dT dO e6 e2 cF cI c6 c7 c5 c8 c9 cK cO;go_enter func37,ntmps37
 go_upto_region 1 with(fail)
 generalize ((w.alloc _).alloc _).alloc _=W at OV q0 q1 q2 ⊢;have⟨d4,d5,d6⟩:=aD q0;have⟨g4,ci,cj⟩:=aD q1;obtain⟨d8,cB,ga,gb,a9⟩:=pD OV q0 q1 q2 (show(w:Nat)+1+1<W from(bk.1 q2).1);clear OV q0 q1 q2;go_upto_region 2 with(fail)
 have⟨b4,d0⟩:=bM W (.cells (CU nv M) 57);generalize W.alloc _=g9 at b4 d0 ⊢;have⟨fl,eA⟩:=bJ b4 d0;clear d4 d5 d6 g4 ci cj;have⟨d4,d5,d6⟩:=aD (ai cB b4);clear b4 d0;go_upto_region 3 with(go_at_call 62;(with_reducible refine(ev.o _).x ?_);rintro e ap ⟨u,rfl,F,D⟩;obtain⟨gc,g5,rfl,-⟩:=F.p;rw[dX];have cp:=zH (F.fr D.size);have cq:=zH D;clear F D)
 have bp:=zH (aT fl cq);have⟨eb,b3⟩:=bJ (aT d8 bp) (ai eA cq);have a6:=zH (show(W:Nat)<ap from(bk.1 b3).1);have⟨bi,bn,z2⟩:=aD (ai cB bp);have⟨ab,ac,ad⟩:=aD b3;have G:=aQ bi (aQ bn (aQ z2 (aQ ab (aQ ac ad))));clear d4 d5 d6 bi bn z2 ab ac ad;refine cU (S:=(fun V=>af V w 0 (zI (nv:Nat))/\af V w 1 (zI (na:Nat))/\af V w 2 (.slice A la ca)/\af V W 0 (zI (nv:Nat))/\af V W 1 (zI (M:Nat))/\af V W 2 (.slice none 0 0))) 12 QT G (fun hHeld=>?_);refine aM 0 ?_;refine aM 1 ?_;refine aM 2 ?_;refine aM 4 ?_;refine aM 5 ?_;refine aM 6 ?_;refine aM 7 ?_;refine aM 8 ?_;refine cm 3 fun K hK=>?_
 go_simp
 (with_reducible refine(co.o _ _).x ?_)
 rintro e ha ⟨rfl,D⟩;have a7:=zH ((aC ap).t D);clear D;go_simp;refine hK.out _ _ (fun _=>n_ a7 G) (fun hHeld=>?_);refine Mr fun hHeld=>?_;clear K hK
 refine cm 9 fun K hK=>?_
 go_simp
 (with_reducible refine(eg.o _).x ?_)
 rintro e hb ⟨u,rfl,F,D⟩;obtain⟨fd,gi,rfl,bd,-⟩:=F.p;rw[aS,c_];have⟨O,b0⟩:=bJ (aT a7 D) bd;clear D F bd;go_simp;refine hK.out _ _ (fun _=>n_ O G) (fun hHeld=>?_);refine Mr fun hHeld=>?_;clear K hK
 refine cm 10 fun K hK=>?_
 go_simp;refine hK.out _ _ (fun _=>n_ (O.alloc O.size _) G) (fun hHeld=>?_);refine Mr fun hHeld=>?_;clear K hK
 refine cm 11 fun K hK=>?_
 go_simp
 (with_reducible refine(ej.o _ _ _ _ _ (cp.o.D.ext O.o) b0.o).x ?_)
 rintro e g0 ⟨fb,gK,rfl,gw,be,bb⟩;have⟨U,b1⟩:=bJ (aT O bb) be.D;clear bb be;go_simp;refine hK.out _ _ (fun _=>n_ U G) (fun hHeld=>?_);refine Mr fun hHeld=>?_;clear K hK
 refine cm 12 fun K hK=>?_
 go_simp
 (with_reducible refine(br.o _ _ _ (aT eb.o U.o) b1.o).x ?_)
 rintro e ce ⟨u,rfl,F,D⟩;have bg:=F.p;rw[fx.o]at bg;obtain⟨av,d7,rfl,-⟩:=bg;obtain⟨T,b2⟩:=bJ (aT U D) (F.x (show(ap:Nat)<=g0 from U.size));have b9:=ai b3 T.o;have⟨ab,ac,ad⟩:=aD b9;have f5:=aK b9 2;have eB:=zH b9;clear D F b9;go_simp;refine Qn ?_;clear K hK;refine cm 13 fun K hK=>?_
 go_simp;refine Qn ?_;clear K hK;refine MU fun K hK=>?_
 refine Qn ?_;clear K hK;refine gM QT ?_ _;clear ab ac ad f5 G;have Z:=bE ce W 2 _ _ (.slice av la d7) eB;simp only[zA]at Z;have a2:=b2.setCell (a:=⟨W,2,none⟩) a6 (.slice av la d7);have a8:=(aT bp T.o).setCell (p:=⟨W,2,none⟩) (ae _) (.slice av la d7);have dr:(ap:Nat)<=(ce.setCell ⟨W,2,none⟩ (.slice av la d7)):=by have:=T.o.size;simp;omega
 have c4:aO (ce.setCell ⟨W,2,none⟩ (.slice av la d7)) gc (υ nv):=cp.o _ fun k an ao=>(a_ _ _ _ _ (by have:=(bk.1 eA).1;show k≠W.heap.size;omega)).t (T.o.block k ao)
 generalize ce.setCell ⟨W,2,none⟩ _=g1 at Z a2 a8 dr c4 ⊢;go_upto_region 4 with(fail)
 have⟨ee,f3,f4,f6,f8,es,eo,fs⟩:=ð (aT d8 a8) (ai cB a8) (ai ga a8) (ai gb a8) Z a2 dr c4;obtain⟨bi,bn,-⟩:=aD f3;obtain⟨-,ci,cj⟩:=aD f4;have⟨ab,ac,ad⟩:=aD Z;have G:=aQ bi (aQ bn (aQ ci (aQ cj (aQ ab (aQ ac ad)))));clear bi bn ci cj ab ac ad Z a2 a8 dr c4 b2 T eB U b1 O b0 a7 cp cq bp eb b3;refine cU (S:=(fun V=>af V w 0 (zI (nv:Nat))/\af V w 1 (zI (na:Nat))/\af V ((w:Nat)+1) 1 (zI (nb:Nat))/\af V ((w:Nat)+1) 2 (.slice B lb cb)/\af V W 0 (zI (nv:Nat))/\af V W 1 (zI (M:Nat))/\af V W 2 (.slice av la d7))) 18 QT G (fun hHeld=>?_);refine P8 ?_;refine aM 4 ?_;refine aM 6 ?_;refine aM 7 ?_;refine aM 8 ?_;refine OU ?_;refine cm 5 fun K hK=>?_
 go_simp
 (with_reducible refine(co.o _ _).x ?_)
 rintro e hc ⟨rfl,D⟩;have a7:=zH ((aC g1).t D);clear D;go_simp;refine hK.out _ _ (fun _=>ü a7 G) (fun hHeld=>?_);refine Mr fun hHeld=>?_;clear K hK
 refine MU fun K hK=>?_
 (with_reducible refine(ei.o _).x ?_)
 rintro e hd ⟨u,rfl,F,D⟩;obtain⟨fd,gi,rfl,bd,-⟩:=F.p;rw[aS,c_];have⟨O,b0⟩:=bJ (aT a7 D) bd;clear D F bd;go_simp;refine hK.out _ _ (fun _=>ü O G) (fun hHeld=>?_);refine Mr fun hHeld=>?_;clear K hK
 refine cm 15 fun K hK=>?_
 go_simp;refine hK.out _ _ (fun _=>ü (O.alloc O.size _) G) (fun hHeld=>?_);refine Mr fun hHeld=>?_;clear K hK
 refine cm 16 fun K hK=>?_
 go_simp
 (with_reducible refine(ek.o _ _ _ _ _ (fs.o.ext O.o) b0.o).x ?_)
 rintro e g2 ⟨fb,gK,rfl,gw,be,bb⟩;have⟨U,b1⟩:=bJ (aT O bb) be.D;clear bb be;go_simp;refine hK.out _ _ (fun _=>ü U G) (fun hHeld=>?_);refine Mr fun hHeld=>?_;clear K hK
 refine cm 17 fun K hK=>?_
 go_simp
 (with_reducible refine(bu.o _ _ _ (aT ee.o U.o) b1.o).x ?_)
 rintro e g3 ⟨u,rfl,F,D⟩;have bg:=F.p;rw[fy.o]at bg;obtain⟨fc,gn,rfl,-⟩:=bg;have⟨T,b2,f7⟩:=er (aT U D) F.zjT D.size;clear D F;go_simp;refine hK.out _ _ (fun _=>ü T.o G) (fun hHeld=>?_);refine Mr fun hHeld=>?_;clear K hK
 refine cm 18 fun K hK=>?_
 refine zd7 rfl ?_;refine qL yb rfl (.tmp 36) (.tmp 52) rfl ap g2 g3 (.slice av la d7) (.slice fc lb gn) cz cA (es.ext T.o).zjT b2.o (fun g e=>?_) (aZ eo U.size) f7.o cn.o rfl rfl ?_
 .have:=(bS es.zjT.choose_spec.η g e).2;have:=U.size;omega
 intro v9 ch b7 cV;obtain⟨ah,d9,rfl,-⟩:=b7.p;have e7:(cz++cA).length=S.rows:=by rw[a4.o]
 rw[e7]at b7 ⊢;have cc:=(cV.block W a6).t (ai f8 T.o);have⟨ab,ac,ad⟩:=aD cc;have f5:=aK cc 2;have⟨f9,fz,ck⟩:=er cc b7 cV;clear cc b7 cV e7;refine⟨rfl,?_⟩;refine Qn ?_;clear K hK;refine cm 19 fun K hK=>?_
 go_simp;refine Qn ?_;clear K hK;refine cm 20 fun K hK=>?_
 go_simp;refine Qn ?_;clear K hK;refine gM QT ?_ _;clear ab ac ad f5 G;have Z:=bE ch W 2 _ _ (.slice ah S.rows d9) f9;simp only[zA]at Z;have a2:=fz.setCell (a:=⟨W,2,none⟩) a6 (.slice ah S.rows d9);have gC:=aZ eo T.o.size;have b5:=((aT ee T.o).t (ck.x (show(w:Nat)<=ap by have:=a6.o;have:=a9.o;omega))).setCell (p:=⟨W,2,none⟩) (show(w:Nat)<=W by have:=a9.o;omega) (.slice ah S.rows d9);have db:(ch.setCell ⟨W,2,none⟩ (.slice ah S.rows d9)).heap[(w:Nat)+1+1]?=_:=(a_ _ _ _ _ (by have:=a9.o;show(w:Nat)+1+1≠W.heap.size;omega)).t ((ck.block ((w:Nat)+1+1) (by have:=a6.o;have:=a9.o;omega)).t (ai f6 T.o));have dq:(ap:Nat)<=(ch.setCell ⟨W,2,none⟩ (.slice ah S.rows d9)):=by have:=ck.size;simp;omega
 generalize ch.setCell ⟨W,2,none⟩ _=gL at Z a2 b5 db dq ⊢;have b6:=(a2.fr (fun a b x c D h=>by obtain⟨fa,gd,e,an⟩:=h;exact⟨fa,gd,e,an.ext D⟩) dq).E fun V a1=>sq a1
 rw[a4.o]at b6;have⟨fo,ea,em,ey⟩:=gG b6 b5 db (ez gL ah d9 b5 b6.D);have⟨ab,ac,ad⟩:=aD Z;have J8:=zH (show(w:Nat)+1+1<ap by have:=a6.o;have:=a9.o;omega);clear Z a2 b5 db dq b6 gC ez ev co eg ei ej ek br bu;cases b8:ic p (nv:Int) (M:Int) S.rows
 .have a5:=zH b8;clear b8;go_wp2_with (go_at_call 67;(with_reducible refine ey.o.x ?_);rintro e gR ⟨-,bc,D⟩;have c3:=bc a5;subst c3;have J:=ai em D;have⟨d1,d2,d3⟩:=aD J;have f0:=aK J 0;have f1:=aK J 1;have f2:=aK J 2;have cr:=zH J;have bq:=zH D;clear J bc D)
  have y:=ja (v0:=()) (v1:=()) (v2:=dE) cr;have⟨u0,u1,u2⟩:=aD y;clear y d1 d2 d3 f0 f1 f2;exact aI (v:=.tuple (dz bx)) Ui rfl ⟨0,0,none,0,0,by rw[bz.o,bv.o,a5.o],(fun h=>by rw[bz.o,bv.o,a5.o]at h;cases h),e_ (aT ea bq) Qu _ _ _⟩
 .have a5:=zH b8;clear b8;go_wp2_with (go_at_call 67;(with_reducible refine ey.o.x ?_);rintro e gR ⟨bc,-,D⟩;have c3:=bc a5;subst c3;have J:=ai em D;have⟨d1,d2,d3⟩:=aD J;have f0:=aK J 0;have f1:=aK J 1;have f2:=aK J 2;have cr:=zH J;have bq:=zH D;clear J bc D)
  have y:=ja (v0:=.int .i64 (nv:Nat)) (v1:=.int .i64 (M:Nat)) (v2:=.slice ah S.rows d9) cr;have⟨u0,u1,u2⟩:=aD y;clear y d1 d2 d3 f0 f1 f2;exact aI (v:=.tuple (fH (dh nv M ah S.rows d9))) Ui rfl ⟨nv,M,ah,d9,S.rows,by rw[bz.o,bv.o,a5.o],fun _=>⟨bz.q,bv.q,rfl,fo.o _ fun k an ao=>(((a_ _ _ _ _ Vg).t (a_ _ _ _ _ Vg)).t (a_ _ _ _ _ Vg)).t (bq.block k ao)⟩,e_ (aT ea bq) Qu _ _ _⟩
end Go.Proofs.YtpieilkmmiopfaaGreatDoor
