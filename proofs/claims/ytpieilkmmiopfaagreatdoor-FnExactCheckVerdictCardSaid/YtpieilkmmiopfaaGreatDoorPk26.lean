/- Parts of the walks. Conditions: as stated with each. -/
import Derived.Test.YtpieilkmmiopfaaGreatDoorPk25
namespace Go.Proofs.YtpieilkmmiopfaaGreatDoor
open Go.RowKit Tryz
set_option linter.all false
set_option maxHeartbeats 8000000
set_option maxRecDepth 100000
variable{A:ax}{B b k:Nat}{L:List eE}{cs:gg}{g:Gr}{rows:aP}{w w':aa}{xs:aL}
def px.of(D:g.B=true):px g:=by
 have h:=(Gr.nK D);have F:jc g=true:=by rw[<-h.B];exact D
 unfold jc at F;simp only[bN,cf]at F;exact⟨h.inr,Qu,Qu,Qu,Qu,fun e G=>by have:=G1.el h e G;omega⟩
structure zbv(g:Gr):Prop where
 w:g.w<=65536
 es:g.es.length<=65536
 i:g.i.length<=65536
 o:g.o.length<=65536
def zbv.par{a b}(h:px a)(D:px b):zbv (ls a b):=by
 have:=h.w;have:=D.w;have:=h.es;have:=D.es;have:=h.i;have:=D.i;have:=h.o;have:=D.o;refine⟨by show a.w+b.w<=_;omega,?_,?_,?_⟩
 .show(fG a b).length<=_;unfold fG;rw[bm,bs];omega
 .show(a.i++b.i.map _).length<=_;rw[bm,bs];omega
 .show(a.o++b.o.map _).length<=_;rw[bm,bs];omega
def zbv.seq{a b}(h:px a)(D:px b):zbv (pK a b):=by
 have:=h.w;have:=D.w;have:=h.es;have:=D.es;have:=h.i;have:=D.i;have:=h.o;have:=D.o;have F:(jD a b).w<=8192:=by show a.w+b.w<=_;omega
 rw[zkt,zJ (vw h.inr D.inr) (yX h.inr D.inr)];refine⟨?_,?_,?_,?_⟩
 .show nS _ _ _<=_
  have:=wL (jD a b) (jF (jD a b).w (BV a b)) (jD a b).w;omega
 .show((fG a b).map _).length<=_;unfold fG;rw[bs,bm,bs];omega
 .show(a.i.map _).length<=_;rw[bs];omega
 .show((b.o.map _).map _).length<=_;rw[bs,bs];omega
structure vz(L:List eE)(t:Tm)(T:List Tm)(k:Nat):Prop where
 kl:k<=L.length
 rd:fp ((cJ L).drop k) T=some [t]
 gd:oV ((cJ L).drop k) (T.map Tm.gr)=oV (cJ L) []
 ty:∀u∈T,∃c,u.ty=some c
 ok:∀u∈T,u.gr.B=true
 ι:T.length<=k
def vz.φ{t}(h:fp (cJ L) []=some [t]):vz L t [] 0:=⟨aW _,h,rfl,fun u h=>QO,fun u h=>QO,ae _⟩
def vz.tree{t}{c}(h:fp (cJ L) []=some [t])(D:t.ty=some c):oV (cJ L) []=if t.pM=true then some [t.gr] else none:=by
 have:=tM h;rw[<-zg3 D];congr 1
 simpa[vJ]using this.q
def vz.leaf{t}{D}{x}(h:vz L t D k)(G:L[k]?=some x)(I:¬x.k=15)(J:¬x.k=16):dI x.nd=true/\vz L t (Tm.lf x.nd::D) (k+1):=by
 have O:=(bG.1 G).1;have hr:=h.rd;rw[lF G,jw,Bi I J]at hr;have hl:dI x.nd=true:=WS;rw[ak hl]at hr;have H:=sH hl;have F:=h.gd;rw[lF G,tv]at F;have T:Ι (D.map Tm.gr) x.nd=some (fv x.nd::D.map Tm.gr):=by unfold Ι;rw[aj (zfQ hl),ak H]
 rw[T]at F;have OM:(Tm.lf x.nd).ty=some (pC x.nd,sC x.nd):=by unfold Tm.ty;rw[ak hl]
 refine⟨hl,O,hr,F,?_,?_,by have:=h.ι;simp;omega⟩
 .exact Xf
 .intro u hu;rcases et.1 hu with rfl|hu
  .exact H
  .exact h.ok u hu
def vz.δ{t}{I}{x}(h:vz L t I k)(J:L[k]?=some x)(h1:x.k=15∨x.k=16):∃b a S z,I=b::a::S/\(Tm.op x.k a b).ty=some z/\((Tm.op x.k a b).gr.B=true->vz L t (Tm.op x.k a b::S) (k+1))/\((Tm.op x.k a b).gr.B=false->oV (cJ L) []=none):=by
 have O:=(bG.1 J).1;have G:=h.rd;rw[lF J,jw]at G;have T:FC x.nd=true:=UK;cases D:ρ I x.nd with
 |none=>rw[D]at G;cases G
 |some Z=>
  rw[D]at G;unfold ρ at D;rw[ak T]at D;split at D
  .split at D
   .rename_i b a S;split at D
    .rename_i ab U;obtain⟨z,hz⟩:=Av.1 U;cases D
     have F:=h.gd;rw[lF J,tv]at F;have e:(if x.nd.k=15 then pK a.gr b.gr else ls a.gr b.gr)=(Tm.op x.k a b).gr:=rfl;have Y:Ι ((b::a::S).map Tm.gr) x.nd=if(Tm.op x.k a b).gr.B=true then some ((Tm.op x.k a b).gr::S.map Tm.gr) else none:=by
      unfold Ι;rw[ak (show x.nd.k=15∨x.nd.k=16 from h1)]
      show(if(if x.nd.k=15 then pK a.gr b.gr else ls a.gr b.gr).B=true then _ else _)=_
      rw[e]
     rw[Y]at F;refine⟨b,a,S,z,rfl,hz,fun H=>?_,fun H=>?_⟩
     .rw[ak H]at F;refine⟨O,G,F,?_,?_,Uo⟩
      .exact Xy
      .intro u hu;rcases et.1 hu with rfl|hu
       .exact H
       .exact h.ok u (by simp[hu])
     .rw[aj (by rw[H];simp)]at F;exact F.q
    .cases D
   .cases D
  .cases D
def vz.U{t}{h}(F:vz L t h k)(H:¬k<L.length):h=[t]/\oV (cJ L) []=some [t.gr]:=by
 have D:=F.rd;have G:=F.gd;rw[jR RI]at D G;have:h=[t]:=by unfold fp at D;exact ji D
 subst this;exact⟨rfl,G.q⟩
def uS(h:List Tm):List Gr:=h.reverse.map Tm.gr
def qV h:(uS h).length=h:=by simp[uS]
def qt t h:uS (t::h)=uS h++[t.gr]:=by simp[uS]
def ziy(t:Tm)(w:aa)(e:Ending)(w':aa):Prop:=
 (t.pM=false/\e=.returned (.tuple (dz cw))/\ag w w')∨
 (t.pM=true/\∃A1 c1 h c2 D G,e=.returned (.tuple (fH (fw t.gr.w A1 t.gr.es c1 h t.gr.i c2 D t.gr.o G)))/\Fr w' w w' (fun F=>jV F A1 h D t.gr)/\ag w w')
def zcZ L t c A ε w(cp:bR 3 jK w A L)(d8:L.length<=400)(I:fp (cJ L) []=some [t])(cr:t.ty=some c):az 85 (cY (aV A L ε)) w (ziy t w):=by
 have⟨HTR,c0⟩:=bJ (vz.tree I cr) (vz.φ I);refine MM fun hq hr=>?_
 have b6:=((al w w).alloc (ae _) (.cells (aV A L ε) 35)).alloc Qt (.cells cw 54);have cV:=zH (show ∀wr,ag w wr->bR 3 jK wr A L from fun wr h=>bQ cp h);clear cp I cr;go_enter func85,ntmps85
 go_upto_region 1 with(fail)
 generalize (w.alloc _).alloc _=W at hq hr b6 ⊢;have⟨cO,cW⟩:=bJ b6 hr;have cB:(w:Nat)+2<=W:=(bk.1 hr).1;have⟨Gn,bz⟩:=bJ cB (bw.lit 54 4 EGr W W (ae _));have Gm:=aw W (.cells #[] 54);have bh:=zH Gm;have cK:=aF (ai hq Gm) 0 rfl;clear hq hr b6 cB;go_upto_region 2 with(fail)
 generalize W.alloc _=dT at bz bh cK Gm ⊢;have cj:=zH (ai cW Gm);clear Gm;go_wp2;go_loopw [4,13] (fun u i wr=>∃(k:Nat) (a7:List Tm),i=.int .i64 k/\vz L t a7 k/\bw 54 4 EGr wr W u (uS a7)/\bA wr ((w:Nat)+1) cw 54/\ag w wr/\(W:Nat)<=wr) (fun _ i _=>L.length-(intOf i).toNat)
 case atStart=>exact⟨0,[],rfl,c0,bz,cj,aT cO bh,bh.size⟩
 case round=>
  obtain⟨k,a7,rfl,I,bq,a5,a8,cA⟩:=hrel;clear cK bz bh cj;by_cases cu:k<L.length
  .have⟨x,ch⟩:=aq cu;obtain⟨b,o,rfl,ck,c1,c2⟩:=iF (cV wr a8) ch;obtain⟨H,T,O⟩:=x;dsimp only at ck c1 c2;have⟨Gm,cc⟩:=bM wr (.cells (dN H T O) 95);have⟨b4,HT,II,Ib,Gc,GX⟩:=ny ch I (bq.ext Gm) (ai a5 Gm) (aT a8 Gm) (aZ cA Gm.size);clear ch I bq a5 a8 cA;go_upto_region 5 with(fail)
   generalize wr.alloc _=w2 at Gm cc II Ib Gc GX ⊢;clear ck c1 c2 Gm;obtain⟨A6,c6,rfl,cq,ct,-⟩:=bw.p II;have bi:=zH cq;clear cq;rw[qV]at II ct ⊢;have⟨n,cb⟩:=aR a7.length;rw[<-cb]at II ct ⊢;have Le:=zH cb;have d9:n<=400:=UR;have ea:IntKind.i64.wrap ((n:Int)-1)=(n:Int)-1:=Rt;have⟨Gm,bo⟩:=bM w2 (.cells cw 54);have Ia:=zH Gm;have ce:=ai cc Gm;clear cb cc;go_upto_region 7 with(fail)
   generalize w2.alloc _=w3 at Gm bo Ia ce ⊢;have⟨cF,cI,n2⟩:=aD ce;obtain⟨bu,IS⟩:=bJ bo (show(w2:Nat)<w3 from(bk.1 bo).1);clear Gm bo ce;by_cases h1:H=15
   .skip
    have bd:=HT.δ b4 (show(⟨H,T,O⟩:eE).k=15∨(⟨H,T,O⟩:eE).k=16 from ay h1);obtain⟨tb,ta,S,z,rfl,hz,Li,Jv⟩:=bd;dsimp only at hz Li Jv;subst h1;refine Pk fun m K8 m1 Lm K4 Hl=>?_
    have Lc:uS (tb::ta::S)=uS S++[ta.gr]++[tb.gr]:=by rw[qt,qt]
    have Ld:(uS S).length=m:=by rw[qV,K8]
    have bb:(uS (tb::ta::S))[m]?=some ta.gr:=VD;have bc:(uS (tb::ta::S))[m1]?=some tb.gr:=VC;obtain⟨gb,go,rfl,ah⟩:=bi.θ (k:=m) (by rw[qV,<-Le.o];omega);obtain⟨dc,hxa,Y,an,Z,p2,X3,ao,b9,GZ⟩:=ah m ta.gr bb;obtain⟨dl,hxb,ab,ap,ac,av,ad,a4,ca,Hm⟩:=ah m1 tb.gr bc;subst b9 ca;have Lh:=px.of (HT.ok ta Qt);have K7:=px.of (HT.ok tb Qt);have⟨c3,c4,a9,ba,am⟩:=Tm.qE hz;have Qf:ta.gr.o.length=tb.gr.i∨15=16:=by
     have h1:=(Tm.qF a9).2.2;have h2:=(Tm.qF ba).2.1;left;unfold gP at am;rw[ak rfl]at am;split at am;rw[h1,h2];assumption
     cases am
    have⟨ga,Qq⟩:=aR ta.gr;have⟨gb',hgb'⟩:=aR tb.gr;have Lo:(Tm.op 15 ta tb).gr=pK ga gb':=by rw[Tm.zao,Qq,hgb'];rfl
    rw[<-Qq]at hxa GZ Lh Qf;rw[<-hgb']at hxb Hm K7 Qf;have a0:af w3 gb (go+m*4) (zI (ga.w:Nat)):=ar Ia.o (hxa 0 _ rfl);have a1:=ar Ia.o (hxa 1 _ rfl);have a2:=ar Ia.o (hxa 2 _ rfl);have a3:=ar Ia.o (hxa 3 _ rfl);have b0:af w3 gb (go+m1*4) (zI (gb'.w:Nat)):=ar Ia.o (hxb 0 _ rfl);have b1:=ar Ia.o (hxb 1 _ rfl);have b2:=ar Ia.o (hxb 2 _ rfl);have b3:=ar Ia.o (hxb 3 _ rfl);have Qp:gb≠w2.heap.size:=W8
    have⟨F,Ln⟩:=bJ Qp (FL ga gb' Y Z X3 ab ac ad an p2 ao ap av a4 w3.drew Lh K7 (Qf.resolve_right Qw) ((GZ.ext Ia).ext (aC _)) ((Hm.ext Ia).ext (aC _)):az 121 (iV (bj ga Y an Z p2 X3 ao) (bj gb' ab ap ac av ad a4)) w3.drew (xr (pK ga gb') w3.drew));have⟨G,hG⟩:=aR (pK ga gb');have⟨U,hU⟩:=aR (Tm.op 15 ta tb);have Ic:G.G1:=by rw[hG,<-Lo];exact Tm.zay hz
    have hgb:zbv G:=by rw[hG];exact zbv.seq Lh K7
    have G8:G.B=jc G:=Ic.B;have⟨Ll,K6⟩:=bJ (show jc G=true->vz L t (U::S) (k+1) from fun h=>Vr) (show jc G=false->oV (cJ L) []=none from fun h=>Jv TO);have⟨T0,KZ⟩:=aR S;have KX:=zH (by rw[qt,hU,hG,Lo]:uS (U::T0)=uS T0++[G]);have Lk:=II.o.pop (n:=m) (by rw[qV];exact Le.o) Qu;rw[show(uS (tb::ta::S)).take m=uS S by rw[Lc,fJ,oG Sz,cZ Sz]]at Lk;rw[<-KZ]at Ll Lk;have⟨A6,Qk⟩:=aR (some (⟨gb,go,none⟩:dM));have K5:Hd (bw 54 4 EGr w2 W (.slice A6 m c6) (uS T0)):=by rw[Qk];exact zH Lk
    have Jy:=zH (Sl:(uS T0).length=m);have KW:m<=400:=Qu;have Lg:m<=c6:=Qu;have IQ:m<n:=Qu;have IU:m1<n:=Qu;rw[<-hG]at Ln;have S0:=aQ a0 (aQ a1 (aQ a2 (aQ a3 (aQ b0 (aQ b1 (aQ b2 b3))))));have HA6:=zH Qk;clear G8 KZ Lk Qk
    clear Le hz Li Jv K8 Lm K4 Lc Ld bb bc ah bi II a9 ba am Lh GZ hxa Qq Qf K7 Hm hxb hgb' Lo a0 a1 a2 a3 b0 b1 b2 b3 Qp hG hU
    go_upto_region 10 with(fail)
    clear cF cI n2;go_region_held3 (fun V=>af V gb (go+m*4) (zI (ga.w:Nat))/\af V gb (go+m*4+1) (.slice Y ga.es an)/\af V gb (go+m*4+2) (.slice Z ga.i p2)/\af V gb (go+m*4+3) (.slice X3 ga.o ao)/\af V gb (go+m1*4) (zI (gb'.w:Nat))/\af V gb (go+m1*4+1) (.slice ab gb'.es ap)/\af V gb (go+m1*4+2) (.slice ac gb'.i av)/\af V gb (go+m1*4+3) (.slice ad gb'.o a4))
     (first|with_reducible exact S0|with_reducible exact E_ (aC _) S0|with_reducible exact E_ Gp.o S0|with_reducible exact S1)
     ((go_at_call 121;refine Ln.x ?_;rintro e w4 ⟨D1,d1,D2,d2,D3,d3,rfl,J,hb⟩;have Gp:=zH ((aC w3).t (hb.x (aC w3).size));have hz:=ai bu Gp;have⟨r0,r1,r2,r3⟩:=aB hz;have⟨f0,f1,f2,f3⟩:=cN hz;have HZ:=zH hz;have HF:=zH (J.to (lo':=w3.heap.size) Qt (ae _));have D:=E_ Gp S0;have S1:=aQ (dH (v0:=.int .i64 (G.w:Nat)) (v1:=.slice D1 G.es d1) (v2:=.slice D2 G.i d2) (v3:=.slice D3 G.o d3) F.o D.1) (aQ (dH (v0:=.int .i64 (G.w:Nat)) (v1:=.slice D1 G.es d1) (v2:=.slice D2 G.i d2) (v3:=.slice D3 G.o d3) F.o D.2.1) (aQ (dH (v0:=.int .i64 (G.w:Nat)) (v1:=.slice D1 G.es d1) (v2:=.slice D2 G.i d2) (v3:=.slice D3 G.o d3) F.o D.2.2.1) (aQ (dH (v0:=.int .i64 (G.w:Nat)) (v1:=.slice D1 G.es d1) (v2:=.slice D2 G.i d2) (v3:=.slice D3 G.o d3) F.o D.2.2.2.1) (aQ (dH (v0:=.int .i64 (G.w:Nat)) (v1:=.slice D1 G.es d1) (v2:=.slice D2 G.i d2) (v3:=.slice D3 G.o d3) F.o D.2.2.2.2.1) (aQ (dH (v0:=.int .i64 (G.w:Nat)) (v1:=.slice D1 G.es d1) (v2:=.slice D2 G.i d2) (v3:=.slice D3 G.o d3) F.o D.2.2.2.2.2.1) (aQ (dH (v0:=.int .i64 (G.w:Nat)) (v1:=.slice D1 G.es d1) (v2:=.slice D2 G.i d2) (v3:=.slice D3 G.o d3) F.o D.2.2.2.2.2.2.1) (dH (v0:=.int .i64 (G.w:Nat)) (v1:=.slice D1 G.es d1) (v2:=.slice D2 G.i d2) (v3:=.slice D3 G.o d3) F.o D.2.2.2.2.2.2.2)))))));clear hz J hb D))
    exact Z5
   by_cases h2:H=16
   .clear h1;have c5:((16:Int)==15)=false:=Qw;have bd:=HT.δ b4 (show(⟨H,T,O⟩:eE).k=15∨(⟨H,T,O⟩:eE).k=16 from au h2);obtain⟨tb,ta,S,z,rfl,hz,Li,Jv⟩:=bd;dsimp only at hz Li Jv;subst h2;refine Pk fun m K8 m1 Lm K4 Hl=>?_
    have Lc:uS (tb::ta::S)=uS S++[ta.gr]++[tb.gr]:=by rw[qt,qt]
    have Ld:(uS S).length=m:=by rw[qV,K8]
    have bb:(uS (tb::ta::S))[m]?=some ta.gr:=VD;have bc:(uS (tb::ta::S))[m1]?=some tb.gr:=VC;obtain⟨gb,go,rfl,ah⟩:=bi.θ (k:=m) (by rw[qV,<-Le.o];omega);obtain⟨dc,hxa,Y,an,Z,p2,X3,ao,b9,GZ⟩:=ah m ta.gr bb;obtain⟨dl,hxb,ab,ap,ac,av,ad,a4,ca,Hm⟩:=ah m1 tb.gr bc;subst b9 ca;have Lh:=px.of (HT.ok ta Qt);have K7:=px.of (HT.ok tb Qt);have⟨c3,c4,a9,ba,am⟩:=Tm.qE hz;have Qf:ta.gr.o.length=tb.gr.i∨16=16:=by
     have h1:=(Tm.qF a9).2.2;have h2:=(Tm.qF ba).2.1;right;rfl
     skip
    have⟨ga,Qq⟩:=aR ta.gr;have⟨gb',hgb'⟩:=aR tb.gr;have Lo:(Tm.op 16 ta tb).gr=ls ga gb':=by rw[Tm.zao,Qq,hgb'];rfl
    rw[<-Qq]at hxa GZ Lh Qf;rw[<-hgb']at hxb Hm K7 Qf;have a0:af w3 gb (go+m*4) (zI (ga.w:Nat)):=ar Ia.o (hxa 0 _ rfl);have a1:=ar Ia.o (hxa 1 _ rfl);have a2:=ar Ia.o (hxa 2 _ rfl);have a3:=ar Ia.o (hxa 3 _ rfl);have b0:af w3 gb (go+m1*4) (zI (gb'.w:Nat)):=ar Ia.o (hxb 0 _ rfl);have b1:=ar Ia.o (hxb 1 _ rfl);have b2:=ar Ia.o (hxb 2 _ rfl);have b3:=ar Ia.o (hxb 3 _ rfl);have Qp:gb≠w2.heap.size:=W8
    have⟨F,Ln⟩:=bJ Qp (Fm ga gb' Y Z X3 ab ac ad an p2 ao ap av a4 w3.drew Lh K7 ((GZ.ext Ia).ext (aC _)) ((Hm.ext Ia).ext (aC _)):az 122 (iV (bj ga Y an Z p2 X3 ao) (bj gb' ab ap ac av ad a4)) w3.drew (xr (ls ga gb') w3.drew));have⟨G,hG⟩:=aR (ls ga gb');have⟨U,hU⟩:=aR (Tm.op 16 ta tb);have Ic:G.G1:=by rw[hG,<-Lo];exact Tm.zay hz
    have hgb:zbv G:=by rw[hG];exact zbv.par Lh K7
    have G8:G.B=jc G:=Ic.B;have⟨Ll,K6⟩:=bJ (show jc G=true->vz L t (U::S) (k+1) from fun h=>Vr) (show jc G=false->oV (cJ L) []=none from fun h=>Jv TO);have⟨T0,KZ⟩:=aR S;have KX:=zH (by rw[qt,hU,hG,Lo]:uS (U::T0)=uS T0++[G]);have Lk:=II.o.pop (n:=m) (by rw[qV];exact Le.o) Qu;rw[show(uS (tb::ta::S)).take m=uS S by rw[Lc,fJ,oG Sz,cZ Sz]]at Lk;rw[<-KZ]at Ll Lk;have⟨A6,Qk⟩:=aR (some (⟨gb,go,none⟩:dM));have K5:Hd (bw 54 4 EGr w2 W (.slice A6 m c6) (uS T0)):=by rw[Qk];exact zH Lk
    have Jy:=zH (Sl:(uS T0).length=m);have KW:m<=400:=Qu;have Lg:m<=c6:=Qu;have IQ:m<n:=Qu;have IU:m1<n:=Qu;rw[<-hG]at Ln;have S0:=aQ a0 (aQ a1 (aQ a2 (aQ a3 (aQ b0 (aQ b1 (aQ b2 b3))))));have HA6:=zH Qk;clear G8 KZ Lk Qk
    clear Le hz Li Jv K8 Lm K4 Lc Ld bb bc ah bi II a9 ba am Lh GZ hxa Qq Qf K7 Hm hxb hgb' Lo a0 a1 a2 a3 b0 b1 b2 b3 Qp hG hU
    go_upto_region 13 with(fail)
    clear cF cI n2;go_region_held3 (fun V=>af V gb (go+m*4) (zI (ga.w:Nat))/\af V gb (go+m*4+1) (.slice Y ga.es an)/\af V gb (go+m*4+2) (.slice Z ga.i p2)/\af V gb (go+m*4+3) (.slice X3 ga.o ao)/\af V gb (go+m1*4) (zI (gb'.w:Nat))/\af V gb (go+m1*4+1) (.slice ab gb'.es ap)/\af V gb (go+m1*4+2) (.slice ac gb'.i av)/\af V gb (go+m1*4+3) (.slice ad gb'.o a4))
     (first|with_reducible exact S0|with_reducible exact E_ (aC _) S0|with_reducible exact E_ Gp.o S0|with_reducible exact S1)
     ((go_at_call 122;refine Ln.x ?_;rintro e w4 ⟨D1,d1,D2,d2,D3,d3,rfl,J,hb⟩;have Gp:=zH ((aC w3).t (hb.x (aC w3).size));have hz:=ai bu Gp;have⟨r0,r1,r2,r3⟩:=aB hz;have⟨f0,f1,f2,f3⟩:=cN hz;have HZ:=zH hz;have HF:=zH (J.to (lo':=w3.heap.size) Qt (ae _));have D:=E_ Gp S0;have S1:=aQ (dH (v0:=.int .i64 (G.w:Nat)) (v1:=.slice D1 G.es d1) (v2:=.slice D2 G.i d2) (v3:=.slice D3 G.o d3) F.o D.1) (aQ (dH (v0:=.int .i64 (G.w:Nat)) (v1:=.slice D1 G.es d1) (v2:=.slice D2 G.i d2) (v3:=.slice D3 G.o d3) F.o D.2.1) (aQ (dH (v0:=.int .i64 (G.w:Nat)) (v1:=.slice D1 G.es d1) (v2:=.slice D2 G.i d2) (v3:=.slice D3 G.o d3) F.o D.2.2.1) (aQ (dH (v0:=.int .i64 (G.w:Nat)) (v1:=.slice D1 G.es d1) (v2:=.slice D2 G.i d2) (v3:=.slice D3 G.o d3) F.o D.2.2.2.1) (aQ (dH (v0:=.int .i64 (G.w:Nat)) (v1:=.slice D1 G.es d1) (v2:=.slice D2 G.i d2) (v3:=.slice D3 G.o d3) F.o D.2.2.2.2.1) (aQ (dH (v0:=.int .i64 (G.w:Nat)) (v1:=.slice D1 G.es d1) (v2:=.slice D2 G.i d2) (v3:=.slice D3 G.o d3) F.o D.2.2.2.2.2.1) (aQ (dH (v0:=.int .i64 (G.w:Nat)) (v1:=.slice D1 G.es d1) (v2:=.slice D2 G.i d2) (v3:=.slice D3 G.o d3) F.o D.2.2.2.2.2.2.1) (dH (v0:=.int .i64 (G.w:Nat)) (v1:=.slice D1 G.es d1) (v2:=.slice D2 G.i d2) (v3:=.slice D3 G.o d3) F.o D.2.2.2.2.2.2.2)))))));clear hz J hb D))
    exact Z5
   have bv:=HT.leaf b4 h1 h2;have c5:(H==15)=false:=Rp;have d7:(H==16)=false:=Rk;have⟨ci,bn⟩:=bJ bv.1 bv.2;have⟨G,hG⟩:=aR (fv ⟨H,T,O.toList.isEmpty⟩);have a6:=zH hG;clear hG bv h1 h2;go_upto_region 15 with(go_at_call 123;refine(Fw H T O _ ci.o).x ?_;rw[<-a6.o];rintro e w4 ⟨D1,d1,D2,d2,D3,d3,rfl,J,hb⟩;have hz:=ai bu hb;have⟨r0,r1,r2,r3⟩:=aB hz;have⟨f0,f1,f2,f3⟩:=cN hz;have HZ:=zH hz;have HF:=zH J;have Gp:=zH hb;clear hz J hb)
   have G8:=sH ci;have Ic:G.G1:=by rw[a6.o];exact Gr.nK G8
   have bg:px G:=by rw[a6.o];exact px.of G8
   have hgb:zbv G:=by have:=bg.w;have:=bg.es;have:=bg.i;have:=bg.o;exact⟨Qu,Qu,Qu,Qu⟩
   have cz:jc G=true:=by rw[<-Ic.B,a6.o];exact G8
   have⟨T0,KZ⟩:=aR a7;have⟨U,hU⟩:=aR (Tm.lf ⟨H,T,O.toList.isEmpty⟩);have⟨m,K8⟩:=aR n;obtain⟨Ll,K6,KX⟩:=er (show jc G=true->vz L t (U::T0) (k+1) from fun _=>by rw[hU,KZ];exact bn) (show jc G=false->oV (cJ L) []=none from fun h=>by rw[cz]at h;cases h) (by rw[qt,hU,a6.o];rfl:uS (U::T0)=uS T0++[G]);have K5:Hd (bw 54 4 EGr w2 W (.slice A6 m c6) (uS T0)):=by rw[K8,KZ];exact II
   have Jy:=zH (by rw[qV,KZ,K8,Le.o]:(uS T0).length=m);have KW:m<=400:=Qu;rw[<-K8];clear G8 bg cz KZ hU K8 II bn;refine P_ fun HG1 KY w5 Lf HF5 Jt HS5 z0 z1 z2 z3 Qh Qd Jw=>?_;clear Ic hgb r0 r1 r2 r3 f0 f1 f2 f3
   cases Ju:jc G
   .have HGF:=zH (show t.pM=false by
     have h1:=K6 Ju;rw[HTR.o]at h1;by_cases h:t.pM=true
     .rw[ak h]at h1;cases h1
     .simpa using h)
    rw[Ju]at Qh;clear Ju;go_wp2_with (go_at_call 124;refine Qh.x ?_;rintro e w6 ⟨rfl,hb⟩;have hz:=ai (ai Ib Lf) hb;have⟨r0,r1,r2,r3⟩:=aB hz;have⟨f0,f1,f2,f3⟩:=cN hz;have HZ6:=zH hz;have Qo:=zH ((aT Gc Lf).t (hb.x (aT Gc Lf).size));clear hz hb)
    have y:=cP (v0:=()) (v1:=dE) (v2:=dE) (v3:=dE) HZ6;refine O2 fun y0 y1 y2 y3=>?_
    exact aI (v:=.tuple (dz cw)) Uq rfl (ay ⟨HGF,rfl,bY Qo (b:=(w:Nat)+1) Qu _ _ _ _⟩)
   .have HGN:=zH (Ll Ju);rw[Ju]at Qh;clear Ju;go_upto_region 17 with(go_at_call 124;refine Qh.x ?_;rintro e w6 ⟨rfl,hb⟩;have HZ6:=zH (ai Jt hb);have Qa:=zH hb;clear hb)
    have Gm:=aw w6 (.cells (bj G D1 d1 D2 d2 D3 d3) 54);have⟨H27,Qg⟩:=bJ ((aT Lf Qa).t (Gm.x (aT Lf Qa).size)) (aT Qa Gm);clear z0 z1 z2 z3 Gm;have⟨z0,z1,z2,z3⟩:=aB HZ6;go_upto_region 18 with((at_builtin;refine de zlt rfl (.tmp 60) (.tmp 62) rfl W (w6.alloc (.cells (bj G D1 d1 D2 d2 D3 d3) 54)) (.slice A6 m c6) (uS T0) G [.int .i64 (G.w:Nat),.slice D1 G.es d1,.slice D2 G.i d2,.slice D3 G.o d3] w6 (K5.ext H27) rfl SU ⟨w3,w4,Qd,aZ (gp HS5.q) Qg.size,fun g e=>ay (Jw g e),(HF5.ext Qg (gp HS5.q)).E fun V hV=>⟨D1,d1,D2,d2,D3,d3,rfl,hV⟩⟩ RW (by have:=Qd.o;have:=IS.o;have:=GX.o;have:=H27.size;omega) rfl rfl (aH w6 _ rfl) ?_;intro g8 Lp w8 Lj Lq K9 K3;rw[Jy.o]at Lj ⊢;have Gv:=zH Lj;have G0:=zH K3;clear Lj Lq K9 K3))
    have⟨JA,K_⟩:=bJ ((G0.block ((w:Nat)+1) Sx).t (ai Ib H27)) ((aT Gc H27).t (G0.x Sx));go_wp2;go_roundw
    case rel=>exact⟨k+1,U::T0,Qx,HGN,by rw[KX.o];exact Gv,JA,K_,by have:=GX.o;have:=H27.size;have:=G0.size;omega⟩
    case measure=>simp[intOf];omega
  .obtain⟨c8,br⟩:=I.U cu;subst c8;have cR:=zH (show t.pM=true by
    rw[HTR.o]at br;by_cases h:t.pM=true
    .exact h
    .rw[aj h]at br;cases br)
   obtain⟨gb,d0,rfl,hgb,-⟩:=bq.form (by simp[uS]);obtain⟨cs,be⟩:=bq;obtain⟨cn,b7⟩:=aq (by rw[be.ι];simp[uS]:0<cs.length);obtain⟨-,-,lo,hi,c7,co,-,b5⟩:=be.ν 0 t.gr cn rfl b7;obtain⟨D1,d1,D2,d2,D3,d3,he,-⟩:=b5.D;have Jz:=fun j (bd:j<4) (v:aG) (db:cn[j]?=some v)=>oz be.η (g:=gb) rfl (0*4+j) v (by rw[mM be.cl b7 bd];exact db)
   have a0:af wr gb 0 (zI (t.gr.w:Nat)):=VJ;have a1:af wr gb 1 (.slice D1 t.gr.es d1):=VI;have a2:af wr gb 2 (.slice D2 t.gr.i d2):=VH;have a3:af wr gb 3 (.slice D3 t.gr.o d3):=by have:=Jz 3 Qu _ Q5;simpa[dF]using this
   have⟨r0,r1,r2,r3⟩:=aB a5;have⟨f0,f1,f2,f3⟩:=cN a5;have bp:Fr (dQ wr ((w:Nat)+1) (zI (t.gr.w:Nat)) (.slice D1 t.gr.es d1) (.slice D2 t.gr.i d2) (.slice D3 t.gr.o d3)) w (dQ wr ((w:Nat)+1) (zI (t.gr.w:Nat)) (.slice D1 t.gr.es d1) (.slice D2 t.gr.i d2) (.slice D3 t.gr.o d3)) (fun U=>jV U D1 D2 D3 t.gr):=((b5.dQ (v0:=.int .i64 (t.gr.w:Nat)) (v1:=.slice D1 t.gr.es d1) (v2:=.slice D2 t.gr.i d2) (v3:=.slice D3 t.gr.o d3) (b:=(w:Nat)+1) Sx).E fun U c9=>(by
    obtain⟨dq,d4,dr,d5,dO,d6,b8,bp⟩:=c9;rw[he]at b8;simp only[List.cons.injEq,ep,true_and,and_true]at b8;obtain⟨⟨rfl,rfl⟩,⟨rfl,rfl⟩,rfl,rfl⟩:=b8;exact bp:jV U D1 D2 D3 t.gr)).x (show(w:Nat)<=lo by have:=Gn.o;omega) (aZ co (gp (by simp[dQ])))
   have⟨bn,Ib,Gc⟩:=er bp a5 a8;have IQ:(uS [t]).length=1:=rfl;rw[IQ];clear bp a5 a8 IQ Jz b5 c7 co be b7 he br I;go_wp2;have y:=cP (v0:=.int .i64 (t.gr.w:Nat)) (v1:=.slice D1 t.gr.es d1) (v2:=.slice D2 t.gr.i d2) (v3:=.slice D3 t.gr.o d3) Ib;refine O2 fun y0 y1 y2 y3=>?_
   exact aI (v:=.tuple (fH (fw t.gr.w D1 t.gr.es d1 D2 t.gr.i d2 D3 t.gr.o d3))) Uq rfl (au ⟨cR,D1,d1,D2,d2,D3,d3,rfl,bn,bY Gc (b:=(w:Nat)+1) Qu _ _ _ _⟩)
def ovE(p:Int)(e:Ed):Bool:=!Õ e.k||decide (e.v<p)
def ntE(e:Ed):Bool:=!dlB e.k
def ovG(p:Int)(g:Gr):Bool:=bV p&&g.es.all (ovE p)
def stG(p:Int)(g:Gr):Bool:=ovG p g&&g.es.all ntE
def zc4 g A1 D F c1 c2 H w(J:jV w A1 D F g)(G:g.B=true):az 124 (cY (bj g A1 c1 D c2 F H)) w (dt w true):=by have I:=Gr.nK G;have h:=px.of G;have:=qQ g A1 D F c1 c2 H w J I (by have:=h.w;omega) (by have:=h.es;omega) (by have:=h.i;omega) (by have:=h.o;omega);rw[<-I.B,G]at this;exact this
def Cm p g A1 F G d1 d2 d3 w(am:dZ w)(O:jV w A1 F G g)(Y:g.B=true):az 187 (gj p (bj g A1 d1 F d2 G d3)) w (dt w (ovG p g)):=by
 unfold ovG;have⟨hB,hq⟩:=bM w (.cells (bj g A1 d1 F d2 G d3) 54);obtain⟨ao,ap⟩:=bJ (show ∀W,ag w W->jV W A1 F G g from fun W J=>O.ext J) (fun W (J:ag w W)=>zc4 g A1 F G d1 d2 d3 W (O.ext J) Y);have a6:g.es.length<=4096:=(px.of Y).es;have HP:=zH (am.ext hB);clear O am Y;go_enter func187,ntmps187
 go_upto_region 1 with(fail)
 generalize w.alloc _=W at hB hq HP ⊢;refine NQ fun x0 x1 x2 x3 HB HQ=>?_
 clear hB hq;cases hf:bV p
 .exact YC
 go_upto_region 3 with(first|(go_at_call 142;refine(Calls.cg (jj _ _ HP.o) hf).x ?_;rintro e w' ⟨rfl,rfl⟩)|(go_at_call 124;refine(ap.o _ HB.o).x ?_;rintro e a1 ⟨rfl,T⟩;have a2:=ar T x1;have an:=zH (aT HB T);clear T))
 clear x0 x1 x2 x3;go_wp2;go_loopw [18] (fun i wr=>∃k:Nat,k<=g.es.length/\i=.int .i64 k/\Hd ((g.es.take k).all (ovE p)=true)/\ag w wr) (fun i _=>g.es.length-(intOf i).toNat)
 case atStart=>exact⟨0,aW _,rfl,zH Qt,an⟩
 case round=>
  obtain⟨k,a5,rfl,Gw,FW⟩:=hrel;clear a2;by_cases av:k<g.es.length
  .have⟨e,U⟩:=aq av;obtain⟨a3,a4,ab,ad,ac,ah,rfl,u0,u1,u2,u3,-,-⟩:=fU (ao wr FW).es U;obtain⟨D,h,H,I⟩:=e;dsimp only at u0 u1 u2 u3;have⟨HX,Gc⟩:=bJ U (FW.alloc FW.size (.cells (eh D h ab H ad ac I ah) 155));have Z:=aH wr (.cells (eh D h ab H ad ac I ah) 155) rfl;clear U FW;go_upto_region 6 with(fail)
   generalize wr.alloc _=a1 at Gc Z ⊢;have⟨a8,a9,n2,ba⟩:=aB Z;clear u0 u1 u2 u3 Z;cases hv:Õ D
   .have HF:=zH (by unfold ovE;rw[hv];rfl:ovE p ⟨D,h,H,I⟩=true);exact Zb
   .by_cases a0:h<p
    .have HF:=zH (by unfold ovE;simp[a0]:ovE p ⟨D,h,H,I⟩=true);exact Zb
    .have HF:=zH (by unfold ovE;rw[hv];simp;omega:ovE p ⟨D,h,H,I⟩=false);have a7:p<=h:=Qu;go_wp2_with (go_at_call 162;refine(Calls.cg (jN _ _) hv).x ?_;rintro e w' ⟨rfl,rfl⟩)
     exact Xd
  .exact Xn
def Fo p g A1 D F d1 d2 d3 w(an:dZ w)(T:jV w A1 D F g)(Y:g.B=true):az 133 (jy (bj g A1 d1 D d2 F d3) p) w (dt w (stG p g)):=by
 unfold stG;have⟨hB,hq⟩:=bM w (.cells (bj g A1 d1 D d2 F d3) 54);obtain⟨ap,ad⟩:=bJ (show ∀W,ag w W->jV W A1 D F g from fun W J=>T.ext J) (fun W (J:ag w W)=>Cm p g A1 D F d1 d2 d3 W (an.ext J) (T.ext J) Y);have a4:g.es.length<=4096:=(px.of Y).es;clear T an Y;go_enter func133,ntmps133
 go_upto_region 1 with(fail)
 generalize w.alloc _=W at hB hq ⊢;refine NQ fun x0 x1 x2 x3 HB HQ=>?_
 clear hB hq;cases hf:ovG p g
 .go_wp2_with (go_at_call 187;refine(Calls.bl (ad.o _ HB.o) hf).x ?_;rintro e ao ⟨rfl,h⟩;have FV:=zH (aT HB h);clear h)
  exact Wk
 go_upto_region 3 with(go_at_call 187;refine(Calls.bl (ad.o _ HB.o) hf).x ?_;rintro e ao ⟨rfl,h⟩;have a0:=ar h x1;have FV:=zH (aT HB h);clear h)
 clear x0 x1 x2 x3;go_wp2;go_loopw [14] (fun i wr=>∃k:Nat,k<=g.es.length/\i=.int .i64 k/\Hd ((g.es.take k).all ntE=true)/\ag w wr) (fun i _=>g.es.length-(intOf i).toNat)
 case atStart=>exact⟨0,aW _,rfl,zH Qt,FV⟩
 case round=>
  obtain⟨k,a3,rfl,Gw,FW⟩:=hrel;clear a0;by_cases av:k<g.es.length
  .have⟨e,U⟩:=aq av;obtain⟨a1,a2,ab,ah,ac,am,rfl,u0,u1,u2,u3,-,-⟩:=fU (ap wr FW).es U;obtain⟨G,O,H,I⟩:=e;dsimp only at u0 u1 u2 u3;have⟨HX,Gc⟩:=bJ U (FW.alloc FW.size (.cells (eh G O ab H ah ac I am) 155));have Z:=aH wr (.cells (eh G O ab H ah ac I am) 155) rfl;clear U FW;go_upto_region 6 with(fail)
   generalize wr.alloc _=ao at Gc Z ⊢;have⟨a5,a6,n2,a7⟩:=aB Z;clear u0 u1 u2 u3 Z;cases hv:dlB G
   .have HF:=zH (Tt:ntE ⟨G,O,H,I⟩=true);exact Za
   .have HF:=zH (Tt:ntE ⟨G,O,H,I⟩=false);refine MI ?_;exact Xd
  .exact Xn
def Ò(k:Int):Int:=if 3<=k/\k<=8 then k+6 else if 9<=k/\k<=14 then k-6 else k
def vC k w:az 172 (bK k) w fun e w'=>e=.returned (zI (Ò k))/\w=w':=by
 by_cases h1:3<=k/\k<=8
 .have e1:eU k 3 8=true:=RM;have h:IntKind.i64.wrap (k+9)=k+9:=Rt;have D:IntKind.i64.wrap (k+9-3)=k+6:=Rt;rw[show Ò k=k+6 by unfold Ò;rw[ak h1]];clear h1;go_enter func172,ntmps172
  go_wp2_with (go_at_call 143;refine(Calls.cg (dC _ _ _ _) e1).x ?_;rintro e w' ⟨rfl,rfl⟩)
  exact V8
 .have e1:eU k 3 8=false:=RM;by_cases h2:9<=k/\k<=14
  .have e2:eU k 9 14=true:=RM;have h:IntKind.i64.wrap (k-9)=k-9:=Rt;have D:IntKind.i64.wrap (k-9+3)=k-6:=Rt;rw[show Ò k=k-6 by unfold Ò;rw[aj h1,ak h2]];exact Y4
  .have e2:eU k 9 14=false:=RM;rw[show Ò k=k by unfold Ò;rw[aj h1,aj h2]];exact Y4
def mC(h:bA w b cs 3)(D:cs.toList=xs.map (Value.int .i64)):aO w (some ⟨b,0,none⟩) xs:=(zf (xs:=xs) h D (ae b) (iX b)).D
def zmZ(rows:aP)(w:aa)(e:Ending)(w':aa):Prop:=∃A c,e=.returned (.slice A rows c)/\bt w' A rows/\ag w w'
def rh k v w:az 184 (bC k v) w (zmZ (d_ k v) w):=by
 by_cases h3:k=3
 .subst h3;have D:=((aw w (.cells zb8 3)).alloc Qt (.cells #[.slice (bH w) 3 3] 26));have F:=(bO (w.alloc (.cells zb8 3)) (.cells #[.slice (bH w) 3 3] 26) (k:=w.heap.size) Qt).t (aH w _ rfl);have G:=aH (w.alloc (.cells zb8 3)) (.cells #[.slice (bH w) 3 3] 26) (n:=(w:Nat)+1) Qt;have⟨H,I,J⟩:=er D F G;clear D F G;rw[show d_ 3 v=[[1,1,1]] from rfl];go_enter func184,ntmps184
  go_wp2;go_ret
  exact⟨_,_,rfl,au ⟨_,0,rfl,fun j r h=>by
   match j,h with
   |0,h=>simp at h;subst h;exact⟨_,_,aF J.o 0 rfl,mC (xs:=[1,1,1]) I.o rfl⟩
   |j+1,h=>simp at h⟩,H⟩
 by_cases h4:k=4
 .subst h4;have D:=((aw w (.cells #[.int .i64 1] 3)).alloc Qt (.cells #[.slice (bH w) 1 1] 26));have F:=(bO (w.alloc (.cells #[.int .i64 1] 3)) (.cells #[.slice (bH w) 1 1] 26) (k:=w.heap.size) Qt).t (aH w _ rfl);have G:=aH (w.alloc (.cells #[.int .i64 1] 3)) (.cells #[.slice (bH w) 1 1] 26) (n:=(w:Nat)+1) Qt;have⟨H,I,J⟩:=er D F G;clear D F G h3;rw[show d_ 4 v=[[1]] from rfl];go_enter func184,ntmps184
  go_wp2;go_ret
  exact⟨_,_,rfl,au ⟨_,0,rfl,fun j r h=>by
   match j,h with
   |0,h=>simp at h;subst h;exact⟨_,_,aF J.o 0 rfl,mC (xs:=[1]) I.o rfl⟩
   |j+1,h=>simp at h⟩,H⟩
 by_cases h5:k=5
 .subst h5;have D:=ζ w (.cells #[.int .i64 1,(),.int .i64 1] 3) (.cells #[(),.int .i64 1,.int .i64 1] 3) (.cells #[.slice (bH w) 3 3,.slice (some ⟨(w:Nat)+1,0,none⟩) 3 3] 26);have⟨F,G,T⟩:=cD w (.cells #[.int .i64 1,(),.int .i64 1] 3) (.cells #[(),.int .i64 1,.int .i64 1] 3) (.cells #[.slice (bH w) 3 3,.slice (some ⟨(w:Nat)+1,0,none⟩) 3 3] 26);have⟨H,I,J,O⟩:=gG D F G T;clear D F G T h3 h4;rw[show d_ 5 v=[[1,0,1],[0,1,1]] from rfl];go_enter func184,ntmps184
  go_wp2;go_ret
  exact⟨_,_,rfl,au ⟨_,0,rfl,fun j r h=>by
   match j,h with
   |0,h=>simp at h;subst h;exact⟨_,_,aF O.o 0 rfl,mC (xs:=[1,0,1]) I.o rfl⟩
   |1,h=>simp at h;subst h;exact⟨_,_,aF O.o 1 rfl,mC (xs:=[0,1,1]) J.o rfl⟩
   |j+2,h=>simp at h⟩,H⟩
 by_cases h7:k=7
 .subst h7;have D:=((aw w (.cells (uq v) 3)).alloc Qt (.cells #[.slice (bH w) 2 2] 26));have F:=(bO (w.alloc (.cells (uq v) 3)) (.cells #[.slice (bH w) 2 2] 26) (k:=w.heap.size) Qt).t (aH w _ rfl);have G:=aH (w.alloc (.cells (uq v) 3)) (.cells #[.slice (bH w) 2 2] 26) (n:=(w:Nat)+1) Qt;have⟨H,I,J⟩:=er D F G;clear D F G h3 h4 h5;rw[show d_ 7 v=[[1,v]] from rfl];go_enter func184,ntmps184
  go_wp2;go_ret
  exact⟨_,_,rfl,au ⟨_,0,rfl,fun j r h=>by
   match j,h with
   |0,h=>simp at h;subst h;exact⟨_,_,aF J.o 0 rfl,mC (xs:=[1,v]) I.o rfl⟩
   |j+1,h=>simp at h⟩,H⟩
 .have U:(k==3)=false:=Ri;have Y:(k==4)=false:=Rh;have Z:(k==5)=false:=Rg;have ab:(k==7)=false:=Rm;rw[show d_ k v=[] by unfold d_;rw[aj h3,aj h4,aj h5,aj h7]];clear h3 h4 h5 h7;go_enter func184,ntmps184
  go_wp2;go_ret
  exact⟨none,0,rfl,ay rfl,al _ _⟩
def cS.ext(F:cS w A rows)(h:ag w w'):cS w' A rows:=F.E id fun⟨b,o,e,J⟩=>⟨b,o,e,fun k r O=>by obtain⟨D,ε,G,H,I⟩:=J k r O;exact⟨D,ε,ar h G,H,I.ext h⟩⟩
def ig.frC(h:ig w B A rows)(D:B<=(w:Nat)):Fr w B w (fun W=>cS W A rows):=tU (fun W F=>h W F) (fun _ _ G h=>h.ext G) D
def lJ(R:Rl)(w:aa)(e:Ending)(w':aa):Prop:=∃A c,e=.returned (.agg (dh R.l R.r A R.b c))/\Fr w' w w' (fun W=>cS W A R.b)/\ag w w'
def mO p l r N M A ε w(am:bV p=true)(O:bt w A M)(s:eV p N (l+r) M)(ad:N<=1048576)(an:l+r<=1048576):az 179 (wT p l r A N ε) w (lJ (vc p l r M) w):=by
 have⟨T,U⟩:=bM w (.cells bx 67);have I:=zH (show ∀V,ag w V->az 214 #[p,.slice A N ε,.int .i64 ((l:Int)+(r:Int))] V (Ct (j5 p (l+r) M) V) from fun V ah=>by have:=vI p M A ε N (l+r) V am (O.ext ah) s ad an;rw[show(((l+r:Nat)):Int)=(l:Int)+(r:Int) from C3 l r]at this;exact this)
 have ao:IntKind.i64.wrap ((l:Int)+(r:Int))=(l:Int)+(r:Int):=Rt;have⟨G,HQ⟩:=bJ T U;have⟨Z,H⟩:=aR (j5 p (l+r) M);have J:=zH H;rw[<-H]at I;clear T U O s H;go_enter func179,ntmps179
 go_upto_region 1 with(fail)
 generalize w.alloc _=W at G HQ ⊢;go_wp2_with (go_at_call 214;refine(I.o _ G.o).x ?_;rintro e w2 ⟨D,d,rfl,Y,F⟩;have h:=ai HQ F;have⟨ap,av,a0⟩:=aD h;have f0:=aK h 0;have f1:=aK h 1;have f2:=aK h 2;have HZ:=zH h;have ac:=zH (Y.frC F.size);have ab:=zH (aT G F);clear h Y F)
 refine MQ fun y1 y2 y3 u0 u1 u2 Ge=>?_
 refine aI (v:=.agg (dh l r D Z d)) (by simp[results,results179,go_sem, *]) rfl ⟨D,d,by rw[J.o];rfl,?_,((ab.setCell (p:=⟨w,0,none⟩) (ae _) _).setCell (p:=⟨w,1,none⟩) (ae _) _).setCell (p:=⟨w,2,none⟩) (ae _) _⟩;rw[show(vc p l r M).b=Z from J.o.q];exact(ac.y (w':=((w2.setCell ⟨w,0,none⟩ (zI (l:Nat))).setCell ⟨w,1,none⟩ (zI (r:Nat))).setCell ⟨w,2,none⟩ (.slice D Z d)) fun q a _=>(a_ _ _ _ _ (by show q≠w.heap.size;omega)).t ((a_ _ _ _ _ (by show q≠w.heap.size;omega)).t (a_ _ _ _ _ (by show q≠w.heap.size;omega)))).to Qu Qt
def Bf(w:aa)(r:aL)(c:cL):Prop:=∃A ε,c=[.slice A r ε]/\r.length<=ε/\aO w A r
def Bf.ext{a b}{r}{c}(D:ag a b)(h:Bf a r c):Bf b r c:=by obtain⟨A,ε,e,F,h⟩:=h;exact⟨A,ε,e,F,h.ext D⟩
def yU:RT prog 55 26 1 (.slice none 0 0) 24:=⟨iA,QT,Qw,Qw,Qw⟩
def lM(h:bR 1 Bf w A rows):cS w A rows:=by
 rcases h with h|⟨b,o,e,H⟩
 .exact ay h
 .refine au ⟨b,o,e,fun k r I=>?_⟩;obtain⟨c,F,D,ε,rfl,J,G⟩:=H k r I;have:=F 0 _ rfl;rw[fk,jf]at this;exact⟨D,ε,this,J,G⟩
def mS D F A1 G c1 c2 H n2 n V(ad:aO V A1 D)(ah:aO V G F)(Z:H=D.length)(ab:n2=F.length)(ac:n=(D++F).length)(av:H+n2<=1048576):az 65 #[.slice (bH V) 2 2] (V.alloc (.cells (nj A1 H c1 G n2 c2) 26)) fun e w'=>∃I O,e=.returned (.slice I n O)/\n<=O/\Fr w' V w' (fun W=>aO W I (D++F))/\ag V w':=by
 have J:=aw V (.cells (nj A1 H c1 G n2 c2) 26);obtain⟨ao,ap,-,-⟩:=dD (aH V (.cells (nj A1 H c1 G n2 c2) 26) rfl);have am:bt (V.alloc (.cells (nj A1 H c1 G n2 c2) 26)) (some ⟨V,0,none⟩) [D,F]:=au ⟨V,0,rfl,fun k r h=>by
  match k,h with
  |0,h=>simp at h;subst h;exact⟨A1,c1,by rw[<-Z];exact ao,ad.ext J⟩
  |1,h=>simp at h;subst h;exact⟨G,c2,by rw[<-ab];exact ap,ah.ext J⟩
  |k+2,h=>simp at h⟩
 have:=ya [D,F] (some ⟨V,0,none⟩) 2 _ am Qt (fun k _=>by
  match k with
  |0=>simp
  |1=>simp;omega
  |k+2=>simp;omega)
 refine iB this ?_;rintro e w' ⟨u,rfl,T,U⟩;have an:[D,F].flatten=D++F:=Qt;rw[an]at T;obtain⟨I,O,rfl,-,Y,-⟩:=T.p;rw[<-ac]at Y ⊢;exact⟨I,O,rfl,Y,(T.fr U.size).to J.size (ae _),aT J U⟩
end Go.Proofs.YtpieilkmmiopfaaGreatDoor
