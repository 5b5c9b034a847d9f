/- Parts of the walks. Conditions: as stated with each. -/
import Derived.Test.YtdpgblncijojiaaGreatDoorPk19
namespace Go.Proofs.YtdpgblncijojiaaGreatDoor
open Go.RowKit Tryz
set_option linter.all false
set_option maxHeartbeats 4000000
set_option maxRecDepth 100000
variable{A A2:aq}{C:Code}{D J b c c2 hi i j k m n r:Nat}{E Rh V W w w' wr:aa}{H Rw u v v0 v1 v2 v3:av}{P:iQ}{Q:iF}{R:ir}{Rr:List Ed}{Rv t:dE}{a:Act}{e:Ending}{o:ie}{p:Int}{rest:List Oper}{row:Option Nat}{s:Sy}{us:bN}{xs:aH}
def xC(B:E.grownBy W (some b)):∃z:aa,(z:Nat)=E/\aj z W/\∀k,k≠b->z.heap[k]?=E.heap[k]?:=by
 have I:=B.size;have e:∀k,(W.heap.extract 0 E)[k]?=if k < (E:Nat) then W.heap[k]? else none:=fun k=>by
  by_cases h:k < (E:Nat)
  .rw[ar h,Array.getElem?_extract];simp;omega
  .rw[ak h,pn RX]
 have F:(W.heap.extract 0 E).size=(E:Nat):=by rw[Array.size_extract];omega
 refine⟨{W with heap:=W.heap.extract 0 E},F,⟨rfl,rfl,rfl,by show _<=W.heap.size;rw[F];exact I,fun k D=>?_⟩,fun k H=>?_⟩
 .replace D:k < (W.heap.extract 0 E).size:=D
  show W.heap[k]?=(W.heap.extract 0 E)[k]?
  rw[e,ar Ry]
 .show(W.heap.extract 0 E)[k]?=_
  rw[e];split
  .rename_i h;exact B.block k h fun e=>H (eE e)
  .rw[pn Ry]
def aI.zhO{rows:aC}(h:aI E D v rows)(z:∀k,k≠b->Rh.heap[k]?=E.heap[k]?)(B:b<D):aI Rh D v rows:=h.same fun k F=>z k Ry
def zep(B:w.grownBy wr (some b))(z:aj E wr)(H:(w:Nat)<=E):w.grownBy E (some b):=⟨z.os.symm.trans B.os,z.tape.symm.trans B.tape,z.output.symm.trans B.output,H,fun k D F=>(z.block k Ry).symm.trans (B.block k D F)⟩
def cy.cut(h:cy C b m wr)(z:aj E wr)(D:b < (E:Nat)):cy C b m E:=h.oD fun k B=>(z.block k Ry).symm
def aI.drawn{rows:aC}(h:aI w D v rows)(F:w.grownBy w' (some b))(E:b<D):aI w' D v rows:=by obtain⟨H,-,z,B⟩:=xC F;exact(h.zhO B E).ext z
structure yL(B n g:Nat)(xs:aH)(V:aa):Prop where
 own:V.ownsRow B 3 1 (.slice (aX g) n n) n (xs.map (Value.int .i64))
 len:xs.length=n
def yL.at{g:Nat}(h:yL D n g xs V)(hk:k<n):V.frozen? ⟨g,k,none⟩=false/\∃y,xs[k]?=some y/\af V g k (zI y):=by obtain⟨y,z⟩:=aw (Ts:k<xs.length);exact⟨h.own.frozenAt k,y,z,by rw[h.own.cellAt k Ry,bR,z];rfl⟩
def yL.put{g:Nat}(h:yL D n g xs V)(k:Nat)(y:Int):yL D n g (xs.set k y) (V.setCell ⟨g,k,none⟩ (zI y)):=⟨by have:=(h.own.stored k (zI y)).1;rwa[<-fQ]at this,Tc⟩
def yL.ints{g:Nat}(h:yL D n g xs V):au V D (.slice (aX g) n n) xs:=by unfold au;rw[h.len];exact h.own
def yL.lo{g:Nat}(h:yL D n g xs V):D<=g/\g < (V:Nat):=b_ h.own g rfl
def yL.drawn{g:Nat}(h:yL D n g xs V)(z:V.grownBy E (some b))(B:b<D):yL D n g xs E:=⟨ic h.own z (aB fun e=>by have:=h.lo.1;have e:g=b:=eE e;omega),h.len⟩
def vF.set(h:vF p xs)(B:(r:Int)<p∨r=0):vF p (xs.set k (r:Int)):=fun x z=>by
 rcases wI z with z|rfl
 .exact h x z
 .omega
def vF.zjb(p:Int)(n:Nat):vF p (List.replicate n 0):=fun x z=>by rw[(zh.1 z).2];omega
def Dm(p:Int)(n:Nat)(rows:aC):Prop:=∀r∈rows,r.length=n/\vF p r
def Dm.snoc{rows:aC}{r:aH}(h:Dm p n rows)(B:r.length=n)(D:vF p r):Dm p n (rows++[r]):=fun x z=>by
 rcases eO.1 z with z|z
 .exact h x z
 .rw[gy.1 z];exact⟨B,D⟩
def zgf(C:Code)(b m:Nat)(w:aa)(p:Int)(size n:Nat)(Z:cy C b m w)(c0:m<=274877906944)(c6:size<=1024)(c4:n<=1024):ax 89 (yU (aX b) p size n) w (kQ C b (m+4194400) (fun w' v=>∃rows,rows.length<=n/\Dm p size rows/\aI w' w v rows) w):=by
 obtain⟨cr,hi,cn,co,Ev⟩:=cM fq;obtain⟨a0,b8⟩:=bL Z.lt (cY C b m w ((n:Int)+1) Z Ry);have bp:IntKind.i64.wrap ((n:Int)+1)=(n:Int)+1:=Sq;clear Z;go_enter func89,ntmps89
 go_wp2_with (go_at_call 88;(with_reducible refine b8.o.mono ?_);rintro e c7 ⟨v,rfl,⟨F,rfl,ci,-⟩,ba,be⟩;have F_:=zH (Ry:F<=n);have b0:=zH ba;have b4:=zH be;clear ba be ci)
 clear bp;go_loopw [9,10] (fun u i wr=>∃(j:Nat) (rows:aC),j<=F/\i=.int .i64 j/\Hd (j+rows.length=F)/\Hd (Dm p size rows)/\Hd (aI wr w u rows)/\Hd (cy C b (m+2+rows.length*4096) wr)/\Hd (w.grownBy wr (some b))) (fun _ i _=>(intOf i).toNat)
 case atStart=>exact⟨F,[],ah _,rfl,zH rfl,zH (fun x cj=>by cases cj),zH ⟨[],kX _ _ _ _,fun k u r h=>RR,fun i j u ct b h=>RR⟩,zH (b0.mono Rx),b4⟩
 case round=>
  obtain⟨j,rows,cK,rfl,HJ,a4,a7,I,J⟩:=hrel;by_cases a9:j=0
  .subst a9;go_wp2;go_ret
   exact⟨_,rfl,⟨rows,UW,a4,a7⟩,I.mono UW,J.o⟩
  .have cO:0 < (j:Int):=Ry;have bp:IntKind.i64.wrap ((j:Int)-1)=((j:Int)-1):=by have:=F_.o;rw[aZ];omega
   have Gu:=zH (show rows.length<1024 by have:=HJ.o;have:=F_.o;omega);obtain⟨z,rfl⟩:∃z,z=wr:=⟨wr,rfl⟩;clear a9;go_upto_region 6 with((at_make;refine iJ _ rfl _ _ 27 rfl z.heap.size 3 cr (zI 0) 1 dA hi cn co .i64 .i64 size size size rfl rfl rfl rfl SB TB (ah _) ?_;intro br am ad))
   rw[gl]at am;obtain⟨ao,a1,a5⟩:=dD (show yL z size z (List.replicate size 0) br from⟨am,iU⟩) (I.ext (bT ad)) (show z.grownBy br (some b) from aN (bT ad));clear am ad;go_wp2;go_loopw [25] (fun i wr=>∃(k:Nat) (xs:aH),k<=size/\i=.int .i64 k/\Hd (yL z size z xs wr)/\Hd (vF p xs)/\Hd (cy C b (m+2+rows.length*4096+k*4) wr)/\Hd (z.grownBy wr (some b))) (fun i _=>size-(intOf i).toNat)
   case atStart=>exact⟨0,_,aT _,rfl,ao,zH (vF.zjb p size),zH (a1.mono Ry),a5⟩
   case round=>
    obtain⟨k,xs,cR,rfl,H,Q,a2,O⟩:=hrel;clear ao a1 a5;have B:=zH (show b < (z:Nat) from I.lt);by_cases ch:k<size
    .have HM:=zH (show m+2+rows.length*4096+k*4<=549755813000 by have:=Gu.o;omega);have b9:=zH (gH C b _ wr 2 a2 SZ);go_wp2_with (first
      |(go_at_call 46;(with_reducible refine b9.o.mono ?_);rintro e cu ⟨v,rfl,⟨y,rfl⟩,bb,ab⟩;have ap:=zH (H.o.drawn ab B);have a3:=zH bb;have a6:=zH (O.trans ab);clear bb ab)
      |(go_at_call 104;(with_reducible refine(kJ C b _ cu p a3.o SZ).mono ?_);rintro e cz ⟨v,rfl,⟨r,rfl,bo,-⟩,bd,ac⟩;have cc:=zH bo;have T:=ap.drawn ac B;obtain⟨cI,c9,-,cF⟩:=T.at ch;have bv:=zH T;have b1:=zH bd;have b5:=zH (a6.trans ac);clear bd ac bo T))
     all_goals go_roundw
     all_goals first
      |exact⟨k+1,_,Ry,RB,zH (bv.put k (r:Int)),zH (Q.o.set cc),zH ((b1.oD fun q c5=>bx _ _ _ _ (by show q≠z.heap.size;have:=B.o;omega)).mono Ry),zH (jl b5 ((ai z cz).setCell (p:=⟨z,k,none⟩) (ah _) _))⟩
      |exact⟨k+1,xs,Ry,RB,ap,Q,zH (a3.mono Ry),a6⟩
      |(simp[intOf];omega)
    .obtain rfl:size=k:=Ry;obtain⟨R,E,D,bi⟩:=xC O;obtain⟨bz,ce,ca,a8⟩:=fS D (by rw[E];exact H.o.ints:au wr R (.slice (aX z) size size) xs) (a7.zhO bi a0) (by rw[E];exact J.o.size:(w:Nat)<=R);obtain⟨b7,b3⟩:=bL (zep (J.o.trans O) D a8) (a2.cut D (by rw[E];exact B));clear E D bi;go_wp2_with ((at_builtin;refine j5 rfl _ _ rfl w R wr _ _ _ xs ca.o bz.o ce.o Tf a8.o rfl rfl ?_;intro ct c8 bm U;have cb:=zH bm;have b2:=zH (b3.below U a0);have b6:=zH (jl b7 U);clear bm U))
     go_roundw
     case rel=>exact⟨j-1,rows++[xs],Ry,RB,zH (by have:=HJ.o;simp;omega),zH (a4.snoc H.o.len Q.o),cb,zH (b2.mono RX),b6⟩
     case measure=>simp[intOf];omega
section
variable{B0 B0' B:Nat}{V V':aa}{A1 A2 A3:aq}{c1 c2 c3:Nat}{g:Gr}
def au.ed{B:Nat}(h:au V B v xs)(z:b<B):au (ed V b v0 v1 v2 v3) B v xs:=(((h.setCell (a:=⟨b,0,none⟩) z _).setCell (a:=⟨b,1,none⟩) z _).setCell (a:=⟨b,2,none⟩) z _).setCell (a:=⟨b,3,none⟩) z _
def vh.ext(h:vh B0 B V A1 c1 A2 c2 A3 c3 g)(z:aj V V'):vh B0 B V' A1 c1 A2 c2 A3 c3 g:=⟨h.b,bE h.s z.size,h.i.ext z,h.o.ext z,h.d2,h.d3,h.es.ext z⟩
def vh.mono(h:vh B0 B V A1 c1 A2 c2 A3 c3 g)(z:B0'<=B0):vh B0' B V A1 c1 A2 c2 A3 c3 g:=⟨bE z h.b,h.s,h.i.mono z,h.o.mono z,h.d2,h.d3,h.es⟩
def vh.ed(h:vh B0 B V A1 c1 A2 c2 A3 c3 g)(z:b<B0):vh B0 B (ed V b v0 v1 v2 v3) A1 c1 A2 c2 A3 c3 g:=⟨h.b,by rw[eu];exact h.s,h.i.ed z,h.o.ed z,h.d2,h.d3,h.es.ed (gz z h.b)⟩
def vh.fr(h:vh B0 B V A1 c1 A2 c2 A3 c3 g):Fr V B0 V (fun W=>oI W A1 A2 A3 g):=zgD ((h.es.fr (fun _ _ _ _ z h=>h.ext z) h.s).to h.b (ah _)) (h.i.fr (bE h.b h.s)) (h.o.fr (bE h.b h.s))
end
def m7.gr{g:Gr}(h:m7 g w e w'):CL g w e w':=by obtain⟨A1,c1,A2,c2,A3,c3,B,z,D,E⟩:=h;exact⟨A1,c1,A2,c2,A3,c3,z,D.fr,E⟩
def zh6{g:Gr}(h:sq g)(A1 A2 A3 At:aq)(c1 c2 c3 z:Nat)(w:aa)(D:oI w A1 A2 A3 g)(E:aU w At (iota g.w)):ax 161 #[.agg (bF g A1 c1 A2 c2 A3 c3),.slice At g.w z,(g.w:Nat)] w (m7 g w):=by have:=sr g g.w (iota g.w) (fun x=>x) A1 A2 A3 At c1 c2 c3 z w D E (zbv h.inr) (by rw[fE];have:=h.w;omega) SS SS (by have:=h.es;omega) (by have:=h.i;omega) (by have:=h.o;omega) (fun e F=>by have:=h.el e F;omega);rw[fE]at this;rw[show g.map g.w (fun x=>x)=g by unfold Gr.map;simp[show(Ed.map fun x=>x)=id from funext fun e=>by simp[Ed.map]]]at this;exact this
def zh7{g:Gr}(h:sq g)(a:Nat)(H:a<=4096)(A1 A2 A3 At:aq)(c1 c2 c3 z:Nat)(w:aa)(D:oI w A1 A2 A3 g)(E:aU w At (bC (jv a g.w))):ax 161 #[.agg (bF g A1 c1 A2 c2 A3 c3),.slice At g.w z,(g.w:Nat)] w (m7 (g.map g.w (· +a)) w):=by have:=sr g g.w (bC (jv a g.w)) (fun x=>x+a) A1 A2 A3 At c1 c2 c3 z w D E (zbw h.inr a) (by rw[bf,nG];have:=h.w;omega) SS SS (by have:=h.es;omega) (by have:=h.i;omega) (by have:=h.o;omega) (fun e F=>by have:=h.el e F;omega);rw[bf,nG]at this;exact this
def BO(g:Gr)(A1 A2 A3:aq)(c1 c2 c3:Nat)(w:aa)(ap:oI w A1 A2 A3 g)(R:sq g):ax 157 (cB (bF g A1 c1 A2 c2 A3 c3)) w (m7 g w):=by
 obtain⟨b0,hi,bv,bz,Ev⟩:=cM fq;have I:=((ai w w).alloc (ah _) (.cells (bF g A1 c1 A2 c2 A3 c3) 151)).alloc Rx (.cells cf 151);have D:=(bZ (w.alloc (.cells (bF g A1 c1 A2 c2 A3 c3) 151)) (.cells cf 151) (k:=w.heap.size) Rx).trans (aD w _ rfl);have J:=aD (w.alloc (.cells (bF g A1 c1 A2 c2 A3 c3) 151)) (.cells cf 151) (n:=(w:Nat)+1) Rx;have Z:=zH (fun V (bp:aj w V) At bi (bo:aU V At (iota g.w))=>zh6 R A1 A2 A3 At c1 c2 c3 bi V (ap.ext bp) bo);have br:g.w<=4096:=R.w;obtain⟨n,a1⟩:=aK g.w;rw[<-a1]at Z br D J I ⊢;clear ap R a1;go_enter func157,ntmps157
 go_upto_region 1 with(fail)
 generalize (w.alloc _).alloc _=W at I D J ⊢;obtain⟨a4,a5,a6,a7⟩:=aJ D;obtain⟨a9,be,bd⟩:=dD I J D;clear I J D;go_wp2_with ((at_make;refine iJ _ rfl _ _ 27 rfl W.heap.size 3 b0 (zI 0) 1 dA hi bv bz .i64 .i64 n n n rfl rfl rfl rfl SB TB (ah _) ?_;intro b1 Es a0))
 have T:=zH (bT a0);rw[gl]at Es;have ab:=zH (by rw[jd,fE];exact Es:b1.ownsRow W 3 1 (.slice (aX W) n n) n ((eV (iota n) 0 0).map (Value.int .i64)));clear Es a0 a4 a5 a6 a7;go_loopw [4,10] (fun _ i wr=>∃k:Nat,k<=n/\i=.int .i64 k/\wr.ownsRow W 3 1 (.slice (aX W) n n) n ((eV (iota n) 0 k).map (Value.int .i64))/\aj W wr) (fun _ i _=>n-(intOf i).toNat)
 case atStart=>exact⟨0,aT _,rfl,ab,T⟩
 case round=>
  obtain⟨k,ca,rfl,Es,z⟩:=hrel;clear ab T;by_cases EC:k<n
  .have b8:af wr W k (zI 0):=Xy;have b9:=Es.frozenAt k;have Fj:=(Es.stored k (zI k)).1;rw[<-fQ,j4 _ _ _ _ (rp EC)]at Fj;obtain⟨HS,Fl⟩:=bL Fj (z.setCell (p:=⟨W,k,none⟩) (ah _) (zI k));exact Yy
  .rw[j3 _ _ _ Sp]at Es;have a3:au wr W (.slice (aX W) n n) (iota n):=by unfold au;rw[fE];exact Es
   obtain⟨b6,b7,am,ao,-⟩:=a3.view;rw[fE]at am;cases am
   obtain⟨a8,U⟩:=bL ao (bQ a9 z);obtain⟨a4,a5,a6,a7⟩:=aJ (aA bd z);have ac:=zH (aA be z);have ad:=zH (show(w:Nat)+1<wr from(aP.1 ac).1);clear Es a3 ao z;go_wp2_with ((go_at_call 161;(with_reducible refine(Z.o _ U.o _ _ a8.o).mono ?_);intro e ci h;unfold m7 at h;obtain⟨E,d1,F,d2,H,d3,B,bm,a2,Q⟩:=h;subst bm;have O:=aA ac Q;obtain⟨cb,cc,ce,ch⟩:=aJ O;obtain⟨f0,f1,f2,f3⟩:=cH O;have y:=cJ (v0:=.int .i64 (g.w:Nat)) (v1:=.slice E g.es d1) (v2:=.slice F g.i d2) (v3:=.slice H g.o d3) O;obtain⟨b2,b3,b4,b5⟩:=aJ y;unfold ed at b2 b3 b4 b5;have bb:=zH a2;have ba:=zH (cX (bQ U.o Q) (b:=(w:Nat)+1) Ry (zI (g.w:Nat)) (.slice E g.es d1) (.slice F g.i d2) (.slice H g.o d3));clear O y a2 Q))
   exact az (v:=.agg (bF g E d1 F d2 H d3)) (by simp[results,results157,go_sem, *]) rfl ⟨E,d1,F,d2,H,d3,B,rfl,(bb.ed ad).mono (by have:=ad.o;omega),ba⟩
section
variable{lo:Nat}
def au.mY(h:au w D v xs)(B:w.grownBy w' row)(E:∀g,row=some g->v.ownBlock≠some g):au w' D v xs:=
 h.kept B (by
  cases e:v.ownBlock with
  |none=>exact aG rfl
  |some g=>exact aB fun z=>E g z.symm e)
def rF(W:aa)(b i:Nat)(v:av):W.grownBy (W.setCell ⟨b,i,none⟩ v) (some b):=⟨rfl,rfl,rfl,Rx,fun k _ z=>bx _ _ _ _ (fun e=>z Rz)⟩
def zav(W:aa)(z:Nat)(o:Obj):World:={W with heap:=W.heap.setIfInBounds z o}
def Cb{o:Obj}(h:D < (W:Nat)):(zav W D o).heap[D]?=some o:=by simp[zav,h]
def Aq{o:Obj}(h:k≠D):(zav W D o).heap[k]?=W.heap[k]?:=by simp[zav,Array.getElem?_setIfInBounds_ne (fX h)]
def zbR{p:dw}(h:W.heap[p.block]?=w.heap[p.block]?):w.cell? p=W.cell? p:=by unfold World.cell?;rw[h]
def zed(E:aW w D #[v0,v1,v2,v3] 151)(h:bP 166 4 EEd w J (.slice A n c) Rr)(a2:∀x,v1≠.int .i64 x)(U:J<=(w:Nat)):Fr (w.setCell ⟨D,1,none⟩ u) J w (fun V=>de 4 EEd V A Rr):=fun W I=>by
 have a0:=(aP.1 E).1;by_cases am:J<=D
 rotate_left
 .exact(h.fr (fun _ _ _ _ O h=>h.ext O) U) W fun k H B=>(I k H B).trans (bx _ _ _ _ (by show k≠D;omega))
 have y:=bw w D 1 _ _ u E;simp only[zA]at y;have Z:=(I D am a0).trans y;have ab:=(aP.1 Z).1;have B:=(h.fr (fun _ _ _ _ O h=>h.ext O) U) (zav W D (.cells #[v0,v1,v2,v3] 151 (0,0))) fun k H B=>by
  by_cases e:k=D
  .subst e;rw[Cb ab,E]
  .rw[Aq e];exact(I k H B).trans (bx _ _ _ _ e)
 have a1:=zfT h E RC;have ac:∀p:dw,p.block≠D->W.cell? p=(zav W D (.cells #[v0,v1,v2,v3] 151 (0,0))).cell? p:=fun p T=>zbR (Aq T)
 have ao:∀(b o:Nat) (x:Int),(zav W D (.cells #[v0,v1,v2,v3] 151 (0,0))).cell? ⟨b,o,none⟩=some (.int .i64 x)->af W b o (zI x):=fun b o x z=>by
  by_cases e:b=D
  .subst e;have T:=Cb (W:=W) (o:=.cells #[v0,v1,v2,v3] 151 (0,0)) ab;unfold World.cell? at z ⊢;rw[T]at z;rw[Z];dsimp only at z ⊢
   match o,z with
   |0,z=>simpa using z
   |1,z=>simp at z;exact absurd z (a2 x)
   |2,z=>simpa using z
   |3,z=>simpa using z
   |o+4,z=>simp at z
  .rw[ac _ e];exact z
 have ad:∀(F:aq) (xs:aH),aU (zav W D (.cells #[v0,v1,v2,v3] 151 (0,0))) F xs->aU W F xs:=fun F xs h=>h.imp id fun⟨b,o,e,Q⟩=>⟨b,o,e,fun k x R=>ao _ _ _ (Q k x R)⟩
 rcases B with B|⟨b,o,e,Q⟩
 .exact aG B
 .subst e;refine aB ⟨b,o,rfl,fun k x R=>?_⟩;obtain⟨c,d1,A1,c1,A2,c2,d2,d3,d4⟩:=Q k x R;refine⟨c,fun j y ap=>?_,A1,c1,A2,c2,d2,ad _ _ d3,ad _ _ d4⟩;rw[ac _ (fun e=>a1 (by rw[show b=D from e];rfl))];exact d1 j y ap
def rG(E:o.guard=none)(s x:kE)(H:o.op=.call {callee:=.builtin .append,args:=#[s,x],argTypes:=#[27,27]})(z:Nat)(W:aa)(v:av)(xs ys:aH)(A:aq)(n c:Nat)(I:a.eval s=v)(D:a.eval x=.slice A n c)(ab:n=ys.length)(Es:au W z v xs)(Fs:aU W A ys)(a0:xs.length+ys<=1099511627776)(T:z<=(W:Nat))(h:∀v' w',au w' z v' (xs++ys)->W.grownBy w' v.ownBlock->(∀g,v'.ownBlock=some g->v.ownBlock=some g∨g=(W:Nat))->Below z W w'->wpList prog Q R rest (a.put o.dst v') w'):wpList prog Q R (o::rest) a W:=by
 subst ab;obtain⟨J,hi,am,ao,ap⟩:=cM fq;cases A with
 |none=>
  have hy:ys=[]:=WT;subst hy;refine qH E fun K hK=>?_
  have ac:=jx (P:=prog) (w:=W) z 27 o.type 3 J 1 dA hi v _ c _ Es;unfold Oper.wp;simp only[h_]at D;simp[execOp,H,resolve,invoke,builtin,I,D,ac,Result.andThen];exact hK _ _ (h v W SG ⟨rfl,rfl,rfl,ah _,fun _ _ _=>rfl⟩ (fun g e=>aG e) (ai _ _))
 |some O=>
  refine ze W E s x 27 H z 3 J (zI 0) 1 8 dA hi am ao ap rfl RC v _ _ I Es O ys c (ys.map (Value.int .i64)) D Rx ?_ ?_ ?_ ?_ ?_ ?_
  .exact YL
  .intro u ad;obtain⟨y,_,rfl⟩:=cd.1 ad;rfl
  .unfold maxLen;omega
  .omega
  .omega
  .intro v' w' Ft F _ U;exact h v' w' TP F (fun g e=>U.elim (fun B=>aG (B ▸ e)) fun B=>aB (by rw[e]at B;cases B;rfl)) ((ai _ _).grown F T fun k Z=>(b_ Es k Z).1)
def yw{am:Type}{s bytes:Nat}{I:World->am->List Value->Prop}(E:RT prog t Rv s H bytes)(ao:o.guard=none)(ad x:kE)(ap:o.op=.call {callee:=.builtin .append,args:=#[ad,x],argTypes:=#[t,t]})(B F:Nat)(W:aa)(v v2:av)(xs ys:List am)(D:bP Rv s I W B v xs)(z:bP Rv s I W F v2 ys)(a9:∀g,v.ownBlock=some g->g<F)(b0:B<=F)(b1:F<=(W:Nat))(bd:xs.length+ys<=1048576)(a0:a.eval ad=v)(T:a.eval x=v2)(h:∀v' w',bP Rv s I w' B v' (xs++ys)->W.grownBy w' v.ownBlock->Below B W w'->wpList prog Q R rest (a.put o.dst v') w'):wpList prog Q R (o::rest) a W:=by
 obtain⟨a1,hi,bo,bp,br⟩:=cM E.info;obtain⟨cs,D⟩:=D;obtain⟨ds,z⟩:=z;have ba:∀(k:Nat) (x:am) (c:bN),ys[k]?=some x->ds[k]?=some c->c.length=s/\(∀u∈c,u.oneCell'=true)/\j2 I W B v x c:=fun k x c T U=>by obtain⟨a2,a3,lo,hi,bv,a4,bz,a5⟩:=z.each k x c T U;exact⟨a2,a3,lo,hi,Ry,a4,fun g e=>aG (by have:=a9 g e;omega),a5⟩
 rcases z.outer.2 with⟨rfl,a6⟩|⟨g,cap,cur,rfl,b5,b4,b6,b2,b3,b7⟩
 .have ac:ys=[]:=fw a6;subst ac;refine qH ao fun K hK=>?_
  have bi:=jx (P:=prog) (w:=W) B t o.type Rv a1 s E.und hi v _ 0 _ D.outer;unfold Oper.wp;simp[execOp,ap,resolve,invoke,builtin,a0,T,bi,Result.andThen];exact hK _ _ (h v W ⟨cs,by simpa using D⟩ ⟨rfl,rfl,rfl,ah _,fun _ _ _=>rfl⟩ (ai _ _))
 .have a8:=pc z.outer (g:=g) rfl;refine ze W ao ad x t ap B Rv a1 H s bytes E.und hi bo bp br E.zs E.pos v _ _ a0 D.outer ⟨g,0,none⟩ ys cap ds.flatten T (by rw[mK z.cl,z.len]) (fun j u bb=>a8 j u bb) ?_ ?_ ?_ Ry ?_
  .intro u ab;obtain⟨c,U,ab⟩:=qI.1 ab;obtain⟨k,O⟩:=eN.1 U;obtain⟨y,ac⟩:=aw (by rw[<-z.len];exact(bs.1 O).1:k<ys.length);exact(z.each k y c ac O).2.1 u ab
  .unfold maxLen;omega
  .have:(xs.length+ys)*bytes<=1048576*1000:=Nat.mul_le_mul bd E.bts;omega
  .intro v' w' be Z _ a7;have bm:∀J,v'.ownBlock=some J->v.ownBlock=some J∨(W:Nat)<=J:=fun J e=>by
    rcases a7 with h|h
    .rw[<-h];exact aG e
    .rw[h]at e;cases e;exact aB (ah _)
   exact h v' w' ⟨cs++ds,D.nQ z.len ba be Z bm⟩ Z ((ai _ _).grown Z Ry fun k O=>(b_ D.outer k O).1)
def Fr.over(h:Fr w lo hi P)(z:w.grownBy w' row)(B:hi<=(w:Nat))(D:∀g,row=some g->g<lo):Fr w' lo hi P:=h.grown z B fun g e=>aG (D g e)
def zio(g:Gr)(w:aa)(e:Ending)(w':aa):Prop:=∃A1 c1 A2 c2 A3 c3,e=.returned (.agg (bF g A1 c1 A2 c2 A3 c3))/\(g.i.length<=c2/\g.o.length<=c3)/\Fr w' w w' (fun W=>oI W A1 A2 A3 g)/\aj w w'
def vz(a b:Gr)(A1 A2 A3 b3 b4 b5:aq)(c1 c2 c3 d1 d2 d3:Nat)(w:aa)(a9:sq a)(D:sq b)(hb:oI w A1 A2 A3 a)(hc:oI w b3 b4 b5 b):ax 177 (jI (bF a A1 c1 A2 c2 A3 c3) (bF b b3 d1 b4 d2 b5 d3)) w (zio (pH a b) w):=by
 obtain⟨io,hi,ib,ii,Ev⟩:=cM fq;obtain⟨h2,hX⟩:=bL (fun(V:aa) (ek:aj w V)=>BO a A1 A2 A3 c1 c2 c3 V (hb.ext ek) a9) (fun(V:aa) (ek:aj w V) At h8 (ia:aU V At (bC (jv a.w b.w)))=>zh7 D a.w a9.w b3 b4 b5 At d1 d2 d3 h8 V (hc.ext ek) ia);have em:=below_alloc3 w (.cells (bF a A1 c1 A2 c2 A3 c3) 151) (.cells (bF b b3 d1 b4 d2 b5 d3) 151) (.cells cf 151);obtain⟨U,T,Z⟩:=cv w (.cells (bF a A1 c1 A2 c2 A3 c3) 151) (.cells (bF b b3 d1 b4 d2 b5 d3) 151) (.cells cf 151);have i3:=a9.w;have i7:=D.w;have i1:=a9.i;have i2:=a9.o;have i0:=a9.es;have i5:=D.i;have i6:=D.o;have i4:=D.es;have jp:IntKind.i64.wrap ((a.w:Int)+(b.w:Int))=(a.w:Int)+(b.w:Int):=Sq;have c5:=zH (show(b.map b.w (· +a.w)).es=b.es.map (Ed.map (· +a.w))/\(b.map b.w (· +a.w)).i=b.i.map (· +a.w)/\(b.map b.w (· +a.w)).o=b.o.map (· +a.w)/\(b.map b.w (· +a.w)).w=b.w from⟨rfl,rfl,rfl,rfl⟩);clear hb hc a9 D;go_enter func177,ntmps177
 go_upto_region 1 with(fail)
 generalize ((w.alloc _).alloc _).alloc _=W at em U T Z ⊢;obtain⟨fz,f0,f4,f5⟩:=aJ T;obtain⟨hz,g0,h6,h7⟩:=fS em U T Z;clear em U T Z;go_wp2_with ((at_make;refine iJ _ rfl _ _ 27 rfl W.heap.size 3 io (zI 0) 1 dA hi ib ii .i64 .i64 b.w b.w b.w rfl rfl rfl rfl SB TB (ah _) ?_;intro ip Es hh))
 have gc:=zH (bT hh);rw[gl]at Es;have ca:=zH (by rw[bf,nG]:(bC (jv a.w b.w)).length=b.w);have gs:=zH (by rw[jd,ca.o];exact Es:ip.ownsRow W 3 1 (.slice (aX W) b.w b.w) b.w ((eV (bC (jv a.w b.w)) 0 0).map (Value.int .i64)));clear Es hh fz f0 f4 f5;go_loopw [6,14] (fun _ i wr=>∃k:Nat,k<=b.w/\i=.int .i64 k/\wr.ownsRow W 3 1 (.slice (aX W) b.w b.w) b.w ((eV (bC (jv a.w b.w)) 0 k).map (Value.int .i64))/\aj W wr) (fun _ i _=>b.w-(intOf i).toNat)
 case atStart=>exact⟨0,aT _,rfl,gs,gc⟩
 case round=>
  obtain⟨k,hj,rfl,Es,ba⟩:=hrel;clear gs gc;by_cases hk:k<b.w
  .have i8:af wr W k (zI 0):=by rw[Es.cellAt k Ry,bR,l7 _ _ _ (by rw[ca.o];exact hk)];rfl
   have en:=Es.frozenAt k;have Fj:=(Es.stored k (zI ((k:Int)+(a.w:Int)))).1;rw[<-fQ,j4 _ _ _ _ (by rw[fk (BF hk)];simp:(bC (jv a.w b.w))[k]?=some ((k:Int)+(a.w:Int)))]at Fj;obtain⟨HS,Fl⟩:=bL Fj (ba.setCell (p:=⟨W,k,none⟩) (ah _) (zI ((k:Int)+(a.w:Int))));obtain⟨fl,fn,fo,fs⟩:=aJ (aA g0 ba);have i9:IntKind.i64.wrap ((k:Int)+(a.w:Int))=(k:Int)+(a.w:Int):=Sq;exact Yy
  .rw[j3 _ _ _ (by rw[ca.o];omega)]at Es;have hl:au wr W (.slice (aX W) b.w b.w) (bC (jv a.w b.w)):=by unfold au;rw[ca.o];exact Es
   obtain⟨is,it,ci,g9,-⟩:=hl.view;rw[ca.o]at ci;cases ci
   obtain⟨gV,c4⟩:=bL g9 (bQ hz ba);obtain⟨fl,fn,fo,fs⟩:=aJ (aA g0 ba);obtain⟨eg,ei⟩:=bL (aA h6 ba) (aA h7 ba);obtain⟨c0,hn⟩:=aK wr;rw[<-hn]at fl fn fo fs eg ei c4 gV ⊢;have gK:=zH (show(w:Nat)+1+1<c0 from(aP.1 ei).1);clear Es hl g9 ba hn;go_upto_region 8 with(go_at_call 157;(with_reducible refine(h2.o _ c4.o).mono ?_);intro e z h;unfold m7 at h;obtain⟨bd,bz,b6,e2,be,ab,am,h9,cn,he⟩:=h;subst h9;have ao:=zH cn;have a6:=zH he;clear cn he)
   clear fl fn fo fs;have ac:=aE z (.cells (bF a bd bz b6 e2 be ab) 151);obtain⟨gB,gw,bi,Gu⟩:=fS (aD z (.cells (bF a bd bz b6 e2 be ab) 151) rfl) (ao.ext ac) (bQ a6 ac) (Rx:(z:Nat) < (z.alloc (.cells (bF a bd bz b6 e2 be ab) 151)));obtain⟨d0,d4,z2,d5⟩:=aJ (aA eg bi);obtain⟨gR,gb⟩:=bL (gV.ext bi) ac;generalize z.alloc _=ke at gB gw bi Gu gR gb d0 d4 z2 d5 ⊢;clear ac;have h3:=zH (bQ c4 bi);go_upto_region 9 with(go_at_call 161;(with_reducible refine(hX.o _ h3.o _ _ gR.o).mono ?_);intro e ad h;unfold m7 at h;obtain⟨b7,f1,b8,f2,b9,f3,f6,g8,cn,hf⟩:=h;rw[c5.o.1,c5.o.2.1,c5.o.2.2.1,c5.o.2.2.2,bl,bl,bl]at g8;subst g8;have bo:=zH cn;have d6:=zH hf;clear cn hf)
   clear d0 d4 z2 d5;have ac:=aE ad (.cells (bF b b7 f1 b8 f2 b9 f3) 151);obtain⟨c6,ea,a7,bm,gf⟩:=l_ (aD ad (.cells (bF b b7 f1 b8 f2 b9 f3) 151) rfl) (bo.ext ac) (bQ d6 ac) (Rx:(ad:Nat) < (ad.alloc (.cells (bF b b7 f1 b8 f2 b9 f3) 151))) ac;generalize ad.alloc _=B at c6 ea a7 bm gf ⊢;clear ac;obtain⟨eb,gA,hC,hB⟩:=fS (aA gB a7) (gw.ext a7) (bQ bi a7) (bQ gb a7);obtain⟨a3,a4,p2,a5⟩:=aJ eb;obtain⟨ap,a0,a1,a2⟩:=cH eb;obtain⟨d0,d4,z2,d5⟩:=aJ ((aA eg bi |> fun h=>aA h a7));go_upto_region 10 with(fail)
   clear a3 a4 p2 a5 ap a0 a1 a2 d0 d4 z2 d5;have hd:am<=(z:Nat):=ao.s;obtain⟨bp,br,KV,KW⟩:=fS (fun g (e:(Value.slice b6 a.i e2).ownBlock=some g)=>ao.d2 g e) (fun g (e:(Value.slice be a.o ab).ownBlock=some g)=>ao.d3 g e) hd (show(z:Nat)<B from gz Gu a7.size);have ce:=bw B z 0 _ _ (zI ((a.w:Int)+(b.w:Int))) eb;simp only[zA]at ce;have dl:=rF B z 0 (zI ((a.w:Int)+(b.w:Int)));have e1:=gA.i.mY dl (fun g e e2=>by cases e;have:=(bp.o _ e2).2;omega);have e5:=gA.o.o.mY dl (fun g e e2=>by cases e;have:=br.o _ e2;omega);have cr:∀k,k≠z.heap.size->(B.setCell ⟨z,0,none⟩ (zI ((a.w:Int)+(b.w:Int)))).heap[k]?=B.heap[k]?:=fun k hj=>bx _ _ _ _ hj
   have e8:(B.setCell ⟨z,0,none⟩ (zI ((a.w:Int)+(b.w:Int))):Nat)=B:=Rx;have f8:=zH (hC.setCell (p:=⟨z,0,none⟩) a6.size (zI ((a.w:Int)+(b.w:Int))));generalize B.setCell ⟨z,0,none⟩ _=fb at ce dl e1 e5 cr e8 f8 ⊢;have g2:=(cr ad (by have:=Gu.o;have:=d6.size;omega)).trans c6;have hm:(z:Nat)<ad:=gz Gu d6.size;have KX:=zH hm
   -- In
   obtain⟨a3,a4,p2,a5⟩:=aJ ce;obtain⟨U,T,Z,b1⟩:=aJ g2;obtain⟨hQ,hZ,hD,hT,bv⟩:=l_ e1 e5 ce cr e8;have h5:=zH (show aU fb b8 (bC (b.i.map (· +a.w))) from(ea.fr.imp fun V h=>h.i) fb fun k a8 J=>cr k Tf);have hV:=zH (by rw[bS,bf,bf,bl]:(bC a.i++bC (b.i.map (· +a.w))).length=a.i+b.i);have hW:=zH (by rw[bS,bf,bf,bl]:(bC a.o++bC (b.o.map (· +a.w))).length=a.o+b.o);clear dl e1 e5 ce cr e8 g2 hm hd;go_upto_region 11 with((at_builtin;refine rG rfl (.tmp 39) (.tmp 41) rfl c0 fb (.slice b6 a.i e2) (bC a.i) (bC (b.i.map (· +a.w))) b8 b.i f2 rfl rfl RW hQ.o h5.o (by rw[bf,bf,bl];omega) (by have:=bv.o;have:=a6.size;have:=KW.o;omega) ?_;intro ka cO Q O cj D;obtain⟨E,I,g7,-,eo,-⟩:=Q.view;rw[hV.o]at g7 eo;subst g7;have hH:=zH eo;clear eo;have da:=(O.block z (by have:=bv.o;have:=KW.o;omega) (fun e=>by have:=(bp.o _ e.symm).2;have:=KV.o;omega)).trans hD;obtain⟨cu,cz,cI,cK⟩:=aJ da;obtain⟨ap,a0,a1,a2⟩:=cH da;have hR:=zH Q;have d8:=zH O;have ga:=zH cj;have hE:=zH da;have hw:=zH (f8.trans D);clear Q O cj D da))
   clear a3 a4 p2 a5 U T Z b1 cu cz cI cK ap a0 a1 a2;have ht:=hZ.mY d8 (fun g e e2=>(bp g e).1 e2);have ev:∀g,(Value.slice E (a.i.length+b.i) I).ownBlock=some g->g<am∨(B:Nat)<=g:=fun g e=>(ga g e).elim (fun e2=>aG (bp g e2).2) fun e2=>aB (by rw[e2,bv.o];exact ah _)
   have hg:∀g,(Value.slice E (a.i.length+b.i) I).ownBlock=some g->(Value.slice be a.o ab).ownBlock≠some g:=fun g e ab=>(ga g e).elim (fun e2=>(bp g e2).1 ab) fun e2=>by have:=br g ab;have:=bv.o;have:=KV.o;have:=KW.o;omega
   have ch:=bw cO z 2 _ _ (.slice E (a.i.length+b.i) I) hE;simp only[zA]at ch;have dT:=rF cO z 2 (.slice E (a.i.length+b.i) I);have e3:=hR.mY dT (fun g e e2=>by cases e;have:=ev _ e2;have:=KV.o;have:=KW.o;omega);have e6:=ht.mY dT (fun g e e2=>by cases e;have:=br.o _ e2;have:=KV.o;omega);have ct:∀k,am<=k->k < (B:Nat)->k≠z.heap.size->(cO.setCell ⟨z,2,none⟩ (.slice E (a.i.length+b.i) I)).heap[k]?=B.heap[k]?:=fun k a8 J b0=>(bx _ _ _ _ b0).trans ((d8.block k (by rw[bv.o];exact J) (fun e=>by have:=(bp.o _ e.symm).2;omega)).trans (hT k b0))
   have e9:(B:Nat)<=(cO.setCell ⟨z,2,none⟩ (.slice E (a.i.length+b.i) I)):=by have:=d8.size;rw[bv.o]at this;simpa using this
   have f9:=zH (hw.setCell (p:=⟨z,2,none⟩) a6.size (.slice E (a.i.length+b.i) I));generalize cO.setCell ⟨z,2,none⟩ _=fd at ch dT e3 e6 ct e9 f9 ⊢;have g3:=(ct ad Vg bm (by have:=KX.o;omega)).trans c6
   -- Out
   obtain⟨a3,a4,p2,a5⟩:=aJ ch;obtain⟨U,T,Z,b1⟩:=aJ g3;obtain⟨hS,h0,hF,hU,cb,KY,hL⟩:=zH7 e3 e6 ch ct e9 ev hg;have h4:=zH (show aU fd b9 (bC (b.o.map (· +a.w))) from(ea.fr.imp fun V h=>h.o) fd fun k a8 J=>ct k U6 J Tf);clear dT e3 e6 ch ct e9 g3 ht ev hg;go_upto_region 12 with((at_builtin;refine rG rfl (.tmp 45) (.tmp 47) rfl c0 fd (.slice be a.o ab) (bC a.o) (bC (b.o.map (· +a.w))) b9 b.o f3 rfl rfl RW h0.o h4.o (by rw[bf,bf,bl];omega) (by have:=cb.o;have:=a6.size;have:=KW.o;omega) ?_;intro kb cR Q O cj D;obtain⟨F,R,ci,-,es,-⟩:=Q.view;rw[hW.o]at ci es;subst ci;have hI:=zH es;clear es;have db:=(O.block z (by have:=cb.o;have:=KW.o;omega) (fun e=>by have:=br.o _ e.symm;have:=KV.o;omega)).trans hF;obtain⟨cu,cz,cI,cK⟩:=aJ db;obtain⟨ap,a0,a1,a2⟩:=cH db;have h1:=zH Q;have d9:=zH O;have hy:=zH cj;have hG:=zH db;have hx:=zH (f9.trans D);clear Q O cj D db))
   clear a3 a4 p2 a5 U T Z b1 cu cz cI cK ap a0 a1 a2;have hq:=hS.mY d9 (fun g e e2=>hL g e2 e);have eA:∀g,(Value.slice F (a.o.length+b.o) R).ownBlock=some g->g<am∨(B:Nat)<=g:=fun g e=>(hy g e).elim (fun e2=>aG (br g e2)) fun e2=>aB (by rw[e2];exact cb)
   have cc:=bw cR z 3 _ _ (.slice F (a.o.length+b.o) R) hG;simp only[zA]at cc;have dc:=rF cR z 3 (.slice F (a.o.length+b.o) R);have e0:=hq.mY dc (fun g e e2=>Ww);have e4:=h1.mY dc (fun g e e2=>by cases e;have:=eA _ e2;have:=KV.o;have:=KW.o;omega);have co:∀k,am<=k->k < (B:Nat)->k≠z.heap.size->(cR.setCell ⟨z,3,none⟩ (.slice F (a.o.length+b.o) R)).heap[k]?=B.heap[k]?:=fun k a8 J b0=>(bx _ _ _ _ b0).trans ((d9.block k (gz J cb) (fun e=>by have:=br.o _ e.symm;omega)).trans (hU k a8 J b0))
   have e7:(B:Nat)<=(cR.setCell ⟨z,3,none⟩ (.slice F (a.o.length+b.o) R)):=by have:=d9.size;have:=cb.o;simp;omega
   have f7:=zH (hx.setCell (p:=⟨z,3,none⟩) a6.size (.slice F (a.o.length+b.o) R));generalize cR.setCell ⟨z,3,none⟩ _=fa at cc dc e0 e4 co e7 f7 ⊢;have g1:=(co ad Vg bm (by have:=KX.o;omega)).trans c6
   -- Edges
   have g4:bP 166 4 EEd fa am (.slice bd a.es bz) a.es:=ao.es.same (fun k a8 J=>(co k a8 (by have:=KW.o;omega) Ry).trans (hB.block k J)) (by have:=KW.o;omega);have f10:bP 166 4 EEd fa f6 (.slice b7 b.es f1) (b.es.map (Ed.map (· +a.w))):=by have:=bo.es;rw[show(b.map b.w (· +a.w)).es.length=b.es from bl ..]at this;refine this.same (fun k a8 J=>?_) (by have:=bm.o;omega);have b0:=bo.b;exact(co k U6 (by have:=bm.o;omega) Tf).trans (gf.block k J)
   have c7:=zH (show ∀g,(Value.slice bd a.es bz).ownBlock=some g->am<=g/\g < (z:Nat) from fun g e=>by obtain⟨cs,h⟩:=ao.es;exact b_ h.outer g e)
   obtain⟨a3,a4,p2,a5⟩:=aJ cc;obtain⟨U,T,Z,b1⟩:=aJ g1;obtain⟨hP,hY,hA,ee,gC,hM,hO,gn⟩:=zH8 e0 e4 cc e7 eA g4 f10 (by unfold jj;rw[bS,bl]:(jj a b).length=a.es+b.es);clear dc e0 e4 cc co e7 g1 hq eA g4 f10;go_upto_region 13 with((at_builtin;refine yw zh1 rfl (.tmp 51) (.tmp 53) rfl am f6 fa (.slice bd a.es bz) (.slice b7 b.es f1) a.es (b.es.map (Ed.map (· +a.w))) hM.o hO.o (fun g e=>by have:=(c7 g e).2;have:=Gu.o;have:=bo.b;omega) (by have:=KV.o;have:=Gu.o;have:=bo.b;omega) (by have:=bo.s;have:=bm.o;have:=ee.o;omega) (by rw[bl];omega) rfl rfl ?_;intro j0 bb Q O D;obtain⟨G1,H,g5,-⟩:=Q.view;rw[show(a.es++b.es.map (Ed.map (· +a.w))).length=a.es+b.es from gn.o]at g5;subst g5;have c8:=(O.block z (by have:=ee.o;have:=KW.o;omega) (fun e=>by have:=(c7.o _ e.symm).2;omega)).trans hA;obtain⟨cu,cz,cI,cK⟩:=aJ c8;obtain⟨ap,a0,a1,a2⟩:=cH c8;have hN:=zH Q;have d7:=zH O;have gd:=zH c8;have hv:=zH (f7.trans (D.mono ao.b));clear Q O D c8))
   clear a3 a4 p2 a5 U T Z b1 cu cz cI cK ap a0 a1 a2;have ho:=hP.mY d7 (fun g e e2=>by have:=c7 g e;have:=KY g e2;have:=KW.o;omega);have hr:=hY.mY d7 (fun g e e2=>by have:=c7 g e;have:=gC g e2;have:=KW.o;omega);have c9:=bw bb z 1 _ _ (.slice G1 (a.es.length+b.es) H) gd;simp only[zA]at c9;have ej:=rF bb z 1 (.slice G1 (a.es.length+b.es) H);have hp:=ho.mY ej (fun g e e2=>Ww);have hs:=hr.mY ej (fun g e e2=>by cases e;have:=gC.o _ e2;have:=KV.o;have:=KW.o;omega);have ha:=hN.o;have g6:=zed (u:=.slice G1 (a.es.length+b.es) H) (A:=G1) (n:=a.es.length+b.es) (c:=H) gd ha (fun x h=>RE) (by have:=d7.size;have:=ee.o;have:=KW.o;have:=KV.o;omega);have b2:=hv.setCell (p:=⟨z,1,none⟩) a6.size (.slice G1 (a.es.length+b.es) H);have hu:(bb.setCell ⟨z,1,none⟩ (.slice G1 (a.es.length+b.es) H):Nat)=bb:=Rx;have en:Fr (bb.setCell ⟨z,1,none⟩ (.slice G1 (a.es.length+b.es) H)) c0 (bb.setCell ⟨z,1,none⟩ (.slice G1 (a.es.length+b.es) H)) (fun V=>oI V G1 E F (pH a b)):=
    zgD (g:=pH a b) (g6.to ao.b (lQ hu.symm)) ((hp.fr b2.size).imp fun V h=>by show aU V E (bC (a.i++b.i.map (· +a.w)));rw[nY];exact h) ((hs.fr b2.size).imp fun V h=>by show aU V F (bC (a.o++b.o.map (· +a.w)));rw[nY];exact h)
   have cF:=(b2.block _ gK.o).trans ei;obtain⟨gm,gi,gL⟩:=dD en (bQ c4 b2) (show(w:Nat)+1+1<c0 from gK.o);generalize bb.setCell ⟨z,1,none⟩ _=kc at c9 cF gm gi ⊢;obtain⟨a3,a4,p2,a5⟩:=aJ c9;obtain⟨U,T,Z,b1⟩:=aJ cF;obtain⟨ap,a0,a1,a2⟩:=cH cF;have y:=cJ (v0:=.int .i64 ((a.w:Int)+(b.w:Int))) (v1:=.slice G1 (a.es.length+b.es) H) (v2:=.slice E (a.i.length+b.i) I) (v3:=.slice F (a.o.length+b.o) R) cF;obtain⟨fz,f0,f4,f5⟩:=aJ y;unfold ed at fz f0 f4 f5;clear ho hr ej hp hs ha g6 b2 hu en cF y c9;go_wp2;refine az (v:=.agg #[.int .i64 ((a.w:Int)+(b.w:Int)),.slice G1 (a.es.length+b.es) H,.slice E (a.i.length+b.i) I,.slice F (a.o.length+b.o) R]) (by simp[results,results177,go_sem, *]) rfl ⟨G1,H,E,I,F,R,?_,⟨by show(a.i++b.i.map (· +a.w)).length<=I;rw[bS,bl];exact hH,by show(a.o++b.o.map (· +a.w)).length<=R;rw[bS,bl];exact hI⟩,(gm.ed (b:=(w:Nat)+1+1) gL).to (by have:=gL.o;omega) (lQ eu.symm),cX gi (b:=(w:Nat)+1+1) Ry _ _ _ _⟩;rw[<-gn.o]
   show _=Ending.returned (Value.agg #[.int .i64 ((a.w+b.w:Nat):Int),.slice G1 (jj a b) H,.slice E (a.i++b.i.map (· +a.w)) I,.slice F (a.o++b.o.map (· +a.w)) R])
   rw[bS,bS,bl,bl,Int.natCast_add]
def zee(a b:Gr)(A1 A2 A3 z B D:aq)(c1 c2 c3 d1 d2 d3:Nat)(w:aa)(a0:sq a)(a1:sq b)(am:oI w A1 A2 A3 a)(ao:oI w z B D b):ax 167 (jI (bF a A1 c1 A2 c2 A3 c3) (bF b z d1 B d2 D d3)) w (CL (pH a b) w):=by
 have ad:=zH (fun(V:aa) (ap:aj w V)=>vz a b A1 A2 A3 z B D c1 c2 c3 d1 d2 d3 V a0 a1 (am.ext ap) (ao.ext ap));have T:=below_alloc3 w (.cells (bF a A1 c1 A2 c2 A3 c3) 151) (.cells (bF b z d1 B d2 D d3) 151) (.cells cf 151);obtain⟨Z,ab,R⟩:=cv w (.cells (bF a A1 c1 A2 c2 A3 c3) 151) (.cells (bF b z d1 B d2 D d3) 151) (.cells cf 151);obtain⟨g,a3⟩:=aK (pH a b);rw[<-a3]at ad ⊢;clear am ao a0 a1 a3;go_enter func167,ntmps167
 go_upto_region 1 with(fail)
 generalize ((w.alloc _).alloc _).alloc _=W at T Z ab R ⊢;obtain⟨bo,bp,br,bv⟩:=aJ Z;obtain⟨bz,b0,b1,b2⟩:=aJ ab;obtain⟨ac,a6,EX⟩:=dD T R (show(w:Nat)+1+1<W from(aP.1 R).1);clear T Z ab R;go_wp2_with ((go_at_call 177;(with_reducible refine(ad.o _ ac.o).mono ?_);intro e bm h;unfold zio at h;obtain⟨E,I,F,J,H,O,a7,-,a2,U⟩:=h;subst a7;have Q:=aA a6 U;obtain⟨bb,bd,be,bi⟩:=aJ Q;obtain⟨f0,f1,f2,f3⟩:=cH Q;have y:=cJ (v0:=.int .i64 (g.w:Nat)) (v1:=.slice E g.es I) (v2:=.slice F g.i J) (v3:=.slice H g.o O) Q;obtain⟨a8,a9,z2,ba⟩:=aJ y;unfold ed at a8 a9 z2 ba;have a5:=zH a2;have a4:=zH (cX (bQ ac U) (b:=(w:Nat)+1+1) Ry (zI (g.w:Nat)) (.slice E g.es I) (.slice F g.i J) (.slice H g.o O));clear Q y a2 U))
 exact az (v:=.agg (bF g E I F J H O)) (by simp[results,results167,go_sem, *]) rfl ⟨E,I,F,J,H,O,rfl,(a5.ed (b:=(w:Nat)+1+1) EX).to Tt (lQ eu.symm),a4⟩
end
def iP{z:Type}(xs:List z):Nat->List z
 |0=>xs
 |k+1=>match (iP xs k)[k]?,(iP xs k)[xs.length-1-k]? with
  |some x,some y=>((iP xs k).set k y).set (xs.length-1-k) x
  |_,_=>iP xs k
def sN{z:Type}(xs:List z):∀k,(iP xs k).length=xs
 |0=>rfl
 |k+1=>by have:=sN xs k;unfold iP;split <;>simp[this]
def Cr{H:Type}(xs:List H):∀(k:Nat),2*k<=xs.length->∀i,i<xs.length->(iP xs k)[i]?=if i<k∨xs.length-1-i<k then xs[xs.length-1-i]? else xs[i]?
 |0,_,i,_=>by simp[iP]
 |k+1,h,i,hi=>by
  have ih:=Cr xs k Ry;have I:=sN xs k;obtain⟨x,E⟩:=aw (Ry:k < (iP xs k).length);obtain⟨y,F⟩:=aw (Ry:xs.length-1-k < (iP xs k));have e:iP xs (k+1)=((iP xs k).set k y).set (xs.length-1-k) x:=by
   show(match (iP xs k)[k]?,(iP xs k)[xs.length-1-k]? with|some x,some y=>((iP xs k).set k y).set (xs.length-1-k) x|_,_=>iP xs k)=_
   rw[E,F]
  rw[e,lD E F];unfold sw;by_cases z:i=xs.length-1-k
  .rw[ar z,ih k Ry,ak Ry,ar Ry];congr 1;omega
  .rw[ak z];by_cases B:i=k
   .rw[ar B,ih _ Ry,ak Ry,ar Ry];congr 1;omega
   .rw[ak B,ih i hi];by_cases D:i<k∨xs.length-1-i<k
    .rw[ar D,ar Ry]
    .rw[ak D,ak Ry]
def zeH{B:Type}(xs:List B)(k:Nat)(h:2*k<=xs.length)(D:xs.length<=2*k+1):iP xs k=xs.reverse:=by
 apply eQ;intro i;by_cases hi:i<xs.length
 .rw[Cr xs k h i hi,List.getElem?_reverse hi];by_cases z:i<k∨xs.length-1-i<k
  .rw[ar z]
  .rw[ak z];congr 1;omega
 .rw[fy (by rw[sN];omega),fy RX]
def AQ{z:Type}{xs:List z}{x y:z}(B:(iP xs k)[k]?=some x)(D:(iP xs k)[xs.length-1-k]?=some y):iP xs (k+1)=((iP xs k).set k y).set (xs.length-1-k) x:=by
 show(match (iP xs k)[k]?,(iP xs k)[xs.length-1-k]? with|some x,some y=>((iP xs k).set k y).set (xs.length-1-k) x|_,_=>iP xs k)=_
 rw[B,D]
def lJ(w:aa)(g o:Nat)(x:cZ)(u:av):World:=
 ((((w.setCell ⟨g,o,none⟩ (zI x.k)).setCell ⟨g,o+1,none⟩ (zI x.a)).setCell ⟨g,o+2,none⟩ (zI x.b)).setCell ⟨g,o+3,none⟩ (zI x.c)).setCell ⟨g,o+4,none⟩ u
def uS{g cap:Nat}{xs:List cZ}(Q:n=xs.length)(O:us.length=xs)(h:w.ownsRow D 29 5 (.slice (aX g) n cap) n (gU xs us))(J:k<n)(x:cZ)(u:av):(lJ w g (k*5) x u).ownsRow D 29 5 (.slice (aX g) n cap) n (gU (xs.set k x) (us.set k u))/\w.grownBy (lJ w g (k*5) x u) (some g):=by subst Q;have z:=h.stored (k*5) (zI x.k);have B:=z.1.stored (k*5+1) (zI x.a);have E:=B.1.stored (k*5+2) (zI x.b);have F:=E.1.stored (k*5+3) (zI x.c);have H:=F.1.stored (k*5+4) u;have I:=bq (bq (bq (bq z.2 B.2) E.2) F.2) H.2;refine⟨?_,I⟩;have:=H.1;rw[xa x u O J]at this;exact this
def qp{g cap:Nat}{xs:List cZ}{x:cZ}(h:w.ownsRow D 29 5 (.slice (aX g) n cap) n (gU xs us))(I:k<n)(H:xs[k]?=some x)(F:us[k]?=some u):(af w g (k*5) (zI x.k)/\af w g (k*5+1) (zI x.a)/\af w g (k*5+2) (zI x.b)/\af w g (k*5+3) (zI x.c)/\af w g (k*5+4) u)/\(w.frozen? ⟨g,k*5,none⟩=false/\w.frozen? ⟨g,k*5+1,none⟩=false/\w.frozen? ⟨g,k*5+2,none⟩=false/\w.frozen? ⟨g,k*5+3,none⟩=false/\w.frozen? ⟨g,k*5+4,none⟩=false):=by
 have B:∀j,j<5->w.cell? ⟨g,k*5+j,none⟩=(dx x u)[j]?:=fun j E=>by rw[h.cellAt _ Ry,pB E H F]
 have z:=h.frozenAt;exact⟨⟨B 0 RC,B 1 RC,B 2 RC,B 3 RC,B 4 RC⟩,⟨z _,z _,z _,z _,z _⟩⟩
def bG.swap{g cap:Nat}{xs:List cZ}{B z:cZ}(Z:n=xs.length)(h:bG w D (.slice (aX g) n cap) xs us)(hi:us[i]?=some H)(hj:us[j]?=some Rw)(Q:xs[i]?=some B)(R:xs[j]?=some z):bG (lJ (lJ w g (i*5) z Rw) g (j*5) B H) D (.slice (aX g) n cap) ((xs.set i z).set j B) ((us.set i Rw).set j H)/\w.grownBy (lJ (lJ w g (i*5) z Rw) g (j*5) B H) (some g):=by
 subst Z;have T:=(bs.1 Q).1;have U:=(bs.1 R).1;have E:=uS rfl h.len h.outer T z Rw;have F:=uS (xs:=xs.set i z) (us:=us.set i Rw) Rx R0 E.1 U B H;refine⟨⟨R0,by simpa using F.1,fun k u r hu O=>?_,fun k l u u' b hu EZ hb Gw=>?_⟩,bq E.2 F.2⟩
 .rw[lD hi hj]at hu;rw[lD Q R]at O;have J:=h.each _ u r hu O;have I:=iY RC J h.outer;exact au.kept (au.kept J E.2 I) F.2 I
 .exact Xt
def zdf(z:Nat)(A:aq)(cap:Nat)(xs:List cZ)(w:aa)(e:Ending)(w':aa):Prop:=
 e=.returned (.tuple #[])/\bX w' z (.slice A xs cap) xs.reverse/\w.grownBy w' (Value.slice A xs cap).ownBlock
def ziA(z g cap:Nat)(xs:List cZ)(w:aa)(k:Nat)(wr:aa):Prop:=
 2*k<=xs.length/\(∃us,bG wr z (.slice (aX g) xs cap) (iP xs k) us)/\w.grownBy wr (some g)
def Dw(F:Nat)(A:aq)(cap:Nat)(xs:List cZ)(w:aa)(h:bX w F (.slice A xs cap) xs)(bz:xs.length<=1048576):ax 92 (bJ A xs cap) w (zdf F A cap xs w):=by
 by_cases bd:xs.length<=1
 .have bb:=zH (show xs.reverse=xs by
   match xs,bd with
   |[],_=>rfl
   |[x],_=>rfl)
  have a9:=zH h;clear h;go_enter func92,ntmps92
  go_wp2;go_loopw [2,3] (fun i j wr=>i=.int .i64 0/\j=.int .i64 ((xs:Int)-1)/\wr=w) (fun _ _ _=>0)
  case atStart=>exact⟨rfl,rfl,rfl⟩
  case round=>
   obtain⟨rfl,rfl,rfl⟩:=hrel;go_wp2;go_end0
   exact⟨rfl,by rw[bb.o];exact a9,AJ _ _⟩
 .obtain⟨us,Q⟩:=h;obtain⟨g,bo,a8,bp,br⟩:=lR Q.outer Ry;simp only[ez]at a8;obtain⟨rfl,-,rfl⟩:=a8;have Z:=zH Q;clear Q;go_enter func92,ntmps92
  go_wp2;go_loopw [2,3] (fun i j wr=>∃(k:Nat) (q:Int),i=.int .i64 k/\j=.int .i64 q/\Hd (q=(xs:Int)-1-k)/\ziA F g cap xs w k wr) (fun i _ _=>xs.length-(intOf i).toNat)
  case atStart=>exact⟨0,_,rfl,rfl,zH Rx,Ry,⟨us,Z⟩,AJ _ _⟩
  case round=>
   obtain⟨k,q,rfl,rfl,HQ,bi,⟨vs,ap⟩,ac⟩:=hrel;clear Z;obtain⟨E,U⟩:=bL ap ac;clear ap ac;by_cases bv:(k:Int)<q
   .obtain⟨j,ad⟩:∃j:Nat,j=xs.length-1-k:=⟨_,rfl⟩;have bm:q=(j:Int):=SY;subst bm;have Jm:j<xs.length:=Ry;have J:k<xs.length:=Ry;have HJ:=zH ad;clear ad;have B:=zH (sN xs k);obtain⟨xi,R⟩:=aw (by rw[B.o];exact J:k < (iP xs k).length);obtain⟨xj,T⟩:=aw (by rw[B.o];exact Jm:j < (iP xs k).length);obtain⟨b5,a6,am⟩:=E.o.get R;obtain⟨b6,a7,ao⟩:=E.o.get T;obtain⟨Ai,ci,rfl,_⟩:=am.view;obtain⟨Aj,cj,rfl,_⟩:=ao.view;obtain⟨Jp,Jl,ab,Jo⟩:=fS R T a6 a7;clear R T a6 a7 am ao;go_wp2;refine zk (S:=fun _=>True) RU trivial (fun hHeld=>?_);obtain⟨W0,I⟩:=aK wr.drew;rw[<-I];have z:aj wr W0:=by rw[I];exact(ai _ _).drew
    obtain⟨H,G0⟩:=bL (E.o.ext z) (bq U.o ((⟨z.os,z.tape,z.output,z.size,fun k be _=>z.block k be⟩:World.grownBy wr W0 (some g))));clear z I;have D:=H.o.outer;rw[B.o]at D;obtain⟨⟨a0,a1,a2,a3,a4⟩,⟨f0,f1,f2,f3,f4⟩⟩:=qp D J Jp ab;obtain⟨⟨b0,b1,b2,b3,b4⟩,_⟩:=qp D Jm Jl Jo;have a5:=uS B.symm H.o.len D J xj (.slice Aj xj.row cj);have GY:=zH a5.1;have O:=H.o.swap B.symm ab Jo Jp Jl;obtain⟨EX,Jj⟩:=bL O.1 O.2;clear D a5 O;refine cE 0 ?_;refine cE 1 ?_;refine cE 2 ?_;refine cE 3 ?_;refine cE 4 ?_;refine cE 5 ?_;refine cE 6 ?_;refine cE 8 ?_;refine cE 9 ?_;refine cE 10 ?_;refine fK (rs:=[7,11]) RU Rx ?_;refine i_ rfl (fun K hK=>?_) (i_ rfl (fun K hK=>?_) fL)
    .go_simp;refine hK.out _ _ RV (fun hHeld=>?_);clear hK K;try simp only[Act.put,zA]
     refine fK (rs:=[11]) RU Rx ?_;exact Z6
    .go_simp;refine hK.out _ _ RV (fun hHeld=>?_);clear hK K;try simp only[Act.put,zA]
     refine fK (rs:=[7]) RU Rx ?_;exact Z6
   .have ba:=zH (show xs.length<=2*k+1 by have:=HQ.o;omega);go_wp2;go_end0
    have:=E.o;rw[zeH xs k bi ba]at this;exact⟨rfl,⟨_,this⟩,U.o⟩
def Dt(p:Int)(s:Sy)(x:cZ)(A:aq)(cap:Nat)(w:aa)(z:aq)(H:Nat)(R:cU w)(T:aL w A s.rows)(U:aU w z x.row)(ab:x.row.length<=1048576)(ac:s.Ok p)(B:eZ p s x=true):ax 34 (ew p (ae s.v s.h A s.rows cap) (dk x.k x.a x.b x.c z x.row H)) w fun e w'=>∃A2 c2,e=.returned (.tuple (eh (dp (cq p s x).v (cq p s x).h A2 (cq p s x).rows c2)))/\aI w' w (.slice A2 (cq p s x).rows c2) (cq p s x).rows/\aj w w':=by
 have:=zbG p s.v s.h x.k x.a x.b x.c A cap s.rows w z x.row H R T U ab ac;refine this.mono fun e w' Z=>?_
 obtain⟨v2,am,A2,n2,c2,E,O,ad,Q⟩:=Z;unfold eZ at B;rw[B]at E;obtain⟨I,J,D⟩:=O B;obtain⟨A3,c3,F,_⟩:=D.view;simp only[ez]at F;obtain⟨rfl,rfl,rfl⟩:=F;subst I J;exact⟨A2,c2,E,D,Q⟩
def ziz(p:Int)(s:Sy)(x:cZ)(A:aq)(cap:Nat)(w:aa)(z:aq)(E:Nat)(I:cU w)(J:aL w A s.rows)(O:aU w z x.row)(R:x.row.length<=1048576)(T:s.Ok p)(B:eZ p s x=false):ax 34 (ew p (ae s.v s.h A s.rows cap) (dk x.k x.a x.b x.c z x.row E)) w fun e w'=>e=.returned (.tuple (dP aQ))/\aj w w':=by
 have:=zbG p s.v s.h x.k x.a x.b x.c A cap s.rows w z x.row E I J O R T;refine this.mono fun e w' Q=>?_
 obtain⟨v2,Z,A2,n2,c2,D,U,F,H⟩:=Q;unfold eZ at B;rw[B]at D;obtain⟨rfl,rfl,rfl,rfl,rfl⟩:=F B;exact⟨D,H⟩
def zgu(p:Int)(s:Sy)(xs:List cZ)(w:aa)(e:Ending)(w':aa):Prop:=
 (bB p s xs<xs.length->e=.returned (.tuple (jG aQ (bB p s xs:Nat))))/\
 (bB p s xs=xs.length->∃A2 c2,e=.returned (.tuple (jG (dp (dn p s xs xs).v (dn p s xs xs).h A2 (dn p s xs xs).rows c2) (-1)))/\aI w' w (.slice A2 (dn p s xs xs).rows c2) (dn p s xs xs).rows)/\
 aj w w'
def AN(p:Int)(s:Sy)(xs:List cZ)(w:aa)(z k:Nat)(wr:aa):Prop:=
 k<=bB p s xs/\(∃A2 c2,aW wr z (dp (dn p s xs k).v (dn p s xs k).h A2 (dn p s xs k).rows c2) 26/\aI wr ((w:Nat)+2) (.slice A2 (dn p s xs k).rows c2) (dn p s xs k).rows)/\
 aW wr ((w:Nat)+1) aQ 26/\aj w wr
def AN.next{xs:List cZ}{x:cZ}{o:Obj}(h:AN p s xs w D k wr)(U:(w:Nat)+2<=D)(F:xs[k]?=some x)(R:eZ p (dn p s xs k) x=true)(z:aj wr E)(T:aI E wr (.slice A2 (cq p (dn p s xs k) x).rows c2) (cq p (dn p s xs k) x).rows):AN p s xs w D (k+1) ((((E.alloc o).setCell ⟨D,0,none⟩ (zI (cq p (dn p s xs k) x).v)).setCell ⟨D,1,none⟩ (zI (cq p (dn p s xs k) x).h)).setCell ⟨D,2,none⟩ (.slice A2 (cq p (dn p s xs k) x).rows c2)):=by
 obtain⟨J,⟨A1,c1,I,ab⟩,O,B⟩:=h;have Z:D < (wr:Nat):=(aP.1 I).1;have Q:Below w w (E.alloc o):=(an B z).alloc (an B z).size _;have H:Below wr wr (E.alloc o):=z.alloc z.size _;refine⟨zn J F R,⟨A2,c2,?_,?_⟩,?_,jZ Q Ry _ _ _⟩
 .rw[je F];exact oh (aA I H)
 .rw[je F];exact((((T.ext ((ai _ _).alloc (ah _) o)).setCell Sn _).setCell Sn _).setCell Sn _).mono (by have:=B.size;omega)
 .have:=aA O H;rw[dh _ _ _ _ Sn,dh _ _ _ _ Sn,dh _ _ _ _ Sn];exact this
def zhv(p:Int)(s:Sy)(A:aq)(cap:Nat)(xs:List cZ)(w:aa)(E:aq)(Z:Nat)(cb:cU w)(cc:aL w A s.rows)(ce:fF w E xs)(ba:s.Ok p)(d3:xs.length<=3000)(ct:∀x∈xs,x.row.length<=1048576):ax 48 (wA p (ae s.v s.h A s.rows cap) E xs Z) w (zgu p s xs w):=by
 have hs:=ba.small;obtain⟨bz,c8,bv,FO,c4,bp,bo⟩:=zH7 cc ce cb ba ct (show s.rows.length<=1048576 by have:=hs.n;omega) (show ∀r∈s.rows,r.length<=1048576 from fun r hr=>Ui);clear cc ce cb ba ct hs;have b9:Below w w ((w.alloc (.cells (ae s.v s.h A s.rows cap) 26)).alloc (.cells aQ 26)):=((ai w w).alloc Rx _).alloc Rx _;have cR:((w.alloc (.cells (ae s.v s.h A s.rows cap) 26)).alloc (.cells aQ 26)).heap[(w:Nat)+1]?=some (.cells aQ 26 (0,0)):=aD _ _ Rx;obtain⟨a3,b5⟩:=bL b9 cR;clear b9 cR;go_enter func48,ntmps48
 go_wp2_with (go_at_call 91;refine(lL _ _ _ _ _ _ (bz.ext a3) bp bo).mono ?_;rintro e bd ⟨u,rfl,H,ch⟩;obtain⟨A1,c1,rfl,_⟩:=H.view;have b3:=zH H;have ab:=zH ch;clear H ch)
 have da:=ab.size;simp only[cx]at da;have cO:AN p s xs w bd 0 (bd.alloc (.cells (ae s.v s.h A1 s.rows c1) 26)):=by
  have ca:=a3.trans (ab.mono (B':=w.heap.size) Sn);refine⟨aT _,⟨A1,c1,?_,?_⟩,?_,ca.alloc ca.size _⟩
  .rw[ij];exact aD _ _ rfl
  .rw[ij];exact(b3.ext ((ai _ _).alloc (ah _) _)).mono Rx
  .exact aA (aA b5 ab) ((ai _ _).alloc (ah _) _)
 have b2:=zH cO;clear cO b3 ab b5 a3 bz bp bo;go_loopw [17] (fun i wr=>∃k:Nat,k<=xs.length/\i=.int .i64 k/\AN p s xs w bd k wr)
  (fun i _=>xs.length-(intOf i).toNat)
 case atStart=>exact⟨0,aT _,rfl,b2⟩
 case round=>
  obtain⟨k,dT,rfl,hrel⟩:=hrel;clear b2;have c5:=zH hrel;obtain⟨Fp,⟨A2,c2,cF,cz⟩,b8,ci⟩:=hrel;obtain⟨ac,ad,bi,O⟩:=fS cz cF b8 ci;obtain⟨D,Gx⟩:=aK (dn p s xs k);obtain⟨Gy,br⟩:=bL Gx (Ur:D.Ok p);rw[<-Gx]at ac ad;clear cF cz b8 ci Gx;by_cases cr:k<xs.length
  .obtain⟨x,a0⟩:=aw cr;obtain⟨b,o,rfl,cj⟩:=(c8.ext O).here cr;obtain⟨be,b7,⟨R,T,U,a1,a2⟩,cn⟩:=cj k x a0;obtain⟨b0,bm,b4⟩:=dD (c4 x (aR a0)) cn a0;clear cj cn a0;go_upto_region 5 with(fail)
   obtain⟨b6,Er⟩:=aK (wr.alloc (.cells (dk x.k x.a x.b x.c be x.row b7) 29));rw[<-Er];have a9:aj wr b6:=VH;have cI:aW b6 wr (dk x.k x.a x.b x.c be x.row b7) 29:=Um;have z:=zH a9;clear R T U a1 a2;obtain⟨d0,d1,d2,_⟩:=dj (aA ad a9);obtain⟨R,T,U,a1,a2⟩:=bO cI;clear a9 cI Er;cases ap:eZ p D x with
   |true=>
    have HO:=zH ap;clear ap;obtain⟨B,bb⟩:=aK (cq p D x);obtain⟨b1,am⟩:=bL bb (fun(A cap W E Z a6 a7 a8)=>Dt p D x A cap W E Z a6 a7 a8 b0 br HO);rw[<-bb]at am;clear bb;go_upto_region 6 with(go_at_call 34;refine(am.o _ _ _ _ _ (bv.ext (an O z)) ((uZ ac).ext z) (bm.ext z)).mono ?_;rintro e I ⟨A3,a5,rfl,H,Q⟩;clear d0 d1 d2 R T U a1 a2;have J:=zH (bQ z Q);have c6:=zH (H.mono z.size);clear H Q)
    obtain⟨ao,EY⟩:=aK (I.alloc (.cells (ae B.v B.h A3 B.rows a5) 26));rw[<-EY];have F:aj I ao:=VG;have cK:aW ao I (ae B.v B.h A3 B.rows a5) 26:=by rw[EY];exact aD _ _ rfl
    obtain⟨d0,d1,d2,f0,f1,f2⟩:=dj (aA (aA ad J.o) F);obtain⟨R,T,U⟩:=al cK;have c7:=zH EY;clear F cK EY;go_wp2;go_roundw
    case rel=>
     have cu:=c5.next (o:=.cells (ae B.v B.h A3 B.rows a5) 26) (x:=x) Ry b4 T4 J.o (by rw[<-Gy.o,<-b1.o];exact c6);rw[<-Gy.o,<-b1.o,<-c7.o]at cu;exact⟨k+1,Ry,RB,cu⟩
    case measure=>simp[intOf];omega
   |false=>
    have HO:=zH ap;clear ap;have am:=zH (fun(A cap W E Z a6 a7 a8)=>ziz p D x A cap W E Z a6 a7 a8 b0 br HO);go_upto_region 6 with(go_at_call 34;refine(am.o _ _ _ _ _ (bv.ext (an O z)) ((uZ ac).ext z) (bm.ext z)).mono ?_;rintro e I ⟨rfl,Q⟩;clear d0 d1 d2 R T U a1 a2;have J:=zH (bQ z Q);clear Q)
    obtain⟨ao,EY⟩:=aK (I.alloc (.cells aQ 26));rw[<-EY];have F:aj I ao:=VG;obtain⟨d0,d1,d2,f0,f1,f2⟩:=dj (aA (aA bi J.o) F);have c0:=zH (an (an O J.o) F);clear F EY;go_wp2;have c9:=zo Fp b4 T4;refine az (v:=.tuple (jG aQ k)) Vb rfl ⟨fun _=>by rw[c9],fun h=>Ry,?_⟩;exact jZ c0 Ry _ _ _
  .have co:k=xs.length:=Ry;have a4:=zH co;obtain⟨d0,d1,d2,_⟩:=dj ad;obtain⟨db,dc,dl,f0,f1,f2⟩:=dj bi;clear co;go_wp2;refine az (v:=.tuple (jG (ae D.v D.h A2 D.rows c2) (-1))) Vb rfl ⟨fun h=>by have:=a4.o;omega,fun _=>⟨A2,c2,?_,?_⟩,?_⟩
   .rw[<-a4.o,<-Gy.o]
   .rw[<-a4.o,<-Gy.o];exact(((ac.setCell Sn _).setCell Sn _).setCell Sn _).mono Ry
   .exact jZ O Ry _ _ _
end Go.Proofs.YtdpgblncijojiaaGreatDoor
