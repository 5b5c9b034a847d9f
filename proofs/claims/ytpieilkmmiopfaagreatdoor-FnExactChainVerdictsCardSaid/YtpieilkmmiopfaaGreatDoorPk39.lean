/- Parts of the walks and laws (Hl1, Dn0, Dn1). Conditions: as stated with each. -/
import Derived.Test.YtpieilkmmiopfaaGreatDoorPk33
import Derived.Test.YtpieilkmmiopfaaGreatDoorPk38
namespace Go.Proofs.YtpieilkmmiopfaaGreatDoor
open Go.RowKit Tryz
set_option linter.all false
set_option maxHeartbeats 4000000
set_option maxRecDepth 100000
variable{A:aq}{c k n:Nat}{p:Int}{w:aa}
structure O4(B:Nat)(V:aa)(v1 v2 v3 v4:ax)(l1 l2 l3 l4:aH):Prop where
 o1:aV 3 1 EI V B v1 l1
 o2:aV 3 1 EI V B v2 l2
 o3:aV 3 1 EI V B v3 l3
 o4:aV 3 1 EI V B v4 l4
 d12:∀g,v1.ownBlock=some g->v2.ownBlock≠some g
 d13:∀g,v1.ownBlock=some g->v3.ownBlock≠some g
 d14:∀g,v1.ownBlock=some g->v4.ownBlock≠some g
 d23:∀g,v2.ownBlock=some g->v3.ownBlock≠some g
 d24:∀g,v2.ownBlock=some g->v4.ownBlock≠some g
 d34:∀g,v3.ownBlock=some g->v4.ownBlock≠some g
 le:B<=V.heap.size
section
variable{B:Nat}{V V' w8:aa}{v1 v2 v3 v4:ax}{l1 l2 l3 l4 l:aH}{o:Obj}{g n cap:Nat}
theorem O4.nil(h:B<=V.heap.size):O4 B V (.slice none 0 0) (.slice none 0 0) (.slice none 0 0) (.slice none 0 0) [] [] [] []:=⟨aV.nil ..,aV.nil ..,aV.nil ..,aV.nil ..,nofun,nofun,nofun,nofun,nofun,nofun,h⟩
theorem O4.ext(h:O4 B V v1 v2 v3 v4 l1 l2 l3 l4)(D:ag V V'):O4 B V' v1 v2 v3 v4 l1 l2 l3 l4:=⟨h.o1.ext D,h.o2.ext D,h.o3.ext D,h.o4.ext D,h.d12,h.d13,h.d14,h.d23,h.d24,h.d34,aR h.le D.size⟩
theorem O4.set(h:O4 B V v1 v2 v3 v4 l1 l2 l3 l4){a:dk}(D:a.block<B)(u:ax):O4 B (V.setCell a u) v1 v2 v3 v4 l1 l2 l3 l4:=⟨h.o1.setCell D u,h.o2.setCell D u,h.o3.setCell D u,h.o4.setCell D u,h.d12,h.d13,h.d14,h.d23,h.d24,h.d34,by simpa using h.le⟩
theorem O4.sw(h:O4 B V v1 v2 v3 v4 l1 l2 l3 l4):O4 B V v2 v1 v3 v4 l2 l1 l3 l4:=⟨h.o2,h.o1,h.o3,h.o4,kM h.d12,h.d23,h.d24,h.d13,h.d14,h.d34,h.le⟩
theorem O4.rot(h:O4 B V v1 v2 v3 v4 l1 l2 l3 l4):O4 B V v3 v4 v1 v2 l3 l4 l1 l2:=⟨h.o3,h.o4,h.o1,h.o2,h.d34,kM h.d13,kM h.d23,kM h.d14,kM h.d24,h.d12,h.le⟩
theorem O4.app(h:O4 B V v1 v2 v3 v4 l1 l2 l3 l4)(F:(V.alloc o).grownBy w8 v1.ownBlock)(D:v1.ownBlock=some g∨g=(V.alloc o).heap.size)(hb:Below B (V.alloc o) w8)(N:aV 3 1 EI w8 B (.slice (some ⟨g,0,none⟩) n cap) l):O4 B w8 (.slice (some ⟨g,0,none⟩) n cap) v2 v3 v4 l l2 l3 l4:=by obtain⟨G,H⟩:=jU h.o2 h.d12 F D;obtain⟨I,J⟩:=jU h.o3 h.d13 F D;obtain⟨c1,c2⟩:=jU h.o4 h.d14 F D;exact⟨N,G,I,c1,pO H,pO J,pO c2,h.d23,h.d24,h.d34,VB⟩
end
theorem xz{B n:Nat}{l:aH}(h:aV 3 1 EI w B (.slice A n c) l)(D:B<=w.heap.size):Fr w B w.heap.size (fun W=>aJ W A l):=(h.fr (fun _ _ _ _ _ h=>h) D).imp fun W h=>uS h
theorem zhq{a b:Gr}(D:a.okB=true)(F:b.okB=true):mL (nX a b):=by
 have g:=zbA (Gr.mo D) (Gr.mo F);have s:=Ez D F;have e:=vy (rp (Gr.rO D) (Gr.rO F)) (uI (Gr.rO D) (Gr.rO F));have h:nX a b=iA (im a b) (xW a b):=rfl;refine⟨g.inr,?_,?_,?_,?_,fun e h=>by have:=G1.el g e h;omega⟩
 .rw[h,e]
  show lD _ _ _<=_
  have:=sm (im a b) (iH (im a b).w (xW a b)) (im a b).w;have:=s.w;omega
 .rw[h,e];show((im a b).es.map _).length<=_;rw[bh];exact s.es
 .rw[h,e];show((im a b).i.map _).length<=_;rw[bh];exact s.i
 .rw[h,e];show((im a b).o.map _).length<=_;rw[bh];exact s.o
theorem zhr{a b:Gr}(h:a.okB=true)(D:b.okB=true):mL (jT a b):=by
 have g:=zbB (Gr.mo h) (Gr.mo D);have G:=Gr.kg.1 h;have H:=Gr.kg.1 D;refine⟨g.inr,?_,?_,?_,?_,fun e F=>by have:=G1.el g e F;omega⟩
 .show a.w+b.w<=_;omega
 .show(ff a b).length<=_;unfold ff;rw[bx,bh];omega
 .show(a.i++b.i.map _).length<=_;rw[bx,bh];omega
 .show(a.o++b.o.map _).length<=_;rw[bx,bh];omega
def vlE(p:Int)(e:Ed):Bool:=decide (e.v<p)
def gdG(p:Int)(g:Gr):Bool:=cN p&&g.es.all (vlE p)
def akG(p:Int)(g:Gr):Bool:=gdG p g&&g.es.all ntE
theorem Ep(g:Gr)(A1 h D:aq)(c1 c2 G:Nat)(w:aa)(I:j6 w A1 h D g)(F:g.okB=true):aw 153 (cy (bl g A1 c1 h c2 D G)) w (dM w true):=by have H:=Gr.mo F;have:=xQ g A1 h D c1 c2 G w I H (mL.of F);rw[<-H.okB,F]at this;exact this
theorem zD(k:Int)(w:aa):aw 111 (bs k) w fun e w'=>e=.returned (.bool (!dlB k))/\w=w':=by
 unfold dlB;by_cases h1:k=8 <;>by_cases h2:k=14
 all_goals
  go_enter func111,ntmps111
  go_wp2;go_ret
  exact⟨R7,rfl⟩
theorem zbi(p:Int)(g:Gr)(A1 D F:aq)(d1 d2 d3:Nat)(w:aa)(T:j6 w A1 D F g)(Y:g.okB=true):aw 110 (ig p (bl g A1 d1 D d2 F d3)) w (dM w (gdG p g)):=by
 unfold gdG;obtain⟨R,J⟩:=bA w (.cells (bl g A1 d1 D d2 F d3) 54);obtain⟨a0,a1⟩:=bD (show ∀W,ag w W->j6 W A1 D F g from fun W O=>T.ext O) (fun W (O:ag w W)=>Ep g A1 D F d1 d2 d3 W (T.ext O) Y);have bd:g.es.length<=4096:=(mL.of Y).es;clear T Y;go_enter func110,ntmps110
 go_upto_region 1 with(fail)
 generalize w.alloc _=W at R J ⊢;obtain⟨a5,ao,a6,a7⟩:=aA J;obtain⟨G,a9⟩:=bD R J;clear R J;cases hf:cN p
 .go_wp2_with (go_at_call 91;refine(Calls.cT (pW _ _) hf).mono ?_;rintro e w' ⟨rfl,rfl⟩)
  go_ret
  exact⟨aL RZ,G.o⟩
 go_upto_region 3 with(first|(go_at_call 91;refine(Calls.cT (pW _ _) hf).mono ?_;rintro e w' ⟨rfl,rfl⟩)|(go_at_call 153;refine(a1.o _ G.o).mono ?_;rintro e a4 ⟨rfl,U⟩;have a8:=al U ao;have ap:=zH (G.o.trans (U.mono G.o.size));clear U))
 clear a5 ao a6 a7;go_wp2;go_loopw [18] (fun i wr=>∃k:Nat,k<=g.es.length/\i=.int .i64 k/\Hd ((g.es.take k).all (vlE p)=true)/\ag w wr) (fun i _=>g.es.length-(intOf i).toNat)
 case atStart=>exact⟨0,aX _,rfl,zH Rq,ap.o⟩
 case round=>
  obtain⟨k,bc,rfl,Fl,EL⟩:=hrel;clear a8;by_cases a2:k<g.es.length
  .obtain⟨e,V⟩:=aB a2;obtain⟨ba,bb,ab,ad,ac,am,rfl,u0,u1,u2,u3,-,-⟩:=gZ (a0.o wr EL).es V;obtain⟨N,h,H,I⟩:=e;dsimp only at u0 u1 u2 u3;obtain⟨HX,EP⟩:=bD V (EL.alloc EL.size (.cells (eD N h ab H ad ac I am) 155));have Z:=aC wr (.cells (eD N h ab H ad ac I am) 155) rfl;clear V EL;go_upto_region 6 with(fail)
   generalize wr.alloc _=a4 at EP Z ⊢;obtain⟨bi,bo,n2,bp⟩:=aA Z;clear u0 u1 u2 u3 Z;by_cases a3:h<p
   .have HF:=zH (by unfold vlE;simp[a3]:vlE p ⟨N,h,H,I⟩=true);exact YQ
   .have HF:=zH (by unfold vlE;simp;omega:vlE p ⟨N,h,H,I⟩=false);have bg:p<=h:=Rr;go_wp2;exact Xg
  .exact Xm
theorem Er(p:Int)(g:Gr)(A1 G H:aq)(d1 d2 d3:Nat)(w:aa)(Z:j6 w A1 G H g)(ac:g.okB=true):aw 76 (ig p (bl g A1 d1 G d2 H d3)) w (dM w (akG p g)):=by
 unfold akG;obtain⟨Y,O⟩:=bA w (.cells (bl g A1 d1 G d2 H d3) 54);obtain⟨a4,ap⟩:=bD (show ∀W,ag w W->j6 W A1 G H g from fun W V=>Z.ext V) (fun W (V:ag w W)=>zbi p g A1 G H d1 d2 d3 W (Z.ext V) ac);have bi:g.es.length<=4096:=(mL.of ac).es;clear Z ac;go_enter func76,ntmps76
 go_upto_region 1 with(fail)
 generalize w.alloc _=W at Y O ⊢;obtain⟨a7,a3,a8,a9⟩:=aA O;obtain⟨h,bb⟩:=bD Y O;clear Y O;cases hf:gdG p g
 .go_wp2_with (go_at_call 110;refine(Calls.be (ap.o _ h.o) hf).mono ?_;rintro e a2 ⟨rfl,D⟩;have U:=zH (h.o.trans (D.mono h.o.size));clear D)
  go_ret
  exact⟨aL RZ,U.o⟩
 go_upto_region 3 with(go_at_call 110;refine(Calls.be (ap.o _ h.o) hf).mono ?_;rintro e a2 ⟨rfl,D⟩;have ba:=al D a3;have U:=zH (h.o.trans (D.mono h.o.size));clear D)
 clear a7 a3 a8 a9;go_wp2;go_loopw [14] (fun i wr=>∃k:Nat,k<=g.es.length/\i=.int .i64 k/\Hd ((g.es.take k).all ntE=true)/\ag w wr) (fun i _=>g.es.length-(intOf i).toNat)
 case atStart=>exact⟨0,aX _,rfl,zH Rq,U.o⟩
 case round=>
  obtain⟨k,bg,rfl,Fl,EL⟩:=hrel;clear ba;by_cases a6:k<g.es.length
  .obtain⟨e,ab⟩:=aB a6;obtain⟨bc,bd,am,a0,ao,a1,rfl,u0,u1,u2,u3,-,-⟩:=gZ (a4.o wr EL).es ab;obtain⟨F,T,J,N⟩:=e;dsimp only at u0 u1 u2 u3;obtain⟨HX,EP⟩:=bD ab (EL.alloc EL.size (.cells (eD F T am J a0 ao N a1) 155));have ad:=aC wr (.cells (eD F T am J a0 ao N a1) 155) rfl;clear ab EL;go_upto_region 6 with(fail)
   generalize wr.alloc _=a2 at EP ad ⊢;obtain⟨bo,bp,n2,bq⟩:=aA ad;clear u0 u1 u2 u3 ad;have I:=zH (fun a5=>zD F a5);cases R:dlB F
   .rw[R]at I;have HF:=zH (by unfold ntE;rw[R];rfl:ntE ⟨F,T,J,N⟩=true);go_wp2_with (go_at_call 111;refine(I.o _).mono ?_;rintro e w' ⟨rfl,rfl⟩)
    exact YM
   .rw[R]at I;have HF:=zH (by unfold ntE;rw[R];rfl:ntE ⟨F,T,J,N⟩=false);go_wp2_with (go_at_call 111;refine(I.o _).mono ?_;rintro e w' ⟨rfl,rfl⟩)
    exact Xg
  .exact Xm
def tgB(p:Int)(L:List er):Bool:=iQ (b_ L)&&(cN p&&nv p (b_ L))
theorem zbj(p:Int)(L:List er)(A:aq)(cap:Nat)(w:aa)(Z:bF 3 iR w A L)(bo:L.length<=1048576):aw 74 (ig p (aO A L cap)) w (dM w (tgB p L)):=by
 unfold tgB;have Y:=(aj w.heap.size w).alloc (af _) (.cells (aO A L cap) 35);have R:=aC w (.cells (aO A L cap) 35) rfl;obtain⟨bb,bc⟩:=bD (show ∀W,ag w W->bF 3 iR W A L from fun W O=>bw Z O) (fun a3 (bg:ag w a3)=>AG L A cap a3 (bw Z bg) bo);clear Z;go_enter func74,ntmps74
 go_upto_region 1 with(fail)
 generalize w.alloc _=W at Y R ⊢;have G:=aI R 0 rfl;obtain⟨U,bq⟩:=bD Y R;clear Y R;go_upto_region 2 with(go_at_call 103;(with_reducible refine(bc.o _ U.o).mono ?_);intro e ba O;unfold ze7 at O;obtain⟨ao,a7,a4,a1,a8,a5,a2,a9,a6,bd,ab,-⟩:=O;subst bd;have d0:=al ab G;have ap:=zH (U.o.trans (ab.mono U.o.size));clear ab)
 have d1:=al (ak ba (.cells #[.slice ao a7 a4,.slice a1 a8 a5,.slice a2 a9 a6] 145)) d0;have N:=zH (ap.o.alloc ap.o.size (.cells #[.slice ao a7 a4,.slice a1 a8 a5,.slice a2 a9 a6] 145));generalize ba.alloc _=b2 at d1 N ⊢;clear G d0;cases T:iQ (b_ L)
 .go_wp2;go_ret
  exact⟨aL (by rw[T];rfl),N.o⟩
 cases I:cN p
 .go_wp2_with (go_at_call 91;refine(Calls.cT (pW _ _) I).mono ?_;rintro e w' ⟨rfl,rfl⟩)
  go_ret
  exact⟨aL (by rw[I,T];rfl),N.o⟩
 have a0:=zH (zcO p L);go_upto_region 4 with(go_at_call 91;refine(Calls.cT (pW _ _) I).mono ?_;rintro e w' ⟨rfl,rfl⟩)
 go_wp2;go_loopw [24] (fun i wr=>∃k:Nat,k<=L.length/\i=.int .i64 k/\Hd ((L.take k).all (ovB p)=true)/\ag w wr) (fun i _=>L.length-(intOf i).toNat)
 case atStart=>exact⟨0,aX _,rfl,zH Rq,N.o⟩
 case round=>
  obtain⟨k,bv,rfl,Fl,H⟩:=hrel;clear d1;by_cases bi:k<L.length
  .obtain⟨x,ad⟩:=aB bi;obtain⟨b,o,rfl,G,c1,c2⟩:=f_ (bb.o wr H) ad;obtain⟨h,F,am⟩:=x;dsimp only at G c1 c2;obtain⟨HX,EP⟩:=bD ad (H.alloc H.size (.cells (dG h F am) 95));have ac:=aC wr (.cells (dG h F am) 95) rfl;clear ad H;go_upto_region 7 with(fail)
   generalize wr.alloc _=b3 at EP ac ⊢;obtain⟨b0,b1,n2⟩:=aG ac;clear G c1 c2 ac;cases D:ovB p ⟨h,F,am⟩
   .have HF:=zH D;have J:(h=7∨h=13)/\p<=F:=by unfold ovB hvB at D;simp only[qw,Bool.not_eq_false',iG,bX,qx]at D;omega
    obtain⟨h7,bz⟩:=J;clear D;rcases h7 with rfl|rfl
    all_goals
     go_wp2;go_ret
     exact⟨aL (by rw[<-a0.o];simp[I,T,all_false _ _ _ _ HX.o HF.o]),EP.o⟩
   .have HF:=zH D;have J:(¬h=7/\¬h=13)∨F<p:=by unfold ovB hvB at D;simp only[iG,wk,qw,bX,qx]at D;exact D
    clear D;by_cases h7:h=7
    .have bp:F<p:=Rr;subst h7;clear J;exact YQ
    by_cases V:h=13
    .have bp:F<p:=Rr;subst V;clear J h7;exact YQ
    have bu:(h==7)=false:=Si;have br:(h==13)=false:=by simpa using V
    clear J h7 V;exact YQ
  .go_wp2;go_ret
   exact⟨aL (by rw[<-a0.o];simp[I,T,gx _ _ _ Fl.o Rr]),H⟩
theorem yR{n:Nd}(h:dh n=true):n.k<15:=by
 unfold dh at h;rw[bE]at h;have h:=h.2;by_cases D:n.k=1
 .omega
 rw[av D]at h;by_cases F:n.k=7∨n.k=13
 .omega
 rw[av F]at h;simp only[bE,bX]at h;omega
theorem Aj(p:Int):∀(L h:gX) (r:aH),rV p (L++h) r=rV p h (rV p L r)
 |[],_,_=>rfl
 |q::L,h,r=>Aj p L h _
theorem zdx{L:gX}{q:Nat×Int}(h:L[k]?=some q):ku p n (L.take (k+1))=(ku p n (L.take k)).set q.1 (((ku p n (L.take k)).getD q.1 0+q.2)%p):=by unfold ku;rw[gY h,Aj];rfl
theorem Cw(p:Int)(n:Nat)(L:gX)(A ac:aq)(c c2:Nat)(w:aa)(bo:2<=p)(b4:p<=97)(b3:n<=4096)(b2:L.length<=4096)(a4:aJ w A (bt (L.map (·.1))))(a5:aJ w ac (L.map (·.2)))(U:∀q∈L,q.1<n/\0<=q.2/\q.2<=p):aw 112 #[p,(n:Nat),.slice A L.length c,.slice ac L.length c2] w fun e w'=>∃g,e=.returned (.slice (some ⟨g,0,none⟩) n n)/\ll w.heap.size n g (ku p n L) w'/\ag w w':=by
 obtain⟨br,hi,bb,bc,EK⟩:=de fT;obtain⟨ap,a2,a0,ao⟩:=fU a4 a5 U (fun k=>um (p:=p) (n:=n) (L:=L.take k) bo fun q h=>(U q (wG h)).1);clear a4 a5 U;go_enter func112,ntmps112
 go_upto_region 2 with((at_make;refine jb _ rfl _ _ 26 rfl w.heap.size 3 br (.int .i64 0) 1 dY hi bb bc .i64 .i64 n n n rfl rfl rfl rfl SA TD (af _) ?_;intro bv Y a8;rw[jo]at Y;have a1:=zH Y;have am:=zH (cD a8);clear Y a8))
 have ad:=zH (show ll w.heap.size n w.heap.size (ku p n (L.take 0)) bv from⟨by unfold aD;rw[show ku p n (L.take 0)=List.replicate n 0 from rfl,iF];exact a1.o,by show(List.replicate n (0:Int)).length=n;simp,af _⟩);clear bb bc EK hi;go_wp2;go_loopw [16] (fun i wr=>∃k:Nat,k<=L.length/\i=.int .i64 k/\ll w.heap.size n w.heap.size (ku p n (L.take k)) wr/\ag w wr) (fun i _=>L.length-(intOf i).toNat)
 case atStart=>exact⟨0,aX _,rfl,ad.o,am.o⟩
 case round=>
  obtain⟨k,b1,rfl,D,F⟩:=hrel;clear ad a1 am;by_cases V:k<L.length
  .obtain⟨⟨x,y⟩,h⟩:=aB V;obtain⟨b,o,rfl,a6⟩:=(ap.o.ext F).here (k:=k) (by rw[aQ,bh];exact V);obtain⟨bg,bu,rfl,a7⟩:=(a2.o.ext F).here (k:=k) (by rw[bh];exact V);have bz:=a6 k (x:Int) (dJ (by rw[cC,h];rfl));have T:=a7 k y (by rw[cC,h];rfl);obtain⟨a9,ba,bq⟩:=a0.o _ (aY h);dsimp only at a9 ba bq;obtain⟨bi,a3⟩:=ao.o k;have J:=a3 x a9;obtain⟨v,Z⟩:=aB (Rr:x < (ku p n (L.take k)).length);have ab:(ku p n (L.take k)).getD x 0=v:=by rw[bP,Z];rfl
   rw[ab]at J;have bp:0<=v:=by rw[J];exact gU _ Rr
   have b5:v<p:=by rw[J];exact gV _ Rr
   have O:=zH (zdx (p:=p) (n:=n) h);rw[ab]at O;dsimp only at O;obtain⟨R,b0⟩:=D.at Z;obtain⟨N,G,bd⟩:=dO D F (fun I=>CR p v y I Rr Rr bp Rr ba Rr);clear a6 a7 h bi a3 J Z ab D F ao a0 ap a2;go_upto_region 5 with(fail)
   refine cR (S:=fun I=>ae I w.heap.size x (.int .i64 v)/\ae I bg (bu+k) (.int .i64 y)) 13 RP ⟨R,T⟩ (fun hHeld=>?_);refine aP 0 ?_;simp only[Act.put,zA];refine aP 1 ?_;simp only[Act.put,zA];refine aP 2 ?_;simp only[Act.put,zA];refine aP 3 ?_;simp only[Act.put,zA];refine aP 4 ?_;simp only[Act.put,zA];refine aP 5 ?_;simp only[Act.put,zA];refine aP 6 ?_;simp only[Act.put,zA];refine aP 7 ?_;simp only[Act.put,zA];refine aP 8 ?_;simp only[Act.put,zA];refine aP 9 ?_;simp only[Act.put,zA];refine aP 10 ?_;simp only[Act.put,zA];refine cw 11 fun K hK=>?_
   go_simp;refine(bd.o _).mono ?_;rintro e w' ⟨rfl,rfl⟩;go_simp;refine hK.out _ _ (fun _=>⟨R,T⟩) (fun hHeld=>?_);clear hK K hHeld;try simp only[Act.put,zA]
   refine cw 12 fun K hK=>?_
   go_simp;refine hK.out _ _ (fun _=>⟨R,T⟩) (fun hHeld=>?_);clear hK K hHeld;try simp only[Act.put,zA]
   refine cw 13 fun K hK=>?_
   go_simp;refine hK.out _ _ (fun H=>absurd H Rs) (fun _=>?_);clear hK K;try simp only[Act.put,zA]
   refine gN RP ?_ _;go_wp2;go_roundw
   case rel=>
    have H:=N.o.put x ((v+y)%p);rw[<-O.o]at H;exact⟨k+1,Rr,Rt,(by first|exact H|exact H.ext (az _)),by first|exact G.o.setCell (p:=⟨w.heap.size,x,none⟩) (af _) _|exact(G.o.setCell (p:=⟨w.heap.size,x,none⟩) (af _) _).drew|exact G.o.drew.setCell (p:=⟨w.heap.size,x,none⟩) (af _) _⟩
   case measure=>simp[intOf];omega
  .rw[cY Rr]at D;obtain⟨N,G⟩:=bD D F;clear D F;go_wp2;go_ret
   exact⟨_,rfl,N.o,G.o⟩
end Go.Proofs.YtpieilkmmiopfaaGreatDoor
