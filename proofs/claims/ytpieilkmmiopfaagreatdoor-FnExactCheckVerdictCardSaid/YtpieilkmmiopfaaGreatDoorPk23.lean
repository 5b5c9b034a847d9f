/- Parts of the walks. Conditions: as stated with each. -/
import Derived.Test.YtpieilkmmiopfaaGreatDoorPk19
import Derived.Test.YtpieilkmmiopfaaGreatDoorPk21
import Derived.Test.YtpieilkmmiopfaaGreatDoorPk22
namespace Go.Proofs.YtpieilkmmiopfaaGreatDoor
open Go.RowKit Tryz
set_option linter.all false
set_option maxHeartbeats 2000000
set_option maxRecDepth 100000
variable{A:ax}{L:List eE}{T v v0 v1 v2 v3 z2:aG}{W w w':aa}{b c i k:Nat}{t:dL}{xs:aL}
structure Eh(L:List eE)(s:vg)(T:List Tm)(k:Nat):Prop where
 kl:k<=L.length
 rd:mV ((cJ L).drop k) s=mV (cJ L) ⟨[],[],[]⟩
 rt:fp ((cJ L).drop k) T=fp (cJ L) []
 ok:yY s T
 ι:s.f.length=k
def Eh.φ L:Eh L ⟨[],[],[]⟩ [] 0:=⟨aW _,rfl,rfl,⟨rfl,rfl,rfl⟩,rfl⟩
def Eh.no{s}{D}{x}(h:Eh L s D k)(G:L[k]?=some x)(F:mj s x.nd=none):kj (cJ L)=false:=by
 rcases DW x.nd h.ok with⟨H,_,e,_⟩|⟨-,e⟩
 .rw[F]at e;cases e
 .exact Ea (by rw[<-h.rt,lF G,jw,e])
def Eh.Y{s h}{I}{x}(F:Eh L s I k)(H:L[k]?=some x)(G:mj s x.nd=some h)(T:h.f.length=k+1):∃D,Eh L h D (k+1):=by
 rcases DW x.nd F.ok with⟨U,D,e,J,O⟩|⟨e,-⟩
 .rw[G]at e;cases e
  refine⟨D,(bG.1 H).1,?_,?_,O,T⟩
  .rw[<-F.rd,lF H]
   show _=(match mj s x.nd with|some h=>_|none=>_)
   rw[G]
  .rw[<-F.rt,lF H,jw,J]
 .rw[G]at e;cases e
def zdm{L}(D:1<=L.length)(F:L.length<=400):kj L=true↔∃t,zlQ L t:=by
 unfold kj jE;rw[fT D,fT F,xm,xm];constructor
 .intro h;split at h
  .rename_i t e;exact⟨t,sZ.2 e⟩
  .cases h
 .rintro⟨t,G⟩;rw[sZ.1 G];rfl
def Eh.U{s}{G}(I:Eh L s G k)(J:k=L.length)(O:1<=L.length)(T:L.length<=400):mV (cJ L) ⟨[],[],[]⟩=some s/\kj (cJ L)=decide (s.f.getD (k-1) 0=0):=by
 have D:(cJ L).length=L:=by simp[cJ]
 have e:mV (cJ L) ⟨[],[],[]⟩=some s:=by rw[<-I.rd,jR Qu];rfl
 refine⟨e,?_⟩;rw[jQ,zdm Qu Qu,cf,<-zha (fun h=>by rw[h]at D;simp at D;omega),D,J];constructor
 .rintro⟨U,F,H⟩;rw[e]at F;cases F;exact H
 .intro h;exact⟨s,e,h⟩
def wm{s}{h}(D:vx s k h)(U:1<=k):k<=s.f.length/\s.f.getD (k-1) 0<k/\s.i.getD (k-1) 0<=12/\s.o.getD (k-1) 0<=12/\∃S,vx s (s.f.getD (k-1) 0) S:=by
 cases h with
 |nil=>have:k=0:=D;omega
 |cons t S=>
  obtain⟨c,F,I,G,J,O,T,H⟩:=D;have:=t.sQ;have:=Tm.zaS F;exact⟨G,Qu,Qu,Qu,S,H⟩
def ze1{s}{n}(h:dI n=true):mj s n=some (s.add s.f (pC n) (sC n)):=by unfold mj;rw[ak h]
def ml{s}{n}(h:dI n=false)(F:¬((n.k=15∨n.k=16)/\n.v=0/\n.e=true/\2<=s.f.length/\1<=s.f.getD (s.f.length-1) 0)):mj s n=none:=by unfold mj;rw[aj QZ,aj];rintro⟨D,G⟩;unfold FC at D;simp only[jS,cf]at D;exact F ⟨D,G⟩
def zi8{s}{n}(D:n.k=15∨n.k=16)(I:n.v=0)(H:n.e=true)(G:2<=s.f.length)(F:1<=s.f.getD (s.f.length-1) 0):
  mj s n=match gP n.k (s.i.getD (s.f.getD (s.f.length-1) 0-1) 0,s.o.getD (s.f.getD (s.f.length-1) 0-1) 0) (s.i.getD (s.f.length-1) 0,s.o.getD (s.f.length-1) 0)with
   |some c=>some (s.add (s.f.getD (s.f.getD (s.f.length-1) 0-1) 0) c.1 c.2)
   |none=>none:=by
 have h:FC n=true:=by unfold FC;simp only[jS,cf];exact D
 unfold mj;rw[aj (by rw[zbr h];simp),ak ⟨h,I,H,G,F⟩];rfl
def Ei{s}{n}(D:n.k=15∨n.k=16)(I:n.v=0)(H:n.e=true)(G:2<=s.f.length)(F:1<=s.f.getD (s.f.length-1) 0):(∀c,gP n.k (s.i.getD (s.f.getD (s.f.length-1) 0-1) 0,s.o.getD (s.f.getD (s.f.length-1) 0-1) 0) (s.i.getD (s.f.length-1) 0,s.o.getD (s.f.length-1) 0)=some c->mj s n=some (s.add (s.f.getD (s.f.getD (s.f.length-1) 0-1) 0) c.1 c.2))/\(gP n.k (s.i.getD (s.f.getD (s.f.length-1) 0-1) 0,s.o.getD (s.f.getD (s.f.length-1) 0-1) 0) (s.i.getD (s.f.length-1) 0,s.o.getD (s.f.length-1) 0)=none->mj s n=none):=by have e:=zi8 D I H G F;exact⟨fun c h=>by rw[e,h],fun h=>by rw[e,h]⟩
def xw(w W V:aa):Prop:=∀j,j<2->V.heap[(w:Nat)+j]?=W.heap[(w:Nat)+j]?
def xw.ext{V h}(D:xw w W V)(H:(w:Nat)+1+1<W)(I:(W:Nat)<=V)(F:ag V h):xw w W h:=fun j G=>(F.block _ Qu).t (D j G)
def xw.S{V w8}{x}(h:xw w W V)(G:(w:Nat)+1+1<W)(D:Below W V w8):xw w W (w8.setCell ⟨(w:Nat)+1+1,i,none⟩ x):=fun j F=>
 (a_ _ _ _ _ (by show _≠(w:Nat)+1+1;omega)).t ((D.block _ Qu).t (h j F))
def EI(_:aa)(x:Int)(c:cL):Prop:=c=[.int .i64 x]
def qy:RT prog 26 3 1 (zI 0) 8:=⟨dR,QT,Qw,Qw,Qw⟩
def zk(D:bR 1 EI w A xs):aO w A xs:=
 D.E id fun⟨b,o,e,G⟩=>⟨b,o,e,fun k x H=>by obtain⟨c,F,h⟩:=G k x H;unfold EI at h;subst h;have:=F 0 _ rfl;rwa[fk,jf]at this⟩
def pa{B n}{l}(h:bw 3 1 EI w B (.slice A n c) l):aO w A l:=by
 obtain⟨F,G,e,D,-⟩:=h.p;cases e
 exact zk D
def zk8{k v}{e}(D:dI ⟨k,v,e⟩=true):taI k v=(pC ⟨k,v,e⟩:Nat)/\taO k v=(sC ⟨k,v,e⟩:Nat):=by
 unfold taI taO pC sC;by_cases h:k=1
 .have:0<=v:=by unfold dI at D;dsimp only at D;rw[ak h]at D;simp at D;omega
  rw[ak h,ak h];dsimp only;rw[ak h,ak h];omega
 .rw[aj h,aj h];dsimp only;rw[aj h,aj h];unfold BB BC;constructor<;>(repeat' split)<;>omega
def lP{B}{V w8}{o}{v1 v2:aG}{l2}{g}(T:bw 3 1 EI V B v2 l2)(d:∀g,v1.ownBlock=some g->v2.ownBlock≠some g)(ab:(V.alloc o).grownBy w8 v1.ownBlock)(U:v1.ownBlock=some g∨g=(V.alloc o:Nat)):bw 3 1 EI w8 B v2 l2/\v2.ownBlock≠some g:=by
 obtain⟨cs,h⟩:=T.ext (aw V o);refine⟨⟨cs,jA h.η ab ?_,h.ι,fun k x c ac Y=>?_⟩,fun e=>?_⟩
 .cases e:v2.ownBlock with
  |none=>exact ay rfl
  |some O=>exact au fun J=>d O J.q e
 .obtain⟨F,G,lo,hi,H,ad,ah,I⟩:=h.ν k x c ac Y;exact⟨F,G,lo,0,H,aW _,fun g _=>au (aW _),Fr.all fun _=>I.D⟩
 .rcases U with D|D
  .exact d g D e
  .have:=(bS h.η g e).2;omega
structure X3(B Z:Nat)(V:aa)(v1 v2 v3:aG)(l1 l2 l3:aL):Prop where
 Β:bA V Z #[v1,v2,v3] 145
 o1:bw 3 1 EI V B v1 l1
 o2:bw 3 1 EI V B v2 l2
 o3:bw 3 1 EI V B v3 l3
 Ρ:∀g,v1.ownBlock=some g->v2.ownBlock≠some g
 Ο:∀g,v1.ownBlock=some g->v3.ownBlock≠some g
 d23:∀g,v2.ownBlock=some g->v3.ownBlock≠some g
 lt:Z<B
 le:B<=(V:Nat)
def X3.ext{B Z}{V F}{v1 v2 v3}{l1 l2 l3}(h:X3 B Z V v1 v2 v3 l1 l2 l3)(D:ag V F):X3 B Z F v1 v2 v3 l1 l2 l3:=⟨ai h.Β D,h.o1.ext D,h.o2.ext D,h.o3.ext D,h.Ρ,h.Ο,h.d23,h.lt,aZ h.le D.size⟩
def mW{v1 v2:aG}(d:∀g,v1.ownBlock=some g->v2.ownBlock≠some g):∀g,v2.ownBlock=some g->v1.ownBlock≠some g:=fun g e h=>d g h e
def tE{v2:aG}{g n ε}(D:v2.ownBlock≠some g):∀h,(Value.slice (bH g) n ε).ownBlock=some h->v2.ownBlock≠some h:=fun h e=>by cases e;exact D
section
variable{B Z:Nat}{V w8:aa}{v1 v2 v3:aG}{l1 l2 l3 l:aL}{o:Obj}{g n ε:Nat}
def X3.zlD(h:X3 B Z V v1 v2 v3 l1 l2 l3)(F:(V.alloc o).grownBy w8 v1.ownBlock)(D:v1.ownBlock=some g∨g=(V.alloc o:Nat))(hb:Below B (V.alloc o) w8)(T:bw 3 1 EI w8 B (.slice (bH g) n ε) l):X3 B Z (w8.setCell ⟨Z,0,none⟩ (.slice (bH g) n ε)) (.slice (bH g) n ε) v2 v3 l l2 l3/\bA w8 Z #[v1,v2,v3] 145:=by have G:=(hb.block Z h.lt).t (ai h.Β (aw V o));have y:=bE w8 Z 0 _ _ (.slice (bH g) n ε) G;simp only[zA]at y;have⟨H,I⟩:=lP h.o2 h.Ρ F D;have⟨J,O⟩:=lP h.o3 h.Ο F D;exact⟨⟨y,T.setCell h.lt _,H.setCell h.lt _,J.setCell h.lt _,tE I,tE O,h.d23,h.lt,Vl⟩,G⟩
def X3.ziI(h:X3 B Z V v1 v2 v3 l1 l2 l3)(F:(V.alloc o).grownBy w8 v2.ownBlock)(D:v2.ownBlock=some g∨g=(V.alloc o:Nat))(hb:Below B (V.alloc o) w8)(T:bw 3 1 EI w8 B (.slice (bH g) n ε) l):X3 B Z (w8.setCell ⟨Z,1,none⟩ (.slice (bH g) n ε)) v1 (.slice (bH g) n ε) v3 l1 l l3/\bA w8 Z #[v1,v2,v3] 145:=by have G:=(hb.block Z h.lt).t (ai h.Β (aw V o));have y:=bE w8 Z 1 _ _ (.slice (bH g) n ε) G;simp only[zA]at y;have⟨H,I⟩:=lP h.o1 (mW h.Ρ) F D;have⟨J,O⟩:=lP h.o3 h.d23 F D;exact⟨⟨y,H.setCell h.lt _,T.setCell h.lt _,J.setCell h.lt _,mW (tE I),h.Ο,tE O,h.lt,Vl⟩,G⟩
def X3.ziJ(h:X3 B Z V v1 v2 v3 l1 l2 l3)(F:(V.alloc o).grownBy w8 v3.ownBlock)(D:v3.ownBlock=some g∨g=(V.alloc o:Nat))(hb:Below B (V.alloc o) w8)(T:bw 3 1 EI w8 B (.slice (bH g) n ε) l):X3 B Z (w8.setCell ⟨Z,2,none⟩ (.slice (bH g) n ε)) v1 v2 (.slice (bH g) n ε) l1 l2 l/\bA w8 Z #[v1,v2,v3] 145:=by have G:=(hb.block Z h.lt).t (ai h.Β (aw V o));have y:=bE w8 Z 2 _ _ (.slice (bH g) n ε) G;simp only[zA]at y;have⟨H,I⟩:=lP h.o1 (mW h.Ο) F D;have⟨J,O⟩:=lP h.o2 (mW h.d23) F D;exact⟨⟨y,H.setCell h.lt _,J.setCell h.lt _,T.setCell h.lt _,h.Ρ,mW (tE I),mW (tE O),h.lt,Vl⟩,G⟩
end
def gO{v1 v2 x}{p}(h:p.block≠b)(D:w.cell? p=some x):(((w.setCell ⟨b,0,none⟩ v0).setCell ⟨b,1,none⟩ v1).setCell ⟨b,2,none⟩ v2).cell? p=some x:=(cE h).t ((cE h).t ((cE h).t D))
def zaK{g o}{v1 v2}(h:aO w (some ⟨g,o,none⟩) xs)(G:(some g:Option Nat)=some b->False):aO (((w.setCell ⟨b,0,none⟩ v0).setCell ⟨b,1,none⟩ v1).setCell ⟨b,2,none⟩ v2) (some ⟨g,o,none⟩) xs:=by
 rcases h with h|⟨H,I,e,D⟩
 .exact ay h
 .cases e
  exact au ⟨g,o,rfl,fun k x F=>gO (fun e=>G (by rw[show g=b from e])) (D k x F)⟩
def zi9(L:List eE)(w:aa)(e:Ending)(w':aa):Prop:=∃h D I F T J G U O,e=.returned (.tuple #[.agg #[.slice h D I,.slice F T J,.slice G U O],.bool (kj (cJ L))])/\ag w w'/\
 (kj (cJ L)=true->∃s H,mV (cJ L) ⟨[],[],[]⟩=some s/\yY s H/\s.f.length=L.length/\D=L.length/\(∀a,h=some a->(w:Nat)<=a.block)/\aO w' h (bD s.f))
def ik{D v1 v2}(h:bA w b #[T,D,z2] t):(((w.setCell ⟨b,0,none⟩ v0).setCell ⟨b,1,none⟩ v1).setCell ⟨b,2,none⟩ v2).heap[b]?=some (.cells #[v0,v1,v2] t (0,0)):=by
 refine NL fun e1 e2 e3=>?_
 simpa using e3
section
variable{B0 B0' B:Nat}{V V':aa}{A1 A2 A3:ax}{c1 c2 c3:Nat}{g:Gr}
def aE.dQ{B}(D:aE V B v xs)(h:b<B):aE (dQ V b v0 v1 v2 v3) B v xs:=(((D.setCell (a:=⟨b,0,none⟩) h _).setCell (a:=⟨b,1,none⟩) h _).setCell (a:=⟨b,2,none⟩) h _).setCell (a:=⟨b,3,none⟩) h _
def BH.ext(h:BH B0 B V A1 c1 A2 c2 A3 c3 g)(D:ag V V'):BH B0 B V' A1 c1 A2 c2 A3 c3 g:=⟨h.b,aZ h.s D.size,h.i.ext D,h.o.ext D,h.d2,h.d3,h.es.ext D⟩
def BH.x(h:BH B0 B V A1 c1 A2 c2 A3 c3 g)(D:B0'<=B0):BH B0' B V A1 c1 A2 c2 A3 c3 g:=⟨aZ D h.b,h.s,h.i.x D,h.o.x D,h.d2,h.d3,h.es⟩
def BH.dQ(h:BH B0 B V A1 c1 A2 c2 A3 c3 g)(D:b<B0):BH B0 B (dQ V b v0 v1 v2 v3) A1 c1 A2 c2 A3 c3 g:=⟨h.b,by rw[eK];exact h.s,h.i.dQ D,h.o.dQ D,h.d2,h.d3,h.es.dQ (gm D h.b)⟩
def BH.fr(h:BH B0 B V A1 c1 A2 c2 A3 c3 g):Fr V B0 V (fun W=>jV W A1 A2 A3 g):=Fv ((h.es.fr (fun _ _ _ _ D h=>h.ext D) h.s).to h.b (ae _)) (h.i.fr (aZ h.b h.s)) (h.o.fr (aZ h.b h.s))
end
def yB.gr{g}{e}(h:yB g w e w'):xr g w e w':=by obtain⟨A1,c1,A2,c2,A3,c3,B,D,F,G⟩:=h;exact⟨A1,c1,A2,c2,A3,c3,D,F.fr,G⟩
def zlY{g}(h:px g)A1 A2 A3 D c1 c2 c3 F w(G:jV w A1 A2 A3 g)(H:aO w D (υ g.w)):az 199 #[.agg (bj g A1 c1 A2 c2 A3 c3),.slice D g.w F,(g.w:Nat)] w (yB g w):=by have:=BM g g.w (υ g.w) (fun x=>x) A1 A2 A3 D c1 c2 c3 F w G H (Fa h.inr) (by rw[dX];have:=h.w;omega) R_ R_ Sg R9 R7 (fun e he=>Tl);rw[dX]at this;rw[show g.map g.w (fun x=>x)=g by unfold Gr.map;simp[show(Ed.map fun x=>x)=id from funext fun e=>by simp[Ed.map]]]at this;exact this
def zlZ{g}(h:px g)a(I:a<=4096)A1 A2 A3 D c1 c2 c3 F w(G:jV w A1 A2 A3 g)(H:aO w D (bD (dd a g.w))):az 199 #[.agg (bj g A1 c1 A2 c2 A3 c3),.slice D g.w F,(g.w:Nat)] w (yB (g.map g.w (· +a)) w):=by have:=BM g g.w (bD (dd a g.w)) (fun x=>x+a) A1 A2 A3 D c1 c2 c3 F w G H (qM h.inr a) (by rw[aS,c_];have:=h.w;omega) R_ R_ Sg R9 R7 (fun e he=>Tl);rw[aS,c_]at this;exact this
def zhU g A1 A2 A3 c1 c2 c3 w(am:jV w A1 A2 A3 g)(J:px g):az 198 (cY (bj g A1 c1 A2 c2 A3 c3)) w (yB g w):=by
 have⟨bi,hi,bg,bh,FU⟩:=dp gD;refine Oq fun hB hq hr=>?_
 have Y:=zH (fun V (bd:ag w V) O ba (bc:aO V O (υ g.w))=>zlY J A1 A2 A3 O c1 c2 c3 ba V (am.ext bd) bc);have be:g.w<=4096:=J.w;have⟨n,ao⟩:=aR g.w;rw[<-ao]at Y be hq hr hB ⊢;clear am J ao;go_enter func198,ntmps198
 go_upto_region 1 with(fail)
 generalize (w.alloc _).alloc _=W at hB hq hr ⊢;have⟨a0,a1,a2,a3⟩:=aB hq;have⟨a5,a9,a8⟩:=er hB hr hq;clear hB hr hq;go_wp2_with ((at_make;refine jg _ rfl _ _ 26 rfl W.heap.size 3 bi (zI 0) 1 dR hi bg bh .i64 .i64 n n n rfl rfl rfl rfl RF SL (ae _) ?_;intro bn FT an))
 have T:=zH (cy an);rw[jn]at FT;have Z:=zH (by rw[iP,dX];exact FT:bn.ownsRow W 3 1 (.slice (bH W) n n) n ((eF (υ n) 0 0).map (Value.int .i64)));clear FT an a0 a1 a2 a3;go_loopw [4,10] (fun _ i wr=>∃k:Nat,k<=n/\i=.int .i64 k/\wr.ownsRow W 3 1 (.slice (bH W) n n) n ((eF (υ n) 0 k).map (Value.int .i64))/\ag W wr) (fun _ i _=>n-(intOf i).toNat)
 case atStart=>exact⟨0,aW _,rfl,Z,T.o⟩
 case round=>
  obtain⟨k,b1,rfl,FT,h⟩:=hrel;clear Z T;by_cases FX:k<n
  .have bz:af wr W k (zI 0):=Xg;have b0:=FT.g k;have GW:=(FT.j k (zI k)).1;rw[<-eW,jq _ _ _ _ (sM FX)]at GW;have⟨HS,Ho⟩:=bJ GW (h.setCell (p:=⟨W,k,none⟩) (ae _) (zI k));exact Ys
  .rw[jo _ _ _ Ru]at FT;have av:aE wr W (.slice (bH W) n n) (υ n):=by unfold aE;rw[dX];exact FT
   obtain⟨bu,bv,ac,ah,-⟩:=av.p;rw[dX]at ac;cases ac
   have⟨a4,U⟩:=bJ ah (aT a5 h);have⟨a0,a1,a2,a3⟩:=aB (ai a8 h);have ab:=zH (ai a9 h);have NB:=zH (show(w:Nat)+1<wr from(bk.1 ab).1);clear FT av ah h;go_wp2_with ((go_at_call 199;(with_reducible refine(Y.o _ U.o _ _ a4.o).x ?_);intro e b6 ad;unfold yB at ad;obtain⟨D,d1,F,d2,G,d3,B,bb,ap,I⟩:=ad;subst bb;have H:=ai ab I;have⟨b2,b3,b4,b5⟩:=aB H;have⟨f0,f1,f2,f3⟩:=cN H;have y:=cP (v0:=.int .i64 (g.w:Nat)) (v1:=.slice D g.es d1) (v2:=.slice F g.i d2) (v3:=.slice G g.o d3) H;have⟨bo,bp,bq,br⟩:=aB y;unfold dQ at bo bp bq br;have a7:=zH ap;have a6:=zH (bY (aT U I) (b:=(w:Nat)+1) Qu (zI (g.w:Nat)) (.slice D g.es d1) (.slice F g.i d2) (.slice G g.o d3));clear H y ap I))
   exact aI (v:=.agg (bj g D d1 F d2 G d3)) (by simp[results,results198,go_sem, *]) rfl ⟨D,d1,F,d2,G,d3,B,rfl,(a7.dQ NB).x SH,a6⟩
end Go.Proofs.YtpieilkmmiopfaaGreatDoor
