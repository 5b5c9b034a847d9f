/- Parts of the walks. Conditions: as stated with each. -/
import Derived.Test.YtpieilkmmiopfaaGreatDoorPk5
namespace Go.Proofs.YtpieilkmmiopfaaGreatDoor
open Go.RowKit Tryz
set_option linter.all false
set_option maxHeartbeats 2000000
set_option maxRecDepth 100000
variable{A:ax}{J b c i k:Nat}{L:List eE}{T v v0 z2:aG}{W w:aa}{t:dL}{xs:aL}
def BB(k:Int):Nat:=if k=2∨k=5∨k=9 then 2 else if k=6∨k=10 then 0 else 1
def BC(k:Int):Nat:=if k=2∨k=3∨k=11 then 2 else if k=4∨k=12 then 0 else 1
def yv k w:az 151 (bK k) w fun e w'=>e=.returned (.tuple (bC (BB k:Nat) (BC k:Nat)))/\w=w':=by
 by_cases h2:k=2
 .subst h2;rw[show BB 2=2 by decide,show BC 2=2 by decide];go_enter oN,oO
  go_wp2;exact aI (v:=.tuple #[.int .i64 2,.int .i64 2]) (by simp[results,oP,go_sem, *]) rfl ⟨rfl,rfl⟩
 by_cases h3:k=3
 .subst h3;rw[show BB 3=1 by decide,show BC 3=2 by decide];exact Yo
 by_cases D:k=11
 .subst D;rw[show BB 11=1 by decide,show BC 11=2 by decide];exact Yo
 by_cases h4:k=4
 .subst h4;rw[show BB 4=1 by decide,show BC 4=0 by decide];exact XV
 by_cases F:k=12
 .subst F;rw[show BB 12=1 by decide,show BC 12=0 by decide];exact XV
 by_cases h5:k=5
 .subst h5;rw[show BB 5=2 by decide,show BC 5=1 by decide];exact Yn
 by_cases H:k=9
 .subst H;rw[show BB 9=2 by decide,show BC 9=1 by decide];exact Yn
 by_cases G:k=6
 .subst G;rw[show BB 6=0 by decide,show BC 6=1 by decide];exact XU
 by_cases h:k=10
 .subst h;rw[show BB 10=0 by decide,show BC 10=1 by decide];exact XU
 rw[show BB k=1 by unfold BB;rw[aj Qu,aj Qu],show BC k=1 by unfold BC;rw[aj Qu,aj Qu]];have T:(k==2)=false:=Rk;have U:(k==3)=false:=Ri;have J:(k==11)=false:=by simpa using D
 have Y:(k==4)=false:=Rh;have O:(k==12)=false:=by simpa using F
 have Z:(k==5)=false:=Rg;have ac:(k==9)=false:=by simpa using H
 have ab:(k==6)=false:=by simpa using G
 have I:(k==10)=false:=by simpa using h
 go_enter oN,oO
 go_wp2;exact aI (v:=.tuple #[.int .i64 1,.int .i64 1]) (by simp[results,oP,go_sem, *]) rfl ⟨rfl,rfl⟩
def taI(k v:Int):Int:=if k=1 then v else(BB k:Nat)
def taO(k v:Int):Int:=if k=1 then v else(BC k:Nat)
def Ce k v s w:az 194 (cY (dN k v s)) w fun e w'=>e=.returned (.tuple (bC (taI k v) (taO k v)))/\ag w w':=by
 by_cases h1:k=1
 .subst h1;rw[show taI 1 v=v from rfl,show taO 1 v=v from rfl];have⟨h,D⟩:=bM w (.cells #[.int .i64 1,v,.string s] 95);go_enter func194,ntmps194
  go_upto_region 1 with(fail)
  generalize w.alloc _=W at h D ⊢;have⟨J,c1,c2⟩:=aD D;have F:=zH h;go_wp2_with fail
  go_region_held3 (fun V=>af V w 1 (zI v)) (first|exact c1) (fail)
  go_wp2;exact aI (v:=.tuple (bC v v)) Uu rfl ⟨rfl,F.drew⟩
 .rw[show taI k v=(BB k:Nat) by unfold taI;rw[aj h1],show taO k v=(BC k:Nat) by unfold taO;rw[aj h1]];have O:(k==1)=false:=Rp;have⟨a,G⟩:=aR (BB k);have⟨b,H⟩:=aR (BC k);have I:=zH (show ∀W,az 151 (bK k) W fun e w'=>e=.returned (.tuple (iL a b))/\W=w' from fun W=>by rw[G,H];exact yv k W);rw[<-G,<-H];have⟨h,D⟩:=bM w (.cells (dN k v s) 95);go_enter func194,ntmps194
  go_upto_region 1 with(fail)
  generalize w.alloc _=W at h D ⊢;have⟨J,c1,c2⟩:=aD D;have F:=zH h;go_wp2_with (go_at_call 151;refine(I.o _).x ?_;rintro e w' ⟨rfl,rfl⟩)
  exact aI (v:=.tuple (iL a b)) Uu rfl ⟨rfl,F⟩
def EM k v s w:az 193 (cY (dN k v s)) w (dt w (dI ⟨k,v,s.toList.isEmpty⟩)):=by
 have D:s.toList.isEmpty=(s.toList==[]):=by cases s.toList<;>rfl
 rw[D];cases he:(s.toList==[])
 .have F:(!s.toList==[])=true:=Q5;rw[show dI ⟨k,v,false⟩=false from rfl];have⟨hB,hq⟩:=bM w (.cells (dN k v s) 95);exact Zd
 have F:(!s.toList==[])=false:=Q5;cases hi:eU k 1 14
 .rw[show dI ⟨k,v,true⟩=false by have:¬(1<=k/\k<=14):=Si;unfold dI;dsimp only;rw[aj Qu,aj Qu];simp;omega]
  exact Zl
 by_cases h1:k=1
 .subst h1;rw[show dI ⟨1,v,true⟩=eU v 0 12 by simp[dI,eU]];have⟨hB,hq⟩:=bM w (.cells #[.int .i64 1,v,.string s] 95);exact Zd
 by_cases h7:k=7
 .subst h7;rw[show dI ⟨7,v,true⟩=eU v 0 96 by simp[dI,eU]];have⟨hB,hq⟩:=bM w (.cells #[.int .i64 7,v,.string s] 95);exact Zd
 by_cases h:k=13
 .subst h;rw[show dI ⟨13,v,true⟩=eU v 0 96 by simp[dI,eU]];have⟨hB,hq⟩:=bM w (.cells #[.int .i64 13,v,.string s] 95);exact Zd
 have G:1<=k/\k<=14:=Si;rw[show dI ⟨k,v,true⟩=decide (v=0) by unfold dI;dsimp only;rw[aj h1,aj Qu];have:decide (2<=k)=true:=QW;rw[this,show decide (k<=14)=true by simp;omega];rfl]
 have I:(k==1)=false:=Rp;have O:(k==7)=false:=Rm;have J:(k==13)=false:=by simpa using h
 have H:(v==0)=decide (v=0):=Q7;generalize decide (v=0)=T at H ⊢;exact Zl
def zfi s w:az 195 #[dE,.string s] w fun e w'=>e=.returned (zI (-1))/\w=w':=by
 go_enter func195,ntmps195
 go_wp2;go_loopw [9] (fun i wr=>i=.int .i64 0/\wr=w) (fun _ _=>0)
 case atStart=>exact⟨rfl,rfl⟩
 case round=>
  obtain⟨rfl,rfl⟩:=hrel;exact We
structure Eh(L:List eE)(s:vg)(T:List Tm)(k:Nat):Prop where
 kl:k<=L.length
 rd:mV ((cJ L).drop k) s=mV (cJ L) ⟨[],[],[]⟩
 rt:fp ((cJ L).drop k) T=fp (cJ L) []
 ok:yY s T
 ι:s.f.length=k
def Eh.φ L:Eh L ⟨[],[],[]⟩ [] 0:=⟨aW _,rfl,rfl,⟨rfl,rfl,rfl⟩,rfl⟩
def Eh.no{s}{D}{x}(h:Eh L s D k)(G:L[k]?=some x)(F:mj s x.nd=none):kj (cJ L)=false:=by
 rcases DW x.nd h.ok with⟨H,_,e,_⟩|⟨-,e⟩
 .rw[F]at e;cases e
 .exact Ea (by rw[<-h.rt,lF G,jw,e])
def Eh.Y{s h}{I}{x}(F:Eh L s I k)(H:L[k]?=some x)(G:mj s x.nd=some h)(T:h.f.length=k+1):∃D,Eh L h D (k+1):=by
 rcases DW x.nd F.ok with⟨U,D,e,J,O⟩|⟨e,-⟩
 .rw[G]at e;cases e
  refine⟨D,(bG.1 H).1,?_,?_,O,T⟩
  .rw[<-F.rd,lF H]
   show _=(match mj s x.nd with|some h=>_|none=>_)
   rw[G]
  .rw[<-F.rt,lF H,jw,J]
 .rw[G]at e;cases e
def zdm{L}(D:1<=L.length)(F:L.length<=400):kj L=true↔∃t,č L t:=by
 unfold kj jE;rw[fT D,fT F,xm,xm];constructor
 .intro h;split at h
  .rename_i t e;exact⟨t,sZ.2 e⟩
  .cases h
 .rintro⟨t,G⟩;rw[sZ.1 G];rfl
def Eh.U{s}{G}(I:Eh L s G k)(J:k=L.length)(O:1<=L.length)(T:L.length<=400):mV (cJ L) ⟨[],[],[]⟩=some s/\kj (cJ L)=decide (s.f.getD (k-1) 0=0):=by
 have D:(cJ L).length=L:=by simp[cJ]
 have e:mV (cJ L) ⟨[],[],[]⟩=some s:=by rw[<-I.rd,jR Qu];rfl
 refine⟨e,?_⟩;rw[jQ,zdm Qu Qu,cf,<-zha (fun h=>by rw[h]at D;simp at D;omega),D,J];constructor
 .rintro⟨U,F,H⟩;rw[e]at F;cases F;exact H
 .intro h;exact⟨s,e,h⟩
def wm{s}{h}(D:vx s k h)(U:1<=k):k<=s.f.length/\s.f.getD (k-1) 0<k/\s.i.getD (k-1) 0<=12/\s.o.getD (k-1) 0<=12/\∃S,vx s (s.f.getD (k-1) 0) S:=by
 cases h with
 |nil=>have:k=0:=D;omega
 |cons t S=>
  obtain⟨c,F,I,G,J,O,T,H⟩:=D;have:=t.sQ;have:=Tm.zaS F;exact⟨G,Qu,Qu,Qu,S,H⟩
def ze1{s}{n}(h:dI n=true):mj s n=some (s.add s.f (pC n) (sC n)):=by unfold mj;rw[ak h]
def ml{s}{n}(h:dI n=false)(F:¬((n.k=15∨n.k=16)/\n.v=0/\n.e=true/\2<=s.f.length/\1<=s.f.getD (s.f.length-1) 0)):mj s n=none:=by unfold mj;rw[aj QZ,aj];rintro⟨D,G⟩;unfold FC at D;simp only[jS,cf]at D;exact F ⟨D,G⟩
def zi8{s}{n}(D:n.k=15∨n.k=16)(I:n.v=0)(H:n.e=true)(G:2<=s.f.length)(F:1<=s.f.getD (s.f.length-1) 0):
  mj s n=match gP n.k (s.i.getD (s.f.getD (s.f.length-1) 0-1) 0,s.o.getD (s.f.getD (s.f.length-1) 0-1) 0) (s.i.getD (s.f.length-1) 0,s.o.getD (s.f.length-1) 0)with
   |some c=>some (s.add (s.f.getD (s.f.getD (s.f.length-1) 0-1) 0) c.1 c.2)
   |none=>none:=by
 have h:FC n=true:=by unfold FC;simp only[jS,cf];exact D
 unfold mj;rw[aj (by rw[ć h];simp),ak ⟨h,I,H,G,F⟩];rfl
def Ei{s}{n}(D:n.k=15∨n.k=16)(I:n.v=0)(H:n.e=true)(G:2<=s.f.length)(F:1<=s.f.getD (s.f.length-1) 0):(∀c,gP n.k (s.i.getD (s.f.getD (s.f.length-1) 0-1) 0,s.o.getD (s.f.getD (s.f.length-1) 0-1) 0) (s.i.getD (s.f.length-1) 0,s.o.getD (s.f.length-1) 0)=some c->mj s n=some (s.add (s.f.getD (s.f.getD (s.f.length-1) 0-1) 0) c.1 c.2))/\(gP n.k (s.i.getD (s.f.getD (s.f.length-1) 0-1) 0,s.o.getD (s.f.getD (s.f.length-1) 0-1) 0) (s.i.getD (s.f.length-1) 0,s.o.getD (s.f.length-1) 0)=none->mj s n=none):=by have e:=zi8 D I H G F;exact⟨fun c h=>by rw[e,h],fun h=>by rw[e,h]⟩
def xw(w W V:aa):Prop:=∀j,j<2->V.heap[(w:Nat)+j]?=W.heap[(w:Nat)+j]?
def xw.ext{V h}(D:xw w W V)(H:(w:Nat)+1+1<W)(I:(W:Nat)<=V)(F:ag V h):xw w W h:=fun j G=>(F.block _ Qu).t (D j G)
def xw.S{V w8}{x}(h:xw w W V)(G:(w:Nat)+1+1<W)(D:Below W V w8):xw w W (w8.setCell ⟨(w:Nat)+1+1,i,none⟩ x):=fun j F=>
 (a_ _ _ _ _ (by show _≠(w:Nat)+1+1;omega)).t ((D.block _ Qu).t (h j F))
def EI(_:aa)(x:Int)(c:cL):Prop:=c=[.int .i64 x]
def qy:RT prog 26 3 1 (zI 0) 8:=⟨dR,QT,Qw,Qw,Qw⟩
def zk(D:bR 1 EI w A xs):aO w A xs:=
 D.E id fun⟨b,o,e,G⟩=>⟨b,o,e,fun k x H=>by obtain⟨c,F,h⟩:=G k x H;unfold EI at h;subst h;have:=F 0 _ rfl;rwa[fk,jf]at this⟩
def pa{B n}{l}(h:bw 3 1 EI w B (.slice A n c) l):aO w A l:=by
 obtain⟨F,G,e,D,-⟩:=h.p;cases e
 exact zk D
def Ÿ{k v}{e}(D:dI ⟨k,v,e⟩=true):taI k v=(pC ⟨k,v,e⟩:Nat)/\taO k v=(sC ⟨k,v,e⟩:Nat):=by
 unfold taI taO pC sC;by_cases h:k=1
 .have:0<=v:=by unfold dI at D;dsimp only at D;rw[ak h]at D;simp at D;omega
  rw[ak h,ak h];dsimp only;rw[ak h,ak h];omega
 .rw[aj h,aj h];dsimp only;rw[aj h,aj h];unfold BB BC;constructor<;>(repeat' split)<;>omega
def lP{B}{V w8}{o}{v1 v2:aG}{l2}{g}(T:bw 3 1 EI V B v2 l2)(d:∀g,v1.ownBlock=some g->v2.ownBlock≠some g)(ab:(V.alloc o).grownBy w8 v1.ownBlock)(U:v1.ownBlock=some g∨g=(V.alloc o:Nat)):bw 3 1 EI w8 B v2 l2/\v2.ownBlock≠some g:=by
 obtain⟨cs,h⟩:=T.ext (aw V o);refine⟨⟨cs,jA h.η ab ?_,h.ι,fun k x c ac Y=>?_⟩,fun e=>?_⟩
 .cases e:v2.ownBlock with
  |none=>exact ay rfl
  |some O=>exact au fun J=>d O J.q e
 .obtain⟨F,G,lo,hi,H,ad,ah,I⟩:=h.ν k x c ac Y;exact⟨F,G,lo,0,H,aW _,fun g _=>au (aW _),Fr.all fun _=>I.D⟩
 .rcases U with D|D
  .exact d g D e
  .have:=(bS h.η g e).2;omega
structure X3(B Z:Nat)(V:aa)(v1 v2 v3:aG)(l1 l2 l3:aL):Prop where
 Β:bA V Z #[v1,v2,v3] 145
 o1:bw 3 1 EI V B v1 l1
 o2:bw 3 1 EI V B v2 l2
 o3:bw 3 1 EI V B v3 l3
 Ρ:∀g,v1.ownBlock=some g->v2.ownBlock≠some g
 Ο:∀g,v1.ownBlock=some g->v3.ownBlock≠some g
 d23:∀g,v2.ownBlock=some g->v3.ownBlock≠some g
 lt:Z<B
 le:B<=(V:Nat)
def X3.ext{B Z}{V F}{v1 v2 v3}{l1 l2 l3}(h:X3 B Z V v1 v2 v3 l1 l2 l3)(D:ag V F):X3 B Z F v1 v2 v3 l1 l2 l3:=⟨ai h.Β D,h.o1.ext D,h.o2.ext D,h.o3.ext D,h.Ρ,h.Ο,h.d23,h.lt,aZ h.le D.size⟩
def mW{v1 v2:aG}(d:∀g,v1.ownBlock=some g->v2.ownBlock≠some g):∀g,v2.ownBlock=some g->v1.ownBlock≠some g:=fun g e h=>d g h e
def tE{v2:aG}{g n ε}(D:v2.ownBlock≠some g):∀h,(Value.slice (bH g) n ε).ownBlock=some h->v2.ownBlock≠some h:=fun h e=>by cases e;exact D
section
variable{B Z:Nat}{V w8:aa}{v1 v2 v3:aG}{l1 l2 l3 l:aL}{o:Obj}{g n ε:Nat}
def X3.zlD(h:X3 B Z V v1 v2 v3 l1 l2 l3)(F:(V.alloc o).grownBy w8 v1.ownBlock)(D:v1.ownBlock=some g∨g=(V.alloc o:Nat))(hb:Below B (V.alloc o) w8)(T:bw 3 1 EI w8 B (.slice (bH g) n ε) l):X3 B Z (w8.setCell ⟨Z,0,none⟩ (.slice (bH g) n ε)) (.slice (bH g) n ε) v2 v3 l l2 l3/\bA w8 Z #[v1,v2,v3] 145:=by have G:=(hb.block Z h.lt).t (ai h.Β (aw V o));have y:=bE w8 Z 0 _ _ (.slice (bH g) n ε) G;simp only[zA]at y;have⟨H,I⟩:=lP h.o2 h.Ρ F D;have⟨J,O⟩:=lP h.o3 h.Ο F D;exact⟨⟨y,T.setCell h.lt _,H.setCell h.lt _,J.setCell h.lt _,tE I,tE O,h.d23,h.lt,Vl⟩,G⟩
def X3.ziI(h:X3 B Z V v1 v2 v3 l1 l2 l3)(F:(V.alloc o).grownBy w8 v2.ownBlock)(D:v2.ownBlock=some g∨g=(V.alloc o:Nat))(hb:Below B (V.alloc o) w8)(T:bw 3 1 EI w8 B (.slice (bH g) n ε) l):X3 B Z (w8.setCell ⟨Z,1,none⟩ (.slice (bH g) n ε)) v1 (.slice (bH g) n ε) v3 l1 l l3/\bA w8 Z #[v1,v2,v3] 145:=by have G:=(hb.block Z h.lt).t (ai h.Β (aw V o));have y:=bE w8 Z 1 _ _ (.slice (bH g) n ε) G;simp only[zA]at y;have⟨H,I⟩:=lP h.o1 (mW h.Ρ) F D;have⟨J,O⟩:=lP h.o3 h.d23 F D;exact⟨⟨y,H.setCell h.lt _,T.setCell h.lt _,J.setCell h.lt _,mW (tE I),h.Ο,tE O,h.lt,Vl⟩,G⟩
def X3.ziJ(h:X3 B Z V v1 v2 v3 l1 l2 l3)(F:(V.alloc o).grownBy w8 v3.ownBlock)(D:v3.ownBlock=some g∨g=(V.alloc o:Nat))(hb:Below B (V.alloc o) w8)(T:bw 3 1 EI w8 B (.slice (bH g) n ε) l):X3 B Z (w8.setCell ⟨Z,2,none⟩ (.slice (bH g) n ε)) v1 v2 (.slice (bH g) n ε) l1 l2 l/\bA w8 Z #[v1,v2,v3] 145:=by have G:=(hb.block Z h.lt).t (ai h.Β (aw V o));have y:=bE w8 Z 2 _ _ (.slice (bH g) n ε) G;simp only[zA]at y;have⟨H,I⟩:=lP h.o1 (mW h.Ο) F D;have⟨J,O⟩:=lP h.o2 (mW h.d23) F D;exact⟨⟨y,H.setCell h.lt _,J.setCell h.lt _,T.setCell h.lt _,h.Ρ,mW (tE I),mW (tE O),h.lt,Vl⟩,G⟩
end
def gO{v1 v2 x}{p}(h:p.block≠b)(D:w.cell? p=some x):(((w.setCell ⟨b,0,none⟩ v0).setCell ⟨b,1,none⟩ v1).setCell ⟨b,2,none⟩ v2).cell? p=some x:=(cE h).t ((cE h).t ((cE h).t D))
def zaK{g o}{v1 v2}(h:aO w (some ⟨g,o,none⟩) xs)(G:(some g:Option Nat)=some b->False):aO (((w.setCell ⟨b,0,none⟩ v0).setCell ⟨b,1,none⟩ v1).setCell ⟨b,2,none⟩ v2) (some ⟨g,o,none⟩) xs:=by
 rcases h with h|⟨H,I,e,D⟩
 .exact ay h
 .cases e
  exact au ⟨g,o,rfl,fun k x F=>gO (fun e=>G (by rw[show g=b from e])) (D k x F)⟩
def û(L:List eE)(w:aa)(e:Ending)(w':aa):Prop:=∃h D I F T J G U O,e=.returned (.tuple #[.agg #[.slice h D I,.slice F T J,.slice G U O],.bool (kj (cJ L))])/\ag w w'/\
 (kj (cJ L)=true->∃s H,mV (cJ L) ⟨[],[],[]⟩=some s/\yY s H/\s.f.length=L.length/\D=L.length/\(∀a,h=some a->(w:Nat)<=a.block)/\aO w' h (bD s.f))
def ik{D v1 v2}(h:bA w b #[T,D,z2] t):(((w.setCell ⟨b,0,none⟩ v0).setCell ⟨b,1,none⟩ v1).setCell ⟨b,2,none⟩ v2).heap[b]?=some (.cells #[v0,v1,v2] t (0,0)):=by
 refine NL fun e1 e2 e3=>?_
 simpa using e3
def zeP L A ε w(dT:bR 3 jK w A L)(eA:L.length<=1048576):az 149 #[dE,.agg (aV A L ε)] w (û L w):=by
 have G:=ζ w (.cells (aV A L ε) 35) (.cells rG 145) (.cells rG 145);have⟨ah,ap,am⟩:=cD w (.cells (aV A L ε) 35) (.cells rG 145) (.cells rG 145);have d9:=zH (show ∀wr,ag w wr->bR 3 jK wr A L from fun wr h=>bQ dT h);clear dT;go_enter func149,ntmps149
 go_upto_region 2 with(fail)
 generalize ((w.alloc _).alloc _).alloc _=W at G ah ap am ⊢;have Gn:=zH (show(w:Nat)+1+1<W from(bk.1 am).1);have cr:=aF ah 0 rfl;obtain⟨ea,cA,HY,dc⟩:=gG ah (show X3 W ((w:Nat)+1+1) W (.slice none 0 0) (.slice none 0 0) (.slice none 0 0) [] [] [] from⟨am,bw.nil _ _ _ _ _,bw.nil _ _ _ _ _,bw.nil _ _ _ _ _,(fun g e=>by cases e),(fun g e=>by cases e),(fun g e=>by cases e),Gn,ae _⟩) ap G;clear G ah ap am;cases cj:eU (L:Int) 1 400
 .have HTF:=zH (zaH (L:=cJ L) fun h=>by
   have e:(cJ L).length=L:=by simp[cJ]
   rw[e]at h;have:eU (L:Int) 1 400=true:=RM;rw[cj]at this;cases this)
  have⟨T,z1,z2⟩:=aD cA.Β;have⟨r0,r1,r2⟩:=aD HY;have⟨f0,f1,f2⟩:=cd HY;have hy2:=ik (v0:=dE) (v1:=dE) (v2:=dE) HY;have⟨u0,u1,u2⟩:=aD hy2;clear hy2;go_wp2_with (go_at_call 92;refine(Calls.cg (aX _ _ _ _) cj).x ?_;rintro e w' ⟨rfl,rfl⟩)
  exact aI (v:=.tuple (pQ rG)) TS rfl ⟨_,_,_,_,_,_,_,_,_,by rw[HTF.o],(((dc.setCell (p:=⟨(w:Nat)+1,0,none⟩) (by show(w:Nat)<=w+1;omega) _).setCell (p:=⟨(w:Nat)+1,1,none⟩) (by show(w:Nat)<=w+1;omega) _).setCell (p:=⟨(w:Nat)+1,2,none⟩) (by show(w:Nat)<=w+1;omega) _),fun h=>Tp⟩
 have eo:1<=L.length/\L.length<=400:=by
  have:(1:Int)<=(L:Int)/\(L:Int)<=400:=by simpa[eU]using cj
  omega
 have b3:=zH eo;go_upto_region 4 with(go_at_call 92;refine(Calls.cg (aX _ _ _ _) cj).x ?_;rintro e w' ⟨rfl,rfl⟩)
 clear cj;go_wp2;go_loopw [25] (fun i wr=>∃(k:Nat) (s:vg) (cK:List Tm) (F:ax) (cF:Nat) (I:ax) (cI:Nat) (O:ax) (cO:Nat),i=.int .i64 k/\Eh L s cK k/\X3 W ((w:Nat)+1+1) wr (.slice F k cF) (.slice I k cI) (.slice O k cO) (bD s.f) (bD s.i) (bD s.o)/\xw w W wr/\ag w wr) (fun i _=>L.length-(intOf i).toNat)
 case atStart=>exact⟨0,⟨[],[],[]⟩,[],none,0,none,0,none,0,rfl,Eh.φ L,cA,fun _ _=>rfl,dc⟩
 case round=>
  obtain⟨k,s,cK,F,cF,I,cI,O,cO,rfl,a4,bb,ce,ci⟩:=hrel;clear cr cA;obtain⟨Ii,JQ,JS⟩:=er (by rw[aS,a4.ι]:(bD s.f).length=k) (by rw[aS,a4.ok.li,a4.ι]:(bD s.i).length=k) (by rw[aS,a4.ok.lo,a4.ι]:(bD s.o).length=k);by_cases es:k<L.length
  .have⟨x,U⟩:=aq es;obtain⟨b,o,rfl,dq,c1,c2⟩:=iF (d9 wr ci) U;obtain⟨a0,vv,ss⟩:=x;dsimp only at dq c1 c2;have ez:k<=400:=Qu;have⟨ch,cp⟩:=bM wr (.cells (dN a0 vv ss) 95);have⟨HXX,HS,bc,b6,b5⟩:=pD U a4 (bb.ext ch) (ce.ext Gn bb.le ch) (aT ci ch);clear U a4 bb ce ci;go_upto_region 7 with(fail)
   generalize wr.alloc _=e6 at ch cp bc b6 b5 ⊢;clear dq c1 c2 ch;have⟨n0,an,n2⟩:=aD cp;have⟨b2,cz⟩:=bJ (fun V=>EM a0 vv ss V) cp;clear cp;cases hlf:dI ⟨a0,vv,ss.toList.isEmpty⟩
   .rw[hlf]at b2;by_cases c4:a0=17
    .subst c4;obtain⟨HTF,ct⟩:=bJ (HS.no HXX (ml hlf (fun h=>by have:=h.1;simp[eE.nd]at this))) (fun V=>Ce 17 vv ss V);go_wp2_with (first|(go_at_call 193;refine(b2.o _).x ?_;rintro e w3 ⟨rfl,av⟩;have b8:=ar av n0;have c9:=ar av an;have db:=ar av n2;have a1:=zH av;clear av)|(go_at_call 194;refine(ct.o _).x ?_;rintro e Y ⟨rfl,bd⟩;have d4:=ar bd b8;have e4:=ar bd c9;have e5:=ar bd db;have b1:=zH (aT a1 bd);have⟨T,z1,z2⟩:=aD (bc.ext b1).Β;have b7:=((b6.ext Gn bc.le b1) 1 Qu).t HY;have⟨r0,r1,r2⟩:=aD b7;have f0:=aK b7 0;have f1:=aK b7 1;have f2:=aK b7 2;have d3:=ik (v0:=.slice F k cF) (v1:=.slice I k cI) (v2:=.slice O k cO) b7;have⟨u0,u1,u2⟩:=aD d3;have d6:=zH (aT b5 b1);clear bd b7 d3)|(go_at_call 195;refine(zfi _ _).x ?_;rintro e w' ⟨rfl,rfl⟩))
     exact aI (v:=.tuple (lT F k cF I cI O cO)) TS rfl ⟨_,_,_,_,_,_,_,_,_,by rw[HTF.o],(((d6.setCell (p:=⟨(w:Nat)+1,0,none⟩) (by show(w:Nat)<=w+1;omega) _).setCell (p:=⟨(w:Nat)+1,1,none⟩) (by show(w:Nat)<=w+1;omega) _).setCell (p:=⟨(w:Nat)+1,2,none⟩) (by show(w:Nat)<=w+1;omega) _),fun h=>Tp⟩
    have ei:(a0==17)=false:=by simpa using c4
    go_upto_region 17 with(go_at_call 193;refine(b2.o _).x ?_;rintro e w3 ⟨rfl,av⟩;have b8:=ar av n0;have a1:=zH av;clear av)
    clear n0 an n2 b8;have⟨Mj,HYY,Gc⟩:=er (bc.ext a1) (b6.ext Gn bc.le a1) (aT b5 a1);have⟨n0,an,n2⟩:=aD (ai cz a1);have⟨T,z1,z2⟩:=aD Mj.Β;clear bc b6 b5 cz b2 c4;by_cases c3:a0=15∨a0=16
    rotate_left
    .have e2:(a0 !=15)=true:=QW;have e3:(a0 !=16)=true:=QW;have HTF:=zH (HS.no HXX (ml hlf (fun h=>c3 h.1)));clear c3;have hyy:=(HYY 1 Qu).t HY;have⟨r0,r1,r2⟩:=aD hyy;have⟨f0,f1,f2⟩:=cd hyy;have hy2:=ik (v0:=.slice F k cF) (v1:=.slice I k cI) (v2:=.slice O k cO) hyy;have⟨u0,u1,u2⟩:=aD hy2;clear hy2 hyy;go_wp2;exact aI (v:=.tuple (lT F k cF I cI O cO)) TS rfl ⟨_,_,_,_,_,_,_,_,_,by rw[HTF.o],(((Gc.setCell (p:=⟨(w:Nat)+1,0,none⟩) (by show(w:Nat)<=w+1;omega) _).setCell (p:=⟨(w:Nat)+1,1,none⟩) (by show(w:Nat)<=w+1;omega) _).setCell (p:=⟨(w:Nat)+1,2,none⟩) (by show(w:Nat)<=w+1;omega) _),fun h=>Tp⟩
    rcases c3 with rfl|rfl
    .skip
     by_cases hn:ss.toList.isEmpty=true
     rotate_left
     .exact ZW
     have he1:(ss.toList==[])=true:=by cases e:ss.toList<;>simp_all
     have he2:(!ss.toList==[])=false:=by rw[he1];rfl
     by_cases hv:vv=0
     rotate_left
     .exact ZQ
     by_cases h2:2<=k
     rotate_left
     .exact ZU
     obtain⟨t1,t2,t3,t4,eg,hc1⟩:=wm HS.ok.ch (by rw[HS.o.ι];omega);rw[HS.o.ι]at t1 t2 t3 t4 hc1;have⟨J,Mm⟩:=aR (k-1);have hsn:=fun(be:1<=s.f.getD (k-1) 0)=>Ei (s:=s) (n:=(⟨15,vv,ss⟩:eE).nd) (ay rfl) hv hn (by rw[HS.o.ι];exact h2) (by rw[HS.o.ι];exact be)
     rw[HS.o.ι]at hsn;have⟨fb,JN⟩:=aR (s.f.getD (k-1) 0);have⟨ib,hib⟩:=aR (s.i.getD (k-1) 0);have⟨ob,K7⟩:=aR (s.o.getD (k-1) 0);have hNo:=fun(h:¬1<=fb)=>HS.no HXX (ml hlf (fun h'=>h Vx))
     rw[<-JN]at t2 hsn hc1;rw[<-hib]at t3 hsn;rw[<-K7]at t4 hsn;have nget:∀(l:bP) (j:Nat),j < (bD l).length->(bD l)[j]?=some ((l.getD j 0:Nat):Int):=fun l j be=>dK (CI (by rw[aS]at be;exact be))
     obtain⟨gf,of',rfl,hcF⟩:=(pa Mj.o1).θ (k:=J) RV;obtain⟨gi,oi,rfl,hcI⟩:=(pa Mj.o2).θ (k:=J) RU;obtain⟨go,oo,rfl,hcO⟩:=(pa Mj.o3).θ (k:=J) RR;have cV:=hcF J (fb:Nat) Vo;have cib:=hcI J (ib:Nat) Vn;have cob:=hcO J (ob:Nat) Vm;have ey:IntKind.i64.wrap ((k:Int)-1)=(J:Int):=Rt;have d1:J<k:=Qu;by_cases h1:1<=fb
     rotate_left
     .exact ZX
     refine PF fun a fa ia oa cfa Gq Hl hw3 hak h1' h2' S0 HS1 JM Jw HIB=>?_;clear hn h2 t1 Mm hc1 t2 JN t3 hib hsn t4 K7 hNo nget hcF hcI hcO cib cob h1
     subst hv;refine NV fun _ _ _ HYY Mj Gc n0 cfa=>?_
     clear an n2 T z1 z2;go_region_held3 (fun V=>af V ((w:Nat)+1+1) 1 (.slice (some ⟨gi,oi,none⟩) k cI)/\af V ((w:Nat)+1+1) 2 (.slice (some ⟨go,oo,none⟩) k cO)/\af V gi (oi+a) (zI (ia:Nat))/\af V gi (oi+J) (zI (ib:Nat))/\af V go (oo+a) (zI (oa:Nat))/\af V go (oo+J) (zI (ob:Nat)))
      (first|with_reducible exact S0|with_reducible exact n_ (aC _) S0) (fail)
     replace S0:=n_ (aC w3) S0
     generalize w3.drew=Y at Mj HYY Gc n0 cfa S0 ⊢;have⟨T,z1,z2⟩:=aD Mj.Β;have an:=n0;have n2:=n0;clear cV;by_cases hq:oa=ib
     rotate_left
     .have ev:((oa:Int)!=(ib:Int))=true:=QW;have HTF:=zH (HS.no HXX (HS1.2 (by show gP 15 (ia,oa) (ib,ob)=none;unfold gP;rw[ak rfl,aj hq])));clear hq;go_upto_region 23 with(fail)
      replace HYY:=zH (HYY.ext Gn Mj.le (aC Y));replace Mj:=zH (Mj.ext (aC Y));replace Gc:=zH (Gc.t ((aC Y).x Gc.size))
      replace n0:=ar (aC Y) n0;replace cfa:=ar (aC Y) cfa
      clear an n2 T z1 z2;go_region_held3 (fun V=>af V ((w:Nat)+1+1) 1 (.slice (some ⟨gi,oi,none⟩) k cI)/\af V ((w:Nat)+1+1) 2 (.slice (some ⟨go,oo,none⟩) k cO)/\af V gi (oi+a) (zI (ia:Nat))/\af V gi (oi+J) (zI (ib:Nat))/\af V go (oo+a) (zI (oa:Nat))/\af V go (oo+J) (zI (ob:Nat)))
       (first|with_reducible exact S0|with_reducible exact n_ (aC _) S0) (fail)
      replace S0:=n_ (aC Y) S0
      generalize Y.drew=bz at Mj HYY Gc n0 cfa S0 ⊢;have⟨T,z1,z2⟩:=aD Mj.Β;have an:=n0;have n2:=n0;clear n0 an n2 cfa S0;have hyy:=(HYY 1 Qu).t HY;have⟨r0,r1,r2⟩:=aD hyy;have⟨f0,f1,f2⟩:=cd hyy;have hy2:=ik (v0:=.slice (some ⟨gf,of',none⟩) k cF) (v1:=.slice (some ⟨gi,oi,none⟩) k cI) (v2:=.slice (some ⟨go,oo,none⟩) k cO) hyy;have⟨u0,u1,u2⟩:=aD hy2;clear hy2 hyy;go_wp2;exact aI (v:=.tuple (lT (some ⟨gf,of',none⟩) k cF (some ⟨gi,oi,none⟩) cI (some ⟨go,oo,none⟩) cO)) TS rfl ⟨_,_,_,_,_,_,_,_,_,by rw[HTF.o],(((Gc.setCell (p:=⟨(w:Nat)+1,0,none⟩) (by show(w:Nat)<=w+1;omega) _).setCell (p:=⟨(w:Nat)+1,1,none⟩) (by show(w:Nat)<=w+1;omega) _).setCell (p:=⟨(w:Nat)+1,2,none⟩) (by show(w:Nat)<=w+1;omega) _),fun h=>Tp⟩
     subst hq;have a9:=HS1.1 (ia,ob) (by show gP 15 (ia,oa) (oa,ob)=_;unfold gP;rw[ak rfl,ak rfl]);dsimp only at a9;obtain⟨cc,bv⟩:=HS.Y HXX a9 (by show(s.f++[fa]).length=_;rw[bm,HS.o.ι];rfl);have⟨ca,JR,HE2,Mk⟩:=gG bv (RQ:bD (s.add fa ia ob).f=bD s.f++[(fa:Int)]) (RQ:bD (s.add fa ia ob).i=bD s.i++[(ia:Int)]) (RQ:bD (s.add fa ia ob).o=bD s.o++[(ob:Int)]);have ev:((oa:Int)!=(oa:Int))=false:=Qt;clear a9 bv;go_upto_region 23 with(fail)
     replace HYY:=zH (HYY.ext Gn Mj.le (aC Y));replace Mj:=zH (Mj.ext (aC Y));replace Gc:=zH (Gc.t ((aC Y).x Gc.size))
     replace n0:=ar (aC Y) n0;replace cfa:=ar (aC Y) cfa
     clear an n2 T z1 z2;go_region_held3 (fun V=>af V ((w:Nat)+1+1) 1 (.slice (some ⟨gi,oi,none⟩) k cI)/\af V ((w:Nat)+1+1) 2 (.slice (some ⟨go,oo,none⟩) k cO)/\af V gi (oi+a) (zI (ia:Nat))/\af V gi (oi+J) (zI (oa:Nat))/\af V go (oo+a) (zI (oa:Nat))/\af V go (oo+J) (zI (ob:Nat)))
      (first|with_reducible exact S0|with_reducible exact n_ (aC _) S0) (fail)
     replace S0:=n_ (aC Y) S0
     generalize Y.drew=bz at Mj HYY Gc n0 cfa S0 ⊢;have⟨T,z1,z2⟩:=aD Mj.Β;have an:=n0;have n2:=n0;go_upto_region 25 with(fail)
     replace HYY:=zH (HYY.ext Gn Mj.le (aC bz));replace Mj:=zH (Mj.ext (aC bz));replace Gc:=zH (Gc.t ((aC bz).x Gc.size))
     replace n0:=ar (aC bz) n0;replace cfa:=ar (aC bz) cfa
     clear an n2 T z1 z2;go_region_held3 (fun V=>af V ((w:Nat)+1+1) 1 (.slice (some ⟨gi,oi,none⟩) k cI)/\af V ((w:Nat)+1+1) 2 (.slice (some ⟨go,oo,none⟩) k cO)/\af V gi (oi+a) (zI (ia:Nat))/\af V gi (oi+J) (zI (oa:Nat))/\af V go (oo+a) (zI (oa:Nat))/\af V go (oo+J) (zI (ob:Nat)))
      (first|with_reducible exact S0|with_reducible exact n_ (aC _) S0) (fail)
     replace S0:=n_ (aC bz) S0
     generalize bz.drew=b0 at Mj HYY Gc n0 cfa S0 ⊢;have⟨T,z1,z2⟩:=aD Mj.Β;have an:=n0;have n2:=n0;clear S0;have ej:(ia:Int)<=12:=by have:=JM.o;omega
     have ek:(ob:Int)<=12:=by have:=Jw.o;omega
     have⟨a3,cB,b9⟩:=er (Mj.ext (aC b0)) (HYY.ext Gn Mj.le (aC b0)) (Gc.t ((aC b0).x Gc.size));have bg:=ar (aC b0) T;have cW:=ar (aC b0) cfa;go_upto_region 28 with(fail)
     clear T z1 z2 n0 an n2;refine cU (S:=fun V=>af V ((w:Nat)+1+1) 0 (.slice (some ⟨gf,of',none⟩) k cF)) 10 QT bg (fun hHeld=>?_);refine Qi ?_;refine cm 6 fun K hK=>?_
     go_simp;refine hK.out _ _ (fun _=>bg) (fun hHeld=>?_);clear hK K hHeld;refine P9 ?_;refine Ny fun K hK=>?_
     refine hK.out _ _ (fun _=>ar (aw _ _) bg) (fun hHeld=>?_);clear hK K hHeld;refine P9 ?_;refine cm 8 fun K hK=>?_
     refine im qy rfl (.tmp 180) (.tmp 186) rfl W (b0.drew.alloc (.cells (bK (fa:Int)) 3)) (.slice (some ⟨gf,of',none⟩) k cF) (bD s.f) (fa:Int) [.int .i64 (fa:Int)] b0.drew ((a3.o1).ext (aw _ _)) rfl SU (kn.d ((a3.o1).ext (aw _ _)) (aZ a3.le (aw _ _).size) fun _=>rfl) RV (aZ a3.le (aw _ _).size) rfl rfl (aH b0.drew _ rfl) ?_;intro bq bn ck H ad ac G;rw[Ii.o]at H ⊢;have⟨U,D⟩:=X3.zlD a3 ad ac G H;have⟨ao,a2,p2⟩:=aD D;have⟨ah,ap,am⟩:=cd D;obtain⟨Z,a5,bh⟩:=er U (((b9.alloc b9.size (.cells (bK (fa:Int)) 3)).t (G.x Sx)).setCell (p:=⟨(w:Nat)+1+1,0,none⟩) (by show(w:Nat)<=w+1+1;omega) (.slice (bH bq) (k+1) bn)) (xw.S (i:=0) (x:=.slice (bH bq) (k+1) bn) (cB.ext Gn a3.le (aw _ _)) Gn G);clear H ad ac G U D;refine hK.out _ _ (fun _=>ao) (fun hHeld=>?_);clear hK K hHeld;refine P9 ?_;refine cm 9 fun K hK=>?_
     go_simp;refine hK.out _ _ (fun _=>ao) (fun hHeld=>?_);clear hK K hHeld;refine P9 ?_;refine cm 10 fun K hK=>?_
     go_simp;refine Qn ?_;clear K hK;refine gM QT ?_ _;clear bg cW cfa;clear ao a2 p2 ah ap am;try clear T z1 z2
     generalize ck.setCell ⟨(w:Nat)+1+1,0,none⟩ _=a7 at Z a5 bh ⊢;have⟨T,z1,z2⟩:=aD Z.Β;go_upto_region 30 with((at_builtin;refine de qy rfl (.tmp 190) (.tmp 192) rfl W (a7.alloc (.cells (bK (ia:Int)) 3)) (.slice (some ⟨gi,oi,none⟩) k cI) (bD s.i) (ia:Int) [.int .i64 (ia:Int)] a7 ((Z.o2).ext (aw _ _)) rfl SU (kn.d ((Z.o2).ext (aw _ _)) (aZ Z.le (aw _ _).size) fun _=>rfl) RU (aZ Z.le (aw _ _).size) rfl rfl (aH a7 _ rfl) ?_;intro br bo cn H ad ac G;rw[JQ.o]at H ⊢;have⟨U,D⟩:=X3.ziI Z ad ac G H;have⟨ao,a2,p2⟩:=aD D;have ah:=aK D 0;have ap:=aK D 1;have am:=aK D 2;have ab:=zH U;have a6:=zH (((a5.alloc a5.size (.cells (bK (ia:Int)) 3)).t (G.x Sx)).setCell (p:=⟨(w:Nat)+1+1,1,none⟩) (by show(w:Nat)<=w+1+1;omega) (.slice (bH br) (k+1) bo));have bi:=zH (xw.S (i:=1) (x:=.slice (bH br) (k+1) bo) (bh.ext Gn Z.le (aw _ _)) Gn G);clear H ad ac G U D))
     clear ao a2 p2 ah ap am;try clear T z1 z2
     generalize cn.setCell ⟨(w:Nat)+1+1,1,none⟩ _=a8 at ab a6 bi ⊢;have⟨T,z1,z2⟩:=aD ab.Β;go_wp2_with ((at_builtin;refine de qy rfl (.tmp 196) (.tmp 198) rfl W (a8.alloc (.cells (bK (ob:Int)) 3)) (.slice (some ⟨go,oo,none⟩) k cO) (bD s.o) (ob:Int) [.int .i64 (ob:Int)] a8 ((ab.o3).ext (aw _ _)) rfl SU (kn.d ((ab.o3).ext (aw _ _)) (aZ ab.le (aw _ _).size) fun _=>rfl) RR (aZ ab.le (aw _ _).size) rfl rfl (aH a8 _ rfl) ?_;intro bu bp w3 H ad ac G;rw[JS.o]at H ⊢;have⟨U,D⟩:=X3.ziJ ab ad ac G H;have⟨ao,a2,p2⟩:=aD D;have ah:=aK D 0;have ap:=aK D 1;have am:=aK D 2;have HX3:=zH U;have a1:=zH (((a6.alloc a6.size (.cells (bK (ob:Int)) 3)).t (G.x Sx)).setCell (p:=⟨(w:Nat)+1+1,2,none⟩) (by show(w:Nat)<=w+1+1;omega) (.slice (bH bu) (k+1) bp));have cb:=zH (xw.S (i:=2) (x:=.slice (bH bu) (k+1) bp) (bi.ext Gn ab.le (aw _ _)) Gn G);clear H ad ac G U D))
     go_roundw
     case rel=>exact⟨k+1,s.add fa ia ob,cc,_,_,_,_,_,_,Qx,ca,Uy,cb,a1⟩
     case measure=>simp[intOf];omega
    .skip
     by_cases hn:ss.toList.isEmpty=true
     rotate_left
     .exact ZW
     have he1:(ss.toList==[])=true:=by cases e:ss.toList<;>simp_all
     have he2:(!ss.toList==[])=false:=by rw[he1];rfl
     by_cases hv:vv=0
     rotate_left
     .exact ZQ
     by_cases h2:2<=k
     rotate_left
     .exact ZU
     obtain⟨t1,t2,t3,t4,eg,hc1⟩:=wm HS.ok.ch (by rw[HS.o.ι];omega);rw[HS.o.ι]at t1 t2 t3 t4 hc1;have⟨J,Mm⟩:=aR (k-1);have hsn:=fun(be:1<=s.f.getD (k-1) 0)=>Ei (s:=s) (n:=(⟨16,vv,ss⟩:eE).nd) (au rfl) hv hn (by rw[HS.o.ι];exact h2) (by rw[HS.o.ι];exact be)
     rw[HS.o.ι]at hsn;have⟨fb,JN⟩:=aR (s.f.getD (k-1) 0);have⟨ib,hib⟩:=aR (s.i.getD (k-1) 0);have⟨ob,K7⟩:=aR (s.o.getD (k-1) 0);have hNo:=fun(h:¬1<=fb)=>HS.no HXX (ml hlf (fun h'=>h Vx))
     rw[<-JN]at t2 hsn hc1;rw[<-hib]at t3 hsn;rw[<-K7]at t4 hsn;have nget:∀(l:bP) (j:Nat),j < (bD l).length->(bD l)[j]?=some ((l.getD j 0:Nat):Int):=fun l j be=>dK (CI (by rw[aS]at be;exact be))
     obtain⟨gf,of',rfl,hcF⟩:=(pa Mj.o1).θ (k:=J) RV;obtain⟨gi,oi,rfl,hcI⟩:=(pa Mj.o2).θ (k:=J) RU;obtain⟨go,oo,rfl,hcO⟩:=(pa Mj.o3).θ (k:=J) RR;have cV:=hcF J (fb:Nat) Vo;have cib:=hcI J (ib:Nat) Vn;have cob:=hcO J (ob:Nat) Vm;have ey:IntKind.i64.wrap ((k:Int)-1)=(J:Int):=Rt;have d1:J<k:=Qu;by_cases h1:1<=fb
     rotate_left
     .exact ZX
     refine PF fun a fa ia oa cfa Gq Hl hw3 hak h1' h2' S0 HS1 JM Jw HIB=>?_;clear hn h2 t1 Mm hc1 t2 JN t3 hib hsn t4 K7 hNo nget hcF hcI hcO cib cob h1
     subst hv;refine NV fun _ _ _ HYY Mj Gc n0 cfa=>?_
     clear an n2 T z1 z2;go_region_held3 (fun V=>af V ((w:Nat)+1+1) 1 (.slice (some ⟨gi,oi,none⟩) k cI)/\af V ((w:Nat)+1+1) 2 (.slice (some ⟨go,oo,none⟩) k cO)/\af V gi (oi+a) (zI (ia:Nat))/\af V gi (oi+J) (zI (ib:Nat))/\af V go (oo+a) (zI (oa:Nat))/\af V go (oo+J) (zI (ob:Nat)))
      (first|with_reducible exact S0|with_reducible exact n_ (aC _) S0) (fail)
     replace S0:=n_ (aC w3) S0
     generalize w3.drew=Y at Mj HYY Gc n0 cfa S0 ⊢;have⟨T,z1,z2⟩:=aD Mj.Β;have an:=n0;have n2:=n0;clear cV;by_cases hq:ia+ib<=12/\oa+ob<=12
     rotate_left
     .have HTF:=zH (HS.no HXX (HS1.2 (by show gP 16 (ia,oa) (ib,ob)=none;unfold gP;rw[aj Qw,ak rfl,aj hq])));clear cfa S0;by_cases eB:(12:Int) < (ia:Int)+(ib:Int)
      .exact ZT
      .have e0:(12:Int) < (oa:Int)+(ob:Int):=Qu;exact ZT
     have a9:=HS1.1 (ia+ib,oa+ob) (by show gP 16 (ia,oa) (ib,ob)=_;unfold gP;rw[aj Qw,ak rfl,ak hq]);dsimp only at a9;obtain⟨cc,bv⟩:=HS.Y HXX a9 (by show(s.f++[fa]).length=_;rw[bm,HS.o.ι];rfl);have⟨ca,JR,HE2,Mk⟩:=gG bv (RQ:bD (s.add fa (ia+ib) (oa+ob)).f=bD s.f++[(fa:Int)]) (RQ:bD (s.add fa (ia+ib) (oa+ob)).i=bD s.i++[(ia:Int)+(ib:Int)]) (RQ:bD (s.add fa (ia+ib) (oa+ob)).o=bD s.o++[(oa:Int)+(ob:Int)]);have ej:(ia:Int)+(ib:Int)<=12:=Qu;have ek:(oa:Int)+(ob:Int)<=12:=Qu;clear a9 bv hq S0;have⟨a3,cB,b9⟩:=er (Mj.ext (aC Y)) (HYY.ext Gn Mj.le (aC Y)) (Gc.t ((aC Y).x Gc.size));have bg:=ar (aC Y) T;have cW:=ar (aC Y) cfa;go_upto_region 28 with(fail)
     clear T z1 z2 n0 an n2;refine cU (S:=fun V=>af V ((w:Nat)+1+1) 0 (.slice (some ⟨gf,of',none⟩) k cF)) 10 QT bg (fun hHeld=>?_);refine Qi ?_;refine cm 6 fun K hK=>?_
     go_simp;refine hK.out _ _ (fun _=>bg) (fun hHeld=>?_);clear hK K hHeld;refine P9 ?_;refine Ny fun K hK=>?_
     refine hK.out _ _ (fun _=>ar (aw _ _) bg) (fun hHeld=>?_);clear hK K hHeld;refine P9 ?_;refine cm 8 fun K hK=>?_
     refine im qy rfl (.tmp 180) (.tmp 186) rfl W (Y.drew.alloc (.cells (bK (fa:Int)) 3)) (.slice (some ⟨gf,of',none⟩) k cF) (bD s.f) (fa:Int) [.int .i64 (fa:Int)] Y.drew ((a3.o1).ext (aw _ _)) rfl SU (kn.d ((a3.o1).ext (aw _ _)) (aZ a3.le (aw _ _).size) fun _=>rfl) RV (aZ a3.le (aw _ _).size) rfl rfl (aH Y.drew _ rfl) ?_;intro bq bn ck H ad ac G;rw[Ii.o]at H ⊢;have⟨U,D⟩:=X3.zlD a3 ad ac G H;have⟨ao,a2,p2⟩:=aD D;have⟨ah,ap,am⟩:=cd D;obtain⟨Z,a5,bh⟩:=er U (((b9.alloc b9.size (.cells (bK (fa:Int)) 3)).t (G.x Sx)).setCell (p:=⟨(w:Nat)+1+1,0,none⟩) (by show(w:Nat)<=w+1+1;omega) (.slice (bH bq) (k+1) bn)) (xw.S (i:=0) (x:=.slice (bH bq) (k+1) bn) (cB.ext Gn a3.le (aw _ _)) Gn G);clear H ad ac G U D;refine hK.out _ _ (fun _=>ao) (fun hHeld=>?_);clear hK K hHeld;refine P9 ?_;refine cm 9 fun K hK=>?_
     go_simp;refine hK.out _ _ (fun _=>ao) (fun hHeld=>?_);clear hK K hHeld;refine P9 ?_;refine cm 10 fun K hK=>?_
     go_simp;refine Qn ?_;clear K hK;refine gM QT ?_ _;clear bg cW cfa;clear ao a2 p2 ah ap am;try clear T z1 z2
     generalize ck.setCell ⟨(w:Nat)+1+1,0,none⟩ _=a7 at Z a5 bh ⊢;have⟨T,z1,z2⟩:=aD Z.Β;go_upto_region 30 with((at_builtin;refine de qy rfl (.tmp 190) (.tmp 192) rfl W (a7.alloc (.cells (bK ((ia:Int)+(ib:Int))) 3)) (.slice (some ⟨gi,oi,none⟩) k cI) (bD s.i) ((ia:Int)+(ib:Int)) [.int .i64 ((ia:Int)+(ib:Int))] a7 ((Z.o2).ext (aw _ _)) rfl SU (kn.d ((Z.o2).ext (aw _ _)) (aZ Z.le (aw _ _).size) fun _=>rfl) RU (aZ Z.le (aw _ _).size) rfl rfl (aH a7 _ rfl) ?_;intro br bo cn H ad ac G;rw[JQ.o]at H ⊢;have⟨U,D⟩:=X3.ziI Z ad ac G H;have⟨ao,a2,p2⟩:=aD D;have ah:=aK D 0;have ap:=aK D 1;have am:=aK D 2;have ab:=zH U;have a6:=zH (((a5.alloc a5.size (.cells (bK ((ia:Int)+(ib:Int))) 3)).t (G.x Sx)).setCell (p:=⟨(w:Nat)+1+1,1,none⟩) (by show(w:Nat)<=w+1+1;omega) (.slice (bH br) (k+1) bo));have bi:=zH (xw.S (i:=1) (x:=.slice (bH br) (k+1) bo) (bh.ext Gn Z.le (aw _ _)) Gn G);clear H ad ac G U D))
     clear ao a2 p2 ah ap am;try clear T z1 z2
     generalize cn.setCell ⟨(w:Nat)+1+1,1,none⟩ _=a8 at ab a6 bi ⊢;have⟨T,z1,z2⟩:=aD ab.Β;go_wp2_with ((at_builtin;refine de qy rfl (.tmp 196) (.tmp 198) rfl W (a8.alloc (.cells (bK ((oa:Int)+(ob:Int))) 3)) (.slice (some ⟨go,oo,none⟩) k cO) (bD s.o) ((oa:Int)+(ob:Int)) [.int .i64 ((oa:Int)+(ob:Int))] a8 ((ab.o3).ext (aw _ _)) rfl SU (kn.d ((ab.o3).ext (aw _ _)) (aZ ab.le (aw _ _).size) fun _=>rfl) RR (aZ ab.le (aw _ _).size) rfl rfl (aH a8 _ rfl) ?_;intro bu bp w3 H ad ac G;rw[JS.o]at H ⊢;have⟨U,D⟩:=X3.ziJ ab ad ac G H;have⟨ao,a2,p2⟩:=aD D;have ah:=aK D 0;have ap:=aK D 1;have am:=aK D 2;have HX3:=zH U;have a1:=zH (((a6.alloc a6.size (.cells (bK ((oa:Int)+(ob:Int))) 3)).t (G.x Sx)).setCell (p:=⟨(w:Nat)+1+1,2,none⟩) (by show(w:Nat)<=w+1+1;omega) (.slice (bH bu) (k+1) bp));have cb:=zH (xw.S (i:=2) (x:=.slice (bH bu) (k+1) bp) (bi.ext Gn ab.le (aw _ _)) Gn G);clear H ad ac G U D))
     go_roundw
     case rel=>exact⟨k+1,s.add fa (ia+ib) (oa+ob),cc,_,_,_,_,_,_,Qx,ca,Uy,cb,a1⟩
     case measure=>simp[intOf];omega
   .rw[hlf]at b2;have em:a0<=14:=by
     have:=hlf;unfold dI at this;simp only[bN]at this;have c5:=this.2;split at c5
     .omega
     .split at c5
      .omega
      .simp at c5;omega
    have ei:(a0==17)=false:=QW;have⟨a,ha⟩:=aR (pC ⟨a0,vv,ss.toList.isEmpty⟩);have⟨ba,c6⟩:=aR (sC ⟨a0,vv,ss.toList.isEmpty⟩);have ct:=zH (show ∀V,az 194 (cY (dN a0 vv ss)) V fun e w'=>e=.returned (.tuple (iL a ba))/\ag V w' from fun V=>by rw[ha,c6,<-(Ÿ hlf).1,<-(Ÿ hlf).2];exact Ce a0 vv ss V)
    have a9:=ze1 (s:=s) hlf;rw[<-ha,<-c6,HS.o.ι]at a9;obtain⟨cc,bv⟩:=HS.Y HXX a9 (by show(s.f++[k]).length=_;rw[bm,HS.o.ι];rfl);have⟨ca,JR,HE2,Mk⟩:=gG bv (RQ:bD (s.add k a ba).f=bD s.f++[(k:Int)]) (RQ:bD (s.add k a ba).i=bD s.i++[(a:Int)]) (RQ:bD (s.add k a ba).o=bD s.o++[(ba:Int)]);clear a9 bv ha c6 em hlf;go_upto_region 14 with(first|(go_at_call 193;refine(b2.o _).x ?_;rintro e w3 ⟨rfl,av⟩;have b8:=ar av n0;have c9:=ar av an;have db:=ar av n2;have a1:=zH av;clear av)|(go_at_call 194;refine(ct.o _).x ?_;rintro e Y ⟨rfl,bd⟩;have d4:=ar bd b8;have b1:=zH (aT a1 bd);clear bd))
    clear n0 an n2 b8 c9 db d4;have⟨Mj,HYY,Gc⟩:=er (bc.ext b1) (b6.ext Gn bc.le b1) (aT b5 b1);have⟨T,z1,z2⟩:=aD Mj.Β;clear bc b6 b5 cz b2;go_upto_region 15 with((at_builtin;refine de qy rfl (.tmp 68) (.tmp 70) rfl W (Y.alloc (.cells (bK (k:Int)) 3)) (.slice F k cF) (bD s.f) (k:Int) [.int .i64 (k:Int)] Y ((Mj.o1).ext (aw _ _)) rfl SU (kn.d ((Mj.o1).ext (aw _ _)) (aZ Mj.le (aw _ _).size) fun _=>rfl) RV (aZ Mj.le (aw _ _).size) rfl rfl (aH Y _ rfl) ?_;intro bq bn ck H ad ac G;rw[Ii.o]at H ⊢;have⟨U,D⟩:=X3.zlD Mj ad ac G H;have⟨ao,a2,p2⟩:=aD D;have ah:=aK D 0;have ap:=aK D 1;have am:=aK D 2;have Z:=zH U;have a5:=zH (((Gc.alloc Gc.size (.cells (bK (k:Int)) 3)).t (G.x Sx)).setCell (p:=⟨(w:Nat)+1+1,0,none⟩) (by show(w:Nat)<=w+1+1;omega) (.slice (bH bq) (k+1) bn));have bh:=zH (xw.S (i:=0) (x:=.slice (bH bq) (k+1) bn) (HYY.ext Gn Mj.le (aw _ _)) Gn G);clear H ad ac G U D))
    clear ao a2 p2 ah ap am;try clear T z1 z2
    generalize ck.setCell ⟨(w:Nat)+1+1,0,none⟩ _=a7 at Z a5 bh ⊢;have⟨T,z1,z2⟩:=aD Z.Β;go_upto_region 16 with((at_builtin;refine de qy rfl (.tmp 74) (.tmp 76) rfl W (a7.alloc (.cells (bK (a:Int)) 3)) (.slice I k cI) (bD s.i) (a:Int) [.int .i64 (a:Int)] a7 ((Z.o2).ext (aw _ _)) rfl SU (kn.d ((Z.o2).ext (aw _ _)) (aZ Z.le (aw _ _).size) fun _=>rfl) RU (aZ Z.le (aw _ _).size) rfl rfl (aH a7 _ rfl) ?_;intro br bo cn H ad ac G;rw[JQ.o]at H ⊢;have⟨U,D⟩:=X3.ziI Z ad ac G H;have⟨ao,a2,p2⟩:=aD D;have ah:=aK D 0;have ap:=aK D 1;have am:=aK D 2;have ab:=zH U;have a6:=zH (((a5.alloc a5.size (.cells (bK (a:Int)) 3)).t (G.x Sx)).setCell (p:=⟨(w:Nat)+1+1,1,none⟩) (by show(w:Nat)<=w+1+1;omega) (.slice (bH br) (k+1) bo));have bi:=zH (xw.S (i:=1) (x:=.slice (bH br) (k+1) bo) (bh.ext Gn Z.le (aw _ _)) Gn G);clear H ad ac G U D))
    clear ao a2 p2 ah ap am;try clear T z1 z2
    generalize cn.setCell ⟨(w:Nat)+1+1,1,none⟩ _=a8 at ab a6 bi ⊢;have⟨T,z1,z2⟩:=aD ab.Β;go_wp2_with ((at_builtin;refine de qy rfl (.tmp 80) (.tmp 82) rfl W (a8.alloc (.cells (bK (ba:Int)) 3)) (.slice O k cO) (bD s.o) (ba:Int) [.int .i64 (ba:Int)] a8 ((ab.o3).ext (aw _ _)) rfl SU (kn.d ((ab.o3).ext (aw _ _)) (aZ ab.le (aw _ _).size) fun _=>rfl) RR (aZ ab.le (aw _ _).size) rfl rfl (aH a8 _ rfl) ?_;intro bu bp w3 H ad ac G;rw[JS.o]at H ⊢;have⟨U,D⟩:=X3.ziJ ab ad ac G H;have⟨ao,a2,p2⟩:=aD D;have ah:=aK D 0;have ap:=aK D 1;have am:=aK D 2;have HX3:=zH U;have a1:=zH (((a6.alloc a6.size (.cells (bK (ba:Int)) 3)).t (G.x Sx)).setCell (p:=⟨(w:Nat)+1+1,2,none⟩) (by show(w:Nat)<=w+1+1;omega) (.slice (bH bu) (k+1) bp));have cb:=zH (xw.S (i:=2) (x:=.slice (bH bu) (k+1) bp) (bi.ext Gn ab.le (aw _ _)) Gn G);clear H ad ac G U D))
    go_roundw
    case rel=>exact⟨k+1,s.add k a ba,cc,_,_,_,_,_,_,Qx,ca,Uy,cb,a1⟩
    case measure=>simp[intOf];omega
  .obtain rfl:k=L.length:=by have:=a4.kl;omega
   obtain⟨dO,c0⟩:=a4.U rfl b3.o.1 b3.o.2;have⟨J,Mm⟩:=aR (L.length-1);have⟨co,c8⟩:=aR (s.f.getD (L.length-1) 0);rw[<-c8]at c0;obtain⟨gf,of',rfl,hcF⟩:=(pa bb.o1).θ (k:=J) (by rw[Ii.o];have:=b3.o;omega);have dr:=hcF J (co:Nat) (by rw[c8,Mm];exact dK (CI (by rw[a4.ι];have:=b3.o;omega)));have Gq:IntKind.i64.wrap ((L:Int)-1)=(J:Int):=by rw[bT];have:=b3.o;omega
   have d1:J<L.length:=by have:=b3.o;omega
   have D:=bb.Β;have cq:=(ce 1 Qu).t HY;have d2:wr.heap[w.heap.size]?=_:=(ce 0 Qu).t ea;have⟨T,z1,z2⟩:=aD D;have⟨r0,r1,r2⟩:=aD cq;have⟨f0,f1,f2⟩:=cd cq;have cr:=aF d2 0 rfl;have hy2:=ik (v0:=.slice (some ⟨gf,of',none⟩) L cF) (v1:=.slice I L cI) (v2:=.slice O L cO) cq;have⟨u0,u1,u2⟩:=aD hy2;have⟨cR,c7⟩:=aR (decide (co=0));have e1:((co:Int)==0)=cR:=by rw[c7,jQ];simp
   obtain⟨eb,d8,d7,HS⟩:=gG (by rw[c0,c7]:kj (cJ L)=cR) (pa bb.o1) dO a4;have d0:gf≠(w:Nat)+1:=fun e=>by obtain⟨cs,h⟩:=bb.o1;have:=(bS h.η gf rfl).1;have:=Gn.o;omega
   have cu:=zH d0;have ee:=zH (show ∀a:dM,some (⟨gf,of',none⟩:dM)=some a->(w:Nat)<=a.block from fun a e=>by
    cases e
    obtain⟨cs,h⟩:=bb.o1;have:=(bS h.η gf rfl).1;have:=Gn.o
    show(w:Nat)<=gf
    omega)
   have⟨b4,dl⟩:=bJ (Qu:(w:Nat)+1+1≠(w:Nat)+1) (Qu:w.heap.size≠(w:Nat)+1);have S0:=aQ T (aQ z1 (aQ z2 (aQ cr dr)));have d5:=zH ci;clear a4 bb ce ci hcF D cq d2 hy2 dO c0 c8 Mm c7 d0 T z1 z2 cr dr;go_upto_region 32 with(fail)
   go_region_held3 (fun V=>af V ((w:Nat)+1+1) 0 (.slice (some ⟨gf,of',none⟩) L cF)/\af V ((w:Nat)+1+1) 1 (.slice I L cI)/\af V ((w:Nat)+1+1) 2 (.slice O L cO)/\af V w 0 (.slice A L ε)/\af V gf (of'+J) (zI (co:Nat)))
    (first|with_reducible exact S0|with_reducible exact kU (aC _) S0|with_reducible exact⟨gO b4.o S0.1,gO b4.o S0.2.1,gO b4.o S0.2.2.1,gO dl.o S0.2.2.2.1,gO cu.o S0.2.2.2.2⟩|with_reducible exact kU (aC _) ⟨gO b4.o S0.1,gO b4.o S0.2.1,gO b4.o S0.2.2.1,gO dl.o S0.2.2.2.1,gO cu.o S0.2.2.2.2⟩) (fail)
   go_wp2;exact aI (v:=.tuple #[.agg #[.slice (some ⟨gf,of',none⟩) L cF,.slice I L cI,.slice O L cO],.bool cR]) TS rfl ⟨_,_,_,_,_,_,_,_,_,by rw[eb.o],(((d5.setCell (p:=⟨(w:Nat)+1,0,none⟩) (by show(w:Nat)<=w+1;omega) _).setCell (p:=⟨(w:Nat)+1,1,none⟩) (by show(w:Nat)<=w+1;omega) _).setCell (p:=⟨(w:Nat)+1,2,none⟩) (by show(w:Nat)<=w+1;omega) _).drew,fun _=>⟨s,cK,d7,HS.ok,HS.ι,rfl,ee,((zaK (b:=(w:Nat)+1) d8 fun e=>cu (by cases e;rfl)).ext (aC _))⟩⟩
section
open Go.Proofs.Tryz Go.ChangeShapes Go.WideShapes Go.ChangeAt Go.Deep Go.Joins
def μ:ownKnob prog.godebug=none:=QT
def Ζ:laidOutB prog=true:=QT
def mT:prog.cellsOf 3=1:=QT
def ţ:prog.cellsOf 26=1:=QT
def zav:prog.cellsOf 91=5:=QT
section
variable{H:Type}{enc:TypeId×Value->H}{W:aa}
def CF{x}(G:DataW.trod enc prog W 0 (fun _=>true) true J 26 [v]=some x):∃A xs ε,v=.slice A xs.length ε/\aO W A xs/\xs.length<=maxLen:=by
 rcases open_ints dR fL mT G with⟨G_,_⟩|⟨a,ι,ε,h,G_,_,ah,am,ab,_,D,_⟩
 .obtain rfl:v=.slice none 0 0:=RE;exact⟨none,[],0,rfl,ay rfl,aW _⟩
 .obtain rfl:v=.slice (some a) ι ε:=RE;simp only[p_]at ab;have Y:(h.take ι).length=ι:=QW;refine⟨some a,h.take ι,ε,by rw[Y],?_,Qu⟩;by_cases I:ι=0
  .subst I;exact ay rfl
  .obtain⟨b,o,ac⟩:=a;have O:=D 0 Qu;have Z:ac=none:=by simpa[Addr.add]using World.cell?_spot O
   subst Z;refine au ⟨b,o,rfl,fun k y T=>?_⟩;obtain⟨ad,U⟩:=bG.1 T;have F:k<h.length:=Qu;have:=D k F;have e:h.getD k 0=y:=by rw[bf,di F];rw[<-U];simp
   rw[e]at this;rwa[add_plain]at this
end
end
section
open Go.Proofs.Tryz Go.ChangeShapes Go.WideShapes Go.ChangeAt Go.Deep Go.Joins
section
variable{H:Type}{enc:TypeId×Value->H}{W:aa}
def zls{cs}{y}(an:DataW.trod enc prog W 0 (fun _=>true) true J 91 cs=some y):∃(x:j8) (A:ax) (ε:Nat),cs=[.int .i64 x.k,.int .i64 x.a,.int .i64 x.b,.int .i64 x.c,.slice A x.row ε]/\aO W A x.row/\x.row.length<=maxLen:=by
 have⟨xs,n,_,_,ao,ap,h⟩:=CZ underlying91 an;obtain⟨v0,v1,v2,v3,v4,rfl⟩:∃v0 v1 v2 v3 v4,cs=[v0,v1,v2,v3,v4]:=by
  match cs,ao.t zav with
  |[v0,v1,v2,v3,v4],_=>exact⟨v0,v1,v2,v3,v4,rfl⟩
 obtain⟨D,F,G,I,O,rfl⟩:∃D F G I O,xs=[D,F,G,I,O]:=by
  match xs,ap with
  |[D,F,G,I,O],_=>exact⟨D,F,G,I,O,rfl⟩
 have ab:=h 0 _ rfl;have ac:=h 1 _ rfl;have ad:=h 2 _ rfl;have ah:=h 3 _ rfl;have am:=h 4 _ rfl;simp only[mT,ţ,Value.cells,C0,Ċ,w_,oq,dA,dm]at ab ac ad ah am;have⟨k,T,_,_⟩:=uw fL ab;have⟨a,U,_,_⟩:=uw fL ac;have⟨b,Y,_,_⟩:=uw fL ad;have⟨c,Z,_,_⟩:=uw fL ah;obtain⟨A,row,ε,rfl,av⟩:=CF am;simp[mT]at T U Y Z;subst T U Y Z;exact⟨⟨k,a,b,c,row⟩,A,ε,rfl,av⟩
def ziH{x}(I:DataW.trod enc prog W 0 (fun _=>true) true J 25 [v]=some x):∃(A:ax) (xs:List j8) (ε:Nat),v=.slice A xs ε/\iS W A xs/\xs.length<=maxLen/\∀x∈xs,x.row.length<=maxLen:=by
 rcases open_slice underlying25 I with⟨G_,_⟩|⟨a,ι,ε,m,n,av,a0,G_,_,a1,a3,am,_,hi⟩
 .exact Yg
 .obtain rfl:v=.slice (some a) ι ε:=RE;have a2:ι<=m:=by rw[am];split<;>omega
  have F:∀i,∃x:j8,i<ι->∃A c,(∀(j:Nat) (y:aG),[Value.int .i64 x.k,.int .i64 x.a,.int .i64 x.b,.int .i64 x.c,.slice A x.row c][j]?=some y->W.cell? (a.add (i*5+j))=some y)/\aO W A x.row/\x.row.length<=maxLen:=fun i=>by
   by_cases ad:i<ι
   .obtain⟨cs,U,ao⟩:=hi i Qu;rw[zav]at U;obtain⟨x,A,c,rfl,h1,O⟩:=zls ao;have⟨_,_,ac⟩:=World.cells?_some U;refine⟨x,fun _=>⟨A,c,fun j y G=>?_,h1,O⟩⟩;have h:j<5:=(bG.1 G).1;rw[<-Go.Deep.add_add,ac j h,G]
   .exact⟨⟨0,0,0,0,[]⟩,fun I=>absurd I ad⟩
  obtain⟨X,T⟩:∃X:Nat->j8,∀i,i<ι->∃A c,(∀(j:Nat) (y:aG),[Value.int .i64 (X i).k,.int .i64 (X i).a,.int .i64 (X i).b,.int .i64 (X i).c,.slice A (X i).row c][j]?=some y->W.cell? (a.add (i*5+j))=some y)/\aO W A (X i).row/\(X i).row.length<=maxLen:=
   ⟨fun i=>Classical.choose (F i),fun i=>Classical.choose_spec (F i)⟩
  have ah:((List.range ι).map X).length=ι:=Qt;refine⟨some a,(List.range ι).map X,ε,by rw[ah],?_,Qu,fun r hr=>?_⟩
  .by_cases Z:ι=0
   .subst Z;exact ay rfl
   .obtain⟨b,o,ap⟩:=a;have an:ap=none:=by obtain⟨A,c,h1,_⟩:=T 0 Qu;exact WL
    subst an;refine au ⟨b,o,rfl,fun k x D=>?_⟩;have Y:k<ι:=by have:=(bG.1 D).1;omega
    have F:x=X k:=by simpa[Y]using D.q
    subst F;obtain⟨A,c,h1,O,_⟩:=T k Y;have h:∀(j:Nat) (y:aG),[Value.int .i64 (X k).k,.int .i64 (X k).a,.int .i64 (X k).b,.int .i64 (X k).c,.slice A (X k).row c][j]?=some y->af W b (o+k*5+j) y:=fun j y G=>by have:=h1 j y G;rwa[add_plain,<-ow]at this
    exact⟨A,c,⟨h 0 _ rfl,h 1 _ rfl,h 2 _ rfl,h 3 _ rfl,h 4 _ rfl⟩,O⟩
  .obtain⟨k,D,rfl⟩:=cH.1 hr;obtain⟨_,_,_,_,ab⟩:=T k (fj.1 D);exact ab
end
end
end Go.Proofs.YtpieilkmmiopfaaGreatDoor
