/- Parts of the walks and laws (Sc1, Sc2p, Hg1). Conditions: as stated with each. -/
import Derived.Test.YtpieilkmmiopfaaGreatDoorPk18
import Derived.Test.YtpieilkmmiopfaaGreatDoorPk20
namespace Go.Proofs.YtpieilkmmiopfaaGreatDoor
open Go.RowKit Tryz
set_option linter.all false
set_option maxHeartbeats 2000000
variable{A:aq}{J W w:aa}{L:List er}{R T v0 z2:ax}{Re:List Tm}{b c i k:Nat}{t:du}{xs:aH}
def xD(k:Int):Nat:=if k=2∨k=5∨k=9 then 2 else if k=6∨k=10 then 0 else 1
def xE(k:Int):Nat:=if k=2∨k=3∨k=11 then 2 else if k=4∨k=12 then 0 else 1
theorem t_(k:Int)(w:aa):aw 151 (bs k) w fun e w'=>e=.returned (.tuple (bf (xD k:Nat) (xE k:Nat)))/\w=w':=by
 by_cases h2:k=2
 .subst h2;rw[show xD 2=2 by decide,show xE 2=2 by decide];go_enter lS,lT
  go_wp2;exact aE (v:=.tuple #[.int .i64 2,.int .i64 2]) (by simp[results,lU,go_sem, *]) rfl ⟨rfl,rfl⟩
 by_cases h3:k=3
 .subst h3;rw[show xD 3=1 by decide,show xE 3=2 by decide];exact Yr
 by_cases D:k=11
 .subst D;rw[show xD 11=1 by decide,show xE 11=2 by decide];exact Yr
 by_cases h4:k=4
 .subst h4;rw[show xD 4=1 by decide,show xE 4=0 by decide];exact XZ
 by_cases F:k=12
 .subst F;rw[show xD 12=1 by decide,show xE 12=0 by decide];exact XZ
 by_cases h5:k=5
 .subst h5;rw[show xD 5=2 by decide,show xE 5=1 by decide];exact Yq
 by_cases H:k=9
 .subst H;rw[show xD 9=2 by decide,show xE 9=1 by decide];exact Yq
 by_cases G:k=6
 .subst G;rw[show xD 6=0 by decide,show xE 6=1 by decide];exact XY
 by_cases h:k=10
 .subst h;rw[show xD 10=0 by decide,show xE 10=1 by decide];exact XY
 rw[show xD k=1 by unfold xD;rw[av Rr,av Rr],show xE k=1 by unfold xE;rw[av Rr,av Rr]];have O:(k==2)=false:=Sm;have R:(k==3)=false:=Sg;have J:(k==11)=false:=by simpa using D
 have T:(k==4)=false:=Sf;have N:(k==12)=false:=by simpa using F
 have U:(k==5)=false:=Se;have Y:(k==9)=false:=by simpa using H
 have V:(k==6)=false:=by simpa using G
 have I:(k==10)=false:=by simpa using h
 clear h2 h3 D h4 F h5 H G h;go_enter lS,lT
 go_wp2;exact aE (v:=.tuple #[.int .i64 1,.int .i64 1]) (by simp[results,lU,go_sem, *]) rfl ⟨rfl,rfl⟩
def taI(k v:Int):Int:=if k=1 then v else(xD k:Nat)
def taO(k v:Int):Int:=if k=1 then v else(xE k:Nat)
theorem yf(k v:Int)(s:ByteArray)(w:aa):aw 194 (cy (dG k v s)) w fun e w'=>e=.returned (.tuple (bf (taI k v) (taO k v)))/\ag w w':=by
 by_cases h1:k=1
 .subst h1;rw[show taI 1 v=v from rfl,show taO 1 v=v from rfl];obtain⟨h,D⟩:=bA w (.cells #[.int .i64 1,v,.string s] 95);go_enter func194,ntmps194
  go_upto_region 1 with(fail)
  generalize w.alloc _=W at h D ⊢;obtain⟨N,c1,c2⟩:=aG D;have F:=zH h;clear h D;go_wp2_with fail
  go_region_held3 (fun J=>ae J w.heap.size 1 (.int .i64 v)) (first|exact c1) (fail)
  go_wp2;exact aE (v:=.tuple (bf v v)) U1 rfl ⟨rfl,F.o.drew⟩
 .rw[show taI k v=(xD k:Nat) by unfold taI;rw[av h1],show taO k v=(xE k:Nat) by unfold taO;rw[av h1]];have O:(k==1)=false:=Sl;obtain⟨a,G⟩:=aM (xD k);obtain⟨b,H⟩:=aM (xE k);have I:=zH (show ∀W,aw 151 (bs k) W fun e w'=>e=.returned (.tuple (gl a b))/\W=w' from fun W=>by rw[G,H];exact t_ k W);rw[<-G,<-H];clear h1 G H;obtain⟨h,D⟩:=bA w (.cells (dG k v s) 95);go_enter func194,ntmps194
  go_upto_region 1 with(fail)
  generalize w.alloc _=W at h D ⊢;obtain⟨N,c1,c2⟩:=aG D;have F:=zH h;clear h D;go_wp2_with (go_at_call 151;refine(I.o _).mono ?_;rintro e w' ⟨rfl,rfl⟩)
  exact aE (v:=.tuple (gl a b)) U1 rfl ⟨rfl,F.o⟩
theorem AK(k v:Int)(s:ByteArray)(w:aa):aw 193 (cy (dG k v s)) w (dM w (dh ⟨k,v,s.toList.isEmpty⟩)):=by
 have D:s.toList.isEmpty=(s.toList==[]):=by cases s.toList <;>rfl
 rw[D];clear D;cases he:(s.toList==[])
 .have F:(!s.toList==[])=true:=RW;rw[show dh ⟨k,v,false⟩=false from rfl];obtain⟨hB,hq⟩:=bA w (.cells (dG k v s) 95);exact Zd
 have F:(!s.toList==[])=false:=RW;cases hi:et k 1 14
 .rw[show dh ⟨k,v,true⟩=false by have:¬(1<=k/\k<=14):=Td;unfold dh;dsimp only;rw[av Rr,av Rr];simp;omega]
  exact Zj
 by_cases h1:k=1
 .subst h1;rw[show dh ⟨1,v,true⟩=et v 0 12 by simp[dh,et]];obtain⟨hB,hq⟩:=bA w (.cells #[.int .i64 1,v,.string s] 95);exact Zd
 by_cases h7:k=7
 .subst h7;rw[show dh ⟨7,v,true⟩=et v 0 96 by simp[dh,et]];obtain⟨hB,hq⟩:=bA w (.cells #[.int .i64 7,v,.string s] 95);exact Zd
 by_cases h:k=13
 .subst h;rw[show dh ⟨13,v,true⟩=et v 0 96 by simp[dh,et]];obtain⟨hB,hq⟩:=bA w (.cells #[.int .i64 13,v,.string s] 95);exact Zd
 have G:1<=k/\k<=14:=Td;rw[show dh ⟨k,v,true⟩=decide (v=0) by unfold dh;dsimp only;rw[av h1,av Rr];have:decide (2<=k)=true:=RS;rw[this,show decide (k<=14)=true by simp;omega];rfl]
 have I:(k==1)=false:=Sl;have N:(k==7)=false:=Si;have J:(k==13)=false:=by simpa using h
 have H:(v==0)=decide (v=0):=R6;generalize decide (v=0)=O at H ⊢;clear h1 h7 h G;exact Zj
theorem zb1(s:ByteArray)(w:aa):aw 195 #[bW,.string s] w fun e w'=>e=.returned (.int .i64 (-1))/\w=w':=by
 go_enter func195,ntmps195
 go_wp2;go_loopw [9] (fun i wr=>i=.int .i64 0/\wr=w) (fun _ _=>0)
 case atStart=>exact⟨rfl,rfl⟩
 case round=>
  obtain⟨rfl,rfl⟩:=hrel;exact Wn
structure z_(L:List er)(s:qV)(T:List Tm)(k:Nat):Prop where
 kl:k<=L.length
 rd:kL ((b_ L).drop k) s=kL (b_ L) ⟨[],[],[]⟩
 rt:eI ((b_ L).drop k) T=eI (b_ L) []
 ok:uJ s T
 len:s.f.length=k
theorem z_.start(L:List er):z_ L ⟨[],[],[]⟩ [] 0:=⟨aX _,rfl,rfl,⟨rfl,rfl,rfl⟩,rfl⟩
theorem z_.no{s:qV}{x:er}(h:z_ L s Re k)(F:L[k]?=some x)(D:j7 s x.nd=none):iQ (b_ L)=false:=by
 rcases zU x.nd h.ok with⟨G,_,e,_⟩|⟨-,e⟩
 .rw[D]at e;cases e
 .exact zY (by rw[<-h.rt,jN F,ic,e])
theorem z_.step{s h:qV}{x:er}(F:z_ L s Re k)(H:L[k]?=some x)(G:j7 s x.nd=some h)(N:h.f.length=k+1):∃D,z_ L h D (k+1):=by
 rcases zU x.nd F.ok with⟨O,D,e,I,J⟩|⟨e,-⟩
 .rw[G]at e;cases e
  refine⟨D,(bG.1 H).1,?_,?_,J,N⟩
  .rw[<-F.rd,jN H];show _=(match j7 s x.nd with|some h=>_|none=>_);rw[G]
  .rw[<-F.rt,jN H,ic,I]
 .rw[G]at e;cases e
theorem zat{L:List Nd}(D:1<=L.length)(F:L.length<=400):iQ L=true↔∃t,zht L t:=by
 unfold iQ jY;rw[gH D,gH F,wO,wO];constructor
 .intro h;split at h
  .rename_i t e;exact⟨t,py.2 e⟩
  .cases h
 .rintro⟨t,G⟩;rw[py.1 G];rfl
theorem z_.stop{s:qV}(H:z_ L s Re k)(I:k=L.length)(J:1<=L.length)(N:L.length<=400):kL (b_ L) ⟨[],[],[]⟩=some s/\iQ (b_ L)=decide (s.f.getD (k-1) 0=0):=by
 have D:(b_ L).length=L.length:=by simp[b_]
 have e:kL (b_ L) ⟨[],[],[]⟩=some s:=by rw[<-H.rd,iN Rr];rfl
 refine⟨e,?_⟩;rw[jz,zat Rr Rr,bX,<-zdq (fun h=>by rw[h]at D;simp at D;omega),D,I];constructor
 .rintro⟨O,F,G⟩;rw[e]at F;cases F;exact G
 .intro h;exact⟨s,e,h⟩
theorem sh{s:qV}(h:rq s k Re)(O:1<=k):k<=s.f.length/\s.f.getD (k-1) 0<k/\s.i.getD (k-1) 0<=12/\s.o.getD (k-1) 0<=12/\∃S,rq s (s.f.getD (k-1) 0) S:=by
 cases Re with
 |nil=>have:k=0:=h;omega
 |cons t S=>
  obtain⟨c,D,H,F,I,J,N,G⟩:=h;have:=t.nB;have:=Tm.CD D;exact⟨F,Rr,Rr,Rr,S,G⟩
theorem zbN{s:qV}{n:Nd}(h:dh n=true):j7 s n=some (s.add s.f.length (nW n) (qJ n)):=by unfold j7;rw[ay h]
theorem j8{s:qV}{n:Nd}(D:dh n=false)(F:¬((n.k=15∨n.k=16)/\n.v=0/\n.e=true/\2<=s.f.length/\1<=s.f.getD (s.f.length-1) 0)):j7 s n=none:=by unfold j7;rw[av (by rw[D];simp),av];rintro⟨h,G⟩;unfold BD at h;simp only[iG,bX]at h;exact F ⟨h,G⟩
theorem ze6{s:qV}{n:Nd}(D:n.k=15∨n.k=16)(I:n.v=0)(H:n.e=true)(G:2<=s.f.length)(F:1<=s.f.getD (s.f.length-1) 0):
  j7 s n=match fG n.k (s.i.getD (s.f.getD (s.f.length-1) 0-1) 0,s.o.getD (s.f.getD (s.f.length-1) 0-1) 0) (s.i.getD (s.f.length-1) 0,s.o.getD (s.f.length-1) 0)with
   |some c=>some (s.add (s.f.getD (s.f.getD (s.f.length-1) 0-1) 0) c.1 c.2)
   |none=>none:=by
 have h:BD n=true:=by unfold BD;simp only[iG,bX];exact D
 unfold j7;rw[av (by rw[Db h];simp),ay ⟨h,I,H,G,F⟩];rfl
theorem Ad{s:qV}{n:Nd}(D:n.k=15∨n.k=16)(I:n.v=0)(H:n.e=true)(G:2<=s.f.length)(F:1<=s.f.getD (s.f.length-1) 0):(∀c,fG n.k (s.i.getD (s.f.getD (s.f.length-1) 0-1) 0,s.o.getD (s.f.getD (s.f.length-1) 0-1) 0) (s.i.getD (s.f.length-1) 0,s.o.getD (s.f.length-1) 0)=some c->j7 s n=some (s.add (s.f.getD (s.f.getD (s.f.length-1) 0-1) 0) c.1 c.2))/\(fG n.k (s.i.getD (s.f.getD (s.f.length-1) 0-1) 0,s.o.getD (s.f.getD (s.f.length-1) 0-1) 0) (s.i.getD (s.f.length-1) 0,s.o.getD (s.f.length-1) 0)=none->j7 s n=none):=by have e:=ze6 D I H G F;exact⟨fun c h=>by rw[e,h],fun h=>by rw[e,h]⟩
def sN(w W V:aa):Prop:=∀j,j<2->V.heap[w.heap.size+j]?=W.heap[w.heap.size+j]?
theorem sN.ext{V:aa}(h:sN w W V)(G:w.heap.size+1+1<W.heap.size)(H:W.heap.size<=V.heap.size)(D:ag V J):sN w W J:=fun j F=>(D.block _ Rr).trans (h j F)
theorem sN.grow{V w8:aa}{x:ax}(h:sN w W V)(G:w.heap.size+1+1<W.heap.size)(D:Below W.heap.size V w8):sN w W (w8.setCell ⟨w.heap.size+1+1,i,none⟩ x):=fun j F=>
 (aZ _ _ _ _ (by show _≠w.heap.size+1+1;omega)).trans ((D.block _ Rr).trans (h j F))
def EI(_:aa)(x:Int)(c:bU):Prop:=c=[.int .i64 x]
theorem nH:RT prog 26 3 1 (.int .i64 0) 8:=⟨dY,RP,Rs,Rs,Rs⟩
theorem uS(D:bF 1 EI w A xs):aJ w A xs:=
 D.imp id fun⟨b,o,e,G⟩=>⟨b,o,e,fun k x H=>by obtain⟨c,F,h⟩:=G k x H;unfold EI at h;subst h;have:=F 0 _ rfl;rwa[eG,iM]at this⟩
theorem ma{B n:Nat}{l:aH}(h:aV 3 1 EI w B (.slice A n c) l):aJ w A l:=by
 obtain⟨F,G,e,D,-⟩:=h.view;cases e
 exact uS D
theorem zgH{k v:Int}{e:Bool}(D:dh ⟨k,v,e⟩=true):taI k v=(nW ⟨k,v,e⟩:Nat)/\taO k v=(qJ ⟨k,v,e⟩:Nat):=by
 unfold taI taO nW qJ;by_cases h:k=1
 .have:0<=v:=by unfold dh at D;dsimp only at D;rw[ay h]at D;simp at D;omega
  rw[ay h,ay h];dsimp only;rw[ay h,ay h];omega
 .rw[av h,av h];dsimp only;rw[av h,av h];unfold xD xE;constructor <;> (repeat' split) <;>omega
theorem jU{B:Nat}{V w8:aa}{o:Obj}{v1 v2:ax}{l2:aH}{g:Nat}(O:aV 3 1 EI V B v2 l2)(d:∀g,v1.ownBlock=some g->v2.ownBlock≠some g)(U:(V.alloc o).grownBy w8 v1.ownBlock)(R:v1.ownBlock=some g∨g=(V.alloc o).heap.size):aV 3 1 EI w8 B v2 l2/\v2.ownBlock≠some g:=by
 obtain⟨cs,h⟩:=O.ext (ak V o);refine⟨⟨cs,ik h.outer U ?_,h.len,fun k x c Y T=>?_⟩,fun e=>?_⟩
 .cases e:v2.ownBlock with
  |none=>exact au rfl
  |some N=>exact an fun J=>d N J.symm e
 .obtain⟨F,G,lo,hi,H,ab,ac,I⟩:=h.each k x c Y T;exact⟨F,G,lo,0,H,aX _,fun g _=>an (aX _),Fr.all fun _=>I.now⟩
 .rcases R with D|D
  .exact d g D e
  .have:=(bL h.outer g e).2;omega
structure X3(B Z:Nat)(V:aa)(v1 v2 v3:ax)(l1 l2 l3:aH):Prop where
 box:aW V Z #[v1,v2,v3] 145
 o1:aV 3 1 EI V B v1 l1
 o2:aV 3 1 EI V B v2 l2
 o3:aV 3 1 EI V B v3 l3
 d12:∀g,v1.ownBlock=some g->v2.ownBlock≠some g
 d13:∀g,v1.ownBlock=some g->v3.ownBlock≠some g
 d23:∀g,v2.ownBlock=some g->v3.ownBlock≠some g
 lt:Z<B
 le:B<=V.heap.size
theorem X3.ext{B Z:Nat}{V:aa}{v1 v2 v3:ax}{l1 l2 l3:aH}(h:X3 B Z V v1 v2 v3 l1 l2 l3)(D:ag V J):X3 B Z J v1 v2 v3 l1 l2 l3:=⟨ah h.box D,h.o1.ext D,h.o2.ext D,h.o3.ext D,h.d12,h.d13,h.d23,h.lt,aR h.le D.size⟩
theorem kM{v1 v2:ax}(d:∀g,v1.ownBlock=some g->v2.ownBlock≠some g):∀g,v2.ownBlock=some g->v1.ownBlock≠some g:=fun g e h=>d g h e
theorem pO{v2:ax}{g n cap:Nat}(D:v2.ownBlock≠some g):∀h,(Value.slice (some ⟨g,0,none⟩) n cap).ownBlock=some h->v2.ownBlock≠some h:=fun h e=>by cases e;exact D
section
variable{B Z:Nat}{V w8:aa}{v1 v2 v3:ax}{l1 l2 l3 l:aH}{o:Obj}{g n cap:Nat}
theorem X3.zhg(h:X3 B Z V v1 v2 v3 l1 l2 l3)(F:(V.alloc o).grownBy w8 v1.ownBlock)(D:v1.ownBlock=some g∨g=(V.alloc o).heap.size)(hb:Below B (V.alloc o) w8)(O:aV 3 1 EI w8 B (.slice (some ⟨g,0,none⟩) n cap) l):X3 B Z (w8.setCell ⟨Z,0,none⟩ (.slice (some ⟨g,0,none⟩) n cap)) (.slice (some ⟨g,0,none⟩) n cap) v2 v3 l l2 l3/\aW w8 Z #[v1,v2,v3] 145:=by have G:=(hb.block Z h.lt).trans (ah h.box (ak V o));have y:=bm w8 Z 0 _ _ (.slice (some ⟨g,0,none⟩) n cap) G;simp only[zA]at y;obtain⟨H,I⟩:=jU h.o2 h.d12 F D;obtain⟨J,N⟩:=jU h.o3 h.d13 F D;exact⟨⟨y,O.setCell h.lt _,H.setCell h.lt _,J.setCell h.lt _,pO I,pO N,h.d23,h.lt,VB⟩,G⟩
theorem X3.zeL(h:X3 B Z V v1 v2 v3 l1 l2 l3)(F:(V.alloc o).grownBy w8 v2.ownBlock)(D:v2.ownBlock=some g∨g=(V.alloc o).heap.size)(hb:Below B (V.alloc o) w8)(O:aV 3 1 EI w8 B (.slice (some ⟨g,0,none⟩) n cap) l):X3 B Z (w8.setCell ⟨Z,1,none⟩ (.slice (some ⟨g,0,none⟩) n cap)) v1 (.slice (some ⟨g,0,none⟩) n cap) v3 l1 l l3/\aW w8 Z #[v1,v2,v3] 145:=by have G:=(hb.block Z h.lt).trans (ah h.box (ak V o));have y:=bm w8 Z 1 _ _ (.slice (some ⟨g,0,none⟩) n cap) G;simp only[zA]at y;obtain⟨H,I⟩:=jU h.o1 (kM h.d12) F D;obtain⟨J,N⟩:=jU h.o3 h.d23 F D;exact⟨⟨y,H.setCell h.lt _,O.setCell h.lt _,J.setCell h.lt _,kM (pO I),h.d13,pO N,h.lt,VB⟩,G⟩
theorem X3.zeM(h:X3 B Z V v1 v2 v3 l1 l2 l3)(F:(V.alloc o).grownBy w8 v3.ownBlock)(D:v3.ownBlock=some g∨g=(V.alloc o).heap.size)(hb:Below B (V.alloc o) w8)(O:aV 3 1 EI w8 B (.slice (some ⟨g,0,none⟩) n cap) l):X3 B Z (w8.setCell ⟨Z,2,none⟩ (.slice (some ⟨g,0,none⟩) n cap)) v1 v2 (.slice (some ⟨g,0,none⟩) n cap) l1 l2 l/\aW w8 Z #[v1,v2,v3] 145:=by have G:=(hb.block Z h.lt).trans (ah h.box (ak V o));have y:=bm w8 Z 2 _ _ (.slice (some ⟨g,0,none⟩) n cap) G;simp only[zA]at y;obtain⟨H,I⟩:=jU h.o1 (kM h.d13) F D;obtain⟨J,N⟩:=jU h.o2 (kM h.d23) F D;exact⟨⟨y,H.setCell h.lt _,J.setCell h.lt _,O.setCell h.lt _,h.d12,kM (pO I),kM (pO N),h.lt,VB⟩,G⟩
end
theorem fE{v1 v2 x:ax}{p:dk}(h:p.block≠b)(D:w.cell? p=some x):(((w.setCell ⟨b,0,none⟩ v0).setCell ⟨b,1,none⟩ v1).setCell ⟨b,2,none⟩ v2).cell? p=some x:=(bV h).trans ((bV h).trans ((bV h).trans D))
theorem Cs{g o:Nat}{v1 v2:ax}(h:aJ w (some ⟨g,o,none⟩) xs)(G:(some g:Option Nat)=some b->False):aJ (((w.setCell ⟨b,0,none⟩ v0).setCell ⟨b,1,none⟩ v1).setCell ⟨b,2,none⟩ v2) (some ⟨g,o,none⟩) xs:=by
 rcases h with h|⟨H,I,e,D⟩
 .exact au h
 .cases e
  exact an ⟨g,o,rfl,fun k x F=>fE (fun e=>G (by rw[show g=b from e])) (D k x F)⟩
def ze7(L:List er)(w:aa)(e:Ending)(w':aa):Prop:=∃h D I F O J G R N,e=.returned (.tuple #[.agg #[.slice h D I,.slice F O J,.slice G R N],.bool (iQ (b_ L))])/\ag w w'/\
 (iQ (b_ L)=true->∃s H,kL (b_ L) ⟨[],[],[]⟩=some s/\uJ s H/\s.f.length=L.length/\D=L.length/\(∀a,h=some a->w.heap.size<=a.block)/\aJ w' h (bt s.f))
theorem fM{v1 v2:ax}(G:aW w b #[R,T,z2] t):(((w.setCell ⟨b,0,none⟩ v0).setCell ⟨b,1,none⟩ v1).setCell ⟨b,2,none⟩ v2).heap[b]?=some (.cells #[v0,v1,v2] t (0,0)):=by have h:=bm w b 0 _ _ v0 G;have D:=bm _ b 1 _ _ v1 h;have F:=bm _ b 2 _ _ v2 D;simpa using F
theorem AH(v:aH)(A:aq)(cap:Nat)(Jo:aH)(D:aq)(J:Nat)(w:aa)(G:aJ w A v)(F:aJ w D Jo)(O:v.length<=1048576)(N:Jo.length<=1048576)(H:∀i∈Jo,0<=i/\i<v.length):aw 82 (lH D Jo J A v cap) w fun e w'=>∃u,e=.returned u/\aD w' w.heap.size u (og v Jo)/\ag w w':=by
 obtain⟨HV,HA,HL⟩:=dO G F H;clear G F H;go_enter func82,ntmps82
 go_wp2;go_loopw [5,7,10] (fun u _ i wr=>∃k:Nat,k<=Jo.length/\i=.int .i64 k/\aD wr w.heap.size u ((og v Jo).take k)/\ag w wr)
  (fun _ _ i _=>Jo.length-(intOf i).toNat)
 case atStart=>exact⟨0,aX _,rfl,by simpa using aD.nil _ _,aj _ _⟩
 case round=>
  obtain⟨k,hk,rfl,I,EL⟩:=hrel;have F9:=zH I;clear I;exact ZU
theorem zbW(a b:Int)(w:aa):aw 217 (bf a b) w fun e w'=>e=.returned (.int .i64 (max a b))/\w=w':=by
 by_cases h:b<=a
 .rw[Int.max_eq_left h];rcases Int.lt_or_eq_of_le h with D|rfl
  all_goals
   go_enter func217,ntmps217
   go_wp2;go_ret
   exact⟨rfl,rfl⟩
 .have D:a<b:=Rr;rw[Int.max_eq_right Rr];go_enter func217,ntmps217
  exact Wn
theorem zaN(a b:Int)(w:aa):aw 218 (bf a b) w fun e w'=>e=.returned (.int .i64 (min a b))/\w=w':=by
 by_cases h:a<=b
 .rw[Int.min_eq_left h];rcases Int.lt_or_eq_of_le h with D|rfl
  all_goals
   go_enter func218,ntmps218
   go_wp2;go_ret
   exact⟨rfl,rfl⟩
 .have D:b<a:=Rr;rw[Int.min_eq_right Rr];go_enter func218,ntmps218
  exact Wn
theorem ka(p v G k a b c:Int)(A:aq)(cap:Nat)(rows:aN)(w:aa)(h:aq)(n F:Nat)(H:∀W,aw 146 (cy (oG k a b c h n F)) W fun e w'=>e=.returned (.tuple fg)/\ag W w'):aw 101 (iK p (ar v G A rows cap) (oG k a b c h n F)) w fun e w'=>e=.returned (.tuple (cJ bj))/\ag w w':=by
 have T:=zH H;clear H;go_enter lO,lP
 go_upto_region 2 with(go_at_call 146;refine(T.o _).mono ?_;rintro e ap ⟨rfl,D⟩)
 have I:=(below_alloc3 w (.cells (ar v G A rows cap) 57) (.cells (oG k a b c h n F) 97) (.cells bj 57));obtain⟨V,Y,O⟩:=cm w (.cells (ar v G A rows cap) 57) (.cells (oG k a b c h n F) 97) (.cells bj 57);have N:=cH D O;have J:=I.trans (D.mono (B':=w.heap.size) Sp);have U:=D.size;simp only[dt]at U;obtain⟨Z,ab,ac,ad,am,ao⟩:=dx N;have R:=zH J;clear V Y O N J D I;go_wp2;refine aE (v:=.tuple (cJ bj)) (by simp[results,eP,go_sem, *]) rfl ⟨rfl,?_⟩;exact((R.o.setCell Sp _).setCell Sp _).setCell Sp _
end Go.Proofs.YtpieilkmmiopfaaGreatDoor
