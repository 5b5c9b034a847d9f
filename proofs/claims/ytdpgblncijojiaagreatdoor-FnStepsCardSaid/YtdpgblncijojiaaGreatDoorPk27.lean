/- Parts of the walks. Conditions: as stated with each. -/
import Derived.Test.YtdpgblncijojiaaGreatDoorPk21
namespace Go.Proofs.YtdpgblncijojiaaGreatDoor
open Go.RowKit Tryz
set_option linter.all false
set_option maxHeartbeats 8000000
set_option maxRecDepth 100000
variable{A:an}{E W w:aa}{H R v0 z2:au}{L:List jJ}{b c i k:Nat}{t:dG}{xs:aG}
def nP(k:Int):Nat:=if k=2∨k=5∨k=9 then 2 else if k=6∨k=10 then 0 else 1
def qq(k:Int):Nat:=if k=2∨k=3∨k=11 then 2 else if k=4∨k=12 then 0 else 1
def tq(k:Int)(w:aa):aw 173 (bg k) w fun e w'=>e=.returned (.tuple (bP (nP k:Nat) (qq k:Nat)))/\w=w':=by
 by_cases h2:k=2
 .subst h2;rw[show nP 2=2 by decide,show qq 2=2 by decide];go_enter lZ,l0
  go_wp2;exact ax (v:=.tuple #[.int .i64 2,.int .i64 2]) (by simp[results,l5,go_sem, *]) rfl ⟨rfl,rfl⟩
 by_cases h3:k=3
 .subst h3;rw[show nP 3=1 by decide,show qq 3=2 by decide];exact YF
 by_cases D:k=11
 .subst D;rw[show nP 11=1 by decide,show qq 11=2 by decide];exact YF
 by_cases h4:k=4
 .subst h4;rw[show nP 4=1 by decide,show qq 4=0 by decide];exact Yj
 by_cases E:k=12
 .subst E;rw[show nP 12=1 by decide,show qq 12=0 by decide];exact Yj
 by_cases h5:k=5
 .subst h5;rw[show nP 5=2 by decide,show qq 5=1 by decide];exact YE
 by_cases h9:k=9
 .subst h9;rw[show nP 9=2 by decide,show qq 9=1 by decide];exact YE
 by_cases F:k=6
 .subst F;rw[show nP 6=0 by decide,show qq 6=1 by decide];exact Yi
 by_cases z:k=10
 .subst z;rw[show nP 10=0 by decide,show qq 10=1 by decide];exact Yi
 rw[show nP k=1 by unfold nP;rw[al RU,al RU],show qq k=1 by unfold qq;rw[al RU,al RU]];have O:(k==2)=false:=SG;have Q:(k==3)=false:=SE;have I:(k==11)=false:=by simpa using D
 have R:(k==4)=false:=SD;have J:(k==12)=false:=by simpa using E
 have U:(k==5)=false:=SC;have Z:(k==9)=false:=Sz;have Y:(k==6)=false:=by simpa using F
 have H:(k==10)=false:=by simpa using z
 clear h2 h3 D h4 E h5 h9 F z;go_enter lZ,l0
 go_wp2;exact ax (v:=.tuple #[.int .i64 1,.int .i64 1]) (by simp[results,l5,go_sem, *]) rfl ⟨rfl,rfl⟩
def taI(k v:Int):Int:=if k=1 then v else(nP k:Nat)
def taO(k v:Int):Int:=if k=1 then v else(qq k:Nat)
def qY(k v:Int)(s:ByteArray)(w:aa):aw 181 (cJ (gY k v s)) w fun e w'=>e=.returned (.tuple (bP (taI k v) (taO k v)))/\ai w w':=by
 by_cases h1:k=1
 .subst h1;rw[show taI 1 v=v from rfl,show taO 1 v=v from rfl];obtain⟨z,D⟩:=dK w (.cells #[.int .i64 1,v,.string s] 192);go_enter func181,ntmps181
  go_upto_region 1 with(fail)
  generalize w.alloc _=W at z D ⊢;obtain⟨J,c1,c2⟩:=aq D;have E:=zH z;clear z D;go_wp2_with fail
  go_region_held3 (fun V=>ah V w 1 (zI v)) (first|exact c1) (fail)
  go_wp2;exact ax (v:=.tuple (bP v v)) VJ rfl ⟨rfl,E.o.drew⟩
 .rw[show taI k v=(nP k:Nat) by unfold taI;rw[al h1],show taO k v=(qq k:Nat) by unfold taO;rw[al h1]];have O:(k==1)=false:=SN;obtain⟨a,F⟩:=aO (nP k);obtain⟨b,H⟩:=aO (qq k);have I:=zH (show ∀W,aw 173 (bg k) W fun e w'=>e=.returned (.tuple (ox a b))/\W=w' from fun W=>by rw[F,H];exact tq k W);rw[<-F,<-H];clear h1 F H;obtain⟨z,D⟩:=dK w (.cells (gY k v s) 192);go_enter func181,ntmps181
  go_upto_region 1 with(fail)
  generalize w.alloc _=W at z D ⊢;obtain⟨J,c1,c2⟩:=aq D;have E:=zH z;clear z D;go_wp2_with (go_at_call 173;refine(I.o _).mono ?_;rintro e w' ⟨rfl,rfl⟩)
  exact ax (v:=.tuple (ox a b)) VJ rfl ⟨rfl,E.o⟩
def zp(k v:Int)(s:ByteArray)(w:aa):aw 188 (cJ (gY k v s)) w (fC w (dZ ⟨k,v,s.toList.isEmpty⟩)):=by
 have E:s.toList.isEmpty=(s.toList==[]):=by cases s.toList <;>rfl
 rw[E];clear E;cases D:(s.toList==[])
 .have F:(!s.toList==[])=true:=by rw[D];rfl
  rw[show dZ ⟨k,v,false⟩=false from rfl];obtain⟨hB,hq⟩:=dK w (.cells (gY k v s) 192);exact Zi
 have F:(!s.toList==[])=false:=by rw[D];rfl
 cases hi:eX k 1 14
 .rw[show dZ ⟨k,v,true⟩=false by have:¬(1<=k/\k<=14):=Tr;unfold dZ;dsimp only;rw[al RU,al RU];simp;omega]
  exact Zm
 by_cases h1:k=1
 .subst h1;rw[show dZ ⟨1,v,true⟩=eX v 0 12 by simp[dZ,eX]];obtain⟨hB,hq⟩:=dK w (.cells #[.int .i64 1,v,.string s] 192);exact Zi
 by_cases h7:k=7
 .subst h7;rw[show dZ ⟨7,v,true⟩=eX v 0 96 by simp[dZ,eX]];obtain⟨hB,hq⟩:=dK w (.cells #[.int .i64 7,v,.string s] 192);exact Zi
 by_cases z:k=13
 .subst z;rw[show dZ ⟨13,v,true⟩=eX v 0 96 by simp[dZ,eX]];obtain⟨hB,hq⟩:=dK w (.cells #[.int .i64 13,v,.string s] 192);exact Zi
 have H:1<=k/\k<=14:=Tr;rw[show dZ ⟨k,v,true⟩=decide (v=0) by unfold dZ;dsimp only;rw[al h1,al RU];have:decide (2<=k)=true:=Sk;rw[this,show decide (k<=14)=true by simp;omega];rfl]
 have J:(k==1)=false:=SN;have Q:(k==7)=false:=SB;have O:(k==13)=false:=by simpa using z
 have I:(v==0)=decide (v=0):=by rw[mY];simp
 generalize decide (v=0)=R at I ⊢;clear h1 h7 z H;exact Zm
def zbu(s:ByteArray)(w:aa):aw 189 #[fe,.string s] w fun e w'=>e=.returned (zI (-1))/\w=w':=by
 go_enter func189,ntmps189
 go_wp2;go_loopw [9] (fun i wr=>i=.int .i64 0/\wr=w) (fun _ _=>0)
 case atStart=>exact⟨rfl,rfl⟩
 case round=>
  obtain⟨rfl,rfl⟩:=hrel;exact WY
structure zm(L:List jJ)(s:qC)(T:List Tm)(k:Nat):Prop where
 kl:k<=L.length
 rd:kZ ((dY L).drop k) s=kZ (dY L) ⟨[],[],[]⟩
 rt:iZ ((dY L).drop k) T=iZ (dY L) []
 ok:tS s T
 len:s.f.length=k
def zm.start(L:List jJ):zm L ⟨[],[],[]⟩ [] 0:=⟨bf _,rfl,rfl,⟨rfl,rfl,rfl⟩,rfl⟩
def zm.no{s:qC}{T:List Tm}{x:jJ}(h:zm L s T k)(D:L[k]?=some x)(z:ku s x.nd=none):pc (dY L)=false:=by
 rcases yk x.nd h.ok with⟨E,_,e,_⟩|⟨-,e⟩
 .rw[z]at e;cases e
 .exact zbr (by rw[<-h.rt,zg D,pB,e])
def zm.step{s z:qC}{T:List Tm}{x:jJ}(h:zm L s T k)(F:L[k]?=some x)(E:ku s x.nd=some z)(J:z.f.length=k+1):∃D,zm L z D (k+1):=by
 rcases yk x.nd h.ok with⟨O,D,e,H,I⟩|⟨e,-⟩
 .rw[E]at e;cases e
  refine⟨D,(bA.1 F).1,?_,?_,I,J⟩
  .rw[<-h.rd,zg F];show _=(match ku s x.nd with|some z=>_|none=>_);rw[E]
  .rw[<-h.rt,zg F,pB,H]
 .rw[E]at e;cases e
def Ek{L:List Nd}(z:1<=L.length)(D:L.length<=400):pc L=true↔∃t,zhX L t:=by
 unfold pc zbq;rw[iy z,iy D,qc,qc];constructor
 .intro h;split at h
  .rename_i t e;exact⟨t,qL.2 e⟩
  .cases h
 .rintro⟨t,E⟩;rw[qL.1 E];rfl
def zm.stop{s:qC}{T:List Tm}(h:zm L s T k)(H:k=L.length)(I:1<=L.length)(J:L.length<=400):kZ (dY L) ⟨[],[],[]⟩=some s/\pc (dY L)=decide (s.f.getD (k-1) 0=0):=by
 have D:(dY L).length=L:=by simp[dY]
 have e:kZ (dY L) ⟨[],[],[]⟩=some s:=by rw[<-h.rd,nc RU];rfl
 refine⟨e,?_⟩;rw[mY,Ek RU RU,cK,<-zcU (fun z=>by rw[z]at D;simp at D;omega),D,H];constructor
 .rintro⟨O,E,F⟩;rw[e]at E;cases E;exact F
 .intro z;exact⟨s,e,z⟩
def rK{s:qC}{T:List Tm}(h:qF s k T)(O:1<=k):k<=s.f.length/\s.f.getD (k-1) 0<k/\s.i.getD (k-1) 0<=12/\s.o.getD (k-1) 0<=12/\∃S,qF s (s.f.getD (k-1) 0) S:=by
 cases T with
 |nil=>have:k=0:=h;omega
 |cons t S=>
  obtain⟨c,z,F,D,H,I,J,E⟩:=h;have:=t.oS;have:=Tm.zcd z;exact⟨D,RU,RU,RU,S,E⟩
def zbt{s:qC}{n:Nd}(h:dZ n=true):ku s n=some (s.add s.f (pz n) (sN n)):=by unfold ku;rw[ay h]
def kA{s:qC}{n:Nd}(h:dZ n=false)(D:¬((n.k=15∨n.k=16)/\n.v=0/\n.e=true/\2<=s.f.length/\1<=s.f.getD (s.f.length-1) 0)):ku s n=none:=by unfold ku;rw[al (by rw[h];simp),al];rintro⟨z,E⟩;unfold opB at z;simp only[lQ,cK]at z;exact D ⟨z,E⟩
def zfL{s:qC}{n:Nd}(h:n.k=15∨n.k=16)(H:n.v=0)(F:n.e=true)(E:2<=s.f.length)(D:1<=s.f.getD (s.f.length-1) 0):
  ku s n=match jl n.k (s.i.getD (s.f.getD (s.f.length-1) 0-1) 0,s.o.getD (s.f.getD (s.f.length-1) 0-1) 0) (s.i.getD (s.f.length-1) 0,s.o.getD (s.f.length-1) 0)with
   |some c=>some (s.add (s.f.getD (s.f.getD (s.f.length-1) 0-1) 0) c.1 c.2)
   |none=>none:=by
 have z:opB n=true:=by unfold opB;simp only[lQ,cK];exact h
 unfold ku;rw[al (by rw[zb0 z];simp),ay ⟨z,H,F,E,D⟩];rfl
def zn{s:qC}{n:Nd}(h:n.k=15∨n.k=16)(H:n.v=0)(F:n.e=true)(E:2<=s.f.length)(D:1<=s.f.getD (s.f.length-1) 0):(∀c,jl n.k (s.i.getD (s.f.getD (s.f.length-1) 0-1) 0,s.o.getD (s.f.getD (s.f.length-1) 0-1) 0) (s.i.getD (s.f.length-1) 0,s.o.getD (s.f.length-1) 0)=some c->ku s n=some (s.add (s.f.getD (s.f.getD (s.f.length-1) 0-1) 0) c.1 c.2))/\(jl n.k (s.i.getD (s.f.getD (s.f.length-1) 0-1) 0,s.o.getD (s.f.getD (s.f.length-1) 0-1) 0) (s.i.getD (s.f.length-1) 0,s.o.getD (s.f.length-1) 0)=none->ku s n=none):=by have e:=zfL h H F E D;exact⟨fun c z=>by rw[e,z],fun z=>by rw[e,z]⟩
def sD(w W V:aa):Prop:=∀j,j<2->V.heap[(w:Nat)+j]?=W.heap[(w:Nat)+j]?
def sD.ext{V:aa}(h:sD w W V)(F:(w:Nat)+1+1<W)(H:(W:Nat)<=V)(z:ai V E):sD w W E:=fun j D=>(z.block _ RU).trans (h j D)
def sD.grow{V w8:aa}{x:au}(h:sD w W V)(E:(w:Nat)+1+1<W)(z:Below W V w8):sD w W (w8.setCell ⟨(w:Nat)+1+1,i,none⟩ x):=fun j D=>
 (bw _ _ _ _ (by show _≠(w:Nat)+1+1;omega)).trans ((z.block _ RU).trans (h j D))
def EI(_:aa)(x:Int)(c:bG):Prop:=c=[.int .i64 x]
def nD:RT prog 27 3 1 (zI 0) 8:=⟨dS,Si,RX,RX,RX⟩
def uL(h:dp 1 EI w A xs):aT w A xs:=
 h.imp id fun⟨b,o,e,E⟩=>⟨b,o,e,fun k x F=>by obtain⟨c,D,z⟩:=E k x F;unfold EI at z;subst z;have:=D 0 _ rfl;rwa[eT,jz]at this⟩
def my{B n:Nat}{l:aG}(h:bN 3 1 EI w B (.slice A n c) l):aT w A l:=by
 obtain⟨D,E,e,z,-⟩:=h.view;cases e
 exact uL z
def zhp{k v:Int}{e:Bool}(h:dZ ⟨k,v,e⟩=true):taI k v=(pz ⟨k,v,e⟩:Nat)/\taO k v=(sN ⟨k,v,e⟩:Nat):=by
 unfold taI taO pz sN;by_cases z:k=1
 .have:0<=v:=by unfold dZ at h;dsimp only at h;rw[ay z]at h;simp at h;omega
  rw[ay z,ay z];dsimp only;rw[ay z,ay z];omega
 .rw[al z,al z];dsimp only;rw[al z,al z];exact Xm
def j2{B:Nat}{V w8:aa}{o:Obj}{v1 v2:au}{l2:aG}{g:Nat}(O:bN 3 1 EI V B v2 l2)(d:∀g,v1.ownBlock=some g->v2.ownBlock≠some g)(U:(V.alloc o).grownBy w8 v1.ownBlock)(Q:v1.ownBlock=some g∨g=(V.alloc o:Nat)):bN 3 1 EI w8 B v2 l2/\v2.ownBlock≠some g:=by
 obtain⟨cs,h⟩:=O.ext (aD V o);refine⟨⟨cs,hJ h.outer U ?_,h.len,fun k x c Y R=>?_⟩,fun e=>?_⟩
 .cases e:v2.ownBlock with
  |none=>exact aF rfl
  |some J=>exact aA fun I=>d J I.symm e
 .obtain⟨D,E,lo,hi,F,ab,ac,H⟩:=h.each k x c Y R;exact⟨D,E,lo,0,F,bf _,fun g _=>aA (bf _),Fr.all fun _=>H.now⟩
 .rcases Q with z|z
  .exact d g z e
  .have:=(bZ h.outer g e).2;omega
structure X3(B Z:Nat)(V:aa)(v1 v2 v3:au)(l1 l2 l3:aG):Prop where
 box:aU V Z #[v1,v2,v3] 202
 o1:bN 3 1 EI V B v1 l1
 o2:bN 3 1 EI V B v2 l2
 o3:bN 3 1 EI V B v3 l3
 d12:∀g,v1.ownBlock=some g->v2.ownBlock≠some g
 d13:∀g,v1.ownBlock=some g->v3.ownBlock≠some g
 d23:∀g,v2.ownBlock=some g->v3.ownBlock≠some g
 lt:Z<B
 le:B<=(V:Nat)
def X3.ext{B Z:Nat}{V:aa}{v1 v2 v3:au}{l1 l2 l3:aG}(h:X3 B Z V v1 v2 v3 l1 l2 l3)(z:ai V E):X3 B Z E v1 v2 v3 l1 l2 l3:=⟨ak h.box z,h.o1.ext z,h.o2.ext z,h.o3.ext z,h.d12,h.d13,h.d23,h.lt,bc h.le z.size⟩
def lh{v1 v2:au}(d:∀g,v1.ownBlock=some g->v2.ownBlock≠some g):∀g,v2.ownBlock=some g->v1.ownBlock≠some g:=fun g e z=>d g z e
def pF{v2:au}{g n cap:Nat}(h:v2.ownBlock≠some g):∀z,(Value.slice (aY g) n cap).ownBlock=some z->v2.ownBlock≠some z:=fun z e=>by cases e;exact h
section
variable{B Z:Nat}{V w8:aa}{v1 v2 v3:au}{l1 l2 l3 l:aG}{o:Obj}{g n cap:Nat}
def X3.zib(h:X3 B Z V v1 v2 v3 l1 l2 l3)(D:(V.alloc o).grownBy w8 v1.ownBlock)(z:v1.ownBlock=some g∨g=(V.alloc o:Nat))(hb:Below B (V.alloc o) w8)(O:bN 3 1 EI w8 B (.slice (aY g) n cap) l):X3 B Z (w8.setCell ⟨Z,0,none⟩ (.slice (aY g) n cap)) (.slice (aY g) n cap) v2 v3 l l2 l3/\aU w8 Z #[v1,v2,v3] 202:=by have E:=(hb.block Z h.lt).trans (ak h.box (aD V o));have y:=bs w8 Z 0 _ _ (.slice (aY g) n cap) E;simp only[zA]at y;obtain⟨F,H⟩:=j2 h.o2 h.d12 D z;obtain⟨I,J⟩:=j2 h.o3 h.d13 D z;exact⟨⟨y,O.setCell h.lt _,F.setCell h.lt _,I.setCell h.lt _,pF H,pF J,h.d23,h.lt,WC⟩,E⟩
def X3.zeH(h:X3 B Z V v1 v2 v3 l1 l2 l3)(D:(V.alloc o).grownBy w8 v2.ownBlock)(z:v2.ownBlock=some g∨g=(V.alloc o:Nat))(hb:Below B (V.alloc o) w8)(O:bN 3 1 EI w8 B (.slice (aY g) n cap) l):X3 B Z (w8.setCell ⟨Z,1,none⟩ (.slice (aY g) n cap)) v1 (.slice (aY g) n cap) v3 l1 l l3/\aU w8 Z #[v1,v2,v3] 202:=by have E:=(hb.block Z h.lt).trans (ak h.box (aD V o));have y:=bs w8 Z 1 _ _ (.slice (aY g) n cap) E;simp only[zA]at y;obtain⟨F,H⟩:=j2 h.o1 (lh h.d12) D z;obtain⟨I,J⟩:=j2 h.o3 h.d23 D z;exact⟨⟨y,F.setCell h.lt _,O.setCell h.lt _,I.setCell h.lt _,lh (pF H),h.d13,pF J,h.lt,WC⟩,E⟩
def X3.zeI(h:X3 B Z V v1 v2 v3 l1 l2 l3)(D:(V.alloc o).grownBy w8 v3.ownBlock)(z:v3.ownBlock=some g∨g=(V.alloc o:Nat))(hb:Below B (V.alloc o) w8)(O:bN 3 1 EI w8 B (.slice (aY g) n cap) l):X3 B Z (w8.setCell ⟨Z,2,none⟩ (.slice (aY g) n cap)) v1 v2 (.slice (aY g) n cap) l1 l2 l/\aU w8 Z #[v1,v2,v3] 202:=by have E:=(hb.block Z h.lt).trans (ak h.box (aD V o));have y:=bs w8 Z 2 _ _ (.slice (aY g) n cap) E;simp only[zA]at y;obtain⟨F,H⟩:=j2 h.o1 (lh h.d13) D z;obtain⟨I,J⟩:=j2 h.o2 (lh h.d23) D z;exact⟨⟨y,F.setCell h.lt _,I.setCell h.lt _,O.setCell h.lt _,h.d12,lh (pF H),lh (pF J),h.lt,WC⟩,E⟩
end
def il{v1 v2 x:au}{p:dD}(h:p.block≠b)(z:w.cell? p=some x):(((w.setCell ⟨b,0,none⟩ v0).setCell ⟨b,1,none⟩ v1).setCell ⟨b,2,none⟩ v2).cell? p=some x:=(c_ h).trans ((c_ h).trans ((c_ h).trans z))
def BE{g o:Nat}{v1 v2:au}(h:aT w (some ⟨g,o,none⟩) xs)(E:(some g:Option Nat)=some b->False):aT (((w.setCell ⟨b,0,none⟩ v0).setCell ⟨b,1,none⟩ v1).setCell ⟨b,2,none⟩ v2) (some ⟨g,o,none⟩) xs:=by
 rcases h with h|⟨F,H,e,z⟩
 .exact aF h
 .cases e
  exact aA ⟨g,o,rfl,fun k x D=>il (fun e=>E (by rw[show g=b from e])) (z k x D)⟩
def zg1(L:List jJ)(w:aa)(e:Ending)(w':aa):Prop:=∃z D H E O I F Q J,e=.returned (.tuple #[.agg #[.slice z D H,.slice E O I,.slice F Q J],.bool (pc (dY L))])/\ai w w'/\
 (pc (dY L)=true->∃s T,kZ (dY L) ⟨[],[],[]⟩=some s/\tS s T/\s.f.length=L.length/\D=L.length/\(∀a,z=some a->(w:Nat)<=a.block)/\aT w' z (bF s.f))
def f_{v1 v2:au}(h:aU w b #[H,R,z2] t):(((w.setCell ⟨b,0,none⟩ v0).setCell ⟨b,1,none⟩ v1).setCell ⟨b,2,none⟩ v2).heap[b]?=some (.cells #[v0,v1,v2] t (0,0)):=by have z:=bs w b 0 _ _ v0 h;have D:=bs _ b 1 _ _ v1 z;have E:=bs _ b 2 _ _ v2 D;simpa using E
def Dp(W:aa)(B g cap j:Nat)(xs:aG)(h:ar W B (.slice (aY g) xs cap) xs)(Y:j<xs.length):∃(D:dD) (z:bG) (H:aa),Hd (H=W.setCells g (0+j*1) z)/\(if cap=j+1 then some (⟨g,0,none⟩:dD) else some ⟨g,j+1,none⟩)=some D/\Hd (∀t u,z[t]?=some u->W.cell? (D.add t)=some u)/\Hd (z.length=(xs.length-(j+1))*1)/\Hd (∀u∈z,u.oneCell'=true)/\Hd (∀t,t<z.length->(W.cell? ⟨g,0+j*1+t,none⟩).isSome=true/\W.frozen? ⟨g,0+j*1+t,none⟩=false)/\Hd (W.grownBy H (some g))/\Hd (ar H B (.slice (aY g) (xs.length-1) cap) (xs.eraseIdx j))/\xs.length<=cap:=by
 obtain⟨us,I⟩:=aO (xs.map (Value.int .i64));have h1:∀u∈us,u.oneCell'=true:=by rw[I];intro u hu;simp at hu;obtain⟨x,_,rfl⟩:=hu;rfl
 unfold ar at h;rw[<-I]at h;obtain⟨z,Fh⟩:=aO (us.drop (j+1));obtain⟨F_,⟨ac,_⟩|⟨am,ad,cur,ab,Q,E,Z,U,Ga,F6⟩⟩:=h
 .cases ac
 cases ab
 simp only[eT]at F_ Ga F6;have Ev:z.length=xs-(j+1):=Ug;have R:∀t,t<xs.length->cur.toList[t]?=us[t]?:=fun t ht=>Up
 have F:∀t u,z[t]?=some u->t<xs.length-(j+1):=fun t u hu=>by have:=(bA.1 hu).1;rwa[Ev]at this
 obtain⟨D,O,F⟩:∃D:dD,(if cap=j+1 then some (⟨g,0,none⟩:dD) else some ⟨g,j+1,none⟩)=some D/\(∀t u,z[t]?=some u->W.cell? (D.add t)=some u):=by
  by_cases hc:cap=j+1
  .refine⟨⟨g,0,none⟩,Sc,fun t u hu=>?_⟩;have:=F t u hu;omega
  .refine⟨⟨g,j+1,none⟩,Sc,fun t u hu=>?_⟩;have ht:=F t u hu;rw[dM];rw[aW E,R _ RU,<-hu,Fh,fL]
 have J:=dB g 3 z (0+j*1) W cur E SZ;refine⟨D,z,_,zH rfl,O,zH F,zH Ts,zH ?_,zH ?_,zH J.2,zH ?_,Z⟩
 .exact Xe
 .intro t ht;rw[Ev]at ht;refine⟨?_,aP E _⟩;rw[aW E,dA Sk];rfl
 .unfold ar;rw[<-wF,<-I,mW Y];refine⟨T9,aA ⟨g,cap,_,rfl,Q,J.1,RU,U,?_,?_⟩⟩
  .exact Xq
  .simp only[eT,iw];rw[show xs.length-1=j+z by omega,iD _ _ _ Sk,Fh,xQ,<-F6,kH,iM RU]
def zeR(p v h a b c:Int)(A:an)(cap:Nat)(rows:aE)(w:aa)(ct:an)(n d0:Nat)(cI:aX w A rows)(gs:rows.length<=160)(Et:∀r∈rows,r.length<=1000)(ev:0<=a)(f4:a<rows.length)(g1:0<=v)(g2:v<=1000)(hb:0<=b)(f5:b<=1000)(gd:1<=h)(gf:h<=1000)(Ev:∀r∈rows,v+b<r.length):aw 37 (eB p (ae v h A rows cap) (iT a b c ct n d0)) w fun e w'=>∃u,e=.returned (.agg (dE v (h-1) u))/\aJ w' w u ((rows.map (fun r=>r.eraseIdx (v+b).toNat)).eraseIdx a.toNat)/\ai w w':=by
 obtain⟨q,gB⟩:=fX (RU:0<=v+b);have e5:(v+b).toNat=q:=RU;rw[e5];have b1:=zH (show ∀r∈rows.eraseIdx a.toNat,(q:Int)<r.length/\r.length<=1000 from fun r hr=>⟨by have:=Ev r (sh hr);omega,Et r (sh hr)⟩);clear Ev;have g5:IntKind.i64.wrap (v+b)=(q:Int):=SQ;have g3:IntKind.i64.wrap (h-1)=h-1:=SQ;obtain⟨d5,d6⟩:=bS (RU:rows.length<=1048576) (show ∀r∈rows,r.length<=1048576 from fun r hr=>Uf);go_enter func37,m8
 go_wp2_with fail
 refine(iF _ _ _ _ _ _ (cI.ext (((aj _ _).alloc RS _ |>.alloc RS _).alloc SJ _)) d5 d6).mono ?_;rintro e w1 ⟨u,rfl,⟨us,hu⟩,b6⟩;obtain⟨E,ET,rfl,_,_,_⟩:=aJ.view ⟨us,hu⟩;obtain⟨da,db,dc⟩:=cA w (.cells (ae v h A rows cap) 26) (.cells (iT a b c ct n d0) 29) (.cells aQ 26);have e6:=b6.size;simp only[cg]at e6;go_upto_region 2 with(fail)
 obtain⟨W2,En⟩:=aO (w1.alloc (.cells (ae v h E rows ET) 26));rw[<-En];have b7:ai w1 W2:=Wc;have gL:(W2:Nat)=w1+1:=SH;have a1:=cC b6 b7;have F:aU W2 w1 (ae v h E rows ET) 26:=UF;have Z:=cD a1 da;have O:=cD a1 db;have a5:=cD a1 dc;have a3:bh W2 ((w:Nat)+3) (.slice E rows ET) rows us:=(hu.ext b7).mono RS;have c5:∀g',E=some ⟨g',0,none⟩->g' < (w1:Nat):=fun g' e=>VT
 have gi:∀(k:Nat) (x:au),us[k]?=some x->∀b,x.ownBlock=some b->b < (w1:Nat):=fun k x hx b hb=>Wy
 have cO:ai w W2:=(below_alloc3 w _ _ _).trans (a1.mono SJ);clear hu b6 b7 a1 cI Et da db dc En;obtain⟨j,rfl⟩:=fX ev;obtain⟨g,eA,f8,f9⟩:∃g,E=some ⟨g,0,none⟩/\(w:Nat)+3<=g/\g < (W2:Nat):=ks a3 RU;subst eA;have gc:=c5 g rfl;obtain⟨cj,cb,fa,ci,fb⟩:=cU i_;obtain⟨Fy,Fh⟩:=aO (us.drop (j+1));obtain⟨F_,⟨e9,_⟩|⟨g',fo,cur,e8,cF,G8,e3,cR,Ga,F6⟩⟩:=a3.outer
 .cases e9
 cases e8
 simp only[eT]at F_ Ga F6;have Ev:Fy.length=rows-(j+1):=Ug;have ES:∀t,t<rows.length->cur.toList[t]?=us[t]?:=fun t ht=>Up
 obtain⟨U,cz,bv⟩:∃U:dD,(if ET=j+1 then some (⟨g,0,none⟩:dD) else some ⟨g,j+1,none⟩)=some U/\Hd (∀t u,Fy[t]?=some u->W2.drew.cell? (U.add t)=some u):=Zv;have Q:Hd (Fy.length=(rows.length-(j+1))*1):=Ts;have R:Hd (∀u∈Fy,u.oneCell'=true):=by intro u hu;rw[Fh]at hu;exact oh a3 u (km hu)
 have bz:Hd (∀t,t<Fy.length->(W2.drew.cell? ⟨g,0+j*1+t,none⟩).isSome=true/\W2.drew.frozen? ⟨g,0+j*1+t,none⟩=false):=YG;obtain⟨W5,b5⟩:=aO (W2.drew.setCells g (0+j*1) Fy);have bm:=dB g 27 Fy (0+j*1) W2.drew cur G8 SZ;rw[<-b5]at bm;have D:=zH (show W2.grownBy W5 (some g) from bx (dP W2 (some g)) bm.2);have cn:=zH (show W5.ownsRow ((w:Nat)+3) 27 1 (.slice (aY g) (rows.length-1) ET) (rows.length-1) (us.eraseIdx j) by
  refine⟨T9,aA ⟨g,ET,_,rfl,cF,bm.1,RU,cR,?_,?_⟩⟩
  .exact Xq
  .simp only[eT,iw];rw[show rows.length-1=j+Fy by omega,iD _ _ _ Sk,Fh,xQ,<-F6,kH,iM RU])
 have b2:=zH b5;have gm:j<=ET:=RU;have g4:IntKind.i64.wrap ((j:Int)+1)=(j:Int)+1:=SQ;have e7:((j:Int)+1).toNat=j+1:=RU;have e0:(0:Int)<=(j:Int)+1:=RU;have e1:(j:Int)+1<=(rows:Int):=RU;clear F_ Ga F6 G8 Fh Ev b5 bm ES cF e3 cR;obtain⟨ab,ac,H,ad,am⟩:=bH O;obtain⟨a6,a7,a8⟩:=aq F;obtain⟨ba,a9,bb,ap,bd,a0⟩:=mA a3 cO Z O a5 F;clear a3 cO c5 Z O a5 F;go_upto_region 22 with(fail)
 refine bJ (S:=fun W=>ah W ((w:Nat)+1) 1 (zI j)/\ah W w1 2 (.slice (aY g) rows ET)) 13 Si R4 (fun hHeld=>?_);refine aC 0 ?_;refine aC 1 ?_;refine aC 2 ?_;refine aC 3 ?_;refine aC 4 ?_;refine aC 5 ?_;refine aC 6 ?_;refine aC 7 ?_;refine aC 8 ?_;refine aC 9 ?_;refine aC 10 ?_;refine bM 11 fun K hK=>?_
 refine si rfl (.tmp 140) (.tmp 146) 24 rfl 27 cj 1 gx cb ci g 0 j ET rfl U (rows.length-(j+1)) (ET-(j+1)) Fy rfl Q.o bv.o R.o RU bz.o ?_;rw[<-b2.o,show j+(rows.length-(j+1))=rows.length-1 by omega];have be:W5.heap[w1.heap.size]?=_:=(D.o.block _ RU SJ).trans a0;have a4:W5.heap[(w:Nat)+1]?=_:=(D.o.block _ RU SJ).trans ap;have b0:=zH be;have f2:=aP be 2;obtain⟨ao,fl,z2⟩:=aq be;obtain⟨t0,t1,t2,t3,t4⟩:=bH a4;clear be a4 ab ac H ad am a6 a7 a8;refine hK.out _ _ (fun _=>⟨t1,z2⟩) (fun hHeld=>?_);clear hK K;try simp only[Act.put,zA]
 have hHeld:=hHeld RX;refine bM 12 fun K hK=>?_
 go_simp;refine hK.out _ _ (fun _=>⟨t1,z2⟩) (fun hHeld=>?_);clear hK K;try simp only[Act.put,zA]
 have hHeld:=hHeld RX;refine bM 13 fun K hK=>?_
 go_simp;refine hK.out _ _ (fun h=>absurd h RX) (fun _=>?_);clear hK K;try simp only[Act.put,zA]
 refine eC Si ?_ _;clear ao fl z2 t0 t1 t2 t3 t4 f2 Q R bz cz bv;obtain⟨z,a2⟩:=aO (rows.eraseIdx j);have cc:rows.length-1=z:=by rw[a2,mW RU]
 have bi:=ba.erase RU cn D.o;rw[<-a2,cc]at bi;simp only[Int.toNat_natCast]at b1 ⊢;rw[cc];rw[<-a2]at b1;have d8:=zH a2;clear a2;obtain⟨Y,I⟩:=aO (W5.setCell ⟨w1,2,none⟩ (.slice (aY g) z ET));rw[<-I];obtain⟨fi,c7⟩:=aO (us.eraseIdx j);rw[<-c7]at bi;have ch:=bi.jd b0 (j:=2) (u:=.slice (aY g) z ET);rw[<-I]at ch;have F:=bs W5 w1 2 _ _ (.slice (aY g) z ET) b0;simp only[zA]at F;rw[<-I]at F;have br:∀j,j≠w1.heap.size->Y.heap[j]?=W5.heap[j]?:=fun j hj=>by rw[I];exact bw _ _ _ _ hj
 have Z:=(br w RU).trans ((D.o.block _ RU SJ).trans bb);have O:=(br ((w:Nat)+1) RU).trans ((D.o.block _ RU SJ).trans ap);have a5:=(br ((w:Nat)+1+1) RU).trans ((D.o.block _ RU SJ).trans bd);have b9:=(a9.grown D.o RU fun b hb=>SU).setCell (p:=⟨w1,2,none⟩) SJ (.slice (aY g) z ET);rw[<-I]at b9;have g0:(w1:Nat)<Y:=by have:=D.o.size;rw[I];simp;omega
 clear ba a9 bb ap bd a0 b0 cn D br bi I c7;obtain⟨ab,ac,H,ad,am⟩:=bH O;obtain⟨a6,a7,a8⟩:=aq F;obtain⟨dl,Q,R⟩:=aq Z;have f1:=aP F 1;obtain⟨ba,a9,bb,ap,bd,a0⟩:=mA ch b9 Z O a5 F;clear ch b9 Z O a5 F;go_upto_region 26 with(fail)
 obtain⟨b4,Fl⟩:=aO (Y.setCell ⟨w1,1,none⟩ (zI (h-1)));rw[<-Fl];have bo:=bs Y w1 1 _ _ (zI (h-1)) a0;simp only[zA]at bo;rw[<-Fl]at bo;have bp:∀j,j≠w1.heap.size->b4.heap[j]?=Y.heap[j]?:=fun j hj=>UW
 obtain⟨b3,eb,co,eg⟩:=fU bo ((bp _ RU).trans bb) ((bp _ RU).trans ap) ((bp _ RU).trans bd);have ce:=ba.jd a0 (j:=1) (u:=.int .i64 (h-1));rw[<-Fl]at ce;have b8:=a9.setCell (p:=⟨w1,1,none⟩) SJ (zI (h-1));rw[<-Fl]at b8;have gV:(b4:Nat)=Y:=by rw[Fl];simp
 obtain⟨Fm,d4⟩:=bS ce b8;obtain⟨fd,c6⟩:=aO fi;rw[<-c6]at Fm;clear bo bp ce b8 Fl c6;clear ab ac H ad am a6 a7 a8 dl Q R f1;obtain⟨E,ca⟩:∃E:an,E=some ⟨g,0,none⟩:=⟨_,rfl⟩;rw[<-ca]at Fm b3;simp only[<-ca];clear ca;obtain⟨ab,ac,H,ad,am⟩:=bH co;obtain⟨a6,a7,a8⟩:=aq b3;go_wp2;go_loopw [169] (fun i wr=>∃k:Nat,k<=z.length/\i=.int .i64 k/\(∃dT,bh wr ((w:Nat)+3) (.slice E z ET) (jR (fun r=>r.eraseIdx q) z k) dT)/\
   aU wr w1 (ae v (h-1) E z ET) 26/\Below ((w:Nat)+3) b4 wr)
  (fun i _=>z.length-(intOf i).toNat)
 case atStart=>exact⟨0,bf _,rfl,⟨fd,TG⟩,b3,aj _ _⟩
 case round=>
  obtain⟨k,hk,rfl,⟨dT,Eo⟩,EZ,J⟩:=hrel;clear ab ac H ad am a6 a7 a8;by_cases c0:k<z.length
  .obtain⟨r,hr⟩:=aB c0;have c4:(jR (fun r=>r.eraseIdx q) z k)[k]?=some r:=(ns _ _ _ c0).trans hr;obtain⟨g7,EX,F9⟩:=Eo.get c4;obtain⟨cc,gn⟩:=b1 r (a_ hr);obtain⟨fn,cr,rfl,_⟩:=F9.view;obtain⟨gr,rfl,ga,gb⟩:=kD F9 RU;obtain⟨g,rfl,G7,f7⟩:=ks Eo Ue;have EY:=Eo.outer;rw[dW _ _ _ hk]at EY;have ao:ah wr g k (.slice (aY gr) r cr):=Vi;have H:ah wr w1 2 (.slice (aY g) z ET):=aW EZ 2;have gw:gr≠w1.heap.size:=fun e=>X4
   have gA:g≠w1.heap.size:=fun e=>Yc
   have f0:=EY.frozenAt k;have e4:g≠gr:=X5;obtain⟨HO,HW,Fo,ea,d9⟩:=lv Eo J EZ EX hr;obtain⟨cj,cb,fa,ci,fb⟩:=cU fI;obtain⟨U,Fy,W5,b2,cz,bv,Q,R,bz,D,d7,f6⟩:=Dp wr.drew ((w:Nat)+3) gr cr q r (vE F9) RU;clear EY Eo J EZ c4 EX hr F9;have g6:IntKind.i64.wrap ((q:Int)+1)=(q:Int)+1:=SQ;have e7:((q:Int)+1).toNat=q+1:=RU;have gC:q<=cr:=RU;have e0:(0:Int)<=(q:Int)+1:=RU;have e1:(q:Int)+1<=(r:Int):=RU;have d1:ah W5 w1 2 (.slice (aY g) z ET):=D.o.cell (w:=wr.drew) H SJ;have d2:ah W5 g k (.slice (aY gr) r cr):=D.o.cell (w:=wr.drew) ao SJ;have cy:W5.frozen? ⟨g,k,none⟩=false:=frz (w:=wr.drew) D.o f0 ao e4;obtain⟨ei,d3,cu⟩:=d_ d2 cy d1;clear d2 cy d1;go_wp2_with fail
   refine bJ (S:=fun W=>ah W w1 2 (.slice (aY g) z ET)) 12 Si H (fun hHeld=>?_);refine aC 0 ?_;refine aC 1 ?_;refine aC 2 ?_;refine aC 3 ?_;refine aC 4 ?_;refine aC 5 ?_;refine aC 6 ?_;refine aC 7 ?_;refine aC 8 ?_;refine aC 9 ?_;refine bM 10 fun K hK=>?_
   refine si rfl (.tmp 179) (.tmp 183) 27 rfl 3 cj 1 dS cb ci gr 0 q cr rfl U (r.length-(q+1)) (cr-(q+1)) Fy rfl Q.o bv.o R.o RU bz.o ?_;rw[<-b2.o,show q+(r.length-(q+1))=r.length-1 by omega];refine hK.out _ _ (fun _=>cu.o) (fun hHeld=>?_);clear hK K ao f0 H;have ao:=ei.o;have f0:=d3.o;try simp only[Act.put,zA]
   have hHeld:=hHeld RX;refine bM 11 fun K hK=>?_
   go_simp;refine hK.out _ _ (fun _=>cu.o) (fun hHeld=>?_);clear hK K;try simp only[Act.put,zA]
   have hHeld:=hHeld RX;refine bM 12 fun K hK=>?_
   go_simp;refine hK.out _ _ (fun h=>absurd h RX) (fun _=>?_);clear hK K;try simp only[Act.put,zA]
   refine eC Si ?_ _;have G9:=bx (dP wr (some gr)) D.o;have G5:ar W5 ((w:Nat)+3) (.slice (aY gr) (r.length-1) cr) (r.eraseIdx q):=d7.o;have Fp:=HO.put (dW _ _ _ hk).symm ea G9 G5 (fun b hb=>aF hb);rw[iG (fun r=>r.eraseIdx q) z k r d9]at Fp;exact ZJ
  .have e2:k=z.length:=RU;subst e2;rw[nr _ _ _ (ag _)]at Eo;have c9:=EZ;have c8:=(J.block _ RU).trans eb;have a4:=(J.block _ RU).trans co;have ck:=(J.block _ RU).trans eg;obtain⟨HO,HE⟩:=bS (by(rw[wF,<-d8.o]);exact⟨_,Eo⟩:aJ wr ((w:Nat)+3) (.slice E z ET) ((rows.map (fun r=>r.eraseIdx q)).eraseIdx j)) (d4.trans (J.mono RU));clear Eo J EZ;obtain⟨ab,ac,H,ad,am⟩:=bH a4;obtain⟨dl,Q,R⟩:=aq c8;clear c8 a4;obtain⟨ej,ek,em⟩:=bT c9;obtain⟨en,eo,es⟩:=bT ck;obtain⟨fs,fz,f3⟩:=bU ck;simp only[dt,cZ]at ej ek em en eo es;clear c9 ck;go_wp2;refine ax (v:=.agg (ae v (h-1) E z ET)) UU rfl ⟨_,rfl,?_,?_⟩
   .exact YD
   .exact Yq
def zcZ(p v h a b c:Int)(A:an)(cap:Nat)(rows:aE)(w:aa)(bd:an)(n b9:Nat)(bm:aX w A rows)(e3:rows.length<=160)(Et:∀r∈rows,r.length<=1000)(fb:0<=v)(fd:v<=1000)(hb:0<=b)(eg:b<=1000)(eo:1<=h)(es:h<=1000)(Ev:∀r∈rows,v+b<r.length):aw 37 (dR p (ae v h A rows cap) (j6 a b c bd n b9)) w fun e w'=>∃u,e=.returned (.agg (dE v (h-1) u))/\aJ w' w u (rows.map (fun r=>r.eraseIdx (v+b).toNat))/\ai w w':=by
 obtain⟨q,e6⟩:=fX (RU:0<=v+b);have dT:(v+b).toNat=q:=RU;rw[dT];have cj:=zH (show ∀r∈rows,(q:Int)<r.length/\r.length<=1000 from fun r hr=>⟨Uo,Et r hr⟩);clear Ev;have fl:IntKind.i64.wrap (v+b)=(q:Int):=SQ;have fi:IntKind.i64.wrap (h-1)=h-1:=SQ;obtain⟨ck,cn⟩:=bS (RU:rows.length<=1048576) (show ∀r∈rows,r.length<=1048576 from fun r hr=>Uf);go_enter func37,m8
 go_wp2_with fail
 refine(iF _ _ _ _ _ _ (bm.ext (((aj _ _).alloc RS _ |>.alloc RS _).alloc SJ _)) ck cn).mono ?_;rintro e w1 ⟨u,rfl,⟨us,hu⟩,ap⟩;obtain⟨E,z,rfl,_,_,_⟩:=aJ.view ⟨us,hu⟩;obtain⟨b4,b5,b6⟩:=cA w (.cells (ae v h A rows cap) 26) (.cells (j6 a b c bd n b9) 29) (.cells aQ 26);have d1:=ap.size;simp only[cg]at d1;go_upto_region 2 with(fail)
 obtain⟨D,En⟩:=aO (w1.alloc (.cells (ae v h E rows z) 26));rw[<-En];have a0:ai w1 D:=Wc;have FI:(D:Nat)=w1+1:=SH;have I:=cC ap a0;have R:aU D w1 (ae v h E rows z) 26:=UF;have a3:=cD I b4;have a4:=cD I b5;have b2:=cD I b6;have bv:bh D ((w:Nat)+3) (.slice E rows z) rows us:=(hu.ext a0).mono RS;have fa:∀g',E=some ⟨g',0,none⟩->g' < (w1:Nat):=fun g' e=>VT
 have ev:∀(k:Nat) (x:au),us[k]?=some x->∀b,x.ownBlock=some b->b < (w1:Nat):=fun k x hx b hb=>Wy
 have bo:ai w D:=(below_alloc3 w _ _ _).trans (I.mono SJ);clear hu ap a0 I bm Et b4 b5 b6 En;obtain⟨Z,ab,F,ac,ad⟩:=bH a4;obtain⟨a6,a7,a8⟩:=aq R;obtain⟨b7,U,Y⟩:=aq a3;have f1:=aP R 1;obtain⟨cu,ch,cF,cO,cR,ba⟩:=mA bv bo a3 a4 b2 R;clear bv bo a3 a4 b2 R;go_upto_region 26 with(fail)
 obtain⟨ao,Fl⟩:=aO (D.setCell ⟨w1,1,none⟩ (zI (h-1)));rw[<-Fl];have O:=bs D w1 1 _ _ (zI (h-1)) ba;simp only[zA]at O;rw[<-Fl]at O;have Q:∀j,j≠w1.heap.size->ao.heap[j]?=D.heap[j]?:=fun j hj=>UW
 obtain⟨bb,cI,a9,c0⟩:=fU O ((Q _ RU).trans cF) ((Q _ RU).trans cO) ((Q _ RU).trans cR);have a2:=cu.jd ba (j:=1) (u:=.int .i64 (h-1));rw[<-Fl]at a2;have a1:=ch.setCell (p:=⟨w1,1,none⟩) SJ (zI (h-1));rw[<-Fl]at a1;have e8:(ao:Nat)=w1+1:=UE;obtain⟨Fm,ci⟩:=bS a2 a1;obtain⟨d6,bz⟩:=aO us;rw[<-bz]at Fm;clear O Q a2 a1 Fl bz;clear Z ab F ac ad a6 a7 a8 b7 U Y f1;obtain⟨Z,ab,F,ac,ad⟩:=bH a9;obtain⟨a6,a7,a8⟩:=aq bb;go_wp2;go_loopw [169] (fun i wr=>∃k:Nat,k<=rows.length/\i=.int .i64 k/\(∃b8,bh wr ((w:Nat)+3) (.slice E rows z) (jR (fun r=>r.eraseIdx q) rows k) b8)/\
   aU wr w1 (ae v (h-1) E rows z) 26/\Below ((w:Nat)+3) ao wr)
  (fun i _=>rows.length-(intOf i).toNat)
 case atStart=>exact⟨0,bf _,rfl,⟨d6,TG⟩,bb,aj _ _⟩
 case round=>
  obtain⟨k,hk,rfl,⟨b8,Eo⟩,EZ,H⟩:=hrel;clear Z ab F ac ad a6 a7 a8;by_cases bp:k<rows.length
  .obtain⟨r,hr⟩:=aB bp;have br:(jR (fun r=>r.eraseIdx q) rows k)[k]?=some r:=(ns _ _ _ bp).trans hr;obtain⟨fz,EX,F9⟩:=Eo.get br;obtain⟨e1,e2⟩:=cj r (a_ hr);obtain⟨d7,cr,rfl,_⟩:=F9.view;obtain⟨gr,rfl,em,en⟩:=kD F9 RU;obtain⟨g,rfl,ej,ek⟩:=ks Eo Ue;have EY:=Eo.outer;rw[dW _ _ _ hk]at EY;have am:ah wr g k (.slice (aY gr) r cr):=Vi;have F:ah wr w1 2 (.slice (aY g) rows z):=aW EZ 2;have e4:gr≠w1.heap.size:=fun e=>X4
   have e5:g≠w1.heap.size:=fun e=>Yc
   have f0:=EY.frozenAt k;have dl:g≠gr:=X5;obtain⟨HO,HW,Fo,cy,ct⟩:=lv Eo H EZ EX hr;obtain⟨d3,db,fo,d2,fs⟩:=cU fI;obtain⟨cc,d4,W5,cz,eb,d0,U,Y,d5,J,co,ei⟩:=Dp wr.drew ((w:Nat)+3) gr cr q r (vE F9) RU;clear EY Eo H EZ br EX hr F9;have fn:IntKind.i64.wrap ((q:Int)+1)=(q:Int)+1:=SQ;have e9:((q:Int)+1).toNat=q+1:=RU;have e7:q<=cr:=RU;have eA:(0:Int)<=(q:Int)+1:=RU;have e0:(q:Int)+1<=(r:Int):=RU;have ca:ah W5 w1 2 (.slice (aY g) rows z):=J.o.cell (w:=wr.drew) F SJ;have cb:ah W5 g k (.slice (aY gr) r cr):=J.o.cell (w:=wr.drew) am SJ;have bi:W5.frozen? ⟨g,k,none⟩=false:=frz (w:=wr.drew) J.o f0 am dl;obtain⟨c4,ce,be⟩:=d_ cb bi ca;clear cb bi ca;go_wp2_with fail
   refine bJ (S:=fun W=>ah W w1 2 (.slice (aY g) rows z)) 12 Si F (fun hHeld=>?_);refine aC 0 ?_;refine aC 1 ?_;refine aC 2 ?_;refine aC 3 ?_;refine aC 4 ?_;refine aC 5 ?_;refine aC 6 ?_;refine aC 7 ?_;refine aC 8 ?_;refine aC 9 ?_;refine bM 10 fun K hK=>?_
   refine si rfl (.tmp 179) (.tmp 183) 27 rfl 3 d3 1 dS db d2 gr 0 q cr rfl cc (r.length-(q+1)) (cr-(q+1)) d4 rfl U.o d0.o Y.o RU d5.o ?_;rw[<-cz.o,show q+(r.length-(q+1))=r.length-1 by omega];refine hK.out _ _ (fun _=>be.o) (fun hHeld=>?_);clear hK K am f0 F;have am:=c4.o;have f0:=ce.o;try simp only[Act.put,zA]
   have hHeld:=hHeld RX;refine bM 11 fun K hK=>?_
   go_simp;refine hK.out _ _ (fun _=>be.o) (fun hHeld=>?_);clear hK K;try simp only[Act.put,zA]
   have hHeld:=hHeld RX;refine bM 12 fun K hK=>?_
   go_simp;refine hK.out _ _ (fun h=>absurd h RX) (fun _=>?_);clear hK K;try simp only[Act.put,zA]
   refine eC Si ?_ _;have G9:=bx (dP wr (some gr)) J.o;have G5:ar W5 ((w:Nat)+3) (.slice (aY gr) (r.length-1) cr) (r.eraseIdx q):=co.o;have Fp:=HO.put (dW _ _ _ hk).symm cy G9 G5 (fun b hb=>aF hb);rw[iG (fun r=>r.eraseIdx q) rows k r ct]at Fp;exact ZJ
  .have dc:k=rows.length:=RU;subst dc;rw[nr _ _ _ (ag _)]at Eo;have b3:=EZ;have b0:=(H.block _ RU).trans cI;have b1:=(H.block _ RU).trans a9;have a5:=(H.block _ RU).trans c0;obtain⟨HO,HE⟩:=bS (by skip;exact⟨_,Eo⟩:aJ wr ((w:Nat)+3) (.slice E rows z) (rows.map (fun r=>r.eraseIdx q))) (ci.trans (H.mono RU));clear Eo H EZ;obtain⟨Z,ab,F,ac,ad⟩:=bH b1;obtain⟨b7,U,Y⟩:=aq b0;clear b0 b1;obtain⟨c5,c6,c7⟩:=bT b3;obtain⟨c8,c9,da⟩:=bT a5;obtain⟨d8,d9,ea⟩:=bU a5;simp only[dt,cZ]at c5 c6 c7 c8 c9 da;clear b3 a5;go_wp2;refine ax (v:=.agg (ae v (h-1) E rows z)) UU rfl ⟨_,rfl,?_,?_⟩
   .exact YD
   .exact Yq
def ze9(a b p v h:Int)(A:an)(cap:Nat)(rows:aE)(w:aa):aw 208 (eQ (bP a b) p (ae v h A rows cap)) w fun e w'=>∃u,e=.returned (.agg #[.int .i64 1,a,b,(),u])/\ar w' w u []/\ai w w':=by
 go_enter func208,ntmps208
 go_wp2;refine ax (v:=.agg #[.int .i64 1,a,b,(),fe]) (by simp[results,results208,go_sem]) rfl ⟨_,rfl,ar.nil _ _,?_⟩;exact below_alloc3 w _ _ _
def ze_(a p v h:Int)(A:an)(cap:Nat)(rows:aE)(w:aa):aw 218 (eQ (bg a) p (ae v h A rows cap)) w fun e w'=>∃u,e=.returned (.agg #[.int .i64 5,a,(),(),u])/\ar w' w u []/\ai w w':=by
 go_enter func218,ntmps218
 go_wp2;refine ax (v:=.agg #[.int .i64 5,a,(),(),fe]) (by simp[results,results218,go_sem]) rfl ⟨_,rfl,ar.nil _ _,?_⟩;exact below_alloc3 w _ _ _
def zgK(a p v h:Int)(A:an)(cap:Nat)(rows:aE)(w:aa):aw 224 (eQ (bg a) p (ae v h A rows cap)) w fun e w'=>∃u,e=.returned (.agg #[.int .i64 4,a,(),(),u])/\ar w' w u []/\ai w w':=by
 go_enter func224,ntmps224
 go_wp2;refine ax (v:=.agg #[.int .i64 4,a,(),(),fe]) (by simp[results,results224,go_sem]) rfl ⟨_,rfl,ar.nil _ _,?_⟩;exact below_alloc3 w _ _ _
def zdj(a b p v h:Int)(A:an)(cap:Nat)(rows:aE)(w:aa)(z:an)(n D:Nat):aw 239 (eQ (dj a b z n D) p (ae v h A rows cap)) w fun e w'=>∃u,e=.returned (.agg #[.int .i64 6,a,b,(),u])/\ar w' w u []/\ai w w':=by
 go_enter func239,ntmps239
 go_wp2;refine ax (v:=.agg #[.int .i64 6,a,b,(),fe]) (by simp[results,results239,go_sem]) rfl ⟨_,rfl,ar.nil _ _,?_⟩;exact below_alloc3 w _ _ _
def za8(b p v h:Int)(A:an)(cap:Nat)(rows:aE)(w:aa):aw 248 (eQ (bg b) p (ae v h A rows cap)) w fun e w'=>∃u,e=.returned (.agg #[.int .i64 9,(),b,(),u])/\ar w' w u []/\ai w w':=by
 go_enter func248,ntmps248
 go_wp2;refine ax (v:=.agg #[.int .i64 9,(),b,(),fe]) (by simp[results,results248,go_sem]) rfl ⟨_,rfl,ar.nil _ _,?_⟩;exact below_alloc3 w _ _ _
def za9(b p v h:Int)(A:an)(cap:Nat)(rows:aE)(w:aa):aw 251 (eQ (bg b) p (ae v h A rows cap)) w fun e w'=>∃u,e=.returned (.agg #[.int .i64 8,(),b,(),u])/\ar w' w u []/\ai w w':=by
 go_enter func251,ntmps251
 go_wp2;refine ax (v:=.agg #[.int .i64 8,(),b,(),fe]) (by simp[results,results251,go_sem]) rfl ⟨_,rfl,ar.nil _ _,?_⟩;exact below_alloc3 w _ _ _
def zdk(a c p v h:Int)(A:an)(cap:Nat)(rows:aE)(w:aa)(z:dr p=true)(E:1<=c)(F:c<p):aw 212 (eQ (bP a c) p (ae v h A rows cap)) w fun e w'=>∃u,e=.returned (.agg #[.int .i64 2,a,(),.int .i64 (fD p c),u])/\ar w' w u []/\ai w w':=by
 have D:=zH z;clear z;go_enter func212,ntmps212
 go_wp2;go_region_held3 (fun W=>ah W w 0 (zI a)/\ah W w 1 (zI c)) (go_keep)
  ((go_at_call 129;refine(wL p c _ D.o E F).mono ?_;rintro e w' ⟨rfl,rfl⟩))
 go_wp2;refine ax (v:=.agg #[.int .i64 2,a,(),.int .i64 (fD p c),fe]) (by simp[results,results212,go_sem]) rfl ⟨_,rfl,ar.nil _ _,?_⟩;exact(below_alloc3 w _ _ _).drew
def zgL(a b c p v h:Int)(A:an)(cap:Nat)(rows:aE)(w:aa)(E:2<=p)(F:p<=97)(z:0<=c)(D:c<p):aw 215 (eQ (fB a b c) p (ae v h A rows cap)) w fun e w'=>∃u,e=.returned (.agg #[.int .i64 3,a,b,.int .i64 ((p-c)%p),u])/\ar w' w u []/\ai w w':=by
 go_enter func215,ntmps215
 go_wp2;have H:IntKind.i64.wrap (p-c)=p-c:=SQ;go_region_held3 (fun W=>ah W w 0 (zI a)/\ah W w 1 (zI b)/\ah W w 2 (zI c)) (go_keep)
  ((go_at_call 143;refine(zci p (p-c) _ RU RU RU RU).mono ?_;rintro e w' ⟨rfl,rfl⟩))
 go_wp2;refine ax (v:=.agg #[.int .i64 3,a,b,.int .i64 ((p-c)%p),fe]) (by simp[results,results215,go_sem]) rfl ⟨_,rfl,ar.nil _ _,?_⟩;exact(below_alloc3 w _ _ _).drew
def zdl(a b p v h:Int)(A:an)(cap:Nat)(rows:aE)(w:aa)(ac:aX w A rows)(bd:0<=a)(be:a<rows.length)(a0:∀r∈rows,r.length<=1048576):aw 232 (eQ (bP a b) p (ae v h A rows cap)) w fun e w'=>∃u,e=.returned (.agg #[.int .i64 7,a,b,(),u])/\ar w' w u (rows.getD a.toNat [])/\ai w w':=by
 obtain⟨r,hr⟩:=aB (RU:a.toNat<rows.length);obtain⟨z,o,rfl,ao⟩:=ac.here (RU:a.toNat<rows.length);obtain⟨Z,ab,Q,ap⟩:=ao _ r hr;obtain⟨HG,Fk⟩:=bS (TD:rows.getD a.toNat []=r) (a0 r (a_ hr));have F:=below_alloc3 w (.cells (bP a b) 138) (.cells (ae v h (some ⟨z,o,none⟩) rows cap) 26) (.cells df 29);have am:z < (w:Nat):=iN _ _ Q;obtain⟨H,J⟩:=aO (((w.alloc (.cells (bP a b) 138)).alloc (.cells (ae v h (some ⟨z,o,none⟩) rows cap) 26)).alloc (.cells df 29));obtain⟨O,U,Y⟩:=cA w (.cells (bP a b) 138) (.cells (ae v h (some ⟨z,o,none⟩) rows cap) 26) (.cells df 29);rw[<-J]at F O U Y;have E:=zH (show ∀W,ai H W->ah W w 0 (zI a)/\ah W w 1 (zI b)/\ah W ((w:Nat)+1) 2 (.slice (some ⟨z,o,none⟩) rows cap)/\ah W z (o+a.toNat) (.slice Z r ab) from
  fun W I=>⟨aW (cD I O) 0,aW (cD I O) 1,aW (cD I U) 2,av (af F I) Q⟩)
 obtain⟨a4,a2,a8,a3,a7⟩:=lv (ap.ext F) F Y am J;have a1:(H:Nat)=w+3:=by rw[J];simp
 have a5:=zH a1;clear ac ao Q ap hr a0 F O U Y am a1 J;go_enter func232,ntmps232
 go_wp2;rw[<-a7.o];go_region_held3 (fun W=>ah W w 0 (zI a)/\ah W w 1 (zI b)/\ah W ((w:Nat)+1) 2 (.slice (some ⟨z,o,none⟩) rows cap)/\ah W z (o+a.toNat) (.slice Z r ab)) (first|exact E.o _ (aj _ _).drew|exact E.o _ D.o|exact⟨(kP SJ).trans (E.o _ D.o).1,(kP SJ).trans (E.o _ D.o).2.1,(kP SJ).trans (E.o _ D.o).2.2.1,(kP (by have:=a3.o;simp<;>omega)).trans (E.o _ D.o).2.2.2⟩)
  ((go_at_call 121;refine(rO _ _ _ _ (a4.ext ?_) TH).mono ?_;exact(aj _ _).drew;rintro e bm ⟨u,rfl,R,ad⟩;obtain⟨A2,c2,rfl,_⟩:=R.view;have D:=zH ((aj H H).drew.trans ad);have a6:=zH R;clear R ad;obtain⟨⟨a9,c1,ba,c3,bb⟩,f0,f1,f2,f3,f4⟩:=jk D.o a8))
 have bi:=a5.o;have HO:=a6.o;simp only[xR]at HO;go_wp2;refine ax (v:=.agg #[.int .i64 7,a,b,(),.slice A2 r c2]) (by simp[results,results232,go_sem, *]) rfl ⟨_,rfl,?_,?_⟩
 .exact Zd
 .exact ff (af a2 D.o) RU _ _ _ _ _
end Go.Proofs.YtdpgblncijojiaaGreatDoor
