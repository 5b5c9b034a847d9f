/- Parts of the walks. Conditions: as stated with each. -/
import Derived.Test.YtdpgblncijojiaaGreatDoorPk15
namespace Go.Proofs.YtdpgblncijojiaaGreatDoor
open Go.RowKit Tryz
set_option linter.all false
variable{A:aq}{E W w:aa}{H Rw v0 z2:av}{L:List jR}{Rp:List Tm}{b c i k:Nat}{t:dE}{xs:aH}
def oB(k:Int):Nat:=if k=2∨k=5∨k=9 then 2 else if k=6∨k=10 then 0 else 1
def qT(k:Int):Nat:=if k=2∨k=3∨k=11 then 2 else if k=4∨k=12 then 0 else 1
def uE(k:Int)(w:aa):ax 173 (bc k) w fun e w'=>e=.returned (.tuple (bI (oB k:Nat) (qT k:Nat)))/\w=w':=by
 by_cases h2:k=2
 .subst h2;rw[show oB 2=2 by decide,show qT 2=2 by decide];go_enter my,mz
  go_wp2;exact az (v:=.tuple #[.int .i64 2,.int .i64 2]) (by simp[results,mA,go_sem, *]) rfl ⟨rfl,rfl⟩
 by_cases h3:k=3
 .subst h3;rw[show oB 3=1 by decide,show qT 3=2 by decide];exact Yt
 by_cases B:k=11
 .subst B;rw[show oB 11=1 by decide,show qT 11=2 by decide];exact Yt
 by_cases h4:k=4
 .subst h4;rw[show oB 4=1 by decide,show qT 4=0 by decide];exact X8
 by_cases D:k=12
 .subst D;rw[show oB 12=1 by decide,show qT 12=0 by decide];exact X8
 by_cases h5:k=5
 .subst h5;rw[show oB 5=2 by decide,show qT 5=1 by decide];exact Ys
 by_cases h9:k=9
 .subst h9;rw[show oB 9=2 by decide,show qT 9=1 by decide];exact Ys
 by_cases E:k=6
 .subst E;rw[show oB 6=0 by decide,show qT 6=1 by decide];exact X7
 by_cases z:k=10
 .subst z;rw[show oB 10=0 by decide,show qT 10=1 by decide];exact X7
 rw[show oB k=1 by unfold oB;rw[ak Ry,ak Ry],show qT k=1 by unfold qT;rw[ak Ry,ak Ry]];have J:(k==2)=false:=Sm;have O:(k==3)=false:=Sk;have H:(k==11)=false:=by simpa using B
 have Q:(k==4)=false:=Sj;have I:(k==12)=false:=by simpa using D
 have R:(k==5)=false:=Si;have U:(k==9)=false:=Sf;have T:(k==6)=false:=by simpa using E
 have F:(k==10)=false:=by simpa using z
 clear h2 h3 B h4 D h5 h9 E z;go_enter my,mz
 go_wp2;exact az (v:=.tuple #[.int .i64 1,.int .i64 1]) (by simp[results,mA,go_sem, *]) rfl ⟨rfl,rfl⟩
def taI(k v:Int):Int:=if k=1 then v else(oB k:Nat)
def taO(k v:Int):Int:=if k=1 then v else(qT k:Nat)
def rO(k v:Int)(s:ByteArray)(w:aa):ax 181 (cB (g_ k v s)) w fun e w'=>e=.returned (.tuple (bI (taI k v) (taO k v)))/\aj w w':=by
 by_cases h1:k=1
 .subst h1;rw[show taI 1 v=v from rfl,show taO 1 v=v from rfl];obtain⟨z,B⟩:=dC w (.cells #[.int .i64 1,v,.string s] 192);go_enter func181,ntmps181
  go_upto_region 1 with(fail)
  generalize w.alloc _=W at z B ⊢;obtain⟨I,c1,c2⟩:=al B;have D:=zH z;clear z B;go_wp2_with fail
  go_region_held3 (fun V=>af V w 1 (zI v)) (first|exact c1) (fail)
  go_wp2;exact az (v:=.tuple (bI v v)) Vo rfl ⟨rfl,D.o.drew⟩
 .rw[show taI k v=(oB k:Nat) by unfold taI;rw[ak h1],show taO k v=(qT k:Nat) by unfold taO;rw[ak h1]];have J:(k==1)=false:=St;obtain⟨a,E⟩:=aK (oB k);obtain⟨b,F⟩:=aK (qT k);have H:=zH (show ∀W,ax 173 (bc k) W fun e w'=>e=.returned (.tuple (oU a b))/\W=w' from fun W=>by rw[E,F];exact uE k W);rw[<-E,<-F];clear h1 E F;obtain⟨z,B⟩:=dC w (.cells (g_ k v s) 192);go_enter func181,ntmps181
  go_upto_region 1 with(fail)
  generalize w.alloc _=W at z B ⊢;obtain⟨I,c1,c2⟩:=al B;have D:=zH z;clear z B;go_wp2_with (go_at_call 173;refine(H.o _).mono ?_;rintro e w' ⟨rfl,rfl⟩)
  exact az (v:=.tuple (oU a b)) Vo rfl ⟨rfl,D.o⟩
def AK(k v:Int)(s:ByteArray)(w:aa):ax 188 (cB (g_ k v s)) w (fp w (dV ⟨k,v,s.toList.isEmpty⟩)):=by
 have D:s.toList.isEmpty=(s.toList==[]):=by cases s.toList <;>rfl
 rw[D];clear D;cases B:(s.toList==[])
 .have E:(!s.toList==[])=true:=by rw[B];rfl
  rw[show dV ⟨k,v,false⟩=false from rfl];obtain⟨hB,hq⟩:=dC w (.cells (g_ k v s) 192);exact Zd
 have E:(!s.toList==[])=false:=by rw[B];rfl
 cases hi:eW k 1 14
 .rw[show dV ⟨k,v,true⟩=false by have:¬(1<=k/\k<=14):=S8;unfold dV;dsimp only;rw[ak Ry,ak Ry];simp;omega]
  exact Zi
 by_cases h1:k=1
 .subst h1;rw[show dV ⟨1,v,true⟩=eW v 0 12 by simp[dV,eW]];obtain⟨hB,hq⟩:=dC w (.cells #[.int .i64 1,v,.string s] 192);exact Zd
 by_cases h7:k=7
 .subst h7;rw[show dV ⟨7,v,true⟩=eW v 0 96 by simp[dV,eW]];obtain⟨hB,hq⟩:=dC w (.cells #[.int .i64 7,v,.string s] 192);exact Zd
 by_cases z:k=13
 .subst z;rw[show dV ⟨13,v,true⟩=eW v 0 96 by simp[dV,eW]];obtain⟨hB,hq⟩:=dC w (.cells #[.int .i64 13,v,.string s] 192);exact Zd
 have F:1<=k/\k<=14:=S8;rw[show dV ⟨k,v,true⟩=decide (v=0) by unfold dV;dsimp only;rw[ak h1,ak Ry];have:decide (2<=k)=true:=RX;rw[this,show decide (k<=14)=true by simp;omega];rfl]
 have I:(k==1)=false:=St;have O:(k==7)=false:=Sh;have J:(k==13)=false:=by simpa using z
 have H:(v==0)=decide (v=0):=by rw[nl];simp
 generalize decide (v=0)=Q at H ⊢;clear h1 h7 z F;exact Zi
def zb3(s:ByteArray)(w:aa):ax 189 #[fA,.string s] w fun e w'=>e=.returned (zI (-1))/\w=w':=by
 go_enter func189,ntmps189
 go_wp2;go_loopw [9] (fun i wr=>i=.int .i64 0/\wr=w) (fun _ _=>0)
 case atStart=>exact⟨rfl,rfl⟩
 case round=>
  obtain⟨rfl,rfl⟩:=hrel;exact WE
structure AH(L:List jR)(s:q8)(T:List Tm)(k:Nat):Prop where
 kl:k<=L.length
 rd:lv ((dR L).drop k) s=lv (dR L) ⟨[],[],[]⟩
 rt:jc ((dR L).drop k) T=jc (dR L) []
 ok:u_ s T
 len:s.f.length=k
def AH.start(L:List jR):AH L ⟨[],[],[]⟩ [] 0:=⟨aT _,rfl,rfl,⟨rfl,rfl,rfl⟩,rfl⟩
def AH.no{s:q8}{x:jR}(h:AH L s Rp k)(D:L[k]?=some x)(z:kI s x.nd=none):pL (dR L)=false:=by
 rcases zx x.nd h.ok with⟨E,_,e,_⟩|⟨-,e⟩
 .rw[z]at e;cases e
 .exact zbZ (by rw[<-h.rt,Aw D,qg,e])
def AH.step{s z:q8}{x:jR}(h:AH L s Rp k)(F:L[k]?=some x)(E:kI s x.nd=some z)(J:z.f.length=k+1):∃D,AH L z D (k+1):=by
 rcases zx x.nd h.ok with⟨O,D,e,H,I⟩|⟨e,-⟩
 .rw[E]at e;cases e
  refine⟨D,(bs.1 F).1,?_,?_,I,J⟩
  .rw[<-h.rd,Aw F];show _=(match kI s x.nd with|some z=>_|none=>_);rw[E]
  .rw[<-h.rt,Aw F,qg,H]
 .rw[E]at e;cases e
def zaI{L:List Nd}(z:1<=L.length)(D:L.length<=400):pL L=true↔∃t,zie L t:=by
 unfold pL zbY;rw[fJ z,fJ D,wF,wF];constructor
 .intro h;split at h
  .rename_i t e;exact⟨t,rC.2 e⟩
  .cases h
 .rintro⟨t,E⟩;rw[rC.1 E];rfl
def AH.stop{s:q8}(h:AH L s Rp k)(H:k=L.length)(I:1<=L.length)(J:L.length<=400):lv (dR L) ⟨[],[],[]⟩=some s/\pL (dR L)=decide (s.f.getD (k-1) 0=0):=by
 have D:(dR L).length=L:=by simp[dR]
 have e:lv (dR L) ⟨[],[],[]⟩=some s:=by rw[<-h.rd,nx Ry];rfl
 refine⟨e,?_⟩;rw[nl,zaI Ry Ry,cw,<-zdu (fun z=>by rw[z]at D;simp at D;omega),D,H];constructor
 .rintro⟨O,E,F⟩;rw[e]at E;cases E;exact F
 .intro z;exact⟨s,e,z⟩
def sK{s:q8}(h:rh s k Rp)(O:1<=k):k<=s.f.length/\s.f.getD (k-1) 0<k/\s.i.getD (k-1) 0<=12/\s.o.getD (k-1) 0<=12/\∃S,rh s (s.f.getD (k-1) 0) S:=by
 cases Rp with
 |nil=>have:k=0:=h;omega
 |cons t S=>
  obtain⟨c,z,F,D,H,I,J,E⟩:=h;have:=t.pz;have:=Tm.zcS z;exact⟨D,Ry,Ry,Ry,S,E⟩
def zb2{s:q8}{n:Nd}(h:dV n=true):kI s n=some (s.add s.f (qe n) (tK n)):=by unfold kI;rw[ar h]
def kR{s:q8}{n:Nd}(h:dV n=false)(D:¬((n.k=15∨n.k=16)/\n.v=0/\n.e=true/\2<=s.f.length/\1<=s.f.getD (s.f.length-1) 0)):kI s n=none:=by unfold kI;rw[ak (by rw[h];simp),ak];rintro⟨z,E⟩;unfold opB at z;simp only[mg,cw]at z;exact D ⟨z,E⟩
def zgi{s:q8}{n:Nd}(h:n.k=15∨n.k=16)(H:n.v=0)(F:n.e=true)(E:2<=s.f.length)(D:1<=s.f.getD (s.f.length-1) 0):
  kI s n=match jw n.k (s.i.getD (s.f.getD (s.f.length-1) 0-1) 0,s.o.getD (s.f.getD (s.f.length-1) 0-1) 0) (s.i.getD (s.f.length-1) 0,s.o.getD (s.f.length-1) 0)with
   |some c=>some (s.add (s.f.getD (s.f.getD (s.f.length-1) 0-1) 0) c.1 c.2)
   |none=>none:=by
 have z:opB n=true:=by unfold opB;simp only[mg,cw];exact h
 unfold kI;rw[ak (by rw[zcz z];simp),ar ⟨z,H,F,E,D⟩];rfl
def AI{s:q8}{n:Nd}(h:n.k=15∨n.k=16)(H:n.v=0)(F:n.e=true)(E:2<=s.f.length)(D:1<=s.f.getD (s.f.length-1) 0):(∀c,jw n.k (s.i.getD (s.f.getD (s.f.length-1) 0-1) 0,s.o.getD (s.f.getD (s.f.length-1) 0-1) 0) (s.i.getD (s.f.length-1) 0,s.o.getD (s.f.length-1) 0)=some c->kI s n=some (s.add (s.f.getD (s.f.getD (s.f.length-1) 0-1) 0) c.1 c.2))/\(jw n.k (s.i.getD (s.f.getD (s.f.length-1) 0-1) 0,s.o.getD (s.f.getD (s.f.length-1) 0-1) 0) (s.i.getD (s.f.length-1) 0,s.o.getD (s.f.length-1) 0)=none->kI s n=none):=by have e:=zgi h H F E D;exact⟨fun c z=>by rw[e,z],fun z=>by rw[e,z]⟩
def tt(w W V:aa):Prop:=∀j,j<2->V.heap[(w:Nat)+j]?=W.heap[(w:Nat)+j]?
def tt.ext{V:aa}(h:tt w W V)(F:(w:Nat)+1+1<W)(H:(W:Nat)<=V)(z:aj V E):tt w W E:=fun j D=>(z.block _ Ry).trans (h j D)
def tt.grow{V w8:aa}{x:av}(h:tt w W V)(E:(w:Nat)+1+1<W)(z:Below W V w8):tt w W (w8.setCell ⟨(w:Nat)+1+1,i,none⟩ x):=fun j D=>
 (bx _ _ _ _ (by show _≠(w:Nat)+1+1;omega)).trans ((z.block _ Ry).trans (h j D))
def EI(_:aa)(x:Int)(c:bN):Prop:=c=[.int .i64 x]
def og:RT prog 27 3 1 (zI 0) 8:=⟨dA,RU,RC,RC,RC⟩
def vH(h:de 1 EI w A xs):aU w A xs:=
 h.imp id fun⟨b,o,e,E⟩=>⟨b,o,e,fun k x F=>by obtain⟨c,D,z⟩:=E k x F;unfold EI at z;subst z;have:=D 0 _ rfl;rwa[eP,jJ]at this⟩
def mQ{B n:Nat}{l:aH}(h:bP 3 1 EI w B (.slice A n c) l):aU w A l:=by
 obtain⟨D,E,e,z,-⟩:=h.view;cases e
 exact vH z
def zhP{k v:Int}{e:Bool}(h:dV ⟨k,v,e⟩=true):taI k v=(qe ⟨k,v,e⟩:Nat)/\taO k v=(tK ⟨k,v,e⟩:Nat):=by
 unfold taI taO qe tK;by_cases z:k=1
 .have:0<=v:=by unfold dV at h;dsimp only at h;rw[ar z]at h;simp at h;omega
  rw[ar z,ar z];dsimp only;rw[ar z,ar z];omega
 .rw[ak z,ak z];dsimp only;rw[ak z,ak z];exact WZ
def kf{B:Nat}{V w8:aa}{o:Obj}{v1 v2:av}{l2:aH}{g:Nat}(O:bP 3 1 EI V B v2 l2)(d:∀g,v1.ownBlock=some g->v2.ownBlock≠some g)(T:(V.alloc o).grownBy w8 v1.ownBlock)(Q:v1.ownBlock=some g∨g=(V.alloc o:Nat)):bP 3 1 EI w8 B v2 l2/\v2.ownBlock≠some g:=by
 obtain⟨cs,h⟩:=O.ext (aE V o);refine⟨⟨cs,ic h.outer T ?_,h.len,fun k x c U R=>?_⟩,fun e=>?_⟩
 .cases e:v2.ownBlock with
  |none=>exact aG rfl
  |some J=>exact aB fun I=>d J I.symm e
 .obtain⟨D,E,lo,hi,F,ab,ac,H⟩:=h.each k x c U R;exact⟨D,E,lo,0,F,aT _,fun g _=>aB (aT _),Fr.all fun _=>H.now⟩
 .rcases Q with z|z
  .exact d g z e
  .have:=(b_ h.outer g e).2;omega
structure X3(B Z:Nat)(V:aa)(v1 v2 v3:av)(l1 l2 l3:aH):Prop where
 box:aW V Z #[v1,v2,v3] 202
 o1:bP 3 1 EI V B v1 l1
 o2:bP 3 1 EI V B v2 l2
 o3:bP 3 1 EI V B v3 l3
 d12:∀g,v1.ownBlock=some g->v2.ownBlock≠some g
 d13:∀g,v1.ownBlock=some g->v3.ownBlock≠some g
 d23:∀g,v2.ownBlock=some g->v3.ownBlock≠some g
 lt:Z<B
 le:B<=(V:Nat)
def X3.ext{B Z:Nat}{V:aa}{v1 v2 v3:av}{l1 l2 l3:aH}(h:X3 B Z V v1 v2 v3 l1 l2 l3)(z:aj V E):X3 B Z E v1 v2 v3 l1 l2 l3:=⟨aA h.box z,h.o1.ext z,h.o2.ext z,h.o3.ext z,h.d12,h.d13,h.d23,h.lt,bE h.le z.size⟩
def lH{v1 v2:av}(d:∀g,v1.ownBlock=some g->v2.ownBlock≠some g):∀g,v2.ownBlock=some g->v1.ownBlock≠some g:=fun g e z=>d g z e
def qm{v2:av}{g n cap:Nat}(h:v2.ownBlock≠some g):∀z,(Value.slice (aX g) n cap).ownBlock=some z->v2.ownBlock≠some z:=fun z e=>by cases e;exact h
section
variable{B Z:Nat}{V w8:aa}{v1 v2 v3:av}{l1 l2 l3 l:aH}{o:Obj}{g n cap:Nat}
def X3.ziw(h:X3 B Z V v1 v2 v3 l1 l2 l3)(D:(V.alloc o).grownBy w8 v1.ownBlock)(z:v1.ownBlock=some g∨g=(V.alloc o:Nat))(hb:Below B (V.alloc o) w8)(O:bP 3 1 EI w8 B (.slice (aX g) n cap) l):X3 B Z (w8.setCell ⟨Z,0,none⟩ (.slice (aX g) n cap)) (.slice (aX g) n cap) v2 v3 l l2 l3/\aW w8 Z #[v1,v2,v3] 202:=by have E:=(hb.block Z h.lt).trans (aA h.box (aE V o));have y:=bw w8 Z 0 _ _ (.slice (aX g) n cap) E;simp only[zA]at y;obtain⟨F,H⟩:=kf h.o2 h.d12 D z;obtain⟨I,J⟩:=kf h.o3 h.d13 D z;exact⟨⟨y,O.setCell h.lt _,F.setCell h.lt _,I.setCell h.lt _,qm H,qm J,h.d23,h.lt,Wm⟩,E⟩
def X3.zfb(h:X3 B Z V v1 v2 v3 l1 l2 l3)(D:(V.alloc o).grownBy w8 v2.ownBlock)(z:v2.ownBlock=some g∨g=(V.alloc o:Nat))(hb:Below B (V.alloc o) w8)(O:bP 3 1 EI w8 B (.slice (aX g) n cap) l):X3 B Z (w8.setCell ⟨Z,1,none⟩ (.slice (aX g) n cap)) v1 (.slice (aX g) n cap) v3 l1 l l3/\aW w8 Z #[v1,v2,v3] 202:=by have E:=(hb.block Z h.lt).trans (aA h.box (aE V o));have y:=bw w8 Z 1 _ _ (.slice (aX g) n cap) E;simp only[zA]at y;obtain⟨F,H⟩:=kf h.o1 (lH h.d12) D z;obtain⟨I,J⟩:=kf h.o3 h.d23 D z;exact⟨⟨y,F.setCell h.lt _,O.setCell h.lt _,I.setCell h.lt _,lH (qm H),h.d13,qm J,h.lt,Wm⟩,E⟩
def X3.zfc(h:X3 B Z V v1 v2 v3 l1 l2 l3)(D:(V.alloc o).grownBy w8 v3.ownBlock)(z:v3.ownBlock=some g∨g=(V.alloc o:Nat))(hb:Below B (V.alloc o) w8)(O:bP 3 1 EI w8 B (.slice (aX g) n cap) l):X3 B Z (w8.setCell ⟨Z,2,none⟩ (.slice (aX g) n cap)) v1 v2 (.slice (aX g) n cap) l1 l2 l/\aW w8 Z #[v1,v2,v3] 202:=by have E:=(hb.block Z h.lt).trans (aA h.box (aE V o));have y:=bw w8 Z 2 _ _ (.slice (aX g) n cap) E;simp only[zA]at y;obtain⟨F,H⟩:=kf h.o1 (lH h.d13) D z;obtain⟨I,J⟩:=kf h.o2 (lH h.d23) D z;exact⟨⟨y,F.setCell h.lt _,I.setCell h.lt _,O.setCell h.lt _,h.d12,lH (qm H),lH (qm J),h.lt,Wm⟩,E⟩
end
def iq{v1 v2 x:av}{p:dw}(h:p.block≠b)(z:w.cell? p=some x):(((w.setCell ⟨b,0,none⟩ v0).setCell ⟨b,1,none⟩ v1).setCell ⟨b,2,none⟩ v2).cell? p=some x:=(cD h).trans ((cD h).trans ((cD h).trans z))
def Cj{g o:Nat}{v1 v2:av}(h:aU w (some ⟨g,o,none⟩) xs)(E:(some g:Option Nat)=some b->False):aU (((w.setCell ⟨b,0,none⟩ v0).setCell ⟨b,1,none⟩ v1).setCell ⟨b,2,none⟩ v2) (some ⟨g,o,none⟩) xs:=by
 rcases h with h|⟨F,H,e,z⟩
 .exact aG h
 .cases e
  exact aB ⟨g,o,rfl,fun k x D=>iq (fun e=>E (by rw[show g=b from e])) (z k x D)⟩
def zhq(L:List jR)(w:aa)(e:Ending)(w':aa):Prop:=∃z D I E Q J F R O,e=.returned (.tuple #[.agg #[.slice z D I,.slice E Q J,.slice F R O],.bool (pL (dR L))])/\aj w w'/\
 (pL (dR L)=true->∃s H,lv (dR L) ⟨[],[],[]⟩=some s/\u_ s H/\s.f.length=L.length/\D=L.length/\(∀a,z=some a->(w:Nat)<=a.block)/\aU w' z (bC s.f))
def gh{v1 v2:av}(h:aW w b #[H,Rw,z2] t):(((w.setCell ⟨b,0,none⟩ v0).setCell ⟨b,1,none⟩ v1).setCell ⟨b,2,none⟩ v2).heap[b]?=some (.cells #[v0,v1,v2] t (0,0)):=by have z:=bw w b 0 _ _ v0 h;have D:=bw _ b 1 _ _ v1 z;have E:=bw _ b 2 _ _ v2 D;simpa using E
end Go.Proofs.YtdpgblncijojiaaGreatDoor
