/- Parts of the walks. Conditions: as stated with each. -/
import Derived.Test.YtdpgblncijojiaaGreatDoorPk14
import Derived.Test.YtdpgblncijojiaaGreatDoorPk20
namespace Go.Proofs.YtdpgblncijojiaaGreatDoor
open Go.RowKit Tryz
set_option linter.all false
variable{A A1 A2 A3:an}{B' D b c c1 c2 hi hi' k lo lo' m n x:Nat}{J:iq}{P:iS}{RN:List Ed}{W w w':aa}{a:Act}{cs:gh}{g:Gr}{l:bX}{o:gI}{rest:List Oper}{row:Option Nat}{v' v0 v1 v2 v3:au}{xs:aG}
def Fr(w:aa)(lo hi:Nat)(P:iS):Prop:=∀W:aa,(∀k,lo<=k->k<hi->W.heap[k]?=w.heap[k]?)->P W
section
variable{w w':aa}{lo hi lo' hi':Nat}{P Q:iS}
def Fr.now(h:Fr w lo hi P):P w:=h w fun _ _ _=>rfl
def Fr.mono(h:Fr w lo hi P)(F:lo'<=lo)(H:hi<=hi'):Fr w lo' hi' P:=fun W D=>h W fun k a b=>D k RU RU
def Fr.imp(h:Fr w lo hi P)(f:∀W,P W->Q W):Fr w lo hi Q:=fun W D=>f W (h W D)
def Fr.and(h:Fr w lo hi P)(F:Fr w lo hi Q):Fr w lo hi (fun W=>P W/\Q W):=fun W D=>⟨h W D,F W D⟩
def Fr.all(h:∀W,P W):Fr w lo hi P:=fun W _=>h W
def Fr.same(h:Fr w lo hi P)(F:∀k,lo<=k->k<hi->w'.heap[k]?=w.heap[k]?):Fr w' lo hi P:=fun W D=>h W fun k a b=>(D k a b).trans (F k a b)
def Fr.ext(h:Fr w lo hi P)(D:ai w w')(F:hi<=(w:Nat)):Fr w' lo hi P:=h.same fun k _ b=>D.block k RU
def Fr.grown(h:Fr w lo hi P)(D:w.grownBy w' row)(H:hi<=(w:Nat))(F:∀g,row=some g->g<lo∨hi<=g):Fr w' lo hi P:=h.same fun k a b=>D.block k RU fun e=>by have:=F k e.symm;omega
end
def BP{w:aa}(D:n<=(w:Nat)):(w.heap.extract 0 n)[k]?=if k<n then w.heap[k]? else none:=by
 by_cases h:k<n
 .rw[ay h,Array.getElem?_extract];simp;omega
 .rw[al h,oK Sk]
def nH{w:aa}{B:Nat}{P:iS}(h:∀W:aa,(∀k,B<=k->W.heap[k]?=w.heap[k]?)->P W)(J:∀a b:aa,ai a b->P a->P b)(O:B<=(w:Nat)):Fr w B w P:=fun W H=>by
 by_cases I:(w:Nat)<=W
 .have F:=h {W with heap:=W.heap.extract 0 w} fun k D=>by
   show(W.heap.extract 0 w)[k]?=_
   rw[BP I];split
   .exact H k D Sh
   .rw[oK RU]
  refine J {W with heap:=W.heap.extract 0 w} W ⟨rfl,rfl,rfl,?_,fun k D=>?_⟩ F
  .show(W.heap.extract 0 w).size<=(W:Nat)
   rw[Array.size_extract];omega
  .replace D:k < (W.heap.extract 0 w).size:=D
   rw[Array.size_extract]at D
   show W.heap[k]?=(W.heap.extract 0 w)[k]?
   rw[BP I,ay RU]
 .refine h W fun k D=>?_
  by_cases F:k < (w:Nat)
  .exact H k D F
  .rw[oK RU,oK RU]
def ar.fr{w:aa}{B:Nat}{xs:aG}(h:ar w B (.slice A n c) xs)(F:B<=(w:Nat)):Fr w B w (fun W=>aT W A xs):=nH (fun W H=>by obtain⟨J,O,e,D,_⟩:=(h.same H).view;cases e;exact D) (fun _ _ I h=>h.ext I) F
def eE.fr{w:aa}{B:Nat}{rows:aE}(h:eE w B A rows)(D:B<=(w:Nat)):Fr w B w (fun W=>aX W A rows):=nH (fun W F=>(h W F).at) (fun _ _ H h=>h.ext H) D
def aJ.fr{w:aa}{B:Nat}{rows:aE}(h:aJ w B (.slice A n c) rows)(D:B<=(w:Nat)):Fr w B w (fun W=>aX W A rows):=h.from.fr D
def zai{w:aa}{B s cap:Nat}{T:dG}{xs:bG}(h:w.ownsRow B T s (.slice A m cap) m xs)(hn:n<=m):w.ownsRow B T s (.slice A n cap) n (xs.take (n*s)):=Zl
def ot{α:Type}{l:List α}{x:α}(h:(l.take n)[k]?=some x):l[k]?=some x:=by
 rw[fY]at h;split at h
 .exact h
 .cases h
def dp{α:Type}(s:Nat)(E:World->α->List Value->Prop)(w:aa)(A:an)(xs:List α):Prop:=
 xs=[]∨∃b o,A=some ⟨b,o,none⟩/\∀(k:Nat) (x:α),xs[k]?=some x->∃c,(∀(j:Nat) (y:au),c[j]?=some y->ah w b (o+k*s+j) y)/\E w x c
def dp.ext{α:Type}{s:Nat}{E:World->α->List Value->Prop}{w w':aa}{xs:List α}(H:∀x c,E w x c->E w' x c)(h:dp s E w A xs)(I:ai w w'):dp s E w' A xs:=
 h.imp id fun⟨b,o,e,J⟩=>⟨b,o,e,fun k x R=>by obtain⟨c,D,F⟩:=J k x R;exact⟨c,fun j y O=>av I (D j y O),H x c F⟩⟩
def dp.here{α:Type}{s:Nat}{E:World->α->List Value->Prop}{w:aa}{xs:List α}(h:dp s E w A xs)(D:k<xs.length):∃b o,A=some ⟨b,o,none⟩/\∀(k:Nat) (x:α),xs[k]?=some x->∃c,(∀(j:Nat) (y:au),c[j]?=some y->ah w b (o+k*s+j) y)/\E w x c:=by
 rcases h with h|h
 .simp[h]at D
 .exact h
def jS{α:Type}(E:World->α->List Value->Prop)(w:aa)(B:Nat)(v:au)(x:α)(c:bG):Prop:=
 ∃lo hi,B<=lo/\hi<=(w:Nat)/\(∀g,v.ownBlock=some g->g<lo∨hi<=g)/\Fr w lo hi (fun W=>E W x c)
structure ll{α:Type}(T:dG)(s:Nat)(E:World->α->List Value->Prop)(w:aa)(B:Nat)(v:au)(xs:List α)(cs:List (List Value)):Prop where
 outer:w.ownsRow B T s v xs.length cs.flatten
 len:cs.length=xs
 each:∀(k:Nat) (x:α) (c:bG),xs[k]?=some x->cs[k]?=some c->c.length=s/\(∀u∈c,u.oneCell'=true)/\jS E w B v x c
def bN{α:Type}(T:dG)(s:Nat)(E:World->α->List Value->Prop)(w:aa)(B:Nat)(v:au)(xs:List α):Prop:=∃cs,ll T s E w B v xs cs
def ru{s:Nat}:∀{cs:List (List Value)} {k j:Nat} {c:bG},(∀c∈cs,c.length=s)->cs[k]?=some c->j<s->cs.flatten[k*s+j]?=c[j]?
 |[],k,j,c,_,h,_=>Sf
 |d::cs,0,j,c,D,h,H=>by simp at h;subst h;have:=D d (lW ..);rw[sl,dx RU];simp
 |d::cs,k+1,j,c,D,h,H=>by have F:=D d (lW ..);have:=ru (cs:=cs) (k:=k) (j:=j) (c:=c) (fun c I=>D c (lV _ I)) So H;rw[sl,gv (by rw[F,vI];omega),F,<-this];congr 1;rw[vI];omega
def u_{s:Nat}:∀{cs:List (List Value)} (n:Nat),(∀c∈cs,c.length=s)->(cs.take n).flatten=cs.flatten.take (n*s)
 |[],n,_=>RS
 |c::cs,0,_=>RS
 |c::cs,n+1,D=>by have F:=D c (lW ..);rw[xY,sl,sl,u_ n fun c H=>D c (lV _ H),vI,Nat.add_comm,<-F,CV]
section
variable{α:Type}{T:dG}{s:Nat}{E:World->α->List Value->Prop}{w w':aa}{B:Nat}{v:au}{xs:List α}{cs:List (List Value)}
def jS.kept{x:α}{c:bG}(h:jS E w B v x c)(H:w.grownBy w' row)(O:∀g,row=some g->v.ownBlock=some g)(R:∀g,v'.ownBlock=some g->v.ownBlock=some g∨(w:Nat)<=g):jS E w' B v' x c:=by obtain⟨lo,hi,I,D,F,J⟩:=h;exact⟨lo,hi,I,bc D H.size,fun g e=>(R g e).elim (F g) fun h=>RU,J.grown H D fun g e=>F g (O g e)⟩
def jS.ext{x:α}{c:bG}(h:jS E w B v x c)(hb:ai w w'):jS E w' B v x c:=Ya
def ll.cl(h:ll T s E w B v xs cs):∀c∈cs,c.length=s:=fun c F=>by obtain⟨k,D⟩:=e_.1 F;obtain⟨x,H⟩:=aB (by rw[<-h.len];exact(bA.1 D).1:k<xs.length);exact(h.each k x c H D).1
def ll.ext(h:ll T s E w B v xs cs)(D:ai w w'):ll T s E w' B v xs cs:=
 ⟨hJ h.outer (row:=none) ⟨D.os,D.tape,D.output,D.size,fun k O _=>D.block k O⟩ Uu,h.len,fun k x c R J=>by obtain⟨F,H,I⟩:=h.each k x c R J;exact⟨F,H,I.ext D⟩⟩
def bN.ext(h:bN T s E w B v xs)(D:ai w w'):bN T s E w' B v xs:=by obtain⟨cs,h⟩:=h;exact⟨cs,h.ext D⟩
def bN.nil(T:dG)(s:Nat)(E:World->α->List Value->Prop)(w:aa)(B:Nat):bN T s E w B (.slice none 0 0) []:=⟨[],m_ _ _ _ _,rfl,fun k x c D=>by simp at D⟩
def bN.lit(T:dG)(s:Nat)(E:World->α->List Value->Prop)(W:aa)(B:Nat)(D:B<=(W:Nat)):bN T s E (W.alloc (.cells #[] T)) B (.slice (aY W) 0 0) []:=⟨[],World.ownsRow_made W #[] 0 D RX RS,rfl,fun k x c F=>by simp at F⟩
def bN.view(h:bN T s E w B v xs):∃A cap,v=.slice A xs cap/\dp s E w A xs/\xs.length<=cap/\cap<=maxLen:=by
 obtain⟨cs,h⟩:=h;have O:=fun g=>pX h.outer (g:=g)
 rcases h.outer.2 with⟨rfl,hn⟩|⟨g,cap,cur,rfl,Y,Z,hn,U,ab⟩
 .exact Xr
 .refine⟨_,cap,rfl,aA ⟨g,0,rfl,fun k x H=>?_⟩,hn,U⟩;obtain⟨c,D⟩:=aB (by rw[h.len];exact(bA.1 H).1:k<cs.length);obtain⟨I,_,lo,hi,_,_,_,J⟩:=h.each k x c H D;refine⟨c,fun j y F=>?_,J.now⟩;have R:j<s:=by rw[<-I];exact(bA.1 F).1
  have:=O g rfl (k*s+j) y (by rw[ru h.cl D R];exact F);rwa[dM,<-pW]at this
def bN.form(h:bN T s E w B v xs)(D:0<xs.length):∃g cap,v=.slice (aY g) xs cap/\B<=g/\g < (w:Nat):=by obtain⟨cs,h⟩:=h;exact kG h.outer D
def bN.mono(h:bN T s E w B v xs)(Z:B'<=B):bN T s E w B' v xs:=by obtain⟨cs,h⟩:=h;refine⟨cs,⟨h.outer.1,h.outer.2.imp id fun⟨g,cap,cur,D,U,F⟩=>⟨g,cap,cur,D,RU,F⟩⟩,h.len,fun k x c R O=>?_⟩;obtain⟨H,I,lo,hi,Y,J⟩:=h.each k x c R O;exact⟨H,I,lo,hi,RU,J⟩
def bN.same(h:bN T s E w B v xs)(H:∀k,B<=k->k < (w:Nat)->w'.heap[k]?=w.heap[k]?)(am:(w:Nat)<=w'):bN T s E w' B v xs:=by obtain⟨cs,h⟩:=h;refine⟨cs,⟨h.outer.1,h.outer.2.imp id fun⟨g,cap,cur,I,D,F,J⟩=>⟨g,cap,cur,I,D,by rw[H g D (aM.1 F).1];exact F,J⟩⟩,h.len,fun k x c ac ab=>?_⟩;obtain⟨O,R,lo,hi,U,ad,Y,Z⟩:=h.each k x c ac ab;exact⟨O,R,lo,hi,U,RU,Y,Z.same fun k a b=>H k RU RU⟩
def bN.setCell(h:bN T s E w B v xs){a:dD}(D:a.block<B)(u:au):bN T s E (w.setCell a u) B v xs:=h.same (fun k F _=>bw _ _ _ _ RU) RS
def bN.fr(h:bN T s E w B (.slice A n c) xs)(Y:∀a b x c,ai a b->E a x c->E b x c)(U:B<=(w:Nat)):Fr w B w (fun W=>dp s E W A xs):=by
 intro W H;by_cases I:(w:Nat)<=W
 .obtain⟨J,O,e,F,_⟩:=(h.same H I).view;cases e
  exact F
 .rcases pP xs with D|D
  .exact aF (eS D)
  .obtain⟨g,cap,e,F,R⟩:=h.form D;have:=H ((w:Nat)-1) RU RU;rw[oK RU,Array.getElem?_eq_getElem (RU:(w:Nat)-1<w)]at this;cases this
def bN.pop{cap:Nat}(h:bN T s E w B (.slice A m cap) xs)(Y:m=xs.length)(Z:n<=m):bN T s E w B (.slice A n cap) (xs.take n):=by
 obtain⟨cs,h⟩:=h;subst Y;have D:(xs.take n).length=n:=Sw;refine⟨cs.take n,?_,by rw[dH,D,h.len];omega,fun k x c ab U=>?_⟩;rotate_left
 .obtain⟨F,H,lo,hi,I,J,O,R⟩:=h.each k x c (ot ab) (ot U);exact⟨F,H,lo,hi,I,J,fun g e=>O g (by cases A with|none=>simp[Value.ownBlock]at e|some a=>simpa[Value.ownBlock]using e),R⟩
 rw[D,u_ n h.cl];exact zai h.outer Z
def ll.nt{ys:List α}{ds:List (List Value)}(h:ll T s E w B v xs cs)(Y:ds.length=ys)(U:∀(k:Nat) (x:α) (c:bG),ys[k]?=some x->ds[k]?=some c->c.length=s/\(∀u∈c,u.oneCell'=true)/\jS E w B v x c)(Z:w'.ownsRow B T s v' (xs.length+ys) (cs.flatten++ds.flatten))(O:w.grownBy w' v.ownBlock)(R:∀g,v'.ownBlock=some g->v.ownBlock=some g∨(w:Nat)<=g):ll T s E w' B v' (xs++ys) (cs++ds):=by
 refine⟨by rw[bQ,CU];exact Z,by rw[bQ,bQ,h.len,Y],fun k x c F D=>?_⟩;by_cases hk:k<cs.length
 .rw[dx hk]at D;rw[dx T8]at F;obtain⟨H,I,J⟩:=h.each k x c F D;exact⟨H,I,J.kept O (fun g e=>e) R⟩
 .rw[gv RU]at D;rw[gv (by rw[<-h.len];omega),<-h.len]at F;obtain⟨H,I,J⟩:=U _ x c F D;exact⟨H,I,J.kept O (fun g e=>e) R⟩
end
def jS.flat{α:Type}{T:dG}{s:Nat}{E:World->α->List Value->Prop}{w:aa}{B:Nat}{v:au}{xs:List α}{x:α}{c:bG}(h:bN T s E w B v xs)(D:B<=(w:Nat))(F:∀W,E W x c):jS E w B v x c:=by obtain⟨cs,h⟩:=h;exact⟨B,B,ag _,D,fun g e=>aA (bZ h.outer g e).1,Fr.all F⟩
structure RT(P:kR)(t T:dG)(s:Nat)(z:au)(bytes:Nat):Prop where
 und:P.underlying t=some (.slice T)
 info:(P.info? T).map (fun i=>(i.zero,i.size,i.bytes))=some (some z,s,bytes)
 zs:z.cells.size=s
 pos:0<s
 bts:bytes<=1000
section
variable{α:Type}{t T:dG}{s bytes:Nat}{z:au}{E:World->α->List Value->Prop}
def va(D:RT prog t T s z bytes){K:mK}{Q:gU}(U x:js)(ao:o.op=.call {callee:=.builtin .append,args:=#[U,x],argTypes:=#[t,t]})(B:Nat)(W:aa)(v:au)(xs:List α)(y:α)(c:bG)(O:Nat)(H:bN T s E W B v xs)(ac:c.length=s)(ab:∀u∈c,u.oneCell'=true)(a3:jS E W B v y c)(am:xs.length+1<=1048576)(Y:B<=(W:Nat))(a0:a.eval U=v)(a2:a.eval x=.slice (aY O) 1 1)(ap:aU W O c.toArray T)(h:∀g cap w',bN T s E w' B (.slice (aY g) (xs.length+1) cap) (xs++[y])->W.grownBy w' v.ownBlock->(v.ownBlock=some g∨g=(W:Nat))->Below B W w'->K (a.put o.dst (.slice (aY g) (xs.length+1) cap)) w'):o.wp prog a W K Q:=by
 obtain⟨a7,hi,a4,a5,a6⟩:=cU D.info;obtain⟨cs,H⟩:=H;refine wp_append_lies (w:=W) U x t ao B T a7 z s bytes D.und hi a4 a5 a6 D.zs D.pos v _ _ a0 H.outer ⟨O,0,none⟩ 1 1 c a2 RU (CW ap) ab RX ?_ ?_ Y _ rfl ?_
 .unfold maxLen;omega
 .have:=D.bts;have:(xs.length+1)*bytes<=1048576*1000:=Nat.mul_le_mul am D.bts;omega
 .intro g cap w' Eo R Z _;have a1:∀I,(Value.slice (aY g) (xs.length+1) cap).ownBlock=some I->v.ownBlock=some I∨(W:Nat)<=I:=fun I e=>by
   cases e
   rcases Z with h|h
   .exact aF h
   .exact aA (by show(W:Nat)<=g;omega)
  refine h g cap w' ⟨cs++[c],H.nt (ys:=[y]) (ds:=[c]) rfl ?_ S7 R a1⟩ R Z ((aj _ _).grown R Y fun k ad=>(bZ H.outer k ad).1);intro k a9 a8 F J
  match k,F,J with
  |0,F,J=>simp at F J;subst F J;exact⟨ac,ab,a3⟩
  |k+1,F,_=>simp at F
def er(Y:RT prog t T s z bytes){Q:gU}(ac:o.guard=none)(F x:js)(am:o.op=.call {callee:=.builtin .append,args:=#[F,x],argTypes:=#[t,t]})(B:Nat)(W:aa)(v:au)(xs:List α)(y:α)(c:bG)(D:Nat)(Z:bN T s E W B v xs)(ab:c.length=s)(ao:∀u∈c,u.oneCell'=true)(a2:jS E W B v y c)(ad:xs.length+1<=1048576)(U:B<=(W:Nat))(a0:a.eval F=v)(a1:a.eval x=.slice (aY D) 1 1)(ap:aU W D c.toArray T)(h:∀g cap w',bN T s E w' B (.slice (aY g) (xs.length+1) cap) (xs++[y])->W.grownBy w' v.ownBlock->(v.ownBlock=some g∨g=(W:Nat))->Below B W w'->wpList prog J Q rest (a.put o.dst (.slice (aY g) (xs.length+1) cap)) w'):wpList prog J Q (o::rest) a W:=qd ac fun _ hK=>va Y F x am B W v xs y c D Z ab ao a2 ad U a0 a1 ap fun g cap w' H I O R=>hK _ _ (h g cap w' H I O R)
def nJ(O:RT prog t T s z bytes){K:mK}{Q:gU}{H:Prop}(Y:o.guard=none)(F x:js)(ab:o.op=.call {callee:=.builtin .append,args:=#[F,x],argTypes:=#[t,t]})(B:Nat)(W:aa)(v:au)(xs:List α)(y:α)(c:bG)(D:Nat)(R:bN T s E W B v xs)(U:c.length=s)(ac:∀u∈c,u.oneCell'=true)(a0:jS E W B v y c)(Z:xs.length+1<=1048576)(I:B<=(W:Nat))(am:a.eval F=v)(ap:a.eval x=.slice (aY D) 1 1)(ad:aU W D c.toArray T)(h:∀g cap w',bN T s E w' B (.slice (aY g) (xs.length+1) cap) (xs++[y])->W.grownBy w' v.ownBlock->(v.ownBlock=some g∨g=(W:Nat))->Below B W w'->K (a.put o.dst (.slice (aY g) (xs.length+1) cap)) w'):if Region.wanted o (yielded J a.tmps)=true then o.wp prog a W K Q else H:=by
 have ao:Region.wanted o (yielded J a.tmps)=true:=by simp[Region.wanted,Y]
 rw[ay ao];exact va O F x ab B W v xs y c D R U ac a0 Z I am ap ad h
end
structure jJ where
 k:Int
 v:Int
 s:ByteArray
variable{L:List jJ}
def jJ.nd(x:jJ):Nd:=⟨x.k,x.v,x.s.toList.isEmpty⟩
def dY(L:List jJ):List Nd:=L.map jJ.nd
def nl(_:aa)(x:jJ)(c:bG):Prop:=c=[.int .i64 x.k,.int .i64 x.v,.string x.s]
def jK(h:dp 3 nl w A L){x:jJ}(E:L[k]?=some x):∃b o,A=some ⟨b,o,none⟩/\ah w b (o+k*3) (zI x.k)/\ah w b (o+k*3+1) (zI x.v)/\ah w b (o+k*3+2) (.string x.s):=by obtain⟨b,o,e,F⟩:=h.here (bA.1 E).1;obtain⟨c,z,D⟩:=F k x E;unfold nl at D;subst D;exact⟨b,o,e,z 0 _ rfl,z 1 _ rfl,z 2 _ rfl⟩
def dI(h:dp 3 nl w A L)(z:ai w w'):dp 3 nl w' A L:=dp.ext (fun _ _ h=>(h:nl w _ _)) h z

def zbq(L:List Nd):Option Tm:=match iZ L []with|some [t]=>some t|_=>none
def pc(L:List Nd):Bool:=decide (1<=L.length)&&(decide (L.length<=400)&&(zbq L).isSome)
def zdH{L:List Nd}(h:¬(1<=L.length/\L.length<=400)):pc L=false:=by unfold pc;rw[Bool.eq_false_iff];simp only[ne_eq,bC,cK];exact fun⟨a,b,_⟩=>h ⟨a,b⟩
def zbr{L:List Nd}(h:iZ L []=none):pc L=false:=by unfold pc zbq;rw[h];simp
def zg{x:jJ}(h:L[k]?=some x):(dY L).drop k=x.nd::(dY L).drop (k+1):=by
 have z:=(bA.1 h).1;have:(dY L)[k]?=some x.nd:=by simp[dY,h]
 rw[sr (by simpa[dY]using z)];congr 1
 rw[dA (by simpa[dY]using z)]at this;exact eH this

def bF(l:bX):List Int:=l.map fun x:Nat=>(x:Int)
def bj(l:bX):(bF l).length=l:=Se
def fv(h:l[k]?=some x):(bF l)[k]?=some (x:Int):=by simp[bF,h]
def nx(a b:bX):bF (a++b)=bF a++bF b:=Se
def EEd(w:aa)(e:Ed)(c:bG):Prop:=∃A1 c1 A2 c2,c=[.int .i64 e.k,.int .i64 e.v,.slice A1 e.i c1,.slice A2 e.o c2]/\aT w A1 (bF e.i)/\aT w A2 (bF e.o)
def EEd.ext{a b:aa}{e:Ed}{c:bG}(z:ai a b)(h:EEd a e c):EEd b e c:=by obtain⟨A1,c1,A2,c2,D,E,F⟩:=h;exact⟨A1,c1,A2,c2,D,E.ext z,F.ext z⟩
def zhJ:RT prog 149 166 4 (.agg #[(),(),fe,fe]) 64:=⟨underlying149,Si,RX,RX,RX⟩
structure nX(w:aa)(A1 A2 A3:an)(g:Gr):Prop where
 es:dp 4 EEd w A1 g.es
 i:aT w A2 (bF g.i)
 o:aT w A3 (bF g.o)
def nX.ext{a b:aa}(h:nX a A1 A2 A3 g)(z:ai a b):nX b A1 A2 A3 g:=⟨dp.ext (fun _ _ h=>h.ext z) h.es z,h.i.ext z,h.o.ext z⟩
def B9(g:Gr)(w:aa)(e:Ending)(w':aa):Prop:=∃A1 c1 A2 c2 A3 c3,e=.returned (.agg (bI g A1 c1 A2 c2 A3 c3))/\Fr w' w w' (fun W=>nX W A1 A2 A3 g)/\ai w w'
def pt(h:dp 4 EEd w A RN){e:Ed}(D:RN[k]?=some e):∃b o A1 c1 A2 c2,A=some ⟨b,o,none⟩/\ah w b (o+k*4) (zI e.k)/\ah w b (o+k*4+1) (zI e.v)/\ah w b (o+k*4+2) (.slice A1 e.i c1)/\ah w b (o+k*4+3) (.slice A2 e.o c2)/\aT w A1 (bF e.i)/\aT w A2 (bF e.o):=by obtain⟨b,o,E,J⟩:=h.here (bA.1 D).1;obtain⟨c,z,A1,c1,A2,c2,F,H,I⟩:=J k e D;subst F;exact⟨b,o,A1,c1,A2,c2,E,z 0 _ rfl,z 1 _ rfl,z 2 _ rfl,z 3 _ rfl,H,I⟩
def jj(a n:Nat):List Nat:=(List.range n).map (· +a)
def nk(a n:Nat):(jj a n).length=n:=by simp[jj]
def AP{a:Nat}(h:k<n):(jj a n)[k]?=some (k+a):=by simp[jj,h]
def Fr.later(h:Fr w lo hi P)(z:ai w w')(D:hi<=(w:Nat)):Fr w' lo w' P:=(h.ext z D).mono (ag _) (bc D z.size)
def Fr.eh(h:Fr w lo hi P)(z:b<lo):Fr (eh w b v0 v1 v2 v3) lo hi P:=h.same fun k a _=>jW RU
def Fr.to(h:Fr w lo hi P)(z:lo'<=lo)(D:hi<=hi'):Fr w lo' hi' P:=h.mono z D
def zf4(D:Fr w lo hi fun W=>dp 4 EEd W A1 g.es)(E:Fr w lo hi fun W=>aT W A2 (bF g.i))(F:Fr w lo hi fun W=>aT W A3 (bF g.o)):Fr w lo hi fun W=>nX W A1 A2 A3 g:=fun W z=>⟨D W z,E W z,F W z⟩
def zg8{e:Ed}(I:aU W D (Cr e A1 c1 A2 c2) 166)(F:lo<=D)(H:D<hi)(f1:Fr W lo hi fun V=>aT V A1 (bF e.i))(f2:Fr W lo hi fun V=>aT V A2 (bF e.o)):Fr W lo hi fun V=>dp 4 EEd V (some ⟨D,0,none⟩) [e]:=fun V E=>by
 refine aA ⟨D,0,rfl,fun k x z=>?_⟩
 match k,z with
 |0,z=>
  simp at z;subst z;refine⟨_,fun j y J=>?_,A1,c1,A2,c2,rfl,f1 V E,f2 V E⟩;rw[show 0+0*4+j=j by omega,aW ((E D F H).trans I) j];exact J
 |k+1,z=>simp at z
def iX(h:aU W b cs 3)(e:cs.toList=xs.map (Value.int .i64)):aT W (some ⟨b,0,none⟩) xs:=aA ⟨b,0,rfl,fun k x z=>by rw[iw,aW h k,e,cp,z];rfl⟩
def zcI(h:aU W b cs 3)(e:cs.toList=xs.map (Value.int .i64))(z:lo<=b)(D:b<hi):Fr W lo hi fun V=>aT V (some ⟨b,0,none⟩) xs:=fun V E=>iX ((E b z D).trans h) e
end Go.Proofs.YtdpgblncijojiaaGreatDoor
