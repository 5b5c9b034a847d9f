/- Parts of the walks. Conditions: as stated with each. -/
import Derived.Test.YtdpgblncijojiaaGreatDoorPk12
import Derived.Test.YtdpgblncijojiaaGreatDoorPk14
namespace Go.Proofs.YtdpgblncijojiaaGreatDoor
open Go.RowKit Tryz
set_option linter.all false
variable{A A1 A2 A3:aq}{B' D J b c c1 c2 hi hi' k lo lo' n x:Nat}{P:iQ}{Rr:List Ed}{Rv:dE}{W w w':aa}{a:Act}{cs:gq}{g:Gr}{l:bW}{o:ie}{rest:List Oper}{row:Option Nat}{u v v' v0 v1 v2 v3:av}{xs:aH}
def Fr(w:aa)(lo hi:Nat)(P:iQ):Prop:=∀W:aa,(∀k,lo<=k->k<hi->W.heap[k]?=w.heap[k]?)->P W
section
variable{w w':aa}{lo hi lo' hi':Nat}{P Q:iQ}
def Fr.now(h:Fr w lo hi P):P w:=h w fun _ _ _=>rfl
def Fr.mono(h:Fr w lo hi P)(F:lo'<=lo)(H:hi<=hi'):Fr w lo' hi' P:=fun W D=>h W fun k a b=>D k Ry Ry
def Fr.imp(h:Fr w lo hi P)(f:∀W,P W->Q W):Fr w lo hi Q:=fun W D=>f W (h W D)
def Fr.and(h:Fr w lo hi P)(F:Fr w lo hi Q):Fr w lo hi (fun W=>P W/\Q W):=fun W D=>⟨h W D,F W D⟩
def Fr.all(h:∀W,P W):Fr w lo hi P:=fun W _=>h W
def Fr.same(h:Fr w lo hi P)(F:∀k,lo<=k->k<hi->w'.heap[k]?=w.heap[k]?):Fr w' lo hi P:=fun W D=>h W fun k a b=>(D k a b).trans (F k a b)
def Fr.ext(h:Fr w lo hi P)(D:aj w w')(F:hi<=(w:Nat)):Fr w' lo hi P:=h.same fun k _ b=>D.block k Ry
def Fr.grown(h:Fr w lo hi P)(D:w.grownBy w' row)(H:hi<=(w:Nat))(F:∀g,row=some g->g<lo∨hi<=g):Fr w' lo hi P:=h.same fun k a b=>D.block k Ry fun e=>by have:=F k e.symm;omega
end
def Cw{w:aa}(D:n<=(w:Nat)):(w.heap.extract 0 n)[k]?=if k<n then w.heap[k]? else none:=by
 by_cases h:k<n
 .rw[ar h,Array.getElem?_extract];simp;omega
 .rw[ak h,pn RX]
def qq{w:aa}{B:Nat}{P:iQ}(h:∀W:aa,(∀k,B<=k->W.heap[k]?=w.heap[k]?)->P W)(J:∀a b:aa,aj a b->P a->P b)(O:B<=(w:Nat)):Fr w B w P:=fun W H=>by
 by_cases I:(w:Nat)<=W
 .have F:=h {W with heap:=W.heap.extract 0 w} fun k D=>by
   show(W.heap.extract 0 w)[k]?=_
   rw[Cw I];split
   .exact H k D RV
   .rw[pn Ry]
  refine J {W with heap:=W.heap.extract 0 w} W ⟨rfl,rfl,rfl,?_,fun k D=>?_⟩ F
  .show(W.heap.extract 0 w).size<=(W:Nat)
   rw[Array.size_extract];omega
  .replace D:k < (W.heap.extract 0 w).size:=D
   rw[Array.size_extract]at D
   show W.heap[k]?=(W.heap.extract 0 w)[k]?
   rw[Cw I,ar Ry]
 .refine h W fun k D=>?_
  by_cases F:k < (w:Nat)
  .exact H k D F
  .rw[pn Ry,pn Ry]
def au.fr{w:aa}{B:Nat}{xs:aH}(h:au w B (.slice A n c) xs)(F:B<=(w:Nat)):Fr w B w (fun W=>aU W A xs):=qq (fun W H=>by obtain⟨J,O,e,D,_⟩:=(h.same H).view;cases e;exact D) (fun _ _ I h=>h.ext I) F
def er.fr{w:aa}{B:Nat}{rows:aC}(h:er w B A rows)(D:B<=(w:Nat)):Fr w B w (fun W=>aL W A rows):=qq (fun W F=>(h W F).at) (fun _ _ H h=>h.ext H) D
def aI.fr{w:aa}{B:Nat}{rows:aC}(h:aI w B (.slice A n c) rows)(D:B<=(w:Nat)):Fr w B w (fun W=>aL W A rows):=h.from.fr D
def yi{α:Type}{l:List α}{x:α}(h:(l.take n)[k]?=some x):l[k]?=some x:=by
 rw[fP]at h;split at h
 .exact h
 .cases h
def de{α:Type}(s:Nat)(E:World->α->List Value->Prop)(w:aa)(A:aq)(xs:List α):Prop:=
 xs=[]∨∃b o,A=some ⟨b,o,none⟩/\∀(k:Nat) (x:α),xs[k]?=some x->∃c,(∀(j:Nat) (y:av),c[j]?=some y->af w b (o+k*s+j) y)/\E w x c
def de.ext{α:Type}{s:Nat}{E:World->α->List Value->Prop}{w w':aa}{xs:List α}(H:∀x c,E w x c->E w' x c)(h:de s E w A xs)(I:aj w w'):de s E w' A xs:=
 h.imp id fun⟨b,o,e,J⟩=>⟨b,o,e,fun k x R=>by obtain⟨c,D,F⟩:=J k x R;exact⟨c,fun j y O=>ag I (D j y O),H x c F⟩⟩
def de.here{α:Type}{s:Nat}{E:World->α->List Value->Prop}{w:aa}{xs:List α}(h:de s E w A xs)(D:k<xs.length):∃b o,A=some ⟨b,o,none⟩/\∀(k:Nat) (x:α),xs[k]?=some x->∃c,(∀(j:Nat) (y:av),c[j]?=some y->af w b (o+k*s+j) y)/\E w x c:=by
 rcases h with h|h
 .simp[h]at D
 .exact h
def j2{α:Type}(E:World->α->List Value->Prop)(w:aa)(B:Nat)(v:av)(x:α)(c:bN):Prop:=
 ∃lo hi,B<=lo/\hi<=(w:Nat)/\(∀g,v.ownBlock=some g->g<lo∨hi<=g)/\Fr w lo hi (fun W=>E W x c)
structure lK{α:Type}(T:dE)(s:Nat)(E:World->α->List Value->Prop)(w:aa)(B:Nat)(v:av)(xs:List α)(cs:List (List Value)):Prop where
 outer:w.ownsRow B T s v xs.length cs.flatten
 len:cs.length=xs
 each:∀(k:Nat) (x:α) (c:bN),xs[k]?=some x->cs[k]?=some c->c.length=s/\(∀u∈c,u.oneCell'=true)/\j2 E w B v x c
def bP{α:Type}(T:dE)(s:Nat)(E:World->α->List Value->Prop)(w:aa)(B:Nat)(v:av)(xs:List α):Prop:=∃cs,lK T s E w B v xs cs
def r_{s:Nat}:∀{cs:List (List Value)} {k j:Nat} {c:bN},(∀c∈cs,c.length=s)->cs[k]?=some c->j<s->cs.flatten[k*s+j]?=c[j]?
 |[],k,j,c,_,h,_=>RR
 |d::cs,0,j,c,D,h,H=>by simp at h;subst h;have:=D d (nw ..);rw[zd,dr Ry];simp
 |d::cs,k+1,j,c,D,h,H=>by have F:=D d (nw ..);have:=r_ (cs:=cs) (k:=k) (j:=j) (c:=c) (fun c I=>D c (nv _ I)) R3 H;rw[zd,gD (by rw[F,Nat.succ_mul];omega),F,<-this];congr 1;rw[Nat.succ_mul];omega
section
variable{α:Type}{T:dE}{s:Nat}{E:World->α->List Value->Prop}{w w':aa}{B:Nat}{v:av}{xs:List α}{cs:List (List Value)}
def j2.kept{x:α}{c:bN}(h:j2 E w B v x c)(H:w.grownBy w' row)(O:∀g,row=some g->v.ownBlock=some g)(R:∀g,v'.ownBlock=some g->v.ownBlock=some g∨(w:Nat)<=g):j2 E w' B v' x c:=by obtain⟨lo,hi,I,D,F,J⟩:=h;exact⟨lo,hi,I,bE D H.size,fun g e=>(R g e).elim (F g) fun h=>Ry,J.grown H D fun g e=>F g (O g e)⟩
def j2.ext{x:α}{c:bN}(h:j2 E w B v x c)(hb:aj w w'):j2 E w' B v x c:=XU
def lK.cl(h:lK T s E w B v xs cs):∀c∈cs,c.length=s:=fun c F=>by obtain⟨k,D⟩:=eN.1 F;obtain⟨x,H⟩:=aw (by rw[<-h.len];exact(bs.1 D).1:k<xs.length);exact(h.each k x c H D).1
def lK.ext(h:lK T s E w B v xs cs)(D:aj w w'):lK T s E w' B v xs cs:=
 ⟨ic h.outer (row:=none) ⟨D.os,D.tape,D.output,D.size,fun k O _=>D.block k O⟩ Ud,h.len,fun k x c R J=>by obtain⟨F,H,I⟩:=h.each k x c R J;exact⟨F,H,I.ext D⟩⟩
def bP.ext(h:bP T s E w B v xs)(D:aj w w'):bP T s E w' B v xs:=by obtain⟨cs,h⟩:=h;exact⟨cs,h.ext D⟩
def bP.nil(T:dE)(s:Nat)(E:World->α->List Value->Prop)(w:aa)(B:Nat):bP T s E w B (.slice none 0 0) []:=⟨[],kX _ _ _ _,rfl,fun k x c D=>by simp at D⟩
def bP.lit(T:dE)(s:Nat)(E:World->α->List Value->Prop)(W:aa)(B:Nat)(D:B<=(W:Nat)):bP T s E (W.alloc (.cells #[] T)) B (.slice (aX W) 0 0) []:=⟨[],World.ownsRow_made W #[] 0 D RC Rx,rfl,fun k x c F=>by simp at F⟩
def bP.view(h:bP T s E w B v xs):∃A cap,v=.slice A xs cap/\de s E w A xs/\xs.length<=cap/\cap<=maxLen:=by
 obtain⟨cs,h⟩:=h;have O:=fun g=>pc h.outer (g:=g)
 rcases h.outer.2 with⟨rfl,hn⟩|⟨g,cap,cur,rfl,Z,ab,hn,U,ac⟩
 .exact Xc
 .refine⟨_,cap,rfl,aB ⟨g,0,rfl,fun k x H=>?_⟩,hn,U⟩;obtain⟨c,D⟩:=aw (by rw[h.len];exact(bs.1 H).1:k<cs.length);obtain⟨I,_,lo,hi,_,_,_,J⟩:=h.each k x c H D;refine⟨c,fun j y F=>?_,J.now⟩;have R:j<s:=by rw[<-I];exact(bs.1 F).1
  have:=O g rfl (k*s+j) y (by rw[r_ h.cl D R];exact F);rwa[dy,<-qD]at this
def bP.form(h:bP T s E w B v xs)(D:0<xs.length):∃g cap,v=.slice (aX g) xs cap/\B<=g/\g < (w:Nat):=by obtain⟨cs,h⟩:=h;exact lR h.outer D
def bP.mono(h:bP T s E w B v xs)(ab:B'<=B):bP T s E w B' v xs:=by obtain⟨cs,h⟩:=h;refine⟨cs,⟨h.outer.1,h.outer.2.imp id fun⟨g,cap,cur,D,U,F⟩=>⟨g,cap,cur,D,Ry,F⟩⟩,h.len,fun k x c R O=>?_⟩;obtain⟨H,I,lo,hi,Z,J⟩:=h.each k x c R O;exact⟨H,I,lo,hi,Ry,J⟩
def bP.same(h:bP T s E w B v xs)(H:∀k,B<=k->k < (w:Nat)->w'.heap[k]?=w.heap[k]?)(ao:(w:Nat)<=w'):bP T s E w' B v xs:=by obtain⟨cs,h⟩:=h;refine⟨cs,⟨h.outer.1,h.outer.2.imp id fun⟨g,cap,cur,I,D,F,J⟩=>⟨g,cap,cur,I,D,by rw[H g D (aP.1 F).1];exact F,J⟩⟩,h.len,fun k x c ad ac=>?_⟩;obtain⟨O,R,lo,hi,U,am,Z,ab⟩:=h.each k x c ad ac;exact⟨O,R,lo,hi,U,Ry,Z,ab.same fun k a b=>H k Ry Ry⟩
def bP.setCell(h:bP T s E w B v xs){a:dw}(D:a.block<B)(u:av):bP T s E (w.setCell a u) B v xs:=h.same (fun k F _=>bx _ _ _ _ Ry) Rx
def bP.fr(h:bP T s E w B (.slice A n c) xs)(Z:∀a b x c,aj a b->E a x c->E b x c)(U:B<=(w:Nat)):Fr w B w (fun W=>de s E W A xs):=by
 intro W H;by_cases I:(w:Nat)<=W
 .obtain⟨J,O,e,F,_⟩:=(h.same H I).view;cases e
  exact F
 .rcases zj xs with D|D
  .exact aG (fw D)
  .obtain⟨g,cap,e,F,R⟩:=h.form D;have:=H ((w:Nat)-1) Ry Ry;rw[pn Ry,Array.getElem?_eq_getElem (Ry:(w:Nat)-1<w)]at this;cases this
def lK.nQ{ys:List α}{ds:List (List Value)}(h:lK T s E w B v xs cs)(Z:ds.length=ys)(U:∀(k:Nat) (x:α) (c:bN),ys[k]?=some x->ds[k]?=some c->c.length=s/\(∀u∈c,u.oneCell'=true)/\j2 E w B v x c)(ab:w'.ownsRow B T s v' (xs.length+ys) (cs.flatten++ds.flatten))(O:w.grownBy w' v.ownBlock)(R:∀g,v'.ownBlock=some g->v.ownBlock=some g∨(w:Nat)<=g):lK T s E w' B v' (xs++ys) (cs++ds):=by
 refine⟨by rw[bS,DJ];exact ab,by rw[bS,bS,h.len,Z],fun k x c F D=>?_⟩;by_cases hk:k<cs.length
 .rw[dr hk]at D;rw[dr TQ]at F;obtain⟨H,I,J⟩:=h.each k x c F D;exact⟨H,I,J.kept O (fun g e=>e) R⟩
 .rw[gD Ry]at D;rw[gD (by rw[<-h.len];omega),<-h.len]at F;obtain⟨H,I,J⟩:=U _ x c F D;exact⟨H,I,J.kept O (fun g e=>e) R⟩
end
def j2.flat{α:Type}{T:dE}{s:Nat}{E:World->α->List Value->Prop}{w:aa}{B:Nat}{v:av}{xs:List α}{x:α}{c:bN}(h:bP T s E w B v xs)(D:B<=(w:Nat))(F:∀W,E W x c):j2 E w B v x c:=by obtain⟨cs,h⟩:=h;exact⟨B,B,ah _,D,fun g e=>aB (b_ h.outer g e).1,Fr.all F⟩
structure RT(P:lk)(t T:dE)(s:Nat)(z:av)(bytes:Nat):Prop where
 und:P.underlying t=some (.slice T)
 info:(P.info? T).map (fun i=>(i.zero,i.size,i.bytes))=some (some z,s,bytes)
 zs:z.cells.size=s
 pos:0<s
 bts:bytes<=1000
section
variable{α:Type}{t T:dE}{s bytes:Nat}{z:av}{E:World->α->List Value->Prop}
def vV(D:RT prog t T s z bytes){K:oS}{Q:ir}(U x:kE)(ap:o.op=.call {callee:=.builtin .append,args:=#[U,x],argTypes:=#[t,t]})(B:Nat)(W:aa)(v:av)(xs:List α)(y:α)(c:bN)(O:Nat)(H:bP T s E W B v xs)(ad:c.length=s)(ac:∀u∈c,u.oneCell'=true)(a4:j2 E W B v y c)(ao:xs.length+1<=1048576)(Z:B<=(W:Nat))(a1:a.eval U=v)(a3:a.eval x=.slice (aX O) 1 1)(a0:aW W O c.toArray T)(h:∀g cap w',bP T s E w' B (.slice (aX g) (xs.length+1) cap) (xs++[y])->W.grownBy w' v.ownBlock->(v.ownBlock=some g∨g=(W:Nat))->Below B W w'->K (a.put o.dst (.slice (aX g) (xs.length+1) cap)) w'):o.wp prog a W K Q:=by
 obtain⟨a8,hi,a5,a6,a7⟩:=cM D.info;obtain⟨cs,H⟩:=H;refine wp_append_lies (w:=W) U x t ap B T a8 z s bytes D.und hi a5 a6 a7 D.zs D.pos v _ _ a1 H.outer ⟨O,0,none⟩ 1 1 c a3 Ry (World.news_of_block a0) ac RC ?_ ?_ Z _ rfl ?_
 .unfold maxLen;omega
 .have:=D.bts;have:(xs.length+1)*bytes<=1048576*1000:=Nat.mul_le_mul ao D.bts;omega
 .intro g cap w' Es R ab _;have a2:∀I,(Value.slice (aX g) (xs.length+1) cap).ownBlock=some I->v.ownBlock=some I∨(W:Nat)<=I:=fun I e=>by
   cases e
   rcases ab with h|h
   .exact aG h
   .exact aB (by show(W:Nat)<=g;omega)
  refine h g cap w' ⟨cs++[c],H.nQ (ys:=[y]) (ds:=[c]) rfl ?_ SG R a2⟩ R ab ((ai _ _).grown R Z fun k am=>(b_ H.outer k am).1);intro k ba a9 F J
  match k,F,J with
  |0,F,J=>simp at F J;subst F J;exact⟨ad,ac,a4⟩
  |k+1,F,_=>simp at F
def ef(Z:RT prog t T s z bytes){H:iF}{Q:ir}(ad:o.guard=none)(F x:kE)(ao:o.op=.call {callee:=.builtin .append,args:=#[F,x],argTypes:=#[t,t]})(B:Nat)(W:aa)(v:av)(xs:List α)(y:α)(c:bN)(D:Nat)(ab:bP T s E W B v xs)(ac:c.length=s)(ap:∀u∈c,u.oneCell'=true)(a3:j2 E W B v y c)(am:xs.length+1<=1048576)(U:B<=(W:Nat))(a1:a.eval F=v)(a2:a.eval x=.slice (aX D) 1 1)(a0:aW W D c.toArray T)(h:∀g cap w',bP T s E w' B (.slice (aX g) (xs.length+1) cap) (xs++[y])->W.grownBy w' v.ownBlock->(v.ownBlock=some g∨g=(W:Nat))->Below B W w'->wpList prog H Q rest (a.put o.dst (.slice (aX g) (xs.length+1) cap)) w'):wpList prog H Q (o::rest) a W:=qH ad fun _ hK=>vV Z F x ao B W v xs y c D ab ac ap a3 am U a1 a2 a0 fun g cap w' I J O R=>hK _ _ (h g cap w' I J O R)
def ow(O:RT prog t T s z bytes){H:iF}{K:oS}{Q:ir}{I:Prop}(Z:o.guard=none)(F x:kE)(ac:o.op=.call {callee:=.builtin .append,args:=#[F,x],argTypes:=#[t,t]})(B:Nat)(W:aa)(v:av)(xs:List α)(y:α)(c:bN)(D:Nat)(R:bP T s E W B v xs)(U:c.length=s)(ad:∀u∈c,u.oneCell'=true)(a1:j2 E W B v y c)(ab:xs.length+1<=1048576)(J:B<=(W:Nat))(ao:a.eval F=v)(a0:a.eval x=.slice (aX D) 1 1)(am:aW W D c.toArray T)(h:∀g cap w',bP T s E w' B (.slice (aX g) (xs.length+1) cap) (xs++[y])->W.grownBy w' v.ownBlock->(v.ownBlock=some g∨g=(W:Nat))->Below B W w'->K (a.put o.dst (.slice (aX g) (xs.length+1) cap)) w'):if Region.wanted o (yielded H a.tmps)=true then o.wp prog a W K Q else I:=by
 have ap:Region.wanted o (yielded H a.tmps)=true:=by simp[Region.wanted,Z]
 rw[ar ap];exact vV O F x ac B W v xs y c D R U ad a1 ab J ao a0 am h
end
structure jR where
 k:Int
 v:Int
 s:ByteArray
variable{L:List jR}
def jR.nd(x:jR):Nd:=⟨x.k,x.v,x.s.toList.isEmpty⟩
def dR(L:List jR):List Nd:=L.map jR.nd
def nH(_:aa)(x:jR)(c:bN):Prop:=c=[.int .i64 x.k,.int .i64 x.v,.string x.s]
def jS(h:de 3 nH w A L){x:jR}(D:L[k]?=some x):∃b o,A=some ⟨b,o,none⟩/\af w b (o+k*3) (zI x.k)/\af w b (o+k*3+1) (zI x.v)/\af w b (o+k*3+2) (.string x.s):=by obtain⟨b,o,e,E⟩:=h.here (bs.1 D).1;obtain⟨c,z,B⟩:=E k x D;unfold nH at B;subst B;exact⟨b,o,e,z 0 _ rfl,z 1 _ rfl,z 2 _ rfl⟩
def dB(h:de 3 nH w A L)(z:aj w w'):de 3 nH w' A L:=de.ext (fun _ _ h=>(h:nH w _ _)) h z

def zbY(L:List Nd):Option Tm:=match jc L []with|some [t]=>some t|_=>none
def pL(L:List Nd):Bool:=decide (1<=L.length)&&(decide (L.length<=400)&&(zbY L).isSome)
def zej{L:List Nd}(h:¬(1<=L.length/\L.length<=400)):pL L=false:=by unfold pL;rw[Bool.eq_false_iff];simp only[ne_eq,bn,cw];exact fun⟨a,b,_⟩=>h ⟨a,b⟩
def zbZ{L:List Nd}(h:jc L []=none):pL L=false:=by unfold pL zbY;rw[h];simp
def Aw{x:jR}(h:L[k]?=some x):(dR L).drop k=x.nd::(dR L).drop (k+1):=by
 have z:=(bs.1 h).1;have:(dR L)[k]?=some x.nd:=by simp[dR,h]
 rw[tk (by simpa[dR]using z)];congr 1
 rw[dq (by simpa[dR]using z)]at this;exact eE this

def bC(l:bW):List Int:=l.map fun x:Nat=>(x:Int)
def bf(l:bW):(bC l).length=l:=RQ
def fk(h:l[k]?=some x):(bC l)[k]?=some (x:Int):=by simp[bC,h]
def nY(a b:bW):bC (a++b)=bC a++bC b:=RQ
def EEd(w:aa)(e:Ed)(c:bN):Prop:=∃A1 c1 A2 c2,c=[.int .i64 e.k,.int .i64 e.v,.slice A1 e.i c1,.slice A2 e.o c2]/\aU w A1 (bC e.i)/\aU w A2 (bC e.o)
def EEd.ext{a b:aa}{e:Ed}{c:bN}(z:aj a b)(h:EEd a e c):EEd b e c:=by obtain⟨A1,c1,A2,c2,B,D,E⟩:=h;exact⟨A1,c1,A2,c2,B,D.ext z,E.ext z⟩
def zh1:RT prog 149 166 4 (.agg #[(),(),fA,fA]) 64:=⟨underlying149,RU,RC,RC,RC⟩
structure oI(w:aa)(A1 A2 A3:aq)(g:Gr):Prop where
 es:de 4 EEd w A1 g.es
 i:aU w A2 (bC g.i)
 o:aU w A3 (bC g.o)
def oI.ext{a b:aa}(h:oI a A1 A2 A3 g)(z:aj a b):oI b A1 A2 A3 g:=⟨de.ext (fun _ _ h=>h.ext z) h.es z,h.i.ext z,h.o.ext z⟩
def CL(g:Gr)(w:aa)(e:Ending)(w':aa):Prop:=∃A1 c1 A2 c2 A3 c3,e=.returned (.agg (bF g A1 c1 A2 c2 A3 c3))/\Fr w' w w' (fun W=>oI W A1 A2 A3 g)/\aj w w'
def pY(h:de 4 EEd w A Rr){e:Ed}(B:Rr[k]?=some e):∃b o A1 c1 A2 c2,A=some ⟨b,o,none⟩/\af w b (o+k*4) (zI e.k)/\af w b (o+k*4+1) (zI e.v)/\af w b (o+k*4+2) (.slice A1 e.i c1)/\af w b (o+k*4+3) (.slice A2 e.o c2)/\aU w A1 (bC e.i)/\aU w A2 (bC e.o):=by obtain⟨b,o,D,I⟩:=h.here (bs.1 B).1;obtain⟨c,z,A1,c1,A2,c2,E,F,H⟩:=I k e B;subst E;exact⟨b,o,A1,c1,A2,c2,D,z 0 _ rfl,z 1 _ rfl,z 2 _ rfl,z 3 _ rfl,F,H⟩
def jv(a n:Nat):List Nat:=(List.range n).map (· +a)
def nG(a n:Nat):(jv a n).length=n:=by simp[jv]
def BF{a:Nat}(h:k<n):(jv a n)[k]?=some (k+a):=by simp[jv,h]
def Fr.later(h:Fr w lo hi P)(z:aj w w')(B:hi<=(w:Nat)):Fr w' lo w' P:=(h.ext z B).mono (ah _) (bE B z.size)
def Fr.ed(h:Fr w lo hi P)(z:b<lo):Fr (ed w b v0 v1 v2 v3) lo hi P:=h.same fun k a _=>j6 Ry
def Fr.to(h:Fr w lo hi P)(z:lo'<=lo)(B:hi<=hi'):Fr w lo' hi' P:=h.mono z B
def zgD(B:Fr w lo hi fun W=>de 4 EEd W A1 g.es)(D:Fr w lo hi fun W=>aU W A2 (bC g.i))(E:Fr w lo hi fun W=>aU W A3 (bC g.o)):Fr w lo hi fun W=>oI W A1 A2 A3 g:=fun W z=>⟨B W z,D W z,E W z⟩
def zhy{e:Ed}(H:aW W D (C8 e A1 c1 A2 c2) 166)(E:lo<=D)(F:D<hi)(f1:Fr W lo hi fun V=>aU V A1 (bC e.i))(f2:Fr W lo hi fun V=>aU V A2 (bC e.o)):Fr W lo hi fun V=>de 4 EEd V (some ⟨D,0,none⟩) [e]:=fun V B=>by
 refine aB ⟨D,0,rfl,fun k x z=>?_⟩
 match k,z with
 |0,z=>
  simp at z;subst z;refine⟨_,fun j y I=>?_,A1,c1,A2,c2,rfl,f1 V B,f2 V B⟩;rw[show 0+0*4+j=j by omega,aV ((B D E F).trans H) j];exact I
 |k+1,z=>simp at z
def ja(h:aW W b cs 3)(e:cs.toList=xs.map (Value.int .i64)):aU W (some ⟨b,0,none⟩) xs:=aB ⟨b,0,rfl,fun k x z=>by rw[fY,aV h k,e,bR,z];rfl⟩
def zdi(h:aW W b cs 3)(e:cs.toList=xs.map (Value.int .i64))(z:lo<=b)(B:b<hi):Fr W lo hi fun V=>aU V (some ⟨b,0,none⟩) xs:=fun V D=>ja ((D b z B).trans h) e
def vx(w:aa)(B z:Nat)(P:iQ):Prop:=∃lo hi,B<=lo/\hi<=(w:Nat)/\(z<lo∨hi<=z)/\Fr w lo hi P
def vx.ext(h:vx w D J P)(hb:aj w w'):vx w' D J P:=XU
def vx.set{a:dw}(h:vx w D a.block P):vx (w.setCell a v) D a.block P:=by obtain⟨lo,hi,z,h2,B,E⟩:=h;exact⟨lo,hi,z,Sm,B,E.same fun k a b=>bx _ _ _ _ Ry⟩
def vx.zhM(h:vx w D J P)(H:b<D):vx (ed w b v0 v1 v2 v3) D J P:=by obtain⟨lo,hi,z,B,E,F⟩:=h;exact⟨lo,hi,z,by rw[eu];exact B,E,F.same fun k a b=>j6 Ry⟩
def vx.mk(h:Fr w lo hi P)(z:D<=lo)(B:hi<=(w:Nat))(E:J<lo∨hi<=J):vx w D J P:=⟨lo,hi,z,B,E,h⟩
def vx.mk4(h:Fr w lo hi P)(z:D<=lo)(B:hi<=(w:Nat))(E:J<lo∨hi<=J):vx (ed w J v0 v1 v2 v3) D J P:=⟨lo,hi,z,by rw[eu];exact B,E,h.same fun k a b=>j6 Ry⟩
def vx.late(h:vx w D J P)(z:dd J (J+1) w w')(I:D<=J):vx w' D J P:=by obtain⟨lo,hi,B,E,F,H⟩:=h;exact⟨lo,hi,B,bE E z.size,F,H.same fun k a b=>z.block k Ry Ry⟩
def vx.all(h:vx w D J P):Fr w D w P:=by obtain⟨lo,hi,z,B,F,E⟩:=h;exact E.to z B
def vx.grown(h:vx w D J P)(B:w.grownBy w' row)(I:∀g,row=some g->(w:Nat)<=g):vx w' D J P:=by obtain⟨lo,hi,E,z,F,H⟩:=h;exact⟨lo,hi,E,bE z B.size,F,H.grown B z fun g e=>by have:=I g e;omega⟩
def dd.low{a b c:aa}(h:dd lo hi a b)(k:Below a b c):dd lo hi a c:=⟨k.os.trans h.os,k.tape.trans h.tape,k.output.trans h.output,bE h.size k.size,fun i z B=>(k.block i z).trans (h.block i z B)⟩
def zfT{E:Type}{B:dE}{s:Nat}{F:World->E->List Value->Prop}{xs:List E}(h:bP Rv s F w J v xs)(I:aW w D cs B)(H:Rv≠B):v.ownBlock≠some D:=by
 obtain⟨cs,h⟩:=h;rcases h.outer.2 with⟨rfl,_⟩|⟨g,cap,cur,rfl,_,z,_⟩
 .simp[Value.ownBlock]
 .intro e;simp only[Value.ownBlock,dt]at e;rw[e,I]at z;simp only[dt,Obj.cells.injEq]at z;exact H z.2.1.symm
def zap(t:aH)(f:gj)(g:Gr):Prop:=∀x,g.On x->t[x]?=some ((f x:Nat):Int)
def Ao{t:aH}{f:gj}(h:∀x∈l,t[x]?=some ((f x:Nat):Int)):mJ t (bC l)=bC (l.map f):=by
 unfold mJ bC;rw[kB,kB];refine jr fun x z=>?_
 simp[h x z]
def zaq{t:aH}{f:gj}(h:∀x∈l,t[x]?=some ((f x:Nat):Int)):∀i∈bC l,0<=i/\i<t.length:=fun i hi=>by obtain⟨x,z,rfl⟩:=cd.1 hi;have:=(bs.1 (h x z)).1;omega
def CO:(prog.info? 29).map (fun i=>(i.zero,i.size,i.bytes))=some (some (.agg dH),5,56):=RU
def iY{w:aa}{B s:Nat}{v:av}{E:dE}{xs I:bN}(H:Rv≠E)(h:w.ownsRow B Rv s v n xs)(h':w.ownsRow B' E D v' J I):v.ownBlock=none∨v.ownBlock≠v'.ownBlock:=by
 rcases h.2 with⟨rfl,_⟩|⟨g,cap,cur,rfl,_,F,_⟩
 .exact aG rfl
 .right;rcases h'.2 with⟨rfl,_⟩|⟨R,O,Q,rfl,_,z,_⟩
  .simp[Value.ownBlock]
  .intro e;simp only[Value.ownBlock,dt]at e;subst e;rw[F]at z;simp at z;exact H z.2
def dx(x:cZ)(u:av):List Value:=[.int .i64 x.k,.int .i64 x.a,.int .i64 x.b,.int .i64 x.c,u]
def gU:List cZ->List Value->List Value
 |x::xs,u::us=>dx x u++gU xs us
 |_,_=>[]
def w_:∀{xs:List cZ} {us:bN},us.length=xs->(gU xs us).length=xs*5
 |[],us,_=>by simp[gU]
 |x::xs,[],h=>RR
 |x::xs,u::us,h=>by have:=w_ (xs:=xs) (us:=us) R3;simp[gU,dx,this];omega
def pB{j:Nat}(D:j<5):∀{xs:List cZ} {us:bN} {k:Nat} {x:cZ} {u:av},xs[k]?=some x->us[k]?=some u->(gU xs us)[k*5+j]?=(dx x u)[j]?
 |[],us,k,x,u,h,_=>RR
 |x::xs,[],k,_,_,_,h=>RR
 |x::xs,u::us,0,y,t,h,z=>by simp at h z;subst h z;rw[gU,dr (by simp[dx];omega)];simp
 |x::xs,u::us,k+1,y,t,h,z=>by simp only[cT]at h z;have:=pB D h z;rw[gU,gD (by simp[dx];omega)];rw[<-this];congr 1;simp[dx];omega
def zL:∀{xs:List cZ} {us:bN} (x:cZ) (u:av),us.length=xs->gU (xs++[x]) (us++[u])=gU xs us++dx x u
 |[],us,x,u,h=>Xe
 |x::xs,[],_,_,h=>RR
 |x::xs,u::us,y,t,h=>by have:=zL (xs:=xs) (us:=us) y t R3;simp[gU,this]
def xa:∀{xs:List cZ} {us:bN} {k:Nat} (x:cZ) (u:av),us.length=xs->k<xs.length->(((((gU xs us).set (k*5) (zI x.k)).set (k*5+1) (zI x.a)).set (k*5+2) (zI x.b)).set (k*5+3) (zI x.c)).set (k*5+4) u=gU (xs.set k x) (us.set k u)
 |[],us,k,x,u,_,z=>by simp at z
 |x::xs,[],_,_,_,h,_=>RR
 |y::xs,t::us,0,x,u,h,z=>by simp[gU,dx]
 |y::xs,t::us,k+1,x,u,h,z=>by
  have:=xa (xs:=xs) (us:=us) (k:=k) x u R3 (by simpa using z);simp only[gU,dx,y_,tc,List.set_cons_succ];rw[<-this];have e:∀j,(k+1)*5+j=(k*5+j)+5:=fun j=>Ry
  have D:(k+1)*5=k*5+5:=Ry;simp only[e,D,List.set_cons_succ]
structure bG(w:aa)(B:Nat)(v:av)(xs:List cZ)(us:bN):Prop where
 len:us.length=xs
 outer:w.ownsRow B 29 5 v xs.length (gU xs us)
 each:∀(k:Nat) (u:av) (x:cZ),us[k]?=some u->xs[k]?=some x->au w B u x.row
 apart:∀(i j:Nat) (u u':av) (b:Nat),us[i]?=some u->us[j]?=some u'->u.ownBlock=some b->u'.ownBlock=some b->i=j
def bX(w:aa)(B:Nat)(v:av)(xs:List cZ):Prop:=∃us,bG w B v xs us
section
variable{w w':aa}{B:Nat}{v:av}{xs:List cZ}{us:bN}
def bG.get(h:bG w B v xs us){x:cZ}(hx:xs[k]?=some x):∃u,us[k]?=some u/\au w B u x.row:=Yn
def bG.lp(h:bG w B v xs us)(z:us[k]?=some u):∃x,xs[k]?=some x/\au w B u x.row:=by
 have:k<xs.length:=by rw[<-h.len];exact(bs.1 z).1
 obtain⟨x,D⟩:=aw this;exact⟨x,D,h.each k u x z D⟩
def bX.view(h:bX w B v xs):∃A cap,v=.slice A xs cap/\fF w A xs/\xs.length<=cap/\cap<=maxLen:=by
 obtain⟨us,h⟩:=h;have I:=fun g=>pc h.outer (g:=g)
 rcases h.outer.2 with⟨rfl,hn⟩|⟨g,cap,cur,rfl,T,U,hn,J,Z⟩
 .exact Xc
 .refine⟨_,cap,rfl,aB ⟨g,0,rfl,fun k x F=>?_⟩,hn,J⟩;obtain⟨u,Q,O⟩:=h.get F;obtain⟨D,E,rfl,hi,_⟩:=O.view;have z:∀(j:Nat) (y:av),j<5->(dx x (.slice D x.row E))[j]?=some y->af w g (0+k*5+j) y:=fun j y H R=>by have:=I g rfl (k*5+j) y (by rw[pB H F Q];exact R);rwa[dy,<-qD]at this
  exact⟨D,E,⟨z 0 _ RC rfl,z 1 _ RC rfl,z 2 _ RC rfl,z 3 _ RC rfl,z 4 _ RC rfl⟩,hi⟩
def bG.ext(h:bG w B v xs us)(z:aj w w'):bG w' B v xs us:=⟨h.len,ic h.outer (row:=none) ⟨z.os,z.tape,z.output,z.size,fun k D _=>z.block k D⟩ Ud,fun k u r F E=>(h.each k u r F E).ext z,h.apart⟩
def bX.ext(h:bX w B v xs)(hb:aj w w'):bX w' B v xs:=WM
def bG.same(h:bG w B v xs us)(hs:∀k,B<=k->w'.heap[k]?=w.heap[k]?):bG w' B v xs us:=⟨h.len,⟨h.outer.1,h.outer.2.imp id fun⟨g,cap,cur,z,a2,a3,D⟩=>⟨g,cap,cur,z,a2,TT,D⟩⟩,fun k u r F E=>(h.each k u r F E).same hs,h.apart⟩
def bX.same(h:bX w B v xs)(z:∀k,B<=k->w'.heap[k]?=w.heap[k]?):bX w' B v xs:=by obtain⟨us,h⟩:=h;exact⟨us,h.same z⟩
def bG.mono{B':Nat}(h:bG w B v xs us)(E:B'<=B):bG w B' v xs us:=⟨h.len,⟨h.outer.1,h.outer.2.imp id fun⟨g,cap,cur,z,I,D⟩=>⟨g,cap,cur,z,Ry,D⟩⟩,fun k u r H F=>(h.each k u r H F).mono E,h.apart⟩
def bX.mono(h:bX w B v xs)(z:B'<=B):bX w B' v xs:=by obtain⟨us,h⟩:=h;exact⟨us,h.mono z⟩
def bX.setCell(h:bX w B v xs){a:dw}(z:a.block<B)(u:av):bX (w.setCell a u) B v xs:=h.same fun k D=>bx _ _ _ _ Ry
def bX.nil(w:aa)(B:Nat):bX w B (.slice none 0 0) []:=⟨[],rfl,kX _ _ _ _,fun k u r hu=>RS,fun i j u z b hu=>RS⟩
def bX.lit(W:aa)(B:Nat)(z:B<=(W:Nat)):bX (W.alloc (.cells #[] 29)) B (.slice (aX W) 0 0) []:=⟨[],rfl,tg W #[] 0 z RC rfl,fun k u r hu=>RS,fun i j u D b hu=>RS⟩
def bG.lt(h:bG w B v xs us):∀k,v.ownBlock=some k->B<=k/\k < (w:Nat):=b_ h.outer
def bG.snoc{x:cZ}(h:bG w B v xs us)(U:au w B u x.row)(R:∀b,u.ownBlock=some b->∀H∈us,H.ownBlock≠some b)(ad:w'.ownsRow B 29 5 v' (xs.length+1) (gU xs us++dx x u))(T:w.grownBy w' v.ownBlock):bG w' B v' (xs++[x]) (us++[u]):=by
 refine⟨R0,by rw[zL _ _ h.len];simpa using ad,?_,?_⟩
 .intro k H Z E F;by_cases hk:k<us.length
  .rw[dr hk]at E;rw[dr TQ]at F;exact au.kept (h.each k H Z E F) T (iY RC (h.each k H Z E F) h.outer)
  .have ac:k=us.length:=by have:=(bs.1 E).1;simp at this;omega
   subst ac;simp at E;rw[h.len]at F;simp at F;subst E F;exact au.kept U T (iY RC U h.outer)
 .intro i j u1 u2 b z D I J;have hi:=(bs.1 z).1;have ab:=(bs.1 D).1;simp only[bS,mr,h_]at hi ab;by_cases O:i<us.length <;>by_cases Q:j<us.length
  .rw[dr O]at z;rw[dr Q]at D;exact h.apart i j u1 u2 b z D I J
  .rw[dr O]at z;obtain rfl:j=us.length:=Ry;simp at D;subst D;exact absurd I (R b J u1 (aR z))
  .rw[dr Q]at D;obtain rfl:i=us.length:=Ry;simp at z;subst z;exact absurd J (R b I u2 (aR D))
  .omega
def bG.put{g cap:Nat}{x:cZ}(ab:n=xs.length)(h:bG w B (.slice (aX g) n cap) xs us)(hk:k<n)(J:au w B u x.row)(H:∀b,u.ownBlock=some b->∀E∈us,E.ownBlock≠some b):bG (((((w.setCell ⟨g,k*5,none⟩ (zI x.k)).setCell ⟨g,k*5+1,none⟩ (zI x.a)).setCell ⟨g,k*5+2,none⟩ (zI x.b)).setCell ⟨g,k*5+3,none⟩ (zI x.c)).setCell ⟨g,k*5+4,none⟩ u) B (.slice (aX g) n cap) (xs.set k x) (us.set k u)/\w.grownBy (((((w.setCell ⟨g,k*5,none⟩ (zI x.k)).setCell ⟨g,k*5+1,none⟩ (zI x.a)).setCell ⟨g,k*5+2,none⟩ (zI x.b)).setCell ⟨g,k*5+3,none⟩ (zI x.c)).setCell ⟨g,k*5+4,none⟩ u) (some g):=by
 subst ab;have O:=h.outer.stored (k*5) (zI x.k);have Q:=O.1.stored (k*5+1) (zI x.a);have R:=Q.1.stored (k*5+2) (zI x.b);have T:=R.1.stored (k*5+3) (zI x.c);have U:=T.1.stored (k*5+4) u;have F:=bq (bq (bq (bq O.2 Q.2) R.2) T.2) U.2;refine⟨⟨R0,?_,?_,?_⟩,F⟩
 .have:=U.1;rw[xa x u h.len hk]at this;simpa using this
 .intro j E Z z D;by_cases I:k=j
  .subst I;rw[dJ Ts]at z;rw[dJ hk]at D;cases z;cases D
   exact au.kept J F (iY RC J h.outer)
  .rw[df I]at z D;exact au.kept (h.each j E Z z D) F (iY RC (h.each j E Z z D) h.outer)
 .intro i j u1 u2 b h1 h2 h3 h4;by_cases ci:k=i <;>by_cases cj:k=j
  .omega
  .subst ci;rw[dJ Ts]at h1;rw[df cj]at h2;cases h1
   exact absurd h4 (H b h3 u2 (aR h2))
  .subst cj;rw[dJ Ts]at h2;rw[df ci]at h1;cases h2
   exact absurd h3 (H b h4 u1 (aR h1))
  .exact Xx
def bG.fresh{r:aH}(h:bG w B v xs us)(hu:au w' w u r):∀b,u.ownBlock=some b->∀z∈us,z.ownBlock≠some b:=fun b hb z E e=>by obtain⟨k,D⟩:=eN.1 E;obtain⟨x,_,ho⟩:=h.lp D;exact WY
end
def zdH:cZ:=⟨0,0,0,0,[]⟩
def zbp(n:Nat):(madeCells (Value.agg #[.int .i64 0,.int .i64 0,.int .i64 0,.int .i64 0,.slice none 0 0]).cells (n*5)).toList=gU (List.replicate n zdH) (List.replicate n (.slice none 0 0)):=by
 apply eQ;intro i;by_cases hi:i<n*5
 .have z:i / 5<n:=Ry;have:=pB (j:=i%5) Ry (xs:=List.replicate n zdH) (us:=List.replicate n (.slice none 0 0)) (k:=i / 5) (x:=zdH) (u:=fA) (by simp[z]) (by simp[z]);rw[show i / 5*5+i%5=i by omega]at this;rw[this];have D:i%5=0∨i%5=1∨i%5=2∨i%5=3∨i%5=4:=Ry;rcases D with h|h|h|h|h <;>simp[madeCells,Value.cells,hi,h,dx,zdH]
 .rw[fy (by simp[madeCells];omega),fy (by rw[w_ Rx];simp;omega)]
def bG.made{w:aa}{B:Nat}{v:av}(h:w.ownsRow B 29 5 v n (madeCells (Value.agg #[.int .i64 0,.int .i64 0,.int .i64 0,.int .i64 0,.slice none 0 0]).cells (n*5)).toList):bG w B v (List.replicate n zdH) (List.replicate n (.slice none 0 0)):=by
 rw[zbp]at h;refine⟨Rx,R3,?_,?_⟩
 .exact YK
 .exact Yw
end Go.Proofs.YtdpgblncijojiaaGreatDoor
