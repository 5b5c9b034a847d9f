/- Parts of the walks. Conditions: as stated with each. -/
import Derived.Test.YtpieilkmmiopfaaGreatDoorPk13
import Derived.Test.YtpieilkmmiopfaaGreatDoorPk16
namespace Go.Proofs.YtpieilkmmiopfaaGreatDoor
open Go.RowKit Tryz
set_option linter.all false
set_option maxHeartbeats 8000000
set_option maxRecDepth 100000
variable{A A1:ax}{B' c k m n:Nat}{K:pt}{S S':List Tm}{a:Act}{e:Ed}{g:Gr}{l:bP}{o:h_}{ops:iI}{rest:List Oper}{row:Option Nat}{rows:aP}{w w':aa}
def Fr(w:aa)(lo hi:Nat)(P:j4):Prop:=∀W:aa,(∀k,lo<=k->k<hi->W.heap[k]?=w.heap[k]?)->P W
section
variable{w w':aa}{lo hi lo' hi':Nat}{P Q:j4}
def Fr.D(h:Fr w lo hi P):P w:=h w fun _ _ _=>rfl
def Fr.x(h:Fr w lo hi P)(F:lo'<=lo)(G:hi<=hi'):Fr w lo' hi' P:=fun W D=>h W fun k a b=>D k Qu Qu
def Fr.E(h:Fr w lo hi P)(f:∀W,P W->Q W):Fr w lo hi Q:=fun W D=>f W (h W D)
def Fr.and(D:Fr w lo hi P)(F:Fr w lo hi Q):Fr w lo hi (fun W=>P W/\Q W):=fun W h=>⟨D W h,F W h⟩
def Fr.all(h:∀W,P W):Fr w lo hi P:=fun W _=>h W
def Fr.y(h:Fr w lo hi P)(F:∀k,lo<=k->k<hi->w'.heap[k]?=w.heap[k]?):Fr w' lo hi P:=fun W D=>h W fun k a b=>(D k a b).t (F k a b)
def Fr.ext(h:Fr w lo hi P)(D:ag w w')(F:hi<=(w:Nat)):Fr w' lo hi P:=h.y fun k _ b=>D.block k Qu
def Fr.grown(h:Fr w lo hi P)(D:w.grownBy w' row)(G:hi<=(w:Nat))(F:∀g,row=some g->g<lo∨hi<=g):Fr w' lo hi P:=h.y fun k a b=>D.block k Qu fun e=>by have:=F k e.q;omega
end
def zbd{w:aa}(D:n<=(w:Nat)):(w.heap.extract 0 n)[k]?=if k<n then w.heap[k]? else none:=by
 by_cases h:k<n
 .rw[ak h,Array.getElem?_extract];simp;omega
 .rw[aj h,AM QW]
def tU{w:aa}{B}{P}(F:∀W:aa,(∀k,B<=k->W.heap[k]?=w.heap[k]?)->P W)(I:∀a b:aa,ag a b->P a->P b)(J:B<=(w:Nat)):Fr w B w P:=fun W G=>by
 by_cases H:(w:Nat)<=W
 .have D:=F {W with heap:=W.heap.extract 0 w} fun k h=>by
   show(W.heap.extract 0 w)[k]?=_
   rw[zbd H];split
   .exact G k h QR
   .rw[AM Qu]
  refine I {W with heap:=W.heap.extract 0 w} W ⟨rfl,rfl,rfl,?_,fun k h=>?_⟩ D
  .show(W.heap.extract 0 w).size<=(W:Nat)
   rw[Array.size_extract];omega
  .replace h:k < (W.heap.extract 0 w).size:=h
   rw[Array.size_extract]at h
   show W.heap[k]?=(W.heap.extract 0 w)[k]?
   rw[zbd H,ak Qu]
 .refine F W fun k h=>?_
  by_cases D:k < (w:Nat)
  .exact G k h D
  .rw[AM Qu,AM Qu]
def aE.fr{w}{B}{xs}(h:aE w B (.slice A n c) xs)(F:B<=(w:Nat)):Fr w B w (fun W=>aO W A xs):=tU (fun W G=>by obtain⟨I,J,e,D,_⟩:=(h.y G).p;cases e;exact D) (fun _ _ H h=>h.ext H) F
def ig.fr{w}{B}(h:ig w B A rows)(D:B<=(w:Nat)):Fr w B w (fun W=>bt W A rows):=tU (fun W F=>(h W F).at) (fun _ _ G h=>h.ext G) D
def zec{w:aa}{B s ε}{T}{xs}(h:w.ownsRow B T s (.slice A m ε) m xs)(O:n<=m):w.ownsRow B T s (.slice A n ε) n (xs.take (n*s)):=by
 have U:n*s<=m*s:=Am _ O;refine⟨by rw[cQ,h.1];omega,?_⟩;rcases h.2 with⟨e,Y⟩|⟨g,c,D,e,F,G,Z,H,I,J⟩
 .left;obtain rfl:n=0:=Qu;cases e
  exact⟨rfl,rfl⟩
 .right;cases e
  refine⟨g,ε,D,rfl,F,G,Qu,H,I,?_⟩;rw[<-J,nt,iw U]
def rE{α:Type}{l:List α}{x}(h:(l.take n)[k]?=some x):l[k]?=some x:=by
 rw[iM]at h;split at h
 .exact h
 .cases h
def bR{α:Type}(s:Nat)(E:World->α->List Value->Prop)(w:aa)(A:ax)(xs:List α):Prop:=
 xs=[]∨∃b o,A=some ⟨b,o,none⟩/\∀(k:Nat) (x:α),xs[k]?=some x->∃c,(∀(j:Nat) (y:aG),c[j]?=some y->af w b (o+k*s+j) y)/\E w x c
def bR.ext{α}{s}{E}{w w'}{xs:List α}(G:∀x c,E w x c->E w' x c)(h:bR s E w A xs)(H:ag w w'):bR s E w' A xs:=
 h.E id fun⟨b,o,e,I⟩=>⟨b,o,e,fun k x O=>by obtain⟨c,D,F⟩:=I k x O;exact⟨c,fun j y J=>ar H (D j y J),G x c F⟩⟩
def bR.θ{α}{s}{E}{w}{xs}(h:bR s E w A xs)(D:k<xs.length):∃b o,A=some ⟨b,o,none⟩/\∀(k:Nat) (x:α),xs[k]?=some x->∃c,(∀(j:Nat) (y:aG),c[j]?=some y->af w b (o+k*s+j) y)/\E w x c:=by
 rcases h with h|h
 .simp[h]at D
 .exact h
def kn{α:Type}(E:World->α->List Value->Prop)(w:aa)(B:Nat)(v:aG)(x:α)(c:cL):Prop:=
 ∃lo hi,B<=lo/\hi<=(w:Nat)/\(∀g,v.ownBlock=some g->g<lo∨hi<=g)/\Fr w lo hi (fun W=>E W x c)
structure nf{α:Type}(T:dL)(s:Nat)(E:World->α->List Value->Prop)(w:aa)(B:Nat)(v:aG)(xs:List α)(cs:List (List Value)):Prop where
 η:w.ownsRow B T s v xs.length cs.flatten
 ι:cs.length=xs
 ν:∀(k:Nat) (x:α) (c:cL),xs[k]?=some x->cs[k]?=some c->c.length=s/\(∀u∈c,u.oneCell'=true)/\kn E w B v x c
def bw{α:Type}(T:dL)(s:Nat)(E:World->α->List Value->Prop)(w:aa)(B:Nat)(v:aG)(xs:List α):Prop:=∃cs,nf T s E w B v xs cs
def mM{s}:∀{cs:List (List Value)} {k j:Nat} {c:cL},(∀c∈cs,c.length=s)->cs[k]?=some c->j<s->cs.flatten[k*s+j]?=c[j]?
 |[],k,j,c,_,h,_=>QO
 |d::cs,0,j,c,D,h,G=>by simp at h;subst h;have:=D d (kb ..);rw[uH,dU Qu];simp
 |d::cs,k+1,j,c,D,h,G=>by
  have F:=D d (kb ..);have:=mM (cs:=cs) (k:=k) (j:=j) (c:=c) (fun c H=>D c (kC _ H)) Q_ G;rw[uH,fi (by rw[F,AF];omega),F,<-this];congr 1
  rw[AF];omega
def zZ{s}:∀{cs:List (List Value)} (n:Nat),(∀c∈cs,c.length=s)->(cs.take n).flatten=cs.flatten.take (n*s)
 |[],n,_=>Qt
 |c::cs,0,_=>Qt
 |c::cs,n+1,h=>by have D:=h c (kb ..);rw[w_,uH,uH,zZ n fun c F=>h c (kC _ F),AF,uI,<-D,List.take_length_add_append]
section
variable{α:Type}{T:dL}{s:Nat}{E:World->α->List Value->Prop}{w w':aa}{B:Nat}{v:aG}{xs:List α}{cs:List (List Value)}
def kn.kept{H}{x}{c}(h:kn E w B v x c)(G:w.grownBy w' row)(O:∀g,row=some g->v.ownBlock=some g)(U:∀g,H.ownBlock=some g->v.ownBlock=some g∨(w:Nat)<=g):kn E w' B H x c:=by obtain⟨lo,hi,I,D,F,J⟩:=h;exact⟨lo,hi,I,aZ D G.size,fun g e=>(U g e).elim (F g) fun h=>Qu,J.grown G D fun g e=>F g (O g e)⟩
def kn.ext{x}{c}(F:kn E w B v x c)(D:ag w w'):kn E w' B v x c:=by obtain⟨lo,hi,G,h,H,I⟩:=F;exact⟨lo,hi,G,aZ h D.size,H,I.ext D h⟩
def nf.cl(h:nf T s E w B v xs cs):∀c∈cs,c.length=s:=fun c F=>by obtain⟨k,D⟩:=eH.1 F;have⟨x,G⟩:=aq (by rw[<-h.ι];exact(bG.1 D).1:k<xs.length);exact(h.ν k x c G D).1
def nf.ext(D:nf T s E w B v xs cs)(h:ag w w'):nf T s E w' B v xs cs:=
 ⟨jA D.η (row:=none) ⟨h.os,h.tape,h.output,h.size,fun k J _=>h.block k J⟩ TC,D.ι,fun k x c O I=>by obtain⟨F,G,H⟩:=D.ν k x c O I;exact⟨F,G,H.ext h⟩⟩
def bw.ext(h:bw T s E w B v xs)(D:ag w w'):bw T s E w' B v xs:=by obtain⟨cs,h⟩:=h;exact⟨cs,h.ext D⟩
def bw.nil T s(E:World->α->List Value->Prop)w B:bw T s E w B (.slice none 0 0) []:=⟨[],rT _ _ _ _,rfl,fun k x c h=>by simp at h⟩
def bw.lit T s(E:World->α->List Value->Prop)(W:aa)B(h:B<=(W:Nat)):bw T s E (W.alloc (.cells #[] T)) B (.slice (bH W) 0 0) []:=⟨[],World.ownsRow_made W #[] 0 h Qw Qt,rfl,fun k x c D=>by simp at D⟩
def bw.p(h:bw T s E w B v xs):∃A ε,v=.slice A xs ε/\bR s E w A xs/\xs.length<=ε/\ε<=maxLen:=by
 obtain⟨cs,h⟩:=h;have I:=fun g=>oz h.η (g:=g)
 rcases h.η.2 with⟨rfl,hn⟩|⟨g,ε,O,rfl,U,Y,hn,hm,Z⟩
 .exact WH
 .refine MG fun k x hk=>?_
  have⟨c,D⟩:=aq (by rw[h.ι];exact(bG.1 hk).1:k<cs.length);obtain⟨G,_,lo,hi,_,_,_,H⟩:=h.ν k x c hk D;refine⟨c,fun j y F=>?_,H.D⟩;have J:j<s:=by rw[<-G];exact(bG.1 F).1
  have:=I g rfl (k*s+j) y (by rw[mM h.cl D J];exact F);rwa[dF,<-ow]at this
def bw.form(h:bw T s E w B v xs)(D:0<xs.length):∃g ε,v=.slice (bH g) xs ε/\B<=g/\g < (w:Nat):=by obtain⟨cs,h⟩:=h;exact pW h.η D
def bw.x(h:bw T s E w B v xs)(ab:B'<=B):bw T s E w B' v xs:=by obtain⟨cs,h⟩:=h;refine⟨cs,⟨h.η.1,h.η.2.E id fun⟨g,ε,G,D,Y,F⟩=>⟨g,ε,G,D,Qu,F⟩⟩,h.ι,fun k x c U O=>?_⟩;obtain⟨H,I,lo,hi,Z,J⟩:=h.ν k x c U O;exact⟨H,I,lo,hi,Qu,J⟩
def bw.y(h:bw T s E w B v xs)(G:∀k,B<=k->k < (w:Nat)->w'.heap[k]?=w.heap[k]?)(am:(w:Nat)<=w'):bw T s E w' B v xs:=by obtain⟨cs,h⟩:=h;refine⟨cs,⟨h.η.1,h.η.2.E id fun⟨g,ε,J,H,D,F,I⟩=>⟨g,ε,J,H,D,by rw[G g D (bk.1 F).1];exact F,I⟩⟩,h.ι,fun k x c ad ac=>?_⟩;obtain⟨O,U,lo,hi,Y,ah,Z,ab⟩:=h.ν k x c ad ac;exact⟨O,U,lo,hi,Y,Qu,Z,ab.y fun k a b=>G k Qu Qu⟩
def bw.setCell(h:bw T s E w B v xs){a}(D:a.block<B)u:bw T s E (w.setCell a u) B v xs:=h.y (fun k F _=>a_ _ _ _ _ Qu) Qt
def bw.fr(D:bw T s E w B (.slice A n c) xs)(Y:∀a b x c,ag a b->E a x c->E b x c)(U:B<=(w:Nat)):Fr w B w (fun W=>bR s E W A xs):=by
 intro W G;by_cases H:(w:Nat)<=W
 .obtain⟨I,J,e,F,_⟩:=(D.y G H).p;cases e
  exact F
 .rcases AH xs with h|h
  .exact ay (iq h)
  .obtain⟨g,ε,e,F,O⟩:=D.form h;have:=G ((w:Nat)-1) Qu Qu;rw[AM Qu,Array.getElem?_eq_getElem (Qu:(w:Nat)-1<w)]at this;cases this
def bw.pop{ε}(h:bw T s E w B (.slice A m ε) xs)(Y:m=xs.length)(Z:n<=m):bw T s E w B (.slice A n ε) (xs.take n):=by
 obtain⟨cs,h⟩:=h;subst Y;have D:(xs.take n).length=n:=Rv;refine⟨cs.take n,?_,by rw[cQ,D,h.ι];omega,fun k x c ab U=>?_⟩;rotate_left
 .obtain⟨F,G,lo,hi,H,I,J,O⟩:=h.ν k x c (rE ab) (rE U);exact⟨F,G,lo,hi,H,I,fun g e=>J g (by cases A with|none=>simp[Value.ownBlock]at e|some a=>simpa[Value.ownBlock]using e),O⟩
 rw[D,zZ n h.cl];exact zec h.η Z
def nf.th{J}{ys:List α}{ds:List (List Value)}(h:nf T s E w B v xs cs)(ab:ds.length=ys)(Z:∀(k:Nat) (x:α) (c:cL),ys[k]?=some x->ds[k]?=some c->c.length=s/\(∀u∈c,u.oneCell'=true)/\kn E w B v x c)(ac:w'.ownsRow B T s J (xs.length+ys) (cs.flatten++ds.flatten))(O:w.grownBy w' v.ownBlock)(Y:∀g,J.ownBlock=some g->v.ownBlock=some g∨(w:Nat)<=g):nf T s E w' B J (xs++ys) (cs++ds):=by
 refine⟨by rw[bm,zcc];exact ac,by rw[bm,bm,h.ι,ab],fun k x c F D=>?_⟩;by_cases U:k<cs.length
 .rw[dU U]at D;rw[dU (by rw[<-h.ι];exact U)]at F;obtain⟨G,H,I⟩:=h.ν k x c F D;exact⟨G,H,I.kept O (fun g e=>e) Y⟩
 .rw[fi Qu]at D;rw[fi (by rw[<-h.ι];omega),<-h.ι]at F;obtain⟨G,H,I⟩:=Z _ x c F D;exact⟨G,H,I.kept O (fun g e=>e) Y⟩
end
def kn.d{α}{T}{s}{E}{w}{B}{v}{xs}{x:α}{c}(h:bw T s E w B v xs)(D:B<=(w:Nat))(F:∀W,E W x c):kn E w B v x c:=by obtain⟨cs,h⟩:=h;exact⟨B,B,ae _,D,fun g e=>au (bS h.η g e).1,Fr.all F⟩
structure RT(P:jk)(t T:dL)(s:Nat)(z:aG)(bytes:Nat):Prop where
 und:P.underlying t=some (.slice T)
 Ï:(P.info? T).map (fun i=>(i.zero,i.size,i.bytes))=some (some z,s,bytes)
 zs:z.cells.size=s
 pos:0<s
 bts:bytes<=1000
section
variable{α:Type}{t T:dL}{s bytes:Nat}{z:aG}{E:World->α->List Value->Prop}
def z_(h:RT prog t T s z bytes){Q}U x(am:o.op=.call {callee:=.builtin .append,args:=#[U,x],argTypes:=#[t,t]})B W v xs y c J(F:bw T s E W B v xs)(ac:c.length=s)(ab:∀u∈c,u.oneCell'=true)(a0:kn E W B v y c)(ah:xs.length+1<=1048576)(Y:B<=(W:Nat))(ao:a.eval U=v)(av:a.eval x=.slice (bH J) 1 1)(an:bA W J c.toArray T)(H:∀g ε w',bw T s E w' B (.slice (bH g) (xs.length+1) ε) (xs++[y])->W.grownBy w' v.ownBlock->(v.ownBlock=some g∨g=(W:Nat))->Below B W w'->K (a.put o.dst (.slice (bH g) (xs.length+1) ε)) w'):o.wp prog a W K Q:=by
 have⟨a4,hi,a1,a2,a3⟩:=dp h.Ï;obtain⟨cs,F⟩:=F;refine wp_append_lies (w:=W) U x t am B T a4 z s bytes h.und hi a1 a2 a3 h.zs h.pos v _ _ ao F.η ⟨J,0,none⟩ 1 1 c av Qu (World.news_of_block an) ab Qw ?_ ?_ Y _ rfl ?_
 .unfold maxLen;omega
 .have:=h.bts;have:(xs.length+1)*bytes<=1048576*1000:=Nat.mul_le_mul ah h.bts;omega
 .intro g ε w' FT O Z _;have ap:∀G,(Value.slice (bH g) (xs.length+1) ε).ownBlock=some G->v.ownBlock=some G∨(W:Nat)<=G:=fun G e=>by
   cases e
   rcases Z with H|H
   .exact ay H
   .exact au (by show(W:Nat)<=g;omega)
  refine H g ε w' ⟨cs++[c],F.th (ys:=[y]) (ds:=[c]) rfl ?_ RJ O ap⟩ O Z ((al _ _).grown O Y fun k ad=>(bS F.η k ad).1);intro k a6 a5 D I
  match k,D,I with
  |0,D,I=>simp at D I;subst D I;exact⟨ac,ab,a0⟩
  |k+1,D,_=>simp at D
def de(U:RT prog t T s z bytes){Q}(ab:o.guard=none)D x(ad:o.op=.call {callee:=.builtin .append,args:=#[D,x],argTypes:=#[t,t]})B W v xs y c h(Y:bw T s E W B v xs)(Z:c.length=s)(ah:∀u∈c,u.oneCell'=true)(ap:kn E W B v y c)(ac:xs.length+1<=1048576)(O:B<=(W:Nat))(an:a.eval D=v)(ao:a.eval x=.slice (bH h) 1 1)(am:bA W h c.toArray T)(F:∀g ε w',bw T s E w' B (.slice (bH g) (xs.length+1) ε) (xs++[y])->W.grownBy w' v.ownBlock->(v.ownBlock=some g∨g=(W:Nat))->Below B W w'->wpList prog ops Q rest (a.put o.dst (.slice (bH g) (xs.length+1) ε)) w'):wpList prog ops Q (o::rest) a W:=l7 ab fun _ hK=>z_ U D x ad B W v xs y c h Y Z ah ap ac O an ao am fun g ε w' G H I J=>hK _ _ (F g ε w' G H I J)
def im(I:RT prog t T s z bytes){Q}{F}(Jf:o.guard=none)D x(Y:o.op=.call {callee:=.builtin .append,args:=#[D,x],argTypes:=#[t,t]})B W v xs y c h(J:bw T s E W B v xs)(O:c.length=s)(Z:∀u∈c,u.oneCell'=true)(am:kn E W B v y c)(U:xs.length+1<=1048576)(H:B<=(W:Nat))(ac:a.eval D=v)(ah:a.eval x=.slice (bH h) 1 1)(ab:bA W h c.toArray T)(G:∀g ε w',bw T s E w' B (.slice (bH g) (xs.length+1) ε) (xs++[y])->W.grownBy w' v.ownBlock->(v.ownBlock=some g∨g=(W:Nat))->Below B W w'->K (a.put o.dst (.slice (bH g) (xs.length+1) ε)) w'):if Region.wanted o (yielded ops a.tmps)=true then o.wp prog a W K Q else F:=by have ad:Region.wanted o (yielded ops a.tmps)=true:=Tz;rw[ak ad];exact z_ I D x Y B W v xs y c h J O Z am U H ac ah ab G
end
structure eE where
 k:Int
 v:Int
 s:ByteArray
variable{L:List eE}
def re(h:eE):M (#[.int .i64 h.k,.int .i64 h.v,.string h.s]:Array Value):=⟨⟩
def eE.nd(x:eE):Nd:=⟨x.k,x.v,x.s.toList.isEmpty⟩
def cJ(L:List eE):List Nd:=L.map eE.nd
def jK(_:aa)(x:eE)(c:cL):Prop:=c=[.int .i64 x.k,.int .i64 x.v,.string x.s]
def iF(G:bR 3 jK w A L){x}(F:L[k]?=some x):∃b o,A=some ⟨b,o,none⟩/\af w b (o+k*3) (zI x.k)/\af w b (o+k*3+1) (zI x.v)/\af w b (o+k*3+2) (.string x.s):=by obtain⟨b,o,e,H⟩:=G.θ (bG.1 F).1;obtain⟨c,h,D⟩:=H k x F;unfold jK at D;subst D;exact⟨b,o,e,h 0 _ rfl,h 1 _ rfl,h 2 _ rfl⟩
def bQ(h:bR 3 jK w A L)(D:ag w w'):bR 3 jK w' A L:=bR.ext (fun _ _ h=>(h:jK w _ _)) h D
def Õ(k:Int):Bool:=decide (k=7)||decide (k=13)
def jN k w:az 162 (bK k) w fun e w'=>e=.returned (.bool (Õ k))/\w=w':=by
 unfold Õ;by_cases h1:k=7<;>by_cases h2:k=13
 all_goals
  go_enter func162,ntmps162
  go_wp2;go_ret
  exact⟨Q9,rfl⟩
def dlB(k:Int):Bool:=decide (k=8)||decide (k=14)
def rf k w:az 120 (bK k) w fun e w'=>e=.returned (.bool (dlB k))/\w=w':=by
 unfold dlB;by_cases h1:k=8<;>by_cases h2:k=14
 all_goals
  go_enter func120,ntmps120
  go_wp2;go_ret
  exact⟨Q9,rfl⟩
def pz k w:az 210 (bK k) w fun e w'=>e=.returned (.bool (eU k 3 14))/\w=w':=by
 go_enter func210,ntmps210
 go_wp2_with (go_at_call 143;refine(dC _ _ _ _).x ?_;rintro e w' ⟨rfl,rfl⟩)
 exact V8
def gvB(k v:Int):Bool:=if Õ k=true then eU v 0 96 else decide (v=0)
def pd k v w:az 211 (bC k v) w fun e w'=>e=.returned (.bool (gvB k v))/\w=w':=by
 unfold gvB;cases h:Õ k
 .by_cases h0:v=0
  all_goals
   go_enter func211,ntmps211
   go_wp2_with (go_at_call 162;refine(Calls.cg (jN _ _) h).x ?_;rintro e w' ⟨rfl,rfl⟩)
   go_ret
   exact⟨QL,rfl⟩
 .go_enter func211,ntmps211
  go_wp2_with (first|(go_at_call 162;refine(Calls.cg (jN _ _) h).x ?_;rintro e w' ⟨rfl,rfl⟩)|(go_at_call 143;refine(dC _ _ _ _).x ?_;rintro e w' ⟨rfl,rfl⟩))
  exact V8
def Ä(k v:Int)(e:Bool):Int:=if e=false then 0 else if k=1 then v else if k=2 then 2 else if eU k 3 14=true then gwI k else 0
def Ã(k v:Int)(e:Bool):Int:=if e=false then 0 else if k=1 then v else if k=2 then 2 else if eU k 3 14=true then gwO k else 0
def Ç(k v:Int)(e:Bool):Bool:=if e=false then false else if k=1 then eU v 0 12 else if k=2 then decide (v=0) else if eU k 3 14=true then gvB k v else false
def zbZ k v e:Ç k v e=dI ⟨k,v,e⟩:=by
 unfold Ç dI gvB Õ eU;cases e
 .simp
 .simp only[uN,lp,xm];by_cases h:k=1
  .simp[h]
  by_cases D:k=2
  .subst D;simp
  by_cases G:k=7∨k=13
  .have F:3<=k/\k<=14:=Qu;simp[h,D,G,F]
  .by_cases F:3<=k/\k<=14
   .have:2<=k:=Qu;simp[h,D,G,F,this]
   .have J:¬(2<=k/\k<=14):=Qu;have H:(decide (3<=k)&&decide (k<=14))=false:=by rw[uF];simpa using F
    have I:(decide (2<=k)&&(decide (k<=14)&&decide (v=0)))=false:=by rw[uF];simp only[ne_eq,bN,cf];omega
    rw[aj h,aj D,H,aj h,aj G,I];rfl
def zea{k v}(h:dI ⟨k,v,true⟩=true):Ä k v true=(pC ⟨k,v,true⟩:Nat)/\Ã k v true=(sC ⟨k,v,true⟩:Nat):=by
 rw[<-zbZ]at h;unfold Ç at h;unfold Ä Ã pC sC gwI gwO;simp only[uN,lp]at h ⊢;by_cases D:k=1
 .simp[D,eU]at h ⊢;omega
 by_cases F:k=2
 .simp[F]
 rw[aj D,aj F]at h;by_cases G:eU k 3 14=true
 .rw[aj D,aj F,ak G,aj D,aj F,aj D,aj F,ak G,aj D,aj F];constructor
  .split
   .rfl
   split<;>rfl
  .split
   .rfl
   split<;>rfl
 .rw[aj G]at h;cases h
def FP k v s w:az 220 (cY (dN k v s)) w (WTo (Ä k v s.toList.isEmpty) (Ã k v s.toList.isEmpty) (dI ⟨k,v,s.toList.isEmpty⟩) w):=by
 have D:=((al w w).alloc (ae _) (.cells (dN k v s) 95)).alloc Qt (.cells fP 207);have F:=(bO (w.alloc (.cells (dN k v s) 95)) (.cells fP 207) (k:=w.heap.size) Qt).t (aH w _ rfl);have h:=aH (w.alloc (.cells (dN k v s) 95)) (.cells fP 207) (n:=(w:Nat)+1) Qt;rw[<-zbZ];have ad:s.toList.isEmpty=(s.toList==[]):=by cases s.toList<;>rfl
 rw[ad];cases he:(s.toList==[])
 .rw[show Ä k v false=0 by simp[Ä],show Ã k v false=0 by simp[Ã],show Ç k v false=false by simp[Ç]];have a3:(!s.toList==[])=true:=Q5;go_enter func220,ntmps220
  go_upto_region 1 with(fail)
  generalize (w.alloc _).alloc _=W at D F h ⊢;have⟨I,c1,c2⟩:=aD F;have⟨J,O,f0,f1⟩:=dD h;have y:=fW (v0:=.int .i64 (0)) (v1:=.int .i64 (0)) h;refine Oi fun y0 y1=>?_
  have HE:=zH (fX D (b:=(w:Nat)+1) Qu (zI (0)) (zI (0)));go_wp2;exact XW
 have a3:(!s.toList==[])=false:=Q5;by_cases h1:k=1
 .subst h1;rw[show Ä 1 v true=v by simp[Ä],show Ã 1 v true=v by simp[Ã],show Ç 1 v true=eU v 0 12 by simp[Ç]];go_enter func220,ntmps220
  go_upto_region 1 with(fail)
  generalize (w.alloc _).alloc _=W at D F h ⊢;have⟨I,c1,c2⟩:=aD F;have⟨J,O,f0,f1⟩:=dD h;have y:=fW (v0:=.int .i64 (v)) (v1:=.int .i64 (v)) h;refine Oi fun y0 y1=>?_
  have HE:=zH (fX D (b:=(w:Nat)+1) Qu (zI (v)) (zI (v)));go_wp2_with fail
  go_region_held3 (fun w'=>af w' w 1 (zI v))
   (first|exact c1|exact kR Rs c1) ((go_at_call 143;refine(dC _ _ _ _).x ?_;rintro e w' ⟨rfl,rfl⟩))
  go_wp2;exact aI (v:=.tuple (ka (bC (v) (v)) (eU v 0 12))) Ur rfl ⟨rfl,HE.drew⟩
 by_cases h2:k=2
 .subst h2;rw[show Ä 2 v true=2 by simp[Ä],show Ã 2 v true=2 by simp[Ã],show Ç 2 v true=decide (v=0) by simp[Ç]];have a4:(v==0)=decide (v=0):=Q7;go_enter func220,ntmps220
  go_upto_region 1 with(fail)
  generalize (w.alloc _).alloc _=W at D F h ⊢;have⟨I,c1,c2⟩:=aD F;have⟨J,O,f0,f1⟩:=dD h;have y:=fW (v0:=.int .i64 (2)) (v1:=.int .i64 (2)) h;refine Oi fun y0 y1=>?_
  have HE:=zH (fX D (b:=(w:Nat)+1) Qu (zI (2)) (zI (2)));go_wp2_with fail
  go_region_held3 (fun w'=>af w' w 1 (zI v))
   (first|exact c1|exact kR Rs c1) (fail)
  go_wp2;exact aI (v:=.tuple (ka (bC (2) (2)) (decide (v=0)))) Ur rfl ⟨rfl,HE.drew⟩
 have a5:(k==1)=false:=Rp;have n2:(k==2)=false:=Rk;cases G:eU k 3 14
 .rw[show Ä k v true=0 by simp[Ä,h1,h2,G],show Ã k v true=0 by simp[Ã,h1,h2,G],show Ç k v true=false by simp[Ç,h1,h2,G]];go_enter func220,ntmps220
  go_upto_region 1 with(fail)
  generalize (w.alloc _).alloc _=W at D F h ⊢;have⟨I,c1,c2⟩:=aD F;have⟨J,O,f0,f1⟩:=dD h;have y:=fW (v0:=.int .i64 (0)) (v1:=.int .i64 (0)) h;refine Oi fun y0 y1=>?_
  have HE:=zH (fX D (b:=(w:Nat)+1) Qu (zI (0)) (zI (0)));go_wp2_with (go_at_call 210;refine(Calls.cg (pz _ _) G).x ?_;rintro e w' ⟨rfl,rfl⟩)
  exact XW
 .rw[show Ä k v true=gwI k by simp[Ä,h1,h2,G],show Ã k v true=gwO k by simp[Ã,h1,h2,G],show Ç k v true=gvB k v by simp[Ç,h1,h2,G]];have ab:3<=k/\k<=14:=by simpa[eU]using G
  have Y:=zH ab;go_enter func220,ntmps220
  go_upto_region 1 with(fail)
  generalize (w.alloc _).alloc _=W at D F h ⊢;have⟨I,c1,c2⟩:=aD F;have⟨J,O,f0,f1⟩:=dD h;have⟨Z,ao⟩:=bJ D h;go_wp2_with (go_at_call 210;refine(Calls.cg (pz _ _) G).x ?_;rintro e w' ⟨rfl,rfl⟩)
  have T:=zH (fun(W:aa)=>jt k W Y.1 Y.2);generalize ac:gwI k=a at T ⊢;generalize H:gwO k=b at T ⊢;have⟨ah,am⟩:=bJ ac H;go_region_held3 (fun w'=>af w' w 0 (zI k)/\af w' w 1 (zI v))
   (first|exact⟨I,c1⟩|exact t1|exact⟨kR Rs t1.1,kR Rs t1.2⟩)
   ((first|(go_at_call 167;refine(T.o _).x ?_;rintro e a6 ⟨rfl,H⟩;have an:=zH (Z.drew.t (H.x Z.size));have t1:=aQ (ar H I) (ar H c1);have U:=ai (w:=W.drew) ao H;have⟨av,a0,a1,a2⟩:=dD U;have ap:=zH U)|(go_at_call 211;refine(pd _ _ _).x ?_;rintro e w' ⟨rfl,rfl⟩)))
  have y:=fW (v0:=.int .i64 (a)) (v1:=.int .i64 (b)) ap;refine Oi fun y0 y1=>?_
  have HE:=zH (fX an (b:=(w:Nat)+1) Qu (zI (a)) (zI (b)));go_wp2;exact aI (v:=.tuple (ka (bC a b) (gvB k v))) Ur rfl ⟨by rw[ah.o,am.o],HE⟩
def EWr(_:aa)(x:g_)(c:cL):Prop:=c=[.int .i64 (x.1:Nat),.int .i64 (x.2:Nat)]
def rtW:RT prog 271 207 2 (.agg fP) 16:=⟨underlying271,QT,Qw,Qw,Qw⟩
def Τ(S:List Tm):List (Nat×Nat):=S.reverse.map fun t=>t.ty.getD (0,0)
def q_ S:(Τ S).length=S:=by simp[Τ]
def zh{t}{c}S(h:t.ty=some c):Τ (t::S)=Τ S++[c]:=by simp[Τ,h]
def jE(L:List Nd):Option Tm:=match fp L []with|some [t]=>some t|_=>none
def kj(L:List Nd):Bool:=decide (1<=L.length)&&(decide (L.length<=400)&&(jE L).isSome)
def zaH{L}(h:¬(1<=L.length/\L.length<=400)):kj L=false:=by unfold kj;rw[uF];simp only[ne_eq,bN,cf];exact fun⟨a,b,_⟩=>h ⟨a,b⟩
def Ea{L}(h:fp L []=none):kj L=false:=by unfold kj jE;rw[h];simp
def zhj{L}(D:1<=L.length)(F:L.length<=400)(h:fp L []=some S):kj L=decide (S.length=1):=by
 unfold kj jE;rw[h]
 match S with
 |[]=>simp
 |[t]=>simp[D,F]
 |_::_::_=>simp
structure Eb(L:List eE)(S:List Tm)(k:Nat):Prop where
 kl:k<=L.length
 rd:fp ((cJ L).drop k) S=fp (cJ L) []
 ty:∀t∈S,∃c,t.ty=some c
 ne:1<=k->S≠[]
 ι:S.length<=k
def Eb.φ L:Eb L [] 0:=⟨aW _,rfl,fun t h=>QO,fun h=>Qu,ae _⟩
def lF{x}(h:L[k]?=some x):(cJ L).drop k=x.nd::(cJ L).drop (k+1):=by
 have D:=(bG.1 h).1;have:(cJ L)[k]?=some x.nd:=by simp[cJ,h]
 rw[uu (by simpa[cJ]using D)];congr 1
 rw[di (by simpa[cJ]using D)]at this;exact ji this
def Eb.no{x}(h:Eb L S k)(F:L[k]?=some x)(D:ρ S x.nd=none):kj (cJ L)=false:=by refine Ea ?_;rw[<-h.rd,lF F,jw,D]
def Eb.Y{x}(h:Eb L S k)(F:L[k]?=some x)(D:ρ S x.nd=some S')(I:S'≠[])(H:S'.length<=k+1):Eb L S' (k+1):=by
 have G:=(bG.1 F).1;have J:fp [x.nd] S=some S':=by rw[jw,D];rfl
 exact⟨G,by rw[<-h.rd,lF F,jw,D],zbE h.ty J,fun _=>I,H⟩
def Eb.U(h:Eb L S k)(G:¬k<L.length)(D:1<=L.length)(F:L.length<=400):kj (cJ L)=decide (S.length=1):=by have e:=h.rd;rw[jR RI]at e;exact zhj (by simpa[cJ]using D) (by simpa[cJ]using F) e.q
def Bi{x:eE}(h:¬x.k=15)(D:¬x.k=16):ρ S x.nd=if dI x.nd=true then some (Tm.lf x.nd::S) else none:=by unfold ρ;rw[aj (by simp[FC,eE.nd,h,D])]
def zi5{x:eE}(h1:x.k=15∨x.k=16)(h:¬x.v=0∨x.s.toList.isEmpty=false∨S.length<2):ρ S x.nd=none:=by
 unfold ρ;rw[ak UK];split
 .rename_i D;rcases h with h|h|h
  .exact absurd D.1 h
  .have:=D.2;unfold eE.nd at this;dsimp only at this;rw[h]at this;cases this
  .match S,h with
   |[],_=>rfl
   |[_],_=>rfl
 .rfl
def zkw{a b}{x:eE}{c d}(h1:x.k=15∨x.k=16)(G:x.v=0)(F:x.s.toList.isEmpty=true)(h:a.ty=some c)(D:b.ty=some d):ρ (b::a::S) x.nd=if(gP x.k c d).isSome=true then some (Tm.op x.k a b::S) else none:=by
 unfold ρ;rw[ak UK,ak ⟨G,F⟩];have:(Tm.op x.nd.k a b).ty=gP x.k c d:=by
  show(match a.ty,b.ty with|some H,some y=>gP x.nd.k H y|_,_=>none)=_
  rw[h,D];rfl
 show(if(Tm.op x.nd.k a b).ty.isSome=true then some (Tm.op x.nd.k a b::S) else none)=_
 rw[this];rfl
def Fx k(F:k=15∨k=16)c d(G:c.1<=12/\c.2<=12)(H:d.1<=12/\d.2<=12):∃P Q:Int,(∀W,az 223 (j9 k (bC (c.1:Nat) (c.2:Nat)) (bC (d.1:Nat) (d.2:Nat))) W (WTo P Q (gP k c d).isSome W))/\∀z,gP k c d=some z->P=(z.1:Nat)/\Q=(z.2:Nat):=by
 rcases F with rfl|rfl
 .refine⟨((c.1:Nat):Int),((d.2:Nat):Int),fun W=>?_,fun z h=>?_⟩
  .have:=Fy (c.1:Nat) (c.2:Nat) (d.1:Nat) (d.2:Nat) W;have e:decide (((c.2:Nat):Int)=(d.1:Nat))=(gP 15 c d).isSome:=by
    unfold gP;rw[ak rfl];by_cases D:c.2=d.1
    .rw[ak D];simp[D]
    .rw[aj D];simp;omega
   rw[e]at this;exact this
  .unfold gP at h;rw[ak rfl]at h;split at h
   .cases h;exact⟨rfl,rfl⟩
   .cases h
 .refine⟨((c.1:Nat):Int)+(d.1:Nat),((c.2:Nat):Int)+(d.2:Nat),fun W=>?_,fun z h=>?_⟩
  .have:=Fz (c.1:Nat) (c.2:Nat) (d.1:Nat) (d.2:Nat) W Qu Qu Qu Qu Qu Qu Qu Qu;have e:jd ((c.1:Nat)+(d.1:Nat)) ((c.2:Nat)+(d.2:Nat))=(gP 16 c d).isSome:=by
    unfold gP jd;rw[aj Qw,ak rfl];by_cases D:c.1+d.1<=12/\c.2+d.2<=12
    .rw[ak D];simp;omega
    .rw[aj D];rw[Option.isSome_none,uF];simp only[ne_eq,bN,cf];omega
   rw[e]at this;exact this
  .unfold gP at h;rw[aj Qw,ak rfl]at h;split at h
   .cases h;exact⟨Qt,Qt⟩
   .cases h
def zmz{k:Int}(h:k=15∨k=16):(k !=15)=false∨((k !=15)=true/\(k !=16)=false):=by
 rcases h with rfl|rfl
 .exact ay rfl
 .exact au ⟨rfl,rfl⟩
def zmA(L:List eE)(w:aa)(e:Ending)(w':aa):Prop:=∃a b:Int,e=.returned (.tuple (ka (bC a b) (kj (cJ L))))/\ag w w'
def zhk L A ε w(d3:bR 3 jK w A L)(ba:L.length<=1048576):az 219 #[.slice A L ε,.func (.func 220) #[] #[]] w (zmA L w):=by
 have ah:=aH w (.cells fP 207) rfl;have a7:=(al w w).alloc (ae _) (.cells fP 207);have d4:(cJ L).length=L:=by simp[cJ]
 have e0:=zH d4;clear d4;cases b3:eU L 1 400
 .have HT:=zH (zaH (L:=cJ L) (by rw[e0.o];intro⟨h1,h2⟩;have:eU L 1 400=true:=RM;rw[b3]at this;cases this));go_enter func219,ntmps219
  go_upto_region 1 with(fail)
  generalize w.alloc _=W at a7 ah ⊢;have⟨b7,b8,f0,f1⟩:=dD ah;have y:=fW (v0:=.int .i64 (0)) (v1:=.int .i64 (0)) ah;refine Oi fun y0 y1=>?_
  have HE:=zH (fX a7 (b:=w.heap.size) Qu (zI (0)) (zI (0)));clear y;clear a7 ah;go_wp2_with (go_at_call 143;refine(Calls.cg (dC _ _ _ _) b3).x ?_;rintro e w' ⟨rfl,rfl⟩)
  exact aI (v:=.tuple (pQ fP)) (by simp[results,uO,go_sem, *]) rfl ⟨0,0,by rw[HT.o],HE⟩
 .have fd:1<=L.length/\L.length<=400:=by have:=b3;simp[eU]at this;omega
  obtain⟨fy,fz⟩:=fd;go_enter func219,ntmps219
  go_upto_region 1 with(fail)
  generalize w.alloc _=W at a7 ah ⊢;have⟨eA,e3,c0⟩:=er (show ∀wr,ag w wr->bR 3 jK wr A L from fun wr bh=>bQ d3 bh) ah a7;have cB:(w:Nat)<W:=(bk.1 ah).1;clear d3 ah a7 ba;go_upto_region 4 with(go_at_call 143;refine(Calls.cg (dC _ _ _ _) b3).x ?_;rintro e w' ⟨rfl,rfl⟩)
  have⟨c5,c3,db⟩:=er (bw.lit 207 2 EWr W ((w:Nat)+1) Qu) (c0.alloc c0.size (.cells #[] 207)) ((bO W (.cells #[] 207) cB).t e3);go_wp2;go_loopw [6,22] (fun u i wr=>∃(k:Nat) (S:List Tm),i=.int .i64 k/\Eb L S k/\bw 207 2 EWr wr ((w:Nat)+1) u (Τ S)/\bA wr w fP 207/\ag w wr)
   (fun _ i _=>L.length-(intOf i).toNat)
  case atStart=>exact⟨0,[],rfl,Eb.φ L,c5,db,c3⟩
  case round=>
   obtain⟨k,S,rfl,ab,b6,bb,a0⟩:=hrel;clear c5 c3 db cB;by_cases bq:k<L.length
   .have⟨x,cK⟩:=aq bq;obtain⟨b,o,rfl,dr,c1,c2⟩:=iF (eA wr a0) cK;have cB:=a0.size;have cI:(w:Nat)<wr:=(bk.1 bb).1;obtain⟨kk,vv,ss⟩:=x;dsimp only at dr c1 c2;have⟨be,HT,a4,a5,ao⟩:=pD cK ab (b6.ext ((al _ _).alloc (ae _) (.cells (dN kk vv ss) 95))) ((bO wr (.cells (dN kk vv ss) 95) cI).t bb) (a0.alloc a0.size (.cells (dN kk vv ss) 95));have br:=aH wr (.cells (dN kk vv ss) 95) rfl;clear cK ab b6 bb a0;go_upto_region 7 with(fail)
    have cF:(wr:Nat) < (wr.alloc (.cells (dN kk vv ss) 95)):=(bk.1 br).1;generalize wr.alloc _=Y at a4 a5 ao br cF ⊢;clear dr c1 c2;have⟨bc,cR,n2⟩:=aD br;by_cases ad:kk=15∨kk=16
    .obtain⟨eo,cn,rfl,av,bi,-⟩:=bw.p a4;rw[q_]at a4 bi ⊢;have⟨n,T⟩:=aR S.length;rw[<-T]at a4 bi ⊢;have cW:=zH av;clear av;go_cut [33] from 26 to 33 (fun z W=>z=.bool false/\Y=W)
     case first=>
      rcases zmz ad with ea|⟨ea,fo⟩
      all_goals
       clear ad;go_wp2;go_meet
       exact⟨rfl,rfl⟩
     case rest=>
      obtain⟨rfl,rfl⟩:=hcut;by_cases a9:vv=0/\ss.toList.isEmpty=true/\2<=n
      .obtain⟨rfl,b5,fs⟩:=a9;obtain⟨I,H,S',rfl⟩:∃I H S',S=I::H::S':=by
        match S,T with
        |[],bh=>simp at bh;omega
        |[_],bh=>simp at bh;omega
        |I::H::S',_=>exact⟨I,H,S',rfl⟩
       obtain⟨ca,bn⟩:=HT.ty H Qt;obtain⟨cb,bo⟩:=HT.ty I Qt;have⟨m,ba⟩:=aR S'.length;have ei:n=m+2:=by rw[T,ba];rfl
       have⟨am,eb⟩:=aR (m+1);have bu:Τ (I::H::S')=Τ S'++[ca]++[cb]:=by rw[zh _ bo,zh _ bn]
       have ac:(Τ S').length=m:=by rw[q_,ba]
       obtain⟨J,go,rfl,a8⟩:=cW.θ (k:=0) (by rw[bu];simp);have d8:(Τ (I::H::S'))[m]?=some ca:=by rw[bu,dU (by rw[bm,ac];simp),fi Qu,ac];simp
       have d9:(Τ (I::H::S'))[am]?=some cb:=by rw[eb,bu,fi (by rw[bm,ac];exact ae _),bm,ac];simp
       obtain⟨f3,a2,bp⟩:=a8 m ca d8;obtain⟨g0,cO,d7⟩:=a8 am cb d9;unfold EWr at bp d7;subst bp d7;have a6:af Y J (go+m*2) (zI (ca.1:Nat)):=a2 0 _ rfl;have bg:=a2 1 _ rfl;have cj:af Y J (go+am*2) (zI (cb.1:Nat)):=cO 0 _ rfl;have ck:=cO 1 _ rfl;have gA:n<=1048576:=by have h1:=HT.ι;have h2:=HT.kl;rw[jT,jT,<-ba]at h1;omega
       have gC:IntKind.i64.wrap ((n:Int)-1)=(am:Int):=Rt;have gK:IntKind.i64.wrap ((am:Int)-1)=(m:Int):=Rt;have gs:m<n:=Qu;have gu:am<n:=Qu;have eB:=zH ei;have la:=Tm.zaS bn;have lb:=Tm.zaS bo;have HS:=zH (zkw (S:=S') (x:=⟨kk,0,ss⟩) ad rfl b5 bn bo);have c6:=zH (show ∀z,gP kk ca cb=some z->(Tm.op kk H I).ty=some z from fun z G=>by
        show(match H.ty,I.ty with|some f2,some y=>gP kk f2 y|_,_=>none)=_
        rw[bn,bo];exact G)
       have⟨P,Q,d2,d5⟩:=Fx kk ad ca cb la lb;have⟨ce,c8,b2,bz⟩:=gG d2 d5 bu ac;have fx:(wr:Nat)<Y:=ju bc;have eg:J < (Y:Nat):=ju a6;have ez:=zH eg;have⟨ok,G8⟩:=aR ((gP kk ca cb).isSome);rw[<-G8]at ce;have⟨HOK,ch⟩:=bJ G8 bq;have D:=aQ bc (aQ a6 (aQ bg (aQ cj ck)));clear G8 fx eg ad ei eb d2 d5 bu ac bn bo la lb d8 d9 a2 cO a8 cW T ba bq cI cF br;go_upto_region 15 with(fail)
       go_cut [12,13] from 64 to 78 (fun f4 f5 W=>∃ap,f4=.pointer (bH ap)/\f5=.bool ok/\bA W ap (bC P Q) 207/\(Y:Nat)<=ap/\ag Y W)
       case first=>
        clear bc a6 bg cj ck;go_region_held3 (fun w'=>af w' wr 0 (zI kk)/\af w' J (go+m*2) (zI (ca.1:Nat))/\af w' J (go+m*2+1) (zI (ca.2:Nat))/\af w' J (go+am*2) (zI (cb.1:Nat))/\af w' J (go+am*2+1) (zI (cb.2:Nat)))
         (first|exact D|exact kU h D|exact kU (aw _ _).drew D|exact kU (h.alloc h.size _) D|exact kU ((h.setCell (ae _) _).setCell (ae _) _) D|exact kU (((h.alloc h.size _).setCell h.size _).setCell h.size _) D)
         ((go_at_call 223;refine(ce.o _).x ?_;rintro e an ⟨rfl,O⟩;have h:Hd (ag Y an):=(by first|exact zH ((aC _).t O)|exact zH ((aw _ _).drew.t (O.x Qt)));first|(have G:=ai (ky Y _) O;have⟨f8,f9,ga,gb⟩:=dD G;have e7:=zH G;clear G)|skip;clear O))
        all_goals
         go_wp2_with fail
         go_meet
         first|exact⟨_,rfl,rfl,aH _ _ rfl,h.size,h.alloc h.size _⟩|exact⟨_,rfl,rfl,fW e7,ae _,fX h (ae _) _ _⟩
       case rest=>
        obtain⟨ap,rfl,rfl,G,fb,b4⟩:=hcut;obtain⟨dO,dT,-,-⟩:=dD G;have⟨b1,b9,e2,dl⟩:=gG (ai a5 b4) (aT ao b4) (a4.ext b4) (show ap≠J by have:=ez.o;omega);clear bc cR n2 a6 bg cj ck D G fb b4 ce;cases ok
        .have K6:=zH (HT.no be VT);have⟨b7,b8,f0,f1⟩:=dD b1;have y:=fW (v0:=.int .i64 (0)) (v1:=.int .i64 (0)) b1;refine Oi fun y0 y1=>?_
         have HE:=zH (fX b9 (b:=w.heap.size) Qu (zI (0)) (zI (0)));clear y;exact X5
        .obtain⟨z,G⟩:=Av.1 HOK.q;have⟨IH,e6,c9⟩:=er (HT.Y be (S':=Tm.op kk H I::S') VT Qt (by have:=HT.ι;simp at this ⊢;omega)) (zh S' (c6 z G)) (c8 z G);have cA:=e2.pop (n:=m) (by rw[q_];have:=eB.o;have:=bz.o;rw[q_]at this;simp;omega) Qu;rw[show(Τ (I::H::S')).take m=Τ S' by rw[b2.o,fJ,oG (by rw[bz.o];exact ae _),cZ (by rw[bz.o];exact ae _)]]at cA;have c7:=zH (fun W (fa:ag wc W)=>cA.ext fa);have d6:(w:Nat)+1<=wc:=(bk.1 b1).1;have dq:=zH d6;have D:=aQ dO dT;have gw:m<=cn:=Qu;clear cA G HOK HS c6 c8 b2 dO dT d6;go_upto_region 18 with(fail)
         go_region_held3 (fun w'=>af w' ap 0 (zI P)/\af w' ap 1 (zI Q))
          (first|exact D|exact j6 (aw _ _) D|exact j6 (aw _ _).drew D|exact e8)
          ((refine im rtW rfl (.tmp 85) (.tmp 87) rfl ((w:Nat)+1) (wc.alloc (.cells (bC P Q) 207)).drew (.slice (some ⟨J,go,none⟩) m cn) (Τ S') z [.int .i64 P,.int .i64 Q] wc (c7.o _ (aw _ _).drew) rfl SU (kn.d (c7.o _ (aw _ _).drew) (by have:=dq.o;simp;omega) fun W=>by unfold EWr;rw[c9.o.1,c9.o.2]) (by rw[bz.o];omega) (by have:=dq.o;simp;omega) rfl rfl (ky _ _) ?_;intro gc f6 gL ej cu fc cr;have b0:=zH ej;have ci:=zH ((cr.block _ (iX _)).t (ai b1 (aw _ _).drew));have cc:=zH ((b9.t ((aw _ _).drew.x b9.size)).t (cr.x (qe _)));have e8:=aQ (oC cu (j6 (aw _ _).drew D).1 (fun e=>dl (by simpa[Value.ownBlock]using e))) (oC cu (j6 (aw _ _).drew D).2 (fun e=>dl (by simpa[Value.ownBlock]using e)));clear ej cu fc cr))
         have gv:=ch.o;go_wp2;go_roundw
         case rel=>exact⟨k+1,_,by have:=ch.o;go_num,IH,by rw[e6.o];exact b0,ci,cc⟩
         case measure=>have:=ch.o;simp[intOf];omega
      .have K6:=zH (HT.no be (zi5 ad (by show ¬vv=0∨ss.toList.isEmpty=false∨S.length<2;rw[<-T];by_cases h1:vv=0<;>by_cases h2:ss.toList.isEmpty=true<;>simp[h1,h2]at a9 ⊢;omega)));have⟨b7,b8,f0,f1⟩:=dD a5;have y:=fW (v0:=.int .i64 (0)) (v1:=.int .i64 (0)) a5;refine Oi fun y0 y1=>?_
       have HE:=zH (fX ao (b:=w.heap.size) Qu (zI (0)) (zI (0)));clear y;have fs:n<=1048576:=UR;clear T bq cI cF br ad;by_cases h1:vv=0
       .subst h1;by_cases h2:ss.toList.isEmpty=true
        .have gn:n<2:=by simp[h2]at a9;omega
         clear a9;exact X5
        .have gi:ss.toList.isEmpty=false:=Rk;clear a9 h2;exact X5
       .have gd:(vv !=0)=true:=Rp;clear a9 h1;exact X5
    .have ea:(kk !=15)=true:=QW;have fo:(kk !=16)=true:=QW;have⟨IH,bd⟩:=bJ (Bi (S:=S) (x:=⟨kk,vv,ss⟩) (by show ¬kk=15;omega) (by show ¬kk=16;omega)) (fun W=>FP kk vv ss W);have⟨a,cp⟩:=aR (Ä kk vv ss.toList.isEmpty);have⟨F,cq⟩:=aR (Ã kk vv ss.toList.isEmpty);have⟨es,ey⟩:=bJ cp cq;rw[<-cp,<-cq]at bd;clear ad cp cq;cases G8:dI ⟨kk,vv,ss.toList.isEmpty⟩
     .rw[G8]at bd;have K6:=zH (HT.no be VV);clear G8;go_upto_region 9 with(go_at_call 220;refine(bd.o _).x ?_;rintro e an ⟨rfl,O⟩;have h:=zH O;clear O)
      have a1:=ai a5 h;have U:=(bO an (.cells (bC a F) 207) (bk.1 a1).1).t a1;have Z:=(aT ao h).alloc (aT ao h).size (.cells (bC a F) 207);generalize an.alloc _=bv at U Z ⊢;have⟨b7,b8,f0,f1⟩:=dD U;have y:=fW (v0:=.int .i64 (0)) (v1:=.int .i64 (0)) U;refine Oi fun y0 y1=>?_
      have HE:=zH (fX Z (b:=w.heap.size) Qu (zI (0)) (zI (0)));clear y;clear a1 U Z bc cR n2;exact X5
     .rw[G8]at bd;have e5:=zH (HT.Y be (S':=Tm.lf ⟨kk,vv,ss.toList.isEmpty⟩::S) VV Qt (by simp;exact HT.ι));have b5:ss.toList.isEmpty=true:=by have:=G8;unfold dI at this;rw[bN]at this;exact this.1
      have b2:=zH (show Τ (Tm.lf ⟨kk,vv,ss.toList.isEmpty⟩::S)=Τ S++[(pC ⟨kk,vv,ss.toList.isEmpty⟩,sC ⟨kk,vv,ss.toList.isEmpty⟩)] from zh S (by unfold Tm.ty;rw[ak G8]));have cV:=zH (show a=(pC ⟨kk,vv,ss.toList.isEmpty⟩:Nat)/\F=(sC ⟨kk,vv,ss.toList.isEmpty⟩:Nat) by rw[es.o,ey.o];rw[b5]at G8 ⊢;exact zea G8)
      clear G8 b5;go_upto_region 11 with(go_at_call 220;refine(bd.o _).x ?_;rintro e an ⟨rfl,O⟩;have h:=zH O;clear O)
      have Z:=(aT ao h).alloc (aT ao h).size (.cells (bC a F) 207);have a1:=ai a5 h;have U:=(bO an (.cells (bC a F) 207) (bk.1 a1).1).t a1;have cz:=(a4.ext h).ext ((al _ _).alloc (ae _) (.cells (bC a F) 207));obtain⟨d0,d1,-,-⟩:=dD (aH an (.cells (bC a F) 207) rfl);generalize an.alloc _=bv at U Z cz d0 d1 ⊢;have gB:(w:Nat)<bv:=(bk.1 U).1;have⟨ci,b0,cc,dc⟩:=gG (ai U ((al _ _).alloc (ae _) (.cells (bC a F) 207))) (cz.ext ((al _ _).alloc (ae _) (.cells (bC a F) 207))) (Z.alloc Z.size (.cells (bC a F) 207)) (QW:(w:Nat)+1<=(bv.alloc (.cells (bC a F) 207)));clear a1 U Z cz bc cR n2;go_wp2_with ((at_builtin;refine de rtW rfl _ _ rfl ((w:Nat)+1) (bv.alloc (.cells (bC a F) 207)) _ (Τ S) (pC ⟨kk,vv,ss.toList.isEmpty⟩,sC ⟨kk,vv,ss.toList.isEmpty⟩) [.int .i64 a,.int .i64 F] bv b0.o rfl SU (kn.d b0 dc fun W=>by unfold EWr;rw[cV.o.1,cV.o.2]) (by rw[q_];have:=HT.ι;omega) dc.o rfl rfl (aH _ _ rfl) ?_;intro g f7 gR ek fl av ct;have e1:=zH ek;have e4:=zH ((ct.block _ (iX _)).t ci);have ev:=zH (cc.t (ct.x (qe _)));clear ek fl av ct))
      go_roundw
      case rel=>exact⟨k+1,_,Qx,e5,by rw[b2.o];exact e1,e4,ev⟩
      case measure=>simp[intOf];omega
   .have c4:=zH (ab.U bq fy fz);have ee:=ab.ne (by have:=ab.kl;omega);obtain⟨eo,cn,rfl,av,bi,-⟩:=bw.p b6;rw[q_]at bi ⊢;have co:0<S.length:=List.length_pos_iff.2 ee;have e9:S.length<=1048576:=by have:=ab.ι;have:=ab.kl;omega
    obtain⟨J,go,rfl,a8⟩:=av.θ (k:=0) (by rw[q_];exact co);have⟨a3,em⟩:=aq (by rw[q_];exact co:0 < (Τ S).length);obtain⟨f3,a2,bp⟩:=a8 0 a3 em;unfold EWr at bp;subst bp;have a6:=a2 0 _ rfl;have bg:=a2 1 _ rfl;simp only[Nat.zero_mul,jf]at a6 bg;have ac:((S:Int)==1)=decide (S.length=1):=by rw[jQ];simp;omega
    have⟨n,T⟩:=aR S.length;have⟨ok,G8⟩:=aR (decide (S.length=1));rw[<-G8,<-T]at ac;rw[<-G8]at c4;rw[<-T]at co e9 bi ⊢;have⟨b7,b8,f0,f1⟩:=dD bb;have y:=fW (v0:=.int .i64 ((a3.1:Nat))) (v1:=.int .i64 ((a3.2:Nat))) bb;refine Oi fun y0 y1=>?_
    have HE:=zH (fX a0 (b:=w.heap.size) Qu (zI ((a3.1:Nat))) (zI ((a3.2:Nat))));clear y;clear G8 T a8 a2 em ee ab av b6 bb a0;go_wp2;exact aI (v:=.tuple (ka (bC (a3.1:Nat) (a3.2:Nat)) ok)) (by simp[results,uO,go_sem, *]) rfl ⟨_,_,by rw[c4.o],HE⟩
def FM L A ε w(J:bR 3 jK w A L)(ac:L.length<=1048576):az 204 (cY (aV A L ε)) w (zmA L w):=by
 have h:=((al w w).alloc (ae _) (.cells (aV A L ε) 35)).alloc Qt (.cells fP 207);have G:=(bO (w.alloc (.cells (aV A L ε) 35)) (.cells fP 207) (k:=w.heap.size) Qt).t (aH w _ rfl);have H:=aH (w.alloc (.cells (aV A L ε) 35)) (.cells fP 207) (n:=(w:Nat)+1) Qt;have D:=bQ J h;go_enter func204,ntmps204
 go_upto_region 1 with(fail)
 generalize (w.alloc _).alloc _=W at h G H D ⊢;have ad:=aF G 0 rfl;have⟨O,Z,Y⟩:=er h H D;go_wp2_with (go_at_call 219;refine(zhk L A ε _ Y ac).x ?_;rintro e ap ⟨a,b,rfl,F⟩;have I:=ai Z F;have⟨ah,am,an,ao⟩:=dD I;have ab:=zH I;have T:=zH (aT O F))
 have y:=fW (v0:=.int .i64 (a)) (v1:=.int .i64 (b)) ab;refine Oi fun y0 y1=>?_
 have U:=zH (fX T.o (b:=(w:Nat)+1) Qu (zI (a)) (zI (b)));exact aI (v:=.tuple (ka (bC a b) (kj (cJ L)))) (by simp[results,results204,go_sem, *]) rfl ⟨a,b,rfl,U⟩
def zT L A ε w(F:bR 3 jK w A L)(J:L.length<=1048576):az 161 (cY (aV A L ε)) w (dt w (kj (cJ L))):=by
 refine N5 fun hB hq=>?_
 have h:=bQ F hB;go_enter func161,ntmps161
 go_upto_region 1 with(fail)
 generalize w.alloc _=W at hB hq h ⊢;have O:=aF hq 0 rfl;have⟨H,I⟩:=bJ hB h;go_wp2_with (go_at_call 204;refine(FM L A ε _ I J).x ?_;rintro e T ⟨a,b,rfl,G⟩;have D:=zH (aT H G))
 go_ret
 exact⟨rfl,D.alloc D.size _⟩
def Ñ(p:Int)(x:eE):Bool:=!Õ x.k||decide (x.v<p)
def zgo p L:L.all (Ñ p)=qp p (cJ L):=by unfold qp cJ;rw[List.all_map];rfl
def ntB(x:eE):Bool:=!dlB x.k
def zkO L:L.all ntB=qS (cJ L):=by
 unfold qS cJ;rw[List.all_map];congr 1
 funext x
 show(!(decide (x.k=8)||decide (x.k=14)))=(decide (x.k≠8)&&decide (x.k≠14))
 rw[Bool.not_or];simp
def zU(p:Int)(L:List eE):Bool:=bV p&&(kj (cJ L)&&qp p (cJ L))
def E5 p L A ε w(O:dZ w)(J:bR 3 jK w A L)(T:L.length<=1048576):az 119 (jy (aV A L ε) p) w (dt w (zU p L)):=by
 unfold zU;refine N5 fun hB hq=>?_
 have⟨H,HP⟩:=bJ (show ∀W,ag w W->bR 3 jK W A L from fun W Y=>bQ J Y) (O.ext hB);go_enter func119,ntmps119
 go_upto_region 1 with(fail)
 generalize w.alloc _=W at hB hq HP ⊢;have D:=aF hq 0 rfl;have⟨HB,ac⟩:=bJ hB hq;cases hf:bV p
 .exact YC
 cases F:kj (cJ L)
 .go_wp2_with (first|(go_at_call 142;refine(Calls.cg (jj _ _ HP.o) hf).x ?_;rintro e w' ⟨rfl,rfl⟩)|(go_at_call 161;refine(Calls.bl (zT L A ε _ (H.o _ HB.o) T) F).x ?_;rintro e U ⟨rfl,h⟩;have G:=zH (aT HB h)))
  go_ret
  exact⟨aN (by rw[hf,F];rfl),G⟩
 have I:=zH (zgo p L);go_upto_region 3 with(first|(go_at_call 142;refine(Calls.cg (jj _ _ HP.o) hf).x ?_;rintro e w' ⟨rfl,rfl⟩)|(go_at_call 161;refine(Calls.bl (zT L A ε _ (H.o _ HB.o) T) F).x ?_;rintro e U ⟨rfl,h⟩;have d0:=ar h D;have G:=zH (aT HB h)))
 go_wp2;go_loopw [18] (fun i wr=>∃k:Nat,k<=L.length/\i=.int .i64 k/\Hd ((L.take k).all (Ñ p)=true)/\ag w wr) (fun i _=>L.length-(intOf i).toNat)
 case atStart=>exact⟨0,aW _,rfl,zH Qt,G⟩
 case round=>
  obtain⟨k,ad,rfl,Gw,FW⟩:=hrel;by_cases Z:k<L.length
  .have⟨x,hx⟩:=aq Z;obtain⟨b,o,rfl,D,c1,c2⟩:=iF (H wr FW) hx;obtain⟨kk,vv,ss⟩:=x;dsimp only at D c1 c2;refine NH fun HX Gc G6=>?_
   go_upto_region 6 with(fail)
   generalize wr.alloc _=U at Gc G6 ⊢;have⟨am,an,n2⟩:=aD G6;cases hv:Õ kk
   .have HF:=zH (by unfold Ñ;rw[hv];rfl:Ñ p ⟨kk,vv,ss⟩=true);exact Zb
   .by_cases ab:vv<p
    .have HF:=zH (by unfold Ñ;simp[ab]:Ñ p ⟨kk,vv,ss⟩=true);exact Zb
    .have HF:=zH (by unfold Ñ;rw[hv];simp;omega:Ñ p ⟨kk,vv,ss⟩=false);have ah:p<=vv:=Qu;go_wp2_with (go_at_call 162;refine(Calls.cg (jN _ _) hv).x ?_;rintro e w' ⟨rfl,rfl⟩)
     go_ret
     exact⟨aN (by rw[<-I.o,hf,F,ξ _ _ _ _ HX.o HF];rfl),Gc⟩
  .go_wp2;go_ret
   exact⟨aN (by rw[<-I.o,hf,F,fZ _ _ _ Gw.o Qu];rfl),FW⟩
def Cg(p:Int)(L:List eE):Bool:=zU p L&&qS (cJ L)
def FN p L A ε w(O:dZ w)(J:bR 3 jK w A L)(T:L.length<=1048576):az 84 (jy (aV A L ε) p) w (dt w (Cg p L)):=by
 unfold Cg;refine N5 fun hB hq=>?_
 have⟨G,H⟩:=bJ (show ∀W,ag w W->bR 3 jK W A L from fun W Y=>bQ J Y) (O.ext hB);go_enter func84,ntmps84
 go_upto_region 1 with(fail)
 generalize w.alloc _=W at hB hq H ⊢;have D:=aF hq 0 rfl;have⟨F,ab⟩:=bJ hB hq;cases hf:zU p L
 .go_wp2_with (go_at_call 119;refine(Calls.bl (E5 p L A ε _ H (G.o _ F.o) T) hf).x ?_;rintro e U ⟨rfl,h⟩;have FV:=zH (aT F h))
  exact Wk
 have I:=zH (zkO L);go_upto_region 3 with(go_at_call 119;refine(Calls.bl (E5 p L A ε _ H (G.o _ F.o) T) hf).x ?_;rintro e U ⟨rfl,h⟩;have d0:=ar h D;have FV:=zH (aT F h))
 go_wp2;go_loopw [14] (fun i wr=>∃k:Nat,k<=L.length/\i=.int .i64 k/\Hd ((L.take k).all ntB=true)/\ag w wr) (fun i _=>L.length-(intOf i).toNat)
 case atStart=>exact⟨0,aW _,rfl,zH Qt,FV⟩
 case round=>
  obtain⟨k,ac,rfl,Gw,FW⟩:=hrel;by_cases Z:k<L.length
  .have⟨x,hx⟩:=aq Z;obtain⟨b,o,rfl,D,c1,c2⟩:=iF (G wr FW) hx;obtain⟨kk,vv,ss⟩:=x;dsimp only at D c1 c2;refine NH fun HX Gc G6=>?_
   go_upto_region 6 with(fail)
   generalize wr.alloc _=U at Gc G6 ⊢;have⟨ad,ah,n2⟩:=aD G6;cases hv:dlB kk
   .have HF:=zH (by unfold ntB;rw[hv];rfl:ntB ⟨kk,vv,ss⟩=true);exact Za
   .have HF:=zH (by unfold ntB;rw[hv];rfl:ntB ⟨kk,vv,ss⟩=false);refine MI ?_;go_ret
    exact⟨aN (by rw[<-I.o,hf,ξ _ _ _ _ HX.o HF];rfl),Gc⟩
  .go_wp2;go_ret
   exact⟨aN (by rw[<-I.o,hf,fZ _ _ _ Gw.o Qu];rfl),FW⟩
section
variable{x:Nat}
def bD(l:bP):List Int:=l.map fun x:Nat=>(x:Int)
def aS l:(bD l).length=l:=QM
def dK(h:l[k]?=some x):(bD l)[k]?=some (x:Int):=by simp[bD,h]
def zgV n:υ n=bD (List.range n):=rfl
def jr a b:bD (a++b)=bD a++bD b:=QM
def Cl(w:aa)(e:Ed)(c:cL):Prop:=∃A1 c1 h c2,c=[.int .i64 e.k,.int .i64 e.v,.slice A1 e.i c1,.slice h e.o c2]/\aO w A1 (bD e.i)/\aO w h (bD e.o)
def Cl.ext{a b}{c}(h:ag a b)(F:Cl a e c):Cl b e c:=by obtain⟨A1,c1,D,c2,G,H,I⟩:=F;exact⟨A1,c1,D,c2,G,H.ext h,I.ext h⟩
def zkj:RT prog 52 155 4 (.agg #[(),(),dE,dE]) 64:=⟨underlying52,QT,Qw,Qw,Qw⟩
def zlt:RT prog 163 54 4 (.agg cw) 80:=⟨underlying163,QT,Qw,Qw,Qw⟩
structure jV(w:aa)(A1 A2 A3:ax)(g:Gr):Prop where
 es:bR 4 Cl w A1 g.es
 i:aO w A2 (bD g.i)
 o:aO w A3 (bD g.o)
def jV.ext{a b}{F G}(h:jV a A1 F G g)(D:ag a b):jV b A1 F G g:=⟨bR.ext (fun _ _ h=>h.ext D) h.es D,h.i.ext D,h.o.ext D⟩
def EGr(w:aa)(g:Gr)(c:cL):Prop:=∃A1 c1 h c2 D F,c=[.int .i64 (g.w:Nat),.slice A1 g.es c1,.slice h g.i c2,.slice D g.o F]/\jV w A1 h D g
def xr(g:Gr)(w:aa)(e:Ending)(w':aa):Prop:=∃A1 c1 h c2 D F,e=.returned (.agg (bj g A1 c1 h c2 D F))/\Fr w' w w' (fun W=>jV W A1 h D g)/\ag w w'
def fU{F}(I:bR 4 Cl w A F)(G:F[k]?=some e):∃b o A1 c1 h c2,A=some ⟨b,o,none⟩/\af w b (o+k*4) (zI e.k)/\af w b (o+k*4+1) (zI e.v)/\af w b (o+k*4+2) (.slice A1 e.i c1)/\af w b (o+k*4+3) (.slice h e.o c2)/\aO w A1 (bD e.i)/\aO w h (bD e.o):=by obtain⟨b,o,H,U⟩:=I.θ (bG.1 G).1;obtain⟨c,D,A1,c1,h,c2,J,O,T⟩:=U k e G;subst J;exact⟨b,o,A1,c1,h,c2,H,D 0 _ rfl,D 1 _ rfl,D 2 _ rfl,D 3 _ rfl,O,T⟩
def dd(a n:Nat):List Nat:=(List.range n).map (· +a)
def c_ a n:(dd a n).length=n:=by simp[dd]
def qh{a}(h:k<n):(dd a n)[k]?=some (k+a):=by simp[dd,h]
def xE(a n k:Nat):List Int:=(bD (dd a n)).take k++(υ n).drop k
def zey a n:xE a n 0=υ n:=by simp[xE]
def zgW a n:xE a n n=bD (dd a n):=by unfold xE;rw[cZ (by rw[aS,c_];exact ae _),jR (by rw[dX];exact ae _),lZ]
def zgX{a}(h:k<n):(xE a n k)[k]?=some (k:Int):=by unfold xE;rw[fi (by rw[cQ,aS,c_];omega),cQ,aS,c_,fQ,iw Qu,pR,jf,sM h]
def zgY{a}(h:k<n):(xE a n k).set k ((k:Int)+a)=xE a n (k+1):=by unfold xE;rw[om _ _ (by rw[cQ,aS,c_];omega),cQ,aS,c_,iw Qu,pR];rw[du,dK (qh h),uu (by rw[dX];exact h),rO];simp
def sJ(a n:Nat)w(J:n<=1048576)(O:a<=1048576):az 66 (bC a n) w fun e w'=>∃u,e=.returned u/\aE w' w u (bD (dd a n))/\ag w w':=by
 go_enter func66,ntmps66
 go_upto_region 3 with(go_at_call 62;refine(qu n _ J).x ?_;rintro e ab ⟨u,rfl,h,G⟩;obtain⟨A,c,rfl,_⟩:=h.p;rw[dX]at h ⊢;have F:=zH h;have HB:=zH G)
 have h1:=F.o;unfold aE at h1;rw[dX,<-zey a n]at h1;have D:=zH h1;go_wp2;go_loopw [11] (fun i wr=>∃k:Nat,k<=n/\i=.int .i64 k/\wr.ownsRow w 3 1 (.slice A n c) n ((xE a n k).map (Value.int .i64))/\ag w wr)
  (fun i _=>n-(intOf i).toNat)
 case atStart=>exact⟨0,aW _,rfl,D,HB⟩
 case round=>
  obtain⟨k,Y,rfl,FT,H⟩:=hrel;by_cases I:k<n
  .obtain⟨g,rfl⟩:∃g,A=some ⟨g,0,none⟩:=Xr;have T:af wr g k (zI k):=by rw[FT.C k Qu,bI,zgX I];rfl
   have U:=FT.g k;have GW:=(FT.j k (zI ((k:Int)+a))).1;rw[<-eW,zgY I]at GW;have⟨HS,HB⟩:=bJ GW (H.setCell (p:=⟨g,k,none⟩) ((bS FT g rfl).1) (zI ((k:Int)+a)));have Z:IntKind.i64.wrap ((k:Int)+a)=(k:Int)+a:=Rt;exact Yr
  .obtain rfl:k=n:=Qu;go_wp2;go_ret
   rw[zgW]at FT;exact⟨_,rfl,by unfold aE;rw[aS,c_];exact FT,H⟩
def zez v A ε h D F w(H:aO w A v)(G:aO w D h)(ab:v.length<=1048576)(Z:h.length<=1048576)(J:∀i∈h,0<=i/\i<v.length):az 164 (mv D h F A v ε) w fun e w'=>∃u,e=.returned u/\aE w' w u (nA v h)/\ag w w':=by
 have T:=zH (zeF v A ε h D F w H G ab Z J);go_enter func164,ntmps164
 go_wp2_with (go_at_call 206;refine T.o.x ?_;rintro e ac ⟨u,rfl,O,I⟩;have Y:=zH O;have U:=zH I)
 go_ret
 exact⟨_,rfl,Y,U⟩
def DJ{r}(h:rows[k]?=some r):(rows.take (k+1)).flatten=(rows.take k).flatten++r:=by rw[du,h];simp
def ya rows A ε w(J:bt w A rows)(a4:rows.length<=1048576)(Y:∀k,k<=rows.length->(rows.take k).flatten.length<=1048576):az 65 (aV A rows ε) w fun e w'=>∃u,e=.returned u/\aE w' w u rows.flatten/\ag w w':=by
 have⟨ap,am⟩:=bJ J Y;go_enter func65,ntmps65
 go_wp2;have⟨H,G⟩:=bJ (aE.lit w w (ae _)) ((al w w).alloc (ae _) (.cells #[] 3));go_loopw [3,9] (fun u i wr=>∃k:Nat,k<=rows.length/\i=.int .i64 k/\aE wr w u (rows.take k).flatten/\ag w wr)
  (fun _ i _=>rows.length-(intOf i).toNat)
 case atStart=>exact⟨0,aW _,rfl,by simpa using H.o,G⟩
 case round=>
  obtain⟨k,a3,rfl,Z,FW⟩:=hrel;have I5:=zH Z;by_cases D:k<rows.length
  .have⟨r,F⟩:=aq D;obtain⟨a1,o,rfl,T⟩:=(ap.ext FW).θ D;obtain⟨ac,av,a2,U⟩:=T k r F;have⟨ah,I⟩:=bJ U (DJ F);have an:=zH (show(rows.take k).flatten.length+r<=1099511627776 by have:=am (k+1) D;rw[I.o,bm]at this;omega);have a0:=FW.size;go_wp2_with ((at_builtin;refine ts rfl (.tmp 13) (.tmp 14) rfl w wr u3 (rows.take k).flatten r ac av rfl rfl I5.o ah.o an.o a0 ?_;intro a5 a6 ab _ O;have ao:=zH ab;have ad:=zH O))
   go_roundw
   case rel=>exact⟨k+1,Qu,Qx,by rw[I.o];exact ao,FW.t ad⟩
   case measure=>simp[intOf];omega
  .exact Xp
end
end Go.Proofs.YtpieilkmmiopfaaGreatDoor
