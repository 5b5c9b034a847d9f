/- Parts of the walks and laws (Stps, Gra1, Trm1). Conditions: as stated with each. -/
import Derived.Test.YtpieilkmmiopfaaGreatDoorPk3
import Derived.Test.YtpieilkmmiopfaaGreatDoorPk6
import Derived.Test.YtpieilkmmiopfaaGreatDoorPk7
namespace Go.Proofs.YtpieilkmmiopfaaGreatDoor
open Go.RowKit Tryz
set_option linter.all false
set_option maxHeartbeats 4000000
variable{A Y:aq}{B b k n x y:Nat}{Q6 QH QP Ra:dk}{R Ro T u v0 v1 v2 v3 v4 v5 v6 v7 v8 z z2:ax}{t:du}{w w':aa}
def EE(w:aa)(b o:Nat)(x:ft)(h:aq)(cap:Nat):Prop:=
 ae w b o (.int .i64 x.k)/\ae w b (o+1) (.int .i64 x.a)/\ae w b (o+2) (.int .i64 x.b)/\ae w b (o+3) (.int .i64 x.c)/\ae w b (o+4) (.slice h x.row.length cap)
def fL(w:aa)(A:aq)(xs:List ft):Prop:=
 xs=[]∨∃b o,A=some ⟨b,o,none⟩/\∀(k:Nat) (x:ft),xs[k]?=some x->∃h cap,EE w b (o+k*5) x h cap/\aJ w h x.row
theorem EE.ext{o:Nat}{x:ft}{cap:Nat}(h:EE w b o x Y cap)(D:ag w w'):EE w' b o x Y cap:=⟨al D h.1,al D h.2.1,al D h.2.2.1,al D h.2.2.2.1,al D h.2.2.2.2⟩
theorem fL.ext{xs:List ft}(h:fL w A xs)(D:ag w w'):fL w' A xs:=by
 rcases h with h|⟨b,o,I,J⟩
 .exact au h
 .refine an ⟨b,o,I,fun k x N=>?_⟩;obtain⟨F,cap,G,H⟩:=J k x N;exact⟨F,cap,G.ext D,H.ext D⟩
theorem fL.here{xs:List ft}(h:fL w A xs)(F:k<xs.length):∃b o,A=some ⟨b,o,none⟩/\∀(k:Nat) (x:ft),xs[k]?=some x->∃D cap,EE w b (o+k*5) x D cap/\aJ w D x.row:=by
 rcases h with h|h
 .simp[h]at F
 .exact h
def nh(left r:Int)(xs:List ft):Prop:=r<0∨(0<=r/\r<=left/\(xs.length:Int)<=left/\∀x∈xs,(x.row.length:Int)<=left)
theorem zaa(A:aq)(cap:Nat)(xs:List ft)(left:Int)(w:aa)(I:fL w A xs)(ad:xs.length<=maxLen)(T:∀r∈xs,r.row.length<=maxLen)(a9:0<=left)(ba:left<=1048576):aw 22 (oI A xs cap left) w fun e w'=>∃r,e=.returned (.int .i64 r)/\nh left r xs/\ag w w':=by
 unfold maxLen at ad;by_cases a4:left-xs.length<0
 .go_enter func22,ntmps22
  exact WC
 .go_enter func22,ntmps22
  go_wp2;go_loopw [1,5] (fun l i wr=>∃(k:Nat) (q:Int),k<=xs.length/\i=.int .i64 k/\l=.int .i64 q/\0<=q/\q<=left/\(∀x∈xs.take k,(x.row.length:Int)<=left)/\ag w wr) (fun _ i _=>xs.length-(intOf i).toNat)
  case atStart=>exact⟨0,_,aX _,rfl,rfl,Rr,Rr,fun x h=>by simp at h,aj _ _⟩
  case round=>
   obtain⟨k,q,a8,rfl,rfl,U,am,J,D⟩:=hrel;have G:=zH J;clear J;by_cases R:k<xs.length
   .obtain⟨r,F⟩:=aB R;obtain⟨b,o,rfl,O⟩:=(I.ext D).here R;obtain⟨ap,a3,⟨a0,c1,c2,a1,a2⟩,a7⟩:=O k r F;obtain⟨Z,ab,Y⟩:=dO (T r (aY F)) F D;clear F O T I D;go_wp2_with ((go_at_call 48;refine(zca _ _ _ _ _ _ _ _ _ Z.o U Rr).mono ?_;rintro e w' ⟨ao,rfl,V,N⟩;have ac:=zH V;have EO:=zH (ai Y.o N);clear V N))
    .exact Wu
    .go_roundw
     case rel=>
      rcases ac.o with H|⟨H,a5,a6⟩
      .omega
      .exact⟨k+1,ao,Rr,Rt,rfl,H,Rr,fun x h=>by
        rw[dH,ab.o]at h;rcases eh.1 h with h|h
        .exact G.o x h
        .simp at h;subst h;omega,EO.o⟩
     case measure=>simp[intOf];omega
   .go_wp2;go_ret
    refine⟨_,rfl,an ⟨U,am,Rr,fun x h=>G.o x ?_⟩,D⟩;rwa[cY Rr]
structure Ed where
 k:Int
 v:Int
 i:List Nat
 o:List Nat
structure Gr where
 w:Nat
 es:List Ed
 i:List Nat
 o:List Nat
variable{g:Gr}
def Ed.map(f:ir)(e:Ed):Ed:=⟨e.k,e.v,e.i.map f,e.o.map f⟩
def Gr.map(g:Gr)(w:Nat)(f:ir):Gr:=⟨w,g.es.map (Ed.map f),g.i.map f,g.o.map f⟩
def Gr.On(g:Gr)(x:Nat):Prop:=x∈g.i∨x∈g.o∨∃e∈g.es,x∈e.i∨x∈e.o
def Gr.In(g:Gr):Prop:=∀x,g.On x->x<g.w
def zgG(p k v:Int)(a b:aH):Prop:=
 if k=3 then p∣b.getD 0 0-a.getD 0 0/\p∣b.getD 1 0-a.getD 0 0
 else if k=5 then p∣b.getD 0 0-(a.getD 0 0+a.getD 1 0)
 else if k=6 then p∣b.getD 0 0
 else if k=7 then p∣b.getD 0 0-v*a.getD 0 0
 else True
def Ed.Ok(p:Int)(e:Ed)(f:Nat->Int):Prop:=if 9<=e.k then zgG p (e.k-6) e.v (e.o.map f) (e.i.map f) else zgG p e.k e.v (e.i.map f) (e.o.map f)
def rC(c:bO)(x y:Nat):List Nat:=c.map fun q=>if q=max (c.getD x 0) (c.getD y 0) then min (c.getD x 0) (c.getD y 0) else q
def iH(n:Nat)(ps:nU):List Nat:=ps.foldl (fun c q=>rC c q.1 q.2) (List.range n)
structure mB(n:Nat)(c:bO):Prop where
 len:c.length=n
 le:∀x,x<n->c.getD x 0<=x
 rep:∀x,x<n->c.getD (c.getD x 0) 0=c.getD x 0
def bl(h:Gr)(D F G H I J):M (#[.int .i64 (h.w:Nat),.slice D h.es.length F,.slice G h.i.length H,.slice I h.o.length J]:Array Value):=⟨⟩
def uQ(h:Ed)(D F G H):M (#[.int .i64 h.k,.int .i64 h.v,.slice D h.i.length F,.slice G h.o.length H]:Array Value):=⟨⟩
theorem yN{c:bO}(h:x<c.length):c[x]?=some (c.getD x 0):=by rw[bP,dL h];rfl
theorem pt{z:Nat}{c:bO}(h:mB n c)(D:z<n):(rC c x y).getD z 0=if c.getD z 0=max (c.getD x 0) (c.getD y 0) then min (c.getD x 0) (c.getD y 0) else c.getD z 0:=by unfold rC;rw[bP,cC,yN (by rw[h.len];exact D)];rfl
theorem zar{c:bO}(h:mB n c)(G:x<n)(H:y<n):mB n (rC c x y):=by
 have T:=h.le x G;have U:=h.le y H;have N:=h.rep x G;have O:=h.rep y H;refine⟨by unfold rC;rw[bh];exact h.len,fun z D=>?_,fun z D=>?_⟩
 .have I:=h.le z D;rw[pt h D];split
  .omega
  .exact I
 .have I:=h.le z D;have R:=h.rep z D;rw[pt h D];by_cases e:c.getD z 0=max (c.getD x 0) (c.getD y 0)
  .rw[ay e,pt h Rr];have J:c.getD (min (c.getD x 0) (c.getD y 0)) 0=min (c.getD x 0) (c.getD y 0):=by
    rcases Nat.le_total (c.getD x 0) (c.getD y 0)with F|F
    .rw[gR F];exact N
    .rw[wu F];exact O
   rw[J];split <;>rfl
  .rw[av e,pt h Rr,R,av e]
theorem uR(n:Nat):mB n (List.range n):=by
 have D:∀x,x<n->(List.range n).getD x 0=x:=fun x h=>by rw[bP,lJ h];rfl
 exact⟨fX,fun x h=>by rw[D x h];exact af _,fun x h=>by rw[D x h,D x h]⟩
theorem Dj{n:Nat}:∀(ps:nU) (c:bO),mB n c->(∀q∈ps,q.1<n/\q.2<n)->mB n (ps.foldl (fun c q=>rC c q.1 q.2) c)
 |[],c,h,_=>h
 |q::ps,c,h,D=>Dj ps _ (zar h (D q (lh ..)).1 (D q (lh ..)).2) fun r F=>D r (lg _ F)
def Gr.onB(g:Gr)(x:Nat):Bool:=g.i.contains x||(g.o.contains x||g.es.any fun e=>e.i.contains x||e.o.contains x)
theorem Gr.jS:g.onB x=true↔g.On x:=by unfold Gr.onB Gr.On;simp
def nG(g:Gr)(c:bO):List Nat:=(List.range g.w).filter fun r=>decide (c.getD r 0=r)&&(List.range g.w).any fun x=>g.onB x&&decide (c.getD x 0=r)
def iA(g:Gr)(ps:nU):Gr:=g.map (nG g (iH g.w ps)).length fun x=>(nG g (iH g.w ps)).idxOf ((iH g.w ps).getD x 0)
theorem zas{c:bO}(D:mB g.w c)(G:g.In)(F:g.On x):c.getD x 0∈nG g c:=by have h:=G x F;have:=D.le x h;unfold nG;rw[wv,fi,bE,bX,k7];exact⟨Rr,D.rep x h,x,fi.2 h,by rw[Gr.jS.2 F];simp⟩
def ff(a b:Gr):List Ed:=a.es++b.es.map (Ed.map (· +a.w))
def nX(a b:Gr):Gr:=iA ⟨a.w+b.w,ff a b,a.i,b.o.map (· +a.w)⟩ (a.o.zip (b.i.map (· +a.w)))
def jT(a b:Gr):Gr:=⟨a.w+b.w,ff a b,a.i++b.i.map (· +a.w),a.o++b.o.map (· +a.w)⟩
theorem sg{a b:Gr}{i o:bO}(O:a.In)(I:b.In)(hi:∀x∈i,x<a.w+b.w)(R:∀x∈o,x<a.w+b.w):Gr.In ⟨a.w+b.w,ff a b,i,o⟩:=by
 intro x D;rcases D with h|h|⟨e,J,D⟩
 .exact hi x h
 .exact R x h
 .dsimp only;unfold ff at J;rcases eh.1 J with F|F
  .have:=O x (an (an ⟨e,F,D⟩));omega
  .obtain⟨H,N,rfl⟩:=cM.1 F;unfold Ed.map at D;rcases D with h|h
   .obtain⟨y,G,rfl⟩:=cM.1 h;have:=I y (an (an ⟨H,N,au G⟩));omega
   .obtain⟨y,G,rfl⟩:=cM.1 h;have:=I y (an (an ⟨H,N,an G⟩));omega
structure Nd where
 k:Int
 v:Int
 e:Bool
inductive Tm
 |lf (n:Nd)
 |op (k:Int) (a b:Tm)
variable{S S':List Tm}
def Tm.flat:Tm->List Nd
 |.lf n=>[n]
 |.op k a b=>a.flat++b.flat++[⟨k,0,true⟩]
def dh(n:Nd):Bool:=
 n.e&&(if n.k=1 then decide (0<=n.v)&&decide (n.v<=12) else if n.k=7∨n.k=13 then decide (0<=n.v)&&decide (n.v<=96) else decide (2<=n.k)&&(decide (n.k<=14)&&decide (n.v=0)))
def nW(n:Nd):Nat:=if n.k=1 then n.v.toNat else if n.k=2 then 2 else if n.k=5∨n.k=9 then 2 else if n.k=6∨n.k=10 then 0 else 1
def qJ(n:Nd):Nat:=if n.k=1 then n.v.toNat else if n.k=2 then 2 else if n.k=3∨n.k=11 then 2 else if n.k=4∨n.k=12 then 0 else 1
def fG(k:Int)(a b:fQ):Option (Nat×Nat):=
 if k=15 then(if a.2=b.1 then some (a.1,b.2) else none)
 else if k=16 then(if a.1+b.1<=12/\a.2+b.2<=12 then some (a.1+b.1,a.2+b.2) else none)
 else none
def Tm.ty:Tm->Option (Nat×Nat)
 |.lf n=>if dh n=true then some (nW n,qJ n) else none
 |.op k a b=>match a.ty,b.ty with
  |some x,some y=>fG k x y
  |_,_=>none
theorem pT{n:Nd}(h:dh n=true):nW n<=12/\qJ n<=12:=by
 unfold dh at h;unfold nW qJ;rw[bE]at h;obtain⟨_,h⟩:=h;by_cases D:n.k=1
 .rw[ay D]at h;simp only[bE,bX]at h;rw[ay D,ay D];omega
 .rw[av D,av D];refine⟨?_,?_⟩ <;> (repeat' split) <;>omega
theorem zfj{k:Int}{a b c:fQ}(F:a.1<=12/\a.2<=12)(G:b.1<=12/\b.2<=12)(h:fG k a b=some c):c.1<=12/\c.2<=12:=by
 unfold fG at h;split at h
 .split at h
  .simp only[dZ]at h;subst h;exact⟨F.1,G.2⟩
  .cases h
 .split at h
  .split at h
   .rename_i D;simp only[dZ]at h;subst h;exact D
   .cases h
  .cases h
theorem Tm.CD:∀{t:Tm} {c:fQ},t.ty=some c->c.1<=12/\c.2<=12
 |.lf n,c,h=>by
  unfold Tm.ty at h;split at h
  .rename_i G;simp only[dZ]at h;subst h;exact pT G
  .cases h
 |.op k a b,c,h=>by
  unfold Tm.ty at h;cases D:a.ty with
  |none=>rw[D]at h;cases h
  |some x=>
   cases F:b.ty with
   |none=>rw[D,F]at h;cases h
   |some y=>
    rw[D,F]at h;exact zfj (Tm.CD D) (Tm.CD F) h
theorem nM{k:Int}{a b c:fQ}(h:fG k a b=some c):k=15∨k=16:=by
 unfold fG at h;split at h
 .left;assumption
 .split at h
  .right;assumption
  .cases h
theorem Tm.nN{k:Int}{a b:Tm}{c:fQ}(h:(Tm.op k a b).ty=some c):∃x y,a.ty=some x/\b.ty=some y/\fG k x y=some c:=by
 unfold Tm.ty at h;cases D:a.ty with
 |none=>rw[D]at h;cases h
 |some x=>
  cases F:b.ty with
  |none=>rw[D,F]at h;cases h
  |some y=>rw[D,F]at h;exact⟨x,y,rfl,rfl,h⟩
def BD(n:Nd):Bool:=decide (n.k=15)||decide (n.k=16)
def stepT(S:List Tm)(n:Nd):Option (List Tm):=
 if BD n=true then
  (if n.v=0/\n.e=true then
   match S with
   |b::a::S'=>if((Tm.op n.k a b).ty).isSome=true then some (Tm.op n.k a b::S') else none
   |_=>none
  else none)
 else if dh n=true then some (Tm.lf n::S) else none
def eI:List Nd->List Tm->Option (List Tm)
 |[],S=>some S
 |n::L,S=>match stepT S n with
  |some S'=>eI L S'
  |none=>none
def rM:List Tm->List Nd
 |[]=>[]
 |t::S=>rM S++t.flat
theorem zbV{n:Nd}(h:stepT S n=some S'):rM S'=rM S++[n]:=by
 unfold stepT at h;split at h
 .split at h
  .rename_i D;split at h
   .rename_i b a F;split at h
    .simp only[dZ]at h;subst h;obtain⟨k,v,e⟩:=n;simp only at D;obtain⟨rfl,rfl⟩:=D;simp[rM,Tm.flat]
    .cases h
   .cases h
  .cases h
 .split at h
  .simp only[dZ]at h;subst h;rfl
  .cases h
theorem pU:∀{L:List Nd} {S S':List Tm},eI L S=some S'->rM S'=rM S++L
 |[],S,S',h=>by unfold eI at h;simp only[dZ]at h;subst h;simp
 |n::L,S,S',h=>by
  unfold eI at h;cases D:stepT S n with
  |none=>rw[D]at h;cases h
  |some F=>
   rw[D]at h;rw[pU h,zbV D];simp
theorem ic(n:Nd)(L:List Nd)(S:List Tm):eI (n::L) S=match stepT S n with|some S'=>eI L S'|none=>none:=rfl
theorem sj:∀(L h:List Nd) (S:List Tm),eI (L++h) S=match eI L S with|some S'=>eI h S'|none=>none
 |[],h,S=>rfl
 |n::L,h,S=>by
  rw[sy,ic,ic];cases stepT S n with
  |none=>rfl
  |some D=>exact sj L h D
theorem px:∀{t:Tm} {c:fQ} (S:List Tm),t.ty=some c->eI t.flat S=some (t::S)
 |.lf n,c,S,D=>by
  unfold Tm.ty at D;split at D
  .rename_i h;have F:BD n=false:=by
    unfold dh at h;unfold BD;rw[bE]at h;obtain⟨_,h⟩:=h;simp only[qw,qx];by_cases G:n.k=1
    .omega
    .rw[av G]at h;by_cases H:n.k=7∨n.k=13
     .omega
     .rw[av H]at h;simp only[bE,bX]at h;omega
   show eI [n] S=_
   unfold eI stepT;rw[F,av Rs,ay h];rfl
  .cases D
 |.op k a b,c,S,D=>by
  obtain⟨x,y,I,J,N⟩:=Tm.nN D;have O:=nM N;unfold Tm.flat;rw[sj,sj,px S I];dsimp only;rw[px (a::S) J];dsimp only;have F:BD ⟨k,0,true⟩=true:=by unfold BD;rcases O with rfl|rfl <;>rfl
  unfold eI stepT;rw[ay F,ay ⟨rfl,rfl⟩];dsimp only;rw[D];rfl
theorem Dn:∀{L:List Nd} {S S':List Tm},(∀t∈S,∃c,t.ty=some c)->eI L S=some S'->∀t∈S',∃c,t.ty=some c
 |[],S,S',G,D=>by unfold eI at D;simp only[dZ]at D;subst D;exact G
 |n::L,S,S',G,D=>by
  unfold eI at D;cases h:stepT S n with
  |none=>rw[h]at D;cases D
  |some J=>
   rw[h]at D;refine Dn (fun t F=>?_) D;unfold stepT at h;split at h
   .split at h
    .split at h
     .rename_i b a I;split at h
      .rename_i H;simp only[dZ]at h;subst h;rcases dQ.1 F with rfl|F
       .exact wm.1 H
       .exact G t (lg _ (lg _ F))
      .cases h
     .cases h
    .cases h
   .split at h
    .rename_i H;simp only[dZ]at h;subst h;rcases dQ.1 F with rfl|F
     .exact⟨_,by unfold Tm.ty;rw[ay H]⟩
     .exact G t F
    .cases h
def zht(L:List Nd)(t:Tm):Prop:=L=t.flat/\∃c,t.ty=some c
theorem py{L:List Nd}{t:Tm}:zht L t↔eI L []=some [t]:=by
 constructor
 .rintro⟨rfl,c,h⟩;exact px [] h
 .intro h;have:=pU h;refine⟨by simpa[rM]using this.symm,Dn (fun t D=>by cases D) h t (kp.2 rfl)⟩
def eY(n:Nd):Gr:=
 if n.k=1 then⟨n.v.toNat,[],List.range n.v.toNat,List.range n.v.toNat⟩
 else if n.k=2 then⟨2,[],[0,1],[1,0]⟩
 else⟨nW n+qJ n,[⟨n.k,n.v,List.range (nW n),(List.range (qJ n)).map (· +nW n)⟩],List.range (nW n),(List.range (qJ n)).map (· +nW n)⟩
def Tm.gr:Tm->Gr
 |.lf n=>eY n
 |.op k a b=>if k=15 then nX a.gr b.gr else jT a.gr b.gr
def Ed.jt(e:Ed):Bool:=dh ⟨e.k,e.v,true⟩&&(decide (3<=e.k)&&(decide (e.i.length=nW ⟨e.k,e.v,true⟩)&&decide (e.o.length=qJ ⟨e.k,e.v,true⟩)))
def Gr.okB(g:Gr):Bool:=
 decide (g.w<=100)&&(decide (g.es.length<=60)&&(decide (g.i.length<=12)&&(decide (g.o.length<=12)&&(g.es.all Ed.jt&&(decide (∀x,x<g.w->g.onB x=true)&&(g.i.all (fun x=>decide (x<g.w))&&(g.o.all (fun x=>decide (x<g.w))&&g.es.all fun e=>e.i.all (fun x=>decide (x<g.w))&&e.o.all (fun x=>decide (x<g.w)))))))))
theorem Gr.rO(D:g.okB=true):g.In:=by
 unfold Gr.okB at D;simp only[bE,fZ,bX]at D;obtain⟨_,_,_,_,_,_,H,I,F⟩:=D;rintro x (h|h|⟨e,G,h|h⟩)
 .exact H x h
 .exact I x h
 .exact(F e G).1 x h
 .exact(F e G).2 x h
def Tm.np:Tm->Bool
 |.lf n=>(eY n).okB
 |.op k a b=>a.np&&(b.np&&((Tm.op k a b).gr).okB)
theorem pE(p b:Int)(A1 h:aq)(cap D:Nat)(w:aa):aw 176 #[p,.slice A1 0 cap,b,.slice h 0 D] w fun e w'=>e=.returned (.tuple #[])/\w'=w:=by
 go_enter func176,ntmps176
 go_wp2;go_loopw [12] (fun i wr=>i=.int .i64 0/\wr=w) (fun _ _=>0)
 case atStart=>exact⟨rfl,rfl⟩
 case round=>
  obtain⟨rfl,rfl⟩:=hrel;go_wp2;go_end0
  exact⟨rfl,rfl⟩
theorem zcX(a b c p v H:Int)(A:aq)(cap:Nat)(rows:aN)(w:aa)(a8:bk w A rows)(c0:rows.length<=160)(EM:∀r∈rows,r.length<=1000)(c3:1<=p)(c4:p<=1000)(cr:0<=a)(ct:a<rows.length)(hb:0<=b)(cz:b<rows.length)(cu:a≠b)(cA:0<=c)(cB:c<=1000)(hx:∀r∈rows,∀x∈r,0<=x/\x<=1000)(ad:∀r∈rows,r.length=0):aw 252 (gQ (fP a b c) p (ar v H A rows cap)) w fun e w'=>∃u,e=.returned (.agg (dK v H u))/\aU w' w.heap.size u (rows.set b.toNat (dD p c (rows.getD b.toNat []) (rows.getD a.toNat [])))/\ag w w':=by
 obtain⟨a1,Fk⟩:=aB (Rr:a.toNat<rows.length);obtain⟨a2,FE⟩:=aB (Rr:b.toNat<rows.length);obtain⟨bv,b0⟩:=bD (TN:rows.getD a.toNat []=a1) (TM:rows.getD b.toNat []=a2);obtain rfl:a1=[]:=fC (ad a1 (aY Fk));obtain rfl:a2=[]:=fC (ad a2 (aY FE));clear hx ad;obtain⟨b1,b2⟩:=bD (Rr:rows.length<=1048576) (show ∀r∈rows,r.length<=1048576 from fun r hr=>T3);go_enter func252,ntmps252
 go_wp2_with fail
 refine(kH _ _ _ _ _ _ (a8.ext (((aj _ _).alloc Rq _ |>.alloc Rq _).alloc Sp _)) b1.o b2.o).mono ?_;rintro e G ⟨u,rfl,⟨us,hu⟩,R⟩;obtain⟨I,J,rfl,_,_,_⟩:=aU.view ⟨us,hu⟩;obtain⟨bo,bp,bq⟩:=cm w (.cells (fP a b c) 233) (.cells (ar v H A rows cap) 57) (.cells bj 57);have ci:=R.size;simp only[dt]at ci;go_upto_region 2 with(fail)
 obtain⟨h,EJ⟩:=aM (G.alloc (.cells (ar v H I rows J) 57));rw[<-EJ];have ac:ag G h:=Vj;have c5:h.heap.size=G.heap.size+1:=So;have N:=R.trans (ac.mono R.size);have ap:aW h G.heap.size (ar v H I rows J) 57:=Uo;have bg:=cH N bo;have cj:=cH N bp;have bi:=cH N bq;have F:bC h (w.heap.size+3) (.slice I rows.length J) rows us:=(hu.ext ac).mono Rq;have bd:∀g',I=some ⟨g',0,none⟩->g'<G.heap.size:=fun g' e=>U8
 have D:∀(k:Nat) (x:ax),us[k]?=some x->∀b,x.ownBlock=some b->b<G.heap.size:=fun k x hx b hb=>VA
 have a9:ag w h:=(below_alloc3 w _ _ _).trans (N.mono Sp);clear hu R ac N a8 EM bo bp bq EJ;obtain⟨c6,bc,bb⟩:=F.get Fk;obtain⟨c7,ao,am⟩:=F.get FE;obtain⟨g,ch,cF,cI⟩:∃g,I=some ⟨g,0,none⟩/\w.heap.size+3<=g/\g<h.heap.size:=j5 F Rr;subst ch;have cO:=bd g rfl;obtain⟨U,Z,rfl,ce,_⟩:=bb.view;obtain⟨V,ab,rfl,_,_⟩:=am.view;obtain⟨a3,a4,a5⟩:=bS bg;have a6:=a_ ap 2;simp only[cZ,cP]at a3 a4 a5 a6;have br:ae h g a.toNat (.slice U 0 Z):=by rw[F.outer.cellAt _ Rr,bc];rfl
 have bu:ae h g b.toNat (.slice V 0 ab):=by rw[F.outer.cellAt _ Rr,ao];rfl
 obtain⟨b4,bz,cn,b3,ck,b5,b6,a7⟩:=zH8 F a9 ao FE am bi ap (pE p c V U ab Z h.drew);clear F a9 bc ao bb am Fk FE ce bd D bg cj bi ap;go_region_held3 (fun w'=>ae w' w.heap.size 0 (.int .i64 a)/\ae w' w.heap.size 1 (.int .i64 b)/\ae w' w.heap.size 2 (.int .i64 c)/\ae w' G.heap.size 2 (.slice (some ⟨g,0,none⟩) rows.length J)/\ae w' g a.toNat (.slice U 0 Z)/\ae w' g b.toNat (.slice V 0 ab))
  (first|exact⟨a3,a4,a5,a6,br,bu⟩)
  ((go_at_call 176;refine a7.o.mono ?_;rintro e wr ⟨rfl,rfl⟩))
 obtain⟨Y,O⟩:=aM h.drew;have ba:Y.heap=h.heap:=by rw[O];rfl
 have a0:=b6.o;have T:=b5.o;rw[<-ba]at a0 T;have D:=b4.o.ext (aj _ _).drew;rw[<-O]at D ⊢;rw[<-kb b3.o,show([]:aH)=dD p c [] [] from rfl]at D;rw[show(List.set rows b.toNat (dD p c [] []))=rows.set b.toNat (dD p c (rows.getD b.toNat []) (rows.getD a.toNat [])) by rw[bv.o,b0.o]]at D;simp only[iE]at D;obtain⟨HO,HE⟩:=bD (show aU Y (w.heap.size+3) _ _ from⟨_,D⟩) (by rw[O];exact bz.o.drew:ag w Y);clear O ba;clear D a3 a4 a5 a6 br bu a7;obtain⟨b7,b8,b9⟩:=bS a0;obtain⟨ca,cb,cc⟩:=bS T;obtain⟨co,cp,cq⟩:=bR T;simp only[cZ,cP]at b7 b8 b9 ca cb cc;clear a0 T;go_wp2;refine aE (v:=.agg (ar v H (some ⟨g,0,none⟩) rows J)) U7 rfl ⟨_,rfl,?_,?_⟩
 .exact Yp
 .exact X_
section
variable{w2:aa}{E8 E10 E11 E12:eU}{v8 v10 v11 v12:ax}{R8 R10:aN}{r11:aH}{R12:aN}{l8 h8 b8 l10 h10 b10 l11 h11 b11 l12 h12 b12:Nat}{W W':aa}
end
theorem rL(D:Below B w w')(h:B<=b)(v0 v1 v2:ax):Below B w (((w'.setCell ⟨b,0,none⟩ v0).setCell ⟨b,1,none⟩ v1).setCell ⟨b,2,none⟩ v2):=((D.setCell h _).setCell h _).setCell h _
theorem zbU(G:aW w b #[R,T,z2] t):(((w.setCell ⟨b,0,none⟩ v0).setCell ⟨b,1,none⟩ v1).setCell ⟨b,2,none⟩ v2).heap[b]?=some (.cells #[v0,v1,v2] t (0,0)):=by have h:=bm w b 0 _ _ v0 G;have D:=bm _ b 1 _ _ v1 h;have F:=bm _ b 2 _ _ v2 D;simpa using F
theorem dd{x y:ax}(h:aW w b #[x,y] t):ae w b 0 x/\ae w b 1 y/\w.frozen? ⟨b,0,none⟩=false/\w.frozen? ⟨b,1,none⟩=false:=by simp[World.cell?,World.frozen?,h]
theorem aA{x y:ax}(h:aW w b #[x,y,z,u] t):ae w b 0 x/\ae w b 1 y/\ae w b 2 z/\ae w b 3 u:=by simp[World.cell?,h]
theorem bZ{x y:ax}(h:aW w b #[x,y,z,u] t):w.frozen? ⟨b,0,none⟩=false/\w.frozen? ⟨b,1,none⟩=false/\w.frozen? ⟨b,2,none⟩=false/\w.frozen? ⟨b,3,none⟩=false:=by simp[World.frozen?,h]
abbrev qU(w:aa)(b:Nat)(v0 v1:ax):World:=(w.setCell ⟨b,0,none⟩ v0).setCell ⟨b,1,none⟩ v1
abbrev dC(w:aa)(b:Nat)(v0 v1 v2 v3:ax):World:=(((w.setCell ⟨b,0,none⟩ v0).setCell ⟨b,1,none⟩ v1).setCell ⟨b,2,none⟩ v2).setCell ⟨b,3,none⟩ v3
theorem fc(F:aW w b #[R,T] t):(qU w b v0 v1).heap[b]?=some (.cells #[v0,v1] t (0,0)):=by have h:=bm w b 0 _ _ v0 F;have D:=bm _ b 1 _ _ v1 h;simpa[qU]using D
theorem cd(H:aW w b #[R,T,z2,Ro] t):(dC w b v0 v1 v2 v3).heap[b]?=some (.cells #[v0,v1,v2,v3] t (0,0)):=by have h:=bm w b 0 _ _ v0 H;have D:=bm _ b 1 _ _ v1 h;have F:=bm _ b 2 _ _ v2 D;have G:=bm _ b 3 _ _ v3 F;simpa[dC]using G
theorem nr(h:k≠b):(dC w b v0 v1 v2 v3).heap[k]?=w.heap[k]?:=(aZ _ _ _ _ R9).trans ((aZ _ _ _ _ R9).trans ((aZ _ _ _ _ R9).trans (aZ _ _ _ _ R9)))
theorem dV:(dC w b v0 v1 v2 v3).heap.size=w.heap.size:=by simp[dC]
theorem fe(D:Below B w w')(h:B<=b)(v0 v1:ax):Below B w (qU w' b v0 v1):=(D.setCell h _).setCell h _
theorem bI(D:Below B w w')(h:B<=b)(v0 v1 v2 v3:ax):Below B w (dC w' b v0 v1 v2 v3):=(((D.setCell h _).setCell h _).setCell h _).setCell h _
theorem js{x:ax}{p:dk}(h:p.block≠b)(D:w.cell? p=some x):((w.setCell ⟨b,0,none⟩ v0).setCell ⟨b,1,none⟩ v1).cell? p=some x:=(bV h).trans ((bV h).trans D)
theorem dg{x:ax}{p:dk}(h:p.block≠b)(D:w.cell? p=some x):((((w.setCell ⟨b,0,none⟩ v0).setCell ⟨b,1,none⟩ v1).setCell ⟨b,2,none⟩ v2).setCell ⟨b,3,none⟩ v3).cell? p=some x:=(bV h).trans ((bV h).trans ((bV h).trans ((bV h).trans D)))
theorem ju{p2:dk}(h:ag w w')(t:w.cell? Ra=some v1/\w.cell? p2=some v2):w'.cell? Ra=some v1/\w'.cell? p2=some v2:=⟨al h t.1,al h t.2⟩
theorem kf{p2:dk}(h:ag w w')(t:w.cell? Ra=some v1/\w.cell? p2=some v2/\w.cell? Q6=some v3):w'.cell? Ra=some v1/\w'.cell? p2=some v2/\w'.cell? Q6=some v3:=⟨al h t.1,al h t.2.1,al h t.2.2⟩
theorem fJ{p2:dk}(h:ag w w')(t:w.cell? Ra=some v1/\w.cell? p2=some v2/\w.cell? Q6=some v3/\w.cell? QP=some v4):w'.cell? Ra=some v1/\w'.cell? p2=some v2/\w'.cell? Q6=some v3/\w'.cell? QP=some v4:=⟨al h t.1,al h t.2.1,al h t.2.2.1,al h t.2.2.2⟩
theorem iS{p2:dk}(h:ag w w')(t:w.cell? Ra=some v1/\w.cell? p2=some v2/\w.cell? Q6=some v3/\w.cell? QP=some v4/\w.cell? QH=some v5):w'.cell? Ra=some v1/\w'.cell? p2=some v2/\w'.cell? Q6=some v3/\w'.cell? QP=some v4/\w'.cell? QH=some v5:=⟨al h t.1,al h t.2.1,al h t.2.2.1,al h t.2.2.2.1,al h t.2.2.2.2⟩
theorem mx{p2 D:dk}(h:ag w w')(t:w.cell? Ra=some v1/\w.cell? p2=some v2/\w.cell? Q6=some v3/\w.cell? QP=some v4/\w.cell? QH=some v5/\w.cell? D=some v6):w'.cell? Ra=some v1/\w'.cell? p2=some v2/\w'.cell? Q6=some v3/\w'.cell? QP=some v4/\w'.cell? QH=some v5/\w'.cell? D=some v6:=⟨al h t.1,al h t.2.1,al h t.2.2.1,al h t.2.2.2.1,al h t.2.2.2.2.1,al h t.2.2.2.2.2⟩
theorem zeb{p2 D F G:dk}(h:ag w w')(t:w.cell? Ra=some v1/\w.cell? p2=some v2/\w.cell? Q6=some v3/\w.cell? QP=some v4/\w.cell? QH=some v5/\w.cell? D=some v6/\w.cell? F=some v7/\w.cell? G=some v8):w'.cell? Ra=some v1/\w'.cell? p2=some v2/\w'.cell? Q6=some v3/\w'.cell? QP=some v4/\w'.cell? QH=some v5/\w'.cell? D=some v6/\w'.cell? F=some v7/\w'.cell? G=some v8:=⟨al h t.1,al h t.2.1,al h t.2.2.1,al h t.2.2.2.1,al h t.2.2.2.2.1,al h t.2.2.2.2.2.1,al h t.2.2.2.2.2.2.1,al h t.2.2.2.2.2.2.2⟩
theorem ak(w:aa)(o:Obj):Below w.heap.size w (w.alloc o):=(aj _ _).alloc (af _) o
theorem ja(w:aa)(o:Obj):(w.alloc o).drew.heap[w.heap.size]?=some o:=aC w o rfl
theorem az(w:aa):Below w.heap.size w w.drew:=(aj _ _).drew
theorem tf(n:Nat):((n:Int)==0)=(n==0):=R6
theorem c_(k a b c:Int)(A:aq)(n cap:Nat)(w:aa)(O:n<=1048576):aw 136 (cy (oG k a b c A n cap)) w (dM w (mu k a b c n)):=by
 by_cases F:k=1
 .subst F;exact X5
 by_cases h2:k=2
 .subst h2;exact X5
 by_cases h3:k=3
 .subst h3;exact X5
 by_cases h4:k=4
 .subst h4;exact X5
 by_cases h5:k=5
 .subst h5;exact X5
 by_cases G:k=6
 .subst G;exact X5
 by_cases h7:k=7
 .subst h7;exact X5
 by_cases h:k=8
 .subst h;exact X5
 by_cases D:k=9
 .subst D;exact X5
 have I:(k==2)=false:=Sm;have J:(k==3)=false:=Sg;have N:(k==7)=false:=Si;have U:(k !=8)=true:=by simpa using h
 have V:(k !=9)=true:=by simpa using D
 have n2:(k !=2)=true:=Sm;have R:(k !=4)=true:=Sf;have T:(k !=5)=true:=Se;have H:=zH (aF h2 (aF h3 (aF h7 (aF h (aF D (aF h4 h5))))));clear F h2 h3 h4 h5 G h7 h D;go_enter lQ,lR
 go_wp2
 all_goals
  go_ret
  obtain⟨h2,h3,h7,h,D,h4,h5⟩:=H.o;exact⟨aL (by simp[mu,tf, *]),(aj _ _).alloc (af _) _⟩
end Go.Proofs.YtpieilkmmiopfaaGreatDoor
