/- Parts of the walks. Conditions: as stated with each. -/
import Derived.Test.YtdpgblncijojiaaGreatDoorPk6
import Derived.Test.YtdpgblncijojiaaGreatDoorPk7
import Derived.Test.YtdpgblncijojiaaGreatDoorPk8
namespace Go.Proofs.YtdpgblncijojiaaGreatDoor
open Go.RowKit Tryz
set_option linter.all false
set_option maxHeartbeats 1000000
variable{A RJ:an}{B' D RP b k n x:Nat}{RF:gF}{RM:aG}{RQ T:dG}{g:Gr}{ps:qx}{u v':au}{w w':aa}
def zhM(n:Nat)(w:aa)(O:n<=1048576)(H:0<n):aw 114 (bg n) w fun e w'=>∃g c,e=.returned (.slice (aY g) n c)/\w'.ownsRow w 3 1 (.slice (aY g) n c) n ((List.replicate n (0:Int)).map (Value.int .i64))/\ai w w':=by
 refine(rP n w RU).mono fun e w' F=>?_
 obtain⟨u,z,D,E⟩:=F;have h:=D;unfold ar at h;rw[kj]at h;rcases h.2 with⟨rfl,I⟩|⟨g,c,cur,rfl,J⟩
 .omega
 .exact⟨g,c,z,h,E⟩
def wN(n k:Nat):List Int:=(List.replicate n 0).set k 1
def AT(n k:Nat):(wN n k).length=n:=by simp[wN]
def zeX(n k:Nat)(w:aa)(I:n<=1048576)(H:k<n):aw 146 (bP n k) w fun e w'=>∃u,e=.returned u/\ar w' w u (wN n k)/\ai w w':=by
 go_enter func146,ntmps146
 go_wp2_with (go_at_call 114;refine(zhM n _ I RU).mono ?_;rintro e J ⟨g,c,rfl,z,D⟩;have O:ah J g k (zI 0):=(by rw[z.cellAt k RU,cp,ie,ay H];rfl);have Q:=z.frozenAt k;have F:=zH (z.stored k (zI 1)).1;have E:=zH (D.setCell (p:=⟨g,k,none⟩) ((bZ z g rfl).1) (zI 1));clear z D)
 go_ret
 refine⟨_,rfl,?_,E.o⟩;have:=F.o;rw[<-h_]at this;unfold ar;rw[AT];exact this
def iota(n:Nat):List Int:=(List.range n).map fun i:Nat=>(i:Int)
def fG(n:Nat):(iota n).length=n:=by simp[iota]
def qG(h:k<n):(iota n)[k]?=some (k:Int):=by simp[iota,h]
def zeY(n:Nat)(w:aa)(ab:n<=1048576):aw 84 (bg n) w fun e w'=>∃u,e=.returned u/\ar w' w u (iota n)/\ai w w':=by
 go_enter func84,ntmps84
 go_wp2_with (go_at_call 114;refine(rP n _ RU).mono ?_;rintro e ac ⟨u,rfl,E,J⟩;obtain⟨A,c,rfl,_⟩:=E.view;rw[kj]at E ⊢;have I:=zH E;have D:=zH J;clear E J)
 have z:=I.o;unfold ar at z;rw[kj,<-fG n,<-jT (iota n) (0:Int),fG]at z;have H:=zH z;clear z I;go_loopw [4,9] (fun _ i wr=>∃k:Nat,k<=n/\i=.int .i64 k/\wr.ownsRow w 3 1 (.slice A n c) n ((fh (iota n) 0 k).map (Value.int .i64))/\ai w wr)
  (fun _ i _=>n-(intOf i).toNat)
 case atStart=>exact⟨0,bf _,rfl,H.o,D.o⟩
 case round=>
  obtain⟨k,Z,rfl,Eo,O⟩:=hrel;clear H D;by_cases Ez:k<n
  .obtain⟨g,rfl⟩:∃g,A=some ⟨g,0,none⟩:=by
    rcases Eo.2 with⟨_,z⟩|⟨g,R,cur,e,_⟩
    .omega
    .cases e;exact⟨g,rfl⟩
   have U:ah wr g k (zI 0):=XP;have Y:=Eo.frozenAt k;have F:=(Eo.stored k (zI k)).1;rw[<-h_,kO _ _ _ _ (qG Ez)]at F;obtain⟨Q,D⟩:=bS F (O.setCell (p:=⟨g,k,none⟩) ((bZ Eo g rfl).1) (zI k));clear F Eo;go_wp2;go_roundw
   case rel=>exact⟨k+1,RU,RW,Q.o,D.o⟩
   case measure=>simp[intOf];omega
  .go_wp2;go_ret
   rw[kN _ _ _ SI]at Eo;exact⟨_,rfl,by unfold ar;rw[fG];exact Eo,O⟩
def ml(v z:aG):List Int:=z.map fun i=>v.getD i.toNat 0
def yE{v:aG}{i x:Int}(hi:RM[k]?=some i)(z:v[i.toNat]?=some x):(ml v RM).take (k+1)=(ml v RM).take k++[x]:=by rw[gK];simp[ml,hi,z]
def AU(v z:aG)(k:Nat)(D:k<=z.length):((ml v z).take k).length=k:=by simp[ml];omega
def zaV(v:aG)(A:an)(cap:Nat)(GU:aG)(A2:an)(O:Nat)(w:aa)(H:aT w A v)(F:aT w A2 GU)(Z:v.length<=1048576)(Y:GU.length<=1048576)(J:∀i∈GU,0<=i/\i<v.length):aw 113 (rV A v cap A2 GU O) w fun e w'=>∃u,e=.returned u/\ar w' w u (ml v GU)/\ai w w':=by
 obtain⟨U,hi,Q,R,Es⟩:=cU fI;obtain⟨HV,HA,HL⟩:=d_ H F J;clear H F J;go_enter func113,ntmps113
 go_wp2_with ((at_make;refine wpList_make_own _ rfl _ _ 27 rfl w.heap.size 3 U (zI 0) 1 dS hi Q R .i64 .i64 _ GU.length rfl rfl rfl SW TS (ag _) ?_;intro w1 z I))
 obtain⟨E,D⟩:=bS (show ar w1 w (.slice (aY w) 0 GU) [] from z) (cd I);clear z I;go_loopw [5,7,13] (fun u _ i wr=>∃k:Nat,k<=GU.length/\i=.int .i64 k/\ar wr w u ((ml v GU).take k)/\ai w wr)
  (fun _ _ i _=>GU.length-(intOf i).toNat)
 case atStart=>exact⟨0,bf _,rfl,by simpa using E.o,D.o⟩
 case round=>
  obtain⟨k,hk,rfl,z,EO⟩:=hrel;have GS:=zH z;clear z E D;exact ZV
def xh(n:Nat):List (List Int):=(List.range n).map (wN n)
def Cd(n:Nat):(xh n).length=n:=by simp[xh]
def Ce(h:k<n):(xh n)[k]?=some (wN n k):=by simp[xh,h]
def vW(n:Nat)(w:aa)(Q:n<=1048576):aw 132 (bg n) w fun e w'=>∃u,e=.returned u/\aJ w' w u (xh n)/\ai w w':=by
 go_enter func132,ntmps132
 go_wp2;obtain⟨D,z⟩:=bS (show aJ (w.alloc (.cells #[] 27)) w (.slice (aY w) 0 0) [] from aJ.empty (qe w #[] 0 (ag _) RX rfl)) ((aj w w).alloc (ag _) (.cells #[] 27));go_loopw [3,4,7] (fun u _ i wr=>∃k:Nat,k<=n/\i=.int .i64 k/\aJ wr w u ((xh n).take k)/\ai w wr)
  (fun _ _ i _=>n-(intOf i).toNat)
 case atStart=>exact⟨0,bf _,rfl,D.o,z⟩
 case round=>
  obtain⟨k,U,rfl,H,EO⟩:=hrel;have E:=zH H;clear H D z;by_cases F:k<n
  .have HT:=zH (by rw[gK,Ce F];rfl:(xh n).take (k+1)=(xh n).take k++[wN n k]);have R:=EO.size;have J:=zH (by simp[xh];omega:((xh n).take k).length+1<=1073741824);go_wp2_with (first|(go_at_call 146;refine(zeX n k _ Q F).mono ?_;rintro e w' ⟨u2,rfl,I,O⟩;obtain⟨A2,c2,rfl,_⟩:=I.view)|(at_builtin;refine mL rfl _ _ rfl w wr _ _ _ _ _ E.o O I J.o R rfl rfl ?_;intro Y Z Ff Fg))
   exact YQ
  .go_wp2;go_ret
   have h:=E.o;rw[gq (by rw[Cd];omega)]at h;exact⟨_,rfl,h,EO⟩
def jq(rows:aE)(z:aG):List (List Int):=rows.map fun r=>ml r z
def wO(rows:aE)(z:aG):(jq rows z).length=rows:=by simp[jq]
def zX(rows:aE)(A:an)(cap:Nat)(z:aG)(A2:an)(a4:Nat)(w:aa)(J:aX w A rows)(I:aT w A2 z)(be:rows.length<=1048576)(Y:∀r∈rows,r.length<=1048576)(a6:z.length<=1048576)(R:∀r∈rows,∀i∈z,0<=i/\i<r.length):aw 83 (rV A rows cap A2 z a4) w fun e w'=>∃u,e=.returned u/\aJ w' w u (jq rows z)/\ai w w':=by
 obtain⟨a1,ac,ap,ao⟩:=fU J I Y R;clear J I Y R;go_enter func83,ntmps83
 go_wp2;obtain⟨F,E⟩:=bS (show aJ (w.alloc (.cells #[] 27)) w (.slice (aY w) 0 0) [] from aJ.empty (qe w #[] 0 (ag _) RX rfl)) ((aj w w).alloc (ag _) (.cells #[] 27));go_loopw [5,7,11] (fun u _ i wr=>∃k:Nat,k<=rows.length/\i=.int .i64 k/\aJ wr w u ((jq rows z).take k)/\ai w wr)
  (fun _ _ i _=>rows.length-(intOf i).toNat)
 case atStart=>exact⟨0,bf _,rfl,F,E.o⟩
 case round=>
  obtain⟨k,bd,rfl,Z,EO⟩:=hrel;have H:=zH Z;clear Z F E;by_cases U:k<rows.length
  .obtain⟨r,D⟩:=aB U;obtain⟨a9,o,rfl,O⟩:=(a1.ext EO).here U;obtain⟨a8,ba,bb,Q⟩:=O k r D;obtain⟨am,a3,a2,HT,ad⟩:=lv Q (ap r (a_ D)) (ao r (a_ D)) (by rw[gK];simp[jq,D]:(jq rows z).take (k+1)=(jq rows z).take k++[ml r z]) (ac.ext EO);have a7:=EO.size;have a0:=zH (by simp[jq];omega:((jq rows z).take k).length+1<=1073741824);clear D O Q;go_wp2_with (first|(go_at_call 113;refine(zaV r _ _ z _ _ _ am ad a3 a6 a2).mono ?_;rintro e w' ⟨u2,rfl,ab,a5⟩;obtain⟨A2,c2,rfl,_⟩:=ab.view)|(at_builtin;refine mL rfl _ _ rfl w wr _ _ _ _ _ H.o a5 ab a0.o a7 rfl rfl ?_;intro bi bm Ff Fg))
   exact YQ
  .go_wp2;go_ret
   have h:=H.o;rw[gq (by rw[wO];omega)]at h;exact⟨_,rfl,h,EO⟩
def zeZ:List Int->Nat
 |[]=>0
 |x::xs=>if x=0 then zeZ xs+1 else 0
structure Nd where
 k:Int
 v:Int
 e:Bool
inductive Tm
 |lf (n:Nd)
 |op (k:Int) (a b:Tm)
variable{S:List Tm}
def Tm.flat:Tm->List Nd
 |.lf n=>[n]
 |.op k a b=>a.flat++b.flat++[⟨k,0,true⟩]
def dZ(n:Nd):Bool:=
 n.e&&(if n.k=1 then decide (0<=n.v)&&decide (n.v<=12) else if n.k=7∨n.k=13 then decide (0<=n.v)&&decide (n.v<=96) else decide (2<=n.k)&&(decide (n.k<=14)&&decide (n.v=0)))
def pz(n:Nd):Nat:=if n.k=1 then n.v.toNat else if n.k=2 then 2 else if n.k=5∨n.k=9 then 2 else if n.k=6∨n.k=10 then 0 else 1
def sN(n:Nd):Nat:=if n.k=1 then n.v.toNat else if n.k=2 then 2 else if n.k=3∨n.k=11 then 2 else if n.k=4∨n.k=12 then 0 else 1
def jl(k:Int)(a b:gW):Option (Nat×Nat):=
 if k=15 then(if a.2=b.1 then some (a.1,b.2) else none)
 else if k=16 then(if a.1+b.1<=12/\a.2+b.2<=12 then some (a.1+b.1,a.2+b.2) else none)
 else none
def Tm.ty:Tm->Option (Nat×Nat)
 |.lf n=>if dZ n=true then some (pz n,sN n) else none
 |.op k a b=>match a.ty,b.ty with
  |some x,some y=>jl k x y
  |_,_=>none
def uf{n:Nd}(h:dZ n=true):pz n<=12/\sN n<=12:=by
 unfold dZ at h;unfold pz sN;rw[bC]at h;obtain⟨_,h⟩:=h;by_cases z:n.k=1
 .rw[ay z]at h;simp only[bC,cK]at h;rw[ay z,ay z];omega
 .rw[al z,al z];refine⟨?_,?_⟩ <;> (repeat' split) <;>omega
def zfa{k:Int}{a b c:gW}(D:a.1<=12/\a.2<=12)(E:b.1<=12/\b.2<=12)(h:jl k a b=some c):c.1<=12/\c.2<=12:=by
 unfold jl at h;split at h
 .split at h
  .simp only[dX]at h;subst h;exact⟨D.1,E.2⟩
  .cases h
 .split at h
  .split at h
   .rename_i z;simp only[dX]at h;subst h;exact z
   .cases h
  .cases h
def Tm.zcd:∀{t:Tm} {c:gW},t.ty=some c->c.1<=12/\c.2<=12
 |.lf n,c,h=>by
  unfold Tm.ty at h;split at h
  .rename_i E;simp only[dX]at h;subst h;exact uf E
  .cases h
 |.op k a b,c,h=>by
  unfold Tm.ty at h;cases z:a.ty with
  |none=>rw[z]at h;cases h
  |some x=>
   cases D:b.ty with
   |none=>rw[z,D]at h;cases h
   |some y=>
    rw[z,D]at h;exact zfa (Tm.zcd z) (Tm.zcd D) h
def pA{k:Int}{a b c:gW}(h:jl k a b=some c):k=15∨k=16:=by
 unfold jl at h;split at h
 .left;assumption
 .split at h
  .right;assumption
  .cases h
def Tm.Be{k:Int}{a b:Tm}{c:gW}(h:(Tm.op k a b).ty=some c):∃x y,a.ty=some x/\b.ty=some y/\jl k x y=some c:=by
 unfold Tm.ty at h;cases z:a.ty with
 |none=>rw[z]at h;cases h
 |some x=>
  cases D:b.ty with
  |none=>rw[z,D]at h;cases h
  |some y=>rw[z,D]at h;exact⟨x,y,rfl,rfl,h⟩
def opB(n:Nd):Bool:=decide (n.k=15)||decide (n.k=16)
def stepT(S:List Tm)(n:Nd):Option (List Tm):=
 if opB n=true then
  (if n.v=0/\n.e=true then
   match S with
   |b::a::z=>if((Tm.op n.k a b).ty).isSome=true then some (Tm.op n.k a b::z) else none
   |_=>none
  else none)
 else if dZ n=true then some (Tm.lf n::S) else none
def iZ:List Nd->List Tm->Option (List Tm)
 |[],S=>some S
 |n::L,S=>match stepT S n with
  |some z=>iZ L z
  |none=>none
def sO:List Tm->List Nd
 |[]=>[]
 |t::S=>sO S++t.flat
def za_{z:List Tm}{n:Nd}(h:stepT S n=some z):sO z=sO S++[n]:=by
 unfold stepT at h;split at h
 .split at h
  .rename_i D;split at h
   .rename_i b a E;split at h
    .simp only[dX]at h;subst h;obtain⟨k,v,e⟩:=n;simp only at D;obtain⟨rfl,rfl⟩:=D;simp[sO,Tm.flat]
    .cases h
   .cases h
  .cases h
 .split at h
  .simp only[dX]at h;subst h;rfl
  .cases h
def tl:∀{L:List Nd} {S z:List Tm},iZ L S=some z->sO z=sO S++L
 |[],S,z,h=>by unfold iZ at h;simp only[dX]at h;subst h;simp
 |n::L,S,z,h=>by
  unfold iZ at h;cases D:stepT S n with
  |none=>rw[D]at h;cases h
  |some E=>
   rw[D]at h;rw[tl h,za_ D];simp
def pB(n:Nd)(L:List Nd)(S:List Tm):iZ (n::L) S=match stepT S n with|some z=>iZ L z|none=>none:=rfl
def rF:∀(L z:List Nd) (S:List Tm),iZ (L++z) S=match iZ L S with|some D=>iZ z D|none=>none
 |[],z,S=>rfl
 |n::L,z,S=>by
  rw[xS,pB,pB];cases stepT S n with
  |none=>rfl
  |some E=>exact rF L z E
def o0:∀{t:Tm} {c:gW} (S:List Tm),t.ty=some c->iZ t.flat S=some (t::S)
 |.lf n,c,S,h=>by
  unfold Tm.ty at h;split at h
  .rename_i z;have D:opB n=false:=by
    unfold dZ at z;unfold opB;rw[bC]at z;obtain⟨_,z⟩:=z;simp only[CN,CO];by_cases E:n.k=1
    .omega
    .rw[al E]at z;by_cases F:n.k=7∨n.k=13
     .omega
     .rw[al F]at z;simp only[bC,cK]at z;omega
   show iZ [n] S=_
   unfold iZ stepT;rw[D,al RX,ay z];rfl
  .cases h
 |.op k a b,c,S,h=>by
  obtain⟨x,y,H,I,J⟩:=Tm.Be h;have O:=pA J;unfold Tm.flat;rw[rF,rF,o0 S H];dsimp only;rw[o0 (a::S) I];dsimp only;have D:opB ⟨k,0,true⟩=true:=by unfold opB;rcases O with rfl|rfl <;>rfl
  unfold iZ stepT;rw[ay D,ay ⟨rfl,rfl⟩];dsimp only;rw[h];rfl
def zce:∀{L:List Nd} {S E:List Tm},(∀t∈S,∃c,t.ty=some c)->iZ L S=some E->∀t∈E,∃c,t.ty=some c
 |[],S,E,F,h=>by unfold iZ at h;simp only[dX]at h;subst h;exact F
 |n::L,S,E,F,h=>by
  unfold iZ at h;cases z:stepT S n with
  |none=>rw[z]at h;cases h
  |some J=>
   rw[z]at h;refine zce (fun t D=>?_) h;unfold stepT at z;split at z
   .split at z
    .split at z
     .rename_i b a I;split at z
      .rename_i H;simp only[dX]at z;subst z;rcases jh.1 D with rfl|D
       .exact Option.isSome_iff_exists.1 H
       .exact F t (lV _ (lV _ D))
      .cases z
     .cases z
    .cases z
   .split at z
    .rename_i H;simp only[dX]at z;subst z;rcases jh.1 D with rfl|D
     .exact⟨_,by unfold Tm.ty;rw[ay H]⟩
     .exact F t D
    .cases z
def zhX(L:List Nd)(t:Tm):Prop:=L=t.flat/\∃c,t.ty=some c
def qL{L:List Nd}{t:Tm}:zhX L t↔iZ L []=some [t]:=by
 constructor
 .rintro⟨rfl,c,h⟩;exact o0 [] h
 .intro h;have:=tl h;refine⟨by simpa[sO]using this.symm,zce (fun t z=>by cases z) h t (gp.2 rfl)⟩
def gD(n:Nd):Gr:=
 if n.k=1 then⟨n.v.toNat,[],List.range n.v.toNat,List.range n.v.toNat⟩
 else if n.k=2 then⟨2,[],[0,1],[1,0]⟩
 else⟨pz n+sN n,[⟨n.k,n.v,List.range (pz n),(List.range (sN n)).map (· +pz n)⟩],List.range (pz n),(List.range (sN n)).map (· +pz n)⟩
def Tm.gr:Tm->Gr
 |.lf n=>gD n
 |.op k a b=>if k=15 then Al a.gr b.gr else o_ a.gr b.gr
def Ed.mE(e:Ed):Bool:=dZ ⟨e.k,e.v,true⟩&&(decide (3<=e.k)&&(decide (e.i.length=pz ⟨e.k,e.v,true⟩)&&decide (e.o.length=sN ⟨e.k,e.v,true⟩)))
def Gr.okB(g:Gr):Bool:=
 decide (g.w<=100)&&(decide (g.es.length<=60)&&(decide (g.i.length<=12)&&(decide (g.o.length<=12)&&(g.es.all Ed.mE&&(decide (∀x,x<g.w->g.DT x=true)&&(g.i.all (fun x=>decide (x<g.w))&&(g.o.all (fun x=>decide (x<g.w))&&g.es.all fun e=>e.i.all (fun x=>decide (x<g.w))&&e.o.all (fun x=>decide (x<g.w)))))))))
def Gr.lE(h:g.okB=true):g.In:=by
 unfold Gr.okB at h;simp only[bC,fp,cK]at h;obtain⟨_,_,_,_,_,_,F,H,D⟩:=h;rintro x (z|z|⟨e,E,z|z⟩)
 .exact F x z
 .exact H x z
 .exact(D e E).1 x z
 .exact(D e E).2 x z
def Tm.v_:Tm->Bool
 |.lf n=>(gD n).okB
 |.op k a b=>a.v_&&(b.v_&&((Tm.op k a b).gr).okB)
def Ad(g:Gr)(c:bX)(r:Nat):Bool:=decide (c.getD r 0=r)&&(List.range g.w).any fun x=>g.DT x&&decide (c.getD x 0=r)
def uc(g:Gr)(c:bX):lA g c=(List.range g.w).filter (Ad g c):=rfl
def yI{z:Nat->Bool}{r:Nat}:∀{w:Nat},r<w->z r=true->((List.range w).filter z).idxOf r=((List.range r).filter z).length
 |0,h,_=>RU
 |w+1,h,E=>by
  rw[oE,List.filter_append];by_cases e:r=w
  .subst e;have F:r∉(List.range r).filter z:=fun D=>by have:=et.1 (vz.1 D).1;omega
   rw[List.idxOf_append,al F];have:([r].filter z)=[r]:=by simp[E]
   rw[this,List.idxOf_cons];simp
  .have D:r∈(List.range w).filter z:=vz.2 ⟨et.2 RU,E⟩;rw[List.idxOf_append,ay D];exact yI RU E
def DK{z:Nat->Bool}(w:Nat):((List.range (w+1)).filter z).length=((List.range w).filter z)+if z w=true then 1 else 0:=by
 rw[oE,List.filter_append,bQ];congr 1
 by_cases h:z w=true
 .rw[ay h];simp[h]
 .rw[al h];simp[h]
def zhW{c:bX}(h:nZ g.w c)(z:g.In)(D:g.On x):Ad g c (c.getD x 0)=true:=by have:=DU h z D;rw[uc]at this;exact(vz.1 this).2
def Cj(g:Gr)(c:bX)(x:Nat):Nat:=((List.range (c.getD x 0)).filter (Ad g c)).length
def zgI{c:bX}(h:nZ g.w c)(z:g.In)(D:g.On x):(lA g c).idxOf (c.getD x 0)=Cj g c x:=by have E:=z x D;have F:=h.le x E;exact yI RU (zhW h z D)
def Ed.map_congr{f:gF}{e:Ed}(h:∀x,x∈e.i∨x∈e.o->f x=RF x):e.map f=e.map RF:=by unfold Ed.map;rw[jD (fun x z=>h x (aF z)),jD (l:=e.o) (fun x z=>h x (aA z))]
def Gr.map_congr{w:Nat}{f:gF}(h:∀x,g.On x->f x=RF x):g.map w f=g.map w RF:=by unfold Gr.map;rw[jD (l:=g.es) (fun e D=>Ed.map_congr fun x z=>h x (aA (aA ⟨e,D,z⟩))),jD (l:=g.i) (fun x z=>h x (aF z)),jD (l:=g.o) (fun x z=>h x (aA (aF z)))]
def ze3(z:g.In)(E:∀q∈ps,q.1<g.w/\q.2<g.w):iK g ps=g.map ((List.range g.w).filter (Ad g (jb g.w ps))) (Cj g (jb g.w ps)):=by
 have D:nZ g.w (jb g.w ps):=Cs ps _ (yY g.w) E;unfold iK;rw[uc];refine Gr.map_congr fun x F=>?_
 rw[<-uc];exact zgI D z F
def ze4(n:Nat)(ps:qx)(q:gW):jb n (ps++[q])=wX (jb n ps) q.1 q.2:=by unfold jb;rw[List.foldl_append];rfl
def wS(w:aa)(b o:Nat)(x:cS)(z:an)(cap:Nat):Prop:=
 ah w b o (zI x.k)/\ah w b (o+1) (zI x.a)/\ah w b (o+2) (zI x.b)/\ah w b (o+3) (zI x.c)/\ah w b (o+4) (.slice z x.row cap)
def eD(w:aa)(A:an)(xs:List cS):Prop:=
 xs=[]∨∃b o,A=some ⟨b,o,none⟩/\∀(k:Nat) (x:cS),xs[k]?=some x->∃z cap,wS w b (o+k*5) x z cap/\aT w z x.row
def wS.ext{o:Nat}{x:cS}{cap:Nat}(h:wS w b o x RJ cap)(z:ai w w'):wS w' b o x RJ cap:=⟨av z h.1,av z h.2.1,av z h.2.2.1,av z h.2.2.2.1,av z h.2.2.2.2⟩
def eD.ext{xs:List cS}(h:eD w A xs)(z:ai w w'):eD w' A xs:=by
 rcases h with h|⟨b,o,H,I⟩
 .exact aF h
 .refine aA ⟨b,o,H,fun k x J=>?_⟩;obtain⟨D,cap,E,F⟩:=I k x J;exact⟨D,cap,E.ext z,F.ext z⟩
def eD.here{xs:List cS}(h:eD w A xs)(D:k<xs.length):∃b o,A=some ⟨b,o,none⟩/\∀(k:Nat) (x:cS),xs[k]?=some x->∃z cap,wS w b (o+k*5) x z cap/\aT w z x.row:=by
 rcases h with h|h
 .simp[h]at D
 .exact h
def xt:(prog.info? 29).map (fun i=>(i.zero,i.size,i.bytes))=some (some (.agg df),5,56):=Si
def iI{w:aa}{B s:Nat}{v:au}{xs H:bG}(F:T≠RQ)(h:w.ownsRow B T s v n xs)(h':w.ownsRow B' RQ D v' RP H):v.ownBlock=none∨v.ownBlock≠v'.ownBlock:=by
 rcases h.2 with⟨rfl,_⟩|⟨g,cap,cur,rfl,_,E,_⟩
 .exact aF rfl
 .right;rcases h'.2 with⟨rfl,_⟩|⟨O,I,J,rfl,_,z,_⟩
  .simp[Value.ownBlock]
  .intro e;simp only[Value.ownBlock,dX]at e;subst e;rw[E]at z;simp at z;exact F z.2
def dq(x:cS)(u:au):List Value:=[.int .i64 x.k,.int .i64 x.a,.int .i64 x.b,.int .i64 x.c,u]
def fS:List cS->List Value->List Value
 |x::xs,u::us=>dq x u++fS xs us
 |_,_=>[]
def vR:∀{xs:List cS} {us:bG},us.length=xs->(fS xs us).length=xs*5
 |[],us,_=>by simp[fS]
 |x::xs,[],h=>Sf
 |x::xs,u::us,h=>by have:=vR (xs:=xs) (us:=us) So;simp[fS,dq,this];omega
def nn{j:Nat}(D:j<5):∀{xs:List cS} {us:bG} {k:Nat} {x:cS} {u:au},xs[k]?=some x->us[k]?=some u->(fS xs us)[k*5+j]?=(dq x u)[j]?
 |[],us,k,x,u,h,_=>Sf
 |x::xs,[],k,_,_,_,h=>Sf
 |x::xs,u::us,0,y,t,h,z=>by simp at h z;subst h z;rw[fS,dx (by simp[dq];omega)];simp
 |x::xs,u::us,k+1,y,t,h,z=>by simp only[cZ]at h z;have:=nn D h z;rw[fS,gv (by simp[dq];omega)];rw[<-this];congr 1;simp[dq];omega
def yz:∀{xs:List cS} {us:bG} (x:cS) (u:au),us.length=xs->fS (xs++[x]) (us++[u])=fS xs us++dq x u
 |[],us,x,u,h=>Xu
 |x::xs,[],_,_,h=>Sf
 |x::xs,u::us,y,t,h=>by have:=yz (xs:=xs) (us:=us) y t So;simp[fS,this]
def vS:∀{xs:List cS} {us:bG} {k:Nat} (x:cS) (u:au),us.length=xs->k<xs.length->(((((fS xs us).set (k*5) (zI x.k)).set (k*5+1) (zI x.a)).set (k*5+2) (zI x.b)).set (k*5+3) (zI x.c)).set (k*5+4) u=fS (xs.set k x) (us.set k u)
 |[],us,k,x,u,_,z=>by simp at z
 |x::xs,[],_,_,_,h,_=>Sf
 |y::xs,t::us,0,x,u,h,z=>by simp[fS,dq]
 |y::xs,t::us,k+1,x,u,h,z=>by
  have:=vS (xs:=xs) (us:=us) (k:=k) x u So (by simpa using z);simp only[fS,dq,xS,r_,List.set_cons_succ];rw[<-this];have e:∀j,(k+1)*5+j=(k*5+j)+5:=fun j=>RU
  have D:(k+1)*5=k*5+5:=RU;simp only[e,D,List.set_cons_succ]
structure bq(w:aa)(B:Nat)(v:au)(xs:List cS)(us:bG):Prop where
 len:us.length=xs
 outer:w.ownsRow B 29 5 v xs.length (fS xs us)
 each:∀(k:Nat) (u:au) (x:cS),us[k]?=some u->xs[k]?=some x->ar w B u x.row
 apart:∀(i j:Nat) (u u':au) (b:Nat),us[i]?=some u->us[j]?=some u'->u.ownBlock=some b->u'.ownBlock=some b->i=j
def cB(w:aa)(B:Nat)(v:au)(xs:List cS):Prop:=∃us,bq w B v xs us
section
variable{w w':aa}{B:Nat}{v:au}{xs:List cS}{us:bG}
def bq.get(h:bq w B v xs us){x:cS}(hx:xs[k]?=some x):∃u,us[k]?=some u/\ar w B u x.row:=Yz
def bq.kU(h:bq w B v xs us)(z:us[k]?=some u):∃x,xs[k]?=some x/\ar w B u x.row:=by
 have:k<xs.length:=by rw[<-h.len];exact(bA.1 z).1
 obtain⟨x,D⟩:=aB this;exact⟨x,D,h.each k u x z D⟩
def cB.view(h:cB w B v xs):∃A cap,v=.slice A xs cap/\eD w A xs/\xs.length<=cap/\cap<=maxLen:=by
 obtain⟨us,h⟩:=h;have I:=fun g=>pX h.outer (g:=g)
 rcases h.outer.2 with⟨rfl,hn⟩|⟨g,cap,cur,rfl,U,Y,hn,J,Z⟩
 .exact Xr
 .refine⟨_,cap,rfl,aA ⟨g,0,rfl,fun k x F=>?_⟩,hn,J⟩;obtain⟨u,Q,O⟩:=h.get F;obtain⟨D,E,rfl,hi,_⟩:=O.view;have z:∀(j:Nat) (y:au),j<5->(dq x (.slice D x.row E))[j]?=some y->ah w g (0+k*5+j) y:=fun j y H R=>by have:=I g rfl (k*5+j) y (by rw[nn H F Q];exact R);rwa[dM,<-pW]at this
  exact⟨D,E,⟨z 0 _ RX rfl,z 1 _ RX rfl,z 2 _ RX rfl,z 3 _ RX rfl,z 4 _ RX rfl⟩,hi⟩
def bq.ext(h:bq w B v xs us)(z:ai w w'):bq w' B v xs us:=⟨h.len,hJ h.outer (row:=none) ⟨z.os,z.tape,z.output,z.size,fun k D _=>z.block k D⟩ Uu,fun k u r F E=>(h.each k u r F E).ext z,h.apart⟩
def cB.ext(h:cB w B v xs)(hb:ai w w'):cB w' B v xs:=Xc
def bq.same(h:bq w B v xs us)(hs:∀k,B<=k->w'.heap[k]?=w.heap[k]?):bq w' B v xs us:=⟨h.len,⟨h.outer.1,h.outer.2.imp id fun⟨g,cap,cur,z,a2,a3,D⟩=>⟨g,cap,cur,z,a2,T_,D⟩⟩,fun k u r F E=>(h.each k u r F E).same hs,h.apart⟩
def cB.same(h:cB w B v xs)(z:∀k,B<=k->w'.heap[k]?=w.heap[k]?):cB w' B v xs:=by obtain⟨us,h⟩:=h;exact⟨us,h.same z⟩
def bq.mono{B':Nat}(h:bq w B v xs us)(E:B'<=B):bq w B' v xs us:=⟨h.len,⟨h.outer.1,h.outer.2.imp id fun⟨g,cap,cur,z,I,D⟩=>⟨g,cap,cur,z,RU,D⟩⟩,fun k u r H F=>(h.each k u r H F).mono E,h.apart⟩
def cB.mono(h:cB w B v xs)(z:B'<=B):cB w B' v xs:=by obtain⟨us,h⟩:=h;exact⟨us,h.mono z⟩
def cB.setCell(h:cB w B v xs){a:dD}(z:a.block<B)(u:au):cB (w.setCell a u) B v xs:=h.same fun k D=>bw _ _ _ _ RU
def cB.nil(w:aa)(B:Nat):cB w B (.slice none 0 0) []:=⟨[],rfl,m_ _ _ _ _,fun k u r hu=>Sg,fun i j u z b hu=>Sg⟩
def cB.lit(W:aa)(B:Nat)(z:B<=(W:Nat)):cB (W.alloc (.cells #[] 29)) B (.slice (aY W) 0 0) []:=⟨[],rfl,qe W #[] 0 z RX rfl,fun k u r hu=>Sg,fun i j u D b hu=>Sg⟩
def bq.lt(h:bq w B v xs us):∀k,v.ownBlock=some k->B<=k/\k < (w:Nat):=bZ h.outer
def bq.snoc{x:cS}(h:bq w B v xs us)(U:ar w B u x.row)(Q:∀b,u.ownBlock=some b->∀F∈us,F.ownBlock≠some b)(ac:w'.ownsRow B 29 5 v' (xs.length+1) (fS xs us++dq x u))(R:w.grownBy w' v.ownBlock):bq w' B v' (xs++[x]) (us++[u]):=by
 refine⟨Sn,by rw[yz _ _ h.len];simpa using ac,?_,?_⟩
 .intro k F Y Eu E;by_cases hk:k<us.length
  .rw[dx hk]at Eu;rw[dx T8]at E;exact ar.kept (h.each k F Y Eu E) R (iI RX (h.each k F Y Eu E) h.outer)
  .have ab:k=us.length:=Xb;subst ab;simp at Eu;rw[h.len]at E;simp at E;subst Eu E;exact ar.kept U R (iI RX U h.outer)
 .intro i j u1 u2 b z D H I;have hi:=(bA.1 z).1;have Z:=(bA.1 D).1;simp only[bQ,lU,ix]at hi Z;by_cases J:i<us.length <;>by_cases O:j<us.length
  .rw[dx J]at z;rw[dx O]at D;exact h.apart i j u1 u2 b z D H I
  .rw[dx J]at z;obtain rfl:j=us.length:=RU;simp at D;subst D;exact absurd H (Q b I u1 (a_ z))
  .rw[dx O]at D;obtain rfl:i=us.length:=RU;simp at z;subst z;exact absurd I (Q b H u2 (a_ D))
  .omega
def bq.put{g cap:Nat}{x:cS}(ab:n=xs.length)(h:bq w B (.slice (aY g) n cap) xs us)(hk:k<n)(J:ar w B u x.row)(H:∀b,u.ownBlock=some b->∀E∈us,E.ownBlock≠some b):bq (((((w.setCell ⟨g,k*5,none⟩ (zI x.k)).setCell ⟨g,k*5+1,none⟩ (zI x.a)).setCell ⟨g,k*5+2,none⟩ (zI x.b)).setCell ⟨g,k*5+3,none⟩ (zI x.c)).setCell ⟨g,k*5+4,none⟩ u) B (.slice (aY g) n cap) (xs.set k x) (us.set k u)/\w.grownBy (((((w.setCell ⟨g,k*5,none⟩ (zI x.k)).setCell ⟨g,k*5+1,none⟩ (zI x.a)).setCell ⟨g,k*5+2,none⟩ (zI x.b)).setCell ⟨g,k*5+3,none⟩ (zI x.c)).setCell ⟨g,k*5+4,none⟩ u) (some g):=by
 subst ab;have O:=h.outer.stored (k*5) (zI x.k);have Q:=O.1.stored (k*5+1) (zI x.a);have R:=Q.1.stored (k*5+2) (zI x.b);have U:=R.1.stored (k*5+3) (zI x.c);have Y:=U.1.stored (k*5+4) u;have F:=bx (bx (bx (bx O.2 Q.2) R.2) U.2) Y.2;refine⟨⟨Sn,?_,?_,?_⟩,F⟩
 .have:=Y.1;rw[vS x u h.len hk]at this;simpa using this
 .intro j E Z z D;by_cases I:k=j
  .subst I;rw[eu TI]at z;rw[eu hk]at D;cases z;cases D
   exact ar.kept J F (iI RX J h.outer)
  .rw[dz I]at z D;exact ar.kept (h.each j E Z z D) F (iI RX (h.each j E Z z D) h.outer)
 .intro i j u1 u2 b h1 h2 h3 h4;by_cases ci:k=i <;>by_cases cj:k=j
  .omega
  .subst ci;rw[eu TI]at h1;rw[dz cj]at h2;cases h1
   exact absurd h4 (H b h3 u2 (a_ h2))
  .subst cj;rw[eu TI]at h2;rw[dz ci]at h1;cases h2
   exact absurd h3 (H b h4 u1 (a_ h1))
  .exact XN
def bq.fresh{r:aG}(h:bq w B v xs us)(hu:ar w' w u r):∀b,u.ownBlock=some b->∀z∈us,z.ownBlock≠some b:=fun b hb z E e=>by obtain⟨k,D⟩:=e_.1 E;obtain⟨x,_,ho⟩:=h.kU D;exact Xl
end
def zc3:cS:=⟨0,0,0,0,[]⟩
def zaT(n:Nat):(madeCells (Value.agg #[.int .i64 0,.int .i64 0,.int .i64 0,.int .i64 0,.slice none 0 0]).cells (n*5)).toList=fS (List.replicate n zc3) (List.replicate n (.slice none 0 0)):=by
 apply fu;intro i;by_cases hi:i<n*5
 .have hk:i / 5<n:=RU;have:=nn (j:=i%5) RU (xs:=List.replicate n zc3) (us:=List.replicate n (.slice none 0 0)) (k:=i / 5) (x:=zc3) (u:=fe) Sb Sb;rw[show i / 5*5+i%5=i by omega]at this;rw[this];have z:i%5=0∨i%5=1∨i%5=2∨i%5=3∨i%5=4:=RU;rcases z with h|h|h|h|h <;>simp[madeCells,Value.cells,hi,h,dq,zc3]
 .rw[fQ (by simp[madeCells];omega),fQ (by rw[vR RS];simp;omega)]
def bq.made{w:aa}{B:Nat}{v:au}(h:w.ownsRow B 29 5 v n (madeCells (Value.agg #[.int .i64 0,.int .i64 0,.int .i64 0,.int .i64 0,.slice none 0 0]).cells (n*5)).toList):bq w B v (List.replicate n zc3) (List.replicate n (.slice none 0 0)):=by
 rw[zaT]at h;refine⟨RS,So,?_,?_⟩
 .exact YT
 .exact YH
end Go.Proofs.YtdpgblncijojiaaGreatDoor
