/- Parts of the walks. Conditions: as stated with each. -/
import Derived.Test.YtpieilkmmiopfaaGreatDoorPk6
import Derived.Test.YtpieilkmmiopfaaGreatDoorPk7
namespace Go.Proofs.YtpieilkmmiopfaaGreatDoor
open Go.RowKit Tryz
set_option linter.all false
set_option maxHeartbeats 1000000
variable{g:Gr}{k n:Nat}
def ziS(n:Nat)w(U:n<=1048576)(J:0<n):az 98 (bK n) w fun e w'=>∃g c,e=.returned (.slice (bH g) n c)/\w'.ownsRow w 3 1 (.slice (bH g) n c) n ((List.replicate n (0:Int)).map (Value.int .i64))/\ag w w':=by
 refine(kO n w Qu).x fun e w' H=>?_
 obtain⟨u,D,F,G⟩:=H;have h:=F;unfold aE at h;rw[fA]at h;rcases h.2 with⟨rfl,O⟩|⟨g,c,I,rfl,T⟩
 .omega
 .exact⟨g,c,D,h,G⟩
def kg(n k:Nat):List Int:=(List.replicate n 0).set k 1
def kh n k:(kg n k).length=n:=by simp[kg]
def DP(n k:Nat)w(I:n<=1048576)(H:k<n):az 125 (bC n k) w fun e w'=>∃u,e=.returned u/\aE w' w u (kg n k)/\ag w w':=by
 go_enter func125,ntmps125
 go_wp2_with (go_at_call 98;refine(ziS n _ I Qu).x ?_;rintro e J ⟨g,c,rfl,h,D⟩;have O:af J g k (zI 0):=(by rw[h.C k Qu,bI,fI,ak H];rfl);have T:=h.g k;have G:=zH (h.j k (zI 1)).1;have F:=zH (D.setCell (p:=⟨g,k,none⟩) ((bS h g rfl).1) (zI 1)))
 go_ret
 refine⟨_,rfl,?_,F⟩;have:=G.o;rw[<-eW]at this;unfold aE;rw[kh];exact this
def υ(n:Nat):List Int:=(List.range n).map fun i:Nat=>(i:Int)
def dX n:(υ n).length=n:=by simp[υ]
def sM(h:k<n):(υ n)[k]?=some (k:Int):=by simp[υ,h]
def qu(n:Nat)w(T:n<=1048576):az 62 (bK n) w fun e w'=>∃u,e=.returned u/\aE w' w u (υ n)/\ag w w':=by
 go_enter func62,ntmps62
 go_wp2_with (go_at_call 98;refine(kO n _ Qu).x ?_;rintro e U ⟨u,rfl,h,G⟩;obtain⟨A,c,rfl,_⟩:=h.p;rw[fA]at h ⊢;have F:=zH h;have HB:=zH G)
 have h1:=F.o;unfold aE at h1;rw[fA,<-dX n,<-iP (υ n) (0:Int),dX]at h1;have D:=zH h1;go_loopw [4,9] (fun _ i wr=>∃k:Nat,k<=n/\i=.int .i64 k/\wr.ownsRow w 3 1 (.slice A n c) n ((eF (υ n) 0 k).map (Value.int .i64))/\ag w wr)
  (fun _ i _=>n-(intOf i).toNat)
 case atStart=>exact⟨0,aW _,rfl,D,HB⟩
 case round=>
  obtain⟨k,O,rfl,FT,H⟩:=hrel;by_cases FX:k<n
  .obtain⟨g,rfl⟩:∃g,A=some ⟨g,0,none⟩:=Xr;have I:af wr g k (zI 0):=Xg;have J:=FT.g k;have GW:=(FT.j k (zI k)).1;rw[<-eW,jq _ _ _ _ (sM FX)]at GW;have⟨HS,HB⟩:=bJ GW (H.setCell (p:=⟨g,k,none⟩) ((bS FT g rfl).1) (zI k));exact Yr
  .go_wp2;go_ret
   rw[jo _ _ _ Ru]at FT;exact⟨_,rfl,by unfold aE;rw[dX];exact FT,H⟩
def nA(v h:aL):List Int:=h.map fun i=>v.getD i.toNat 0
def DQ{v h}{i x}(hi:h[k]?=some i)(D:v[i.toNat]?=some x):(nA v h).take (k+1)=(nA v h).take k++[x]:=by rw[du];simp[nA,hi,D]
def zat v h k(D:k<=h.length):((nA v h).take k).length=k:=by simp[nA];omega
def zeF v A ε Mn F U w(J:aO w A v)(I:aO w F Mn)(ad:v.length<=1048576)(ac:Mn.length<=1048576)(T:∀i∈Mn,0<=i/\i<v.length):az 206 (mv A v ε F Mn U) w fun e w'=>∃u,e=.returned u/\aE w' w u (nA v Mn)/\ag w w':=by
 have⟨ab,hi,Y,Z,FU⟩:=dp gD;have⟨HV,HA,HL⟩:=er J I T;clear J I T;go_enter func206,ntmps206
 go_wp2_with ((at_make;refine wpList_make_own _ rfl _ _ 26 rfl w.heap.size 3 ab (zI 0) 1 dR hi Y Z .i64 .i64 _ Mn.length rfl rfl rfl RF SL (ae _) ?_;intro w1 D O))
 have⟨H,G⟩:=bJ (show aE w1 w (.slice (bH w) 0 Mn) [] from D) (cy O);clear D O;go_loopw [5,7,13] (fun u _ i wr=>∃k:Nat,k<=Mn.length/\i=.int .i64 k/\aE wr w u ((nA v Mn).take k)/\ag w wr)
  (fun _ _ i _=>Mn.length-(intOf i).toNat)
 case atStart=>exact⟨0,aW _,rfl,by simpa using H.o,G⟩
 case round=>
  obtain⟨k,hk,rfl,D,FW⟩:=hrel;have I5:=zH D;clear D H G
  by_cases FX:k<Mn.length
  .obtain⟨i,hi'⟩:=aq FX;obtain⟨hi1,hi2⟩:=HL.o i (aU hi');obtain⟨j,hj⟩:∃j:Nat,(j:Int)=i:=⟨i.toNat,by omega⟩;subst hj;have JT:j<v.length:=by omega
   obtain⟨x,hx⟩:=aq JT;obtain⟨b,o,rfl,hc⟩:=(HV.o.ext FW).θ JT;obtain⟨b2,o2,rfl,I4⟩:=(HA.o.ext FW).θ FX;have Mo:=hc _ _ hx;have Ms:=I4 _ _ hi';obtain⟨HS,Mp⟩:=bJ (DQ hi' (by simpa using hx)) (zat v Mn k hk);have Ge:=FW.size;clear hc I4 hx hi';go_wp2_with ((at_builtin;refine qm rfl _ _ rfl _ wr _ _ _ rfl rfl I5.o (by rw[Mp.o];omega) (by omega) ?_;intro u' w1 Ij _ Ik))
   go_roundw
   case rel=>exact⟨k+1,by omega,by go_num,by rw[HS.o];exact Ij,FW.t Ik⟩
   case measure=>simp[intOf];omega
  .go_wp2;go_ret
   exact⟨_,rfl,by have h:=I5.o;rwa[cZ (by simp[nA];omega)]at h,FW⟩
def zg5 p x y w(h:1<=p)(D:p<=1000)(F:0<=x)(G:x<p)(H:0<=y)(I:y<p):az 203 (gT p x y) w fun e w'=>e=.returned (zI ((x+p-y)%p))/\w=w':=by
 go_enter func203,ntmps203
 exact We
def zK(n:Nat):List (List Int):=(List.range n).map (kg n)
def zbK n:(zK n).length=n:=by simp[zK]
def CQ(h:k<n):(zK n)[k]?=some (kg n k):=by simp[zK,h]
def BD(n:Nat)w(U:n<=1048576):az 212 (bK n) w fun e w'=>∃u,e=.returned u/\aY w' w u (zK n)/\ag w w':=by
 go_enter func212,ntmps212
 go_wp2;have⟨D,h⟩:=bJ (show aY (w.alloc (.cells #[] 26)) w (.slice (bH w) 0 0) [] from aY.empty (Db w #[] 0 (ae _) Qw rfl)) ((al w w).alloc (ae _) (.cells #[] 26));go_loopw [3,4,7] (fun u _ i wr=>∃k:Nat,k<=n/\i=.int .i64 k/\aY wr w u ((zK n).take k)/\ag w wr)
  (fun _ _ i _=>n-(intOf i).toNat)
 case atStart=>exact⟨0,aW _,rfl,D,h⟩
 case round=>
  obtain⟨k,ab,rfl,I,FW⟩:=hrel;have F:=zH I;clear I D h;by_cases H:k<n
  .have HT:=zH (by rw[du,CQ H];rfl:(zK n).take (k+1)=(zK n).take k++[kg n k]);have Y:=FW.size;have O:=zH (by simp[zK];omega:((zK n).take k).length+1<=1073741824);go_wp2_with (first|(go_at_call 125;refine(DP n k _ U H).x ?_;rintro e w' ⟨u2,rfl,J,T⟩;obtain⟨Z,c2,rfl,_⟩:=J.p)|(at_builtin;refine m7 rfl _ _ rfl w wr _ _ _ _ _ F T J O.o Y rfl rfl ?_;intro ac ad Ij Ik))
   exact YA
  .go_wp2;go_ret
   have G:=F.o;rw[cZ (by rw[zbK];omega)]at G;exact⟨_,rfl,G,FW⟩
def ew:List Int->Nat
 |[]=>0
 |x::xs=>if x=0 then ew xs+1 else 0
def BE:∀(xs:aL),ew xs<=xs.length
 |[]=>ae _
 |x::xs=>by
  have:=BE xs;unfold ew;split
  .simp;omega
  .omega
def rn:∀{xs:aL} {k:Nat},k<ew xs->xs[k]?=some 0
 |[],k,h=>by simp[ew]at h
 |x::xs,k,h=>by
  unfold ew at h;split at h
  .rename_i D;cases k with
   |zero=>simp[D]
   |succ k=>simpa using rn (xs:=xs) (k:=k) Qu
  .omega
def wM:∀{xs:aL} {x:Int},xs[ew xs]?=some x->x≠0
 |[],x,h=>QO
 |y::ys,x,h=>by
  unfold ew at h;split at h
  .exact wM (xs:=ys) Q_
  .simp at h;subst h;assumption
def yw v A ε w(O:aO w A v)(ah:v.length<=1048576):az 201 (aV A v ε) w fun e w'=>e=.returned (zI (ew v))/\ag w w':=by
 have Z:=BE v;have⟨L,G⟩:=aR (ew v);rw[<-G]at Z ⊢;have⟨J,U⟩:=bJ G O;clear G O;go_enter func201,ntmps201
 go_wp2;go_loopw [3] (fun i wr=>∃k:Nat,k<=L/\i=.int .i64 k/\ag w wr) (fun i _=>L-(intOf i).toNat)
 case atStart=>exact⟨0,aW _,rfl,al _ _⟩
 case round=>
  obtain⟨k,ad,rfl,D⟩:=hrel;by_cases T:k<v.length
  .have⟨x,h⟩:=aq T;obtain⟨b,o,rfl,H⟩:=(U.ext D).θ T;have ac:=H _ _ h;by_cases Y:k<L
   .have h0:x=0:=by have:=rn (xs:=v) (k:=k) (by rw[<-J.o];exact Y);rw[h]at this;simpa using this
    subst h0;clear H h;go_wp2;go_roundw
    case rel=>exact⟨k+1,Qu,Qx,D⟩
    case measure=>simp[intOf];omega
   .have I:k=L:=Qu;have h0:x≠0:=wM (xs:=v) (by rw[<-J.o,<-I];exact h);have ab:(x==0)=false:=QL;have F:=zH I;clear H h I h0;go_wp2;go_ret
    rw[F.o];exact⟨rfl,D⟩
  .have F:=zH (Qu:k=L);go_wp2;go_ret
   rw[F.o];exact⟨rfl,D⟩
structure Nd where
 k:Int
 v:Int
 e:Bool
inductive Tm
 |lf (n:Nd)
 |op (k:Int) (a b:Tm)
variable{S S':List Tm}
def Tm.d:Tm->List Nd
 |.lf n=>[n]
 |.op k a b=>a.d++b.d++[⟨k,0,true⟩]
def dI(n:Nd):Bool:=
 n.e&&(if n.k=1 then decide (0<=n.v)&&decide (n.v<=12) else if n.k=7∨n.k=13 then decide (0<=n.v)&&decide (n.v<=96) else decide (2<=n.k)&&(decide (n.k<=14)&&decide (n.v=0)))
def pC(n:Nd):Nat:=if n.k=1 then n.v.toNat else if n.k=2 then 2 else if n.k=5∨n.k=9 then 2 else if n.k=6∨n.k=10 then 0 else 1
def sC(n:Nd):Nat:=if n.k=1 then n.v.toNat else if n.k=2 then 2 else if n.k=3∨n.k=11 then 2 else if n.k=4∨n.k=12 then 0 else 1
def gP(k:Int)(a b:g_):Option (Nat×Nat):=
 if k=15 then(if a.2=b.1 then some (a.1,b.2) else none)
 else if k=16 then(if a.1+b.1<=12/\a.2+b.2<=12 then some (a.1+b.1,a.2+b.2) else none)
 else none
def Tm.ty:Tm->Option (Nat×Nat)
 |.lf n=>if dI n=true then some (pC n,sC n) else none
 |.op k a b=>match a.ty,b.ty with
  |some x,some y=>gP k x y
  |_,_=>none
def tK{n}(h:dI n=true):pC n<=12/\sC n<=12:=by
 unfold dI at h;unfold pC sC;rw[bN]at h;obtain⟨_,h⟩:=h;by_cases D:n.k=1
 .rw[ak D]at h;simp only[bN,cf]at h;rw[ak D,ak D];omega
 .rw[aj D,aj D];refine⟨?_,?_⟩<;>(repeat' split)<;>omega
def zjn{k}{a b c}(F:a.1<=12/\a.2<=12)(G:b.1<=12/\b.2<=12)(h:gP k a b=some c):c.1<=12/\c.2<=12:=by
 unfold gP at h;split at h
 .split at h
  .simp only[dW]at h;subst h;exact⟨F.1,G.2⟩
  .cases h
 .split at h
  .split at h
   .rename_i D;simp only[dW]at h;subst h;exact D
   .cases h
  .cases h
def Tm.zaS:∀{t:Tm} {c:g_},t.ty=some c->c.1<=12/\c.2<=12
 |.lf n,c,h=>by
  unfold Tm.ty at h;split at h
  .rename_i G;simp only[dW]at h;subst h;exact tK G
  .cases h
 |.op k a b,c,h=>by
  unfold Tm.ty at h;cases D:a.ty with
  |none=>rw[D]at h;cases h
  |some x=>
   cases F:b.ty with
   |none=>rw[D,F]at h;cases h
   |some y=>
    rw[D,F]at h;exact zjn (Tm.zaS D) (Tm.zaS F) h
def qD{k}{a b c}(h:gP k a b=some c):k=15∨k=16:=by
 unfold gP at h;split at h
 .left;assumption
 .split at h
  .right;assumption
  .cases h
def Tm.qE{k}{a b}{c}(h:(Tm.op k a b).ty=some c):∃x y,a.ty=some x/\b.ty=some y/\gP k x y=some c:=by
 unfold Tm.ty at h;cases D:a.ty with
 |none=>rw[D]at h;cases h
 |some x=>
  cases F:b.ty with
  |none=>rw[D,F]at h;cases h
  |some y=>rw[D,F]at h;exact⟨x,y,rfl,rfl,h⟩
def FC(n:Nd):Bool:=decide (n.k=15)||decide (n.k=16)
def ρ(S:List Tm)(n:Nd):Option (List Tm):=
 if FC n=true then
  (if n.v=0/\n.e=true then
   match S with
   |b::a::S'=>if((Tm.op n.k a b).ty).isSome=true then some (Tm.op n.k a b::S') else none
   |_=>none
  else none)
 else if dI n=true then some (Tm.lf n::S) else none
def fp:List Nd->List Tm->Option (List Tm)
 |[],S=>some S
 |n::L,S=>match ρ S n with
  |some S'=>fp L S'
  |none=>none
def vJ:List Tm->List Nd
 |[]=>[]
 |t::S=>vJ S++t.d
def zfd{n}(h:ρ S n=some S'):vJ S'=vJ S++[n]:=by
 unfold ρ at h;split at h
 .split at h
  .rename_i D;split at h
   .rename_i b a F;split at h
    .simp only[dW]at h;subst h;obtain⟨k,v,e⟩:=n;simp only at D;obtain⟨rfl,rfl⟩:=D;simp[vJ,Tm.d]
    .cases h
   .cases h
  .cases h
 .split at h
  .simp only[dW]at h;subst h;rfl
  .cases h
def tM:∀{L:List Nd} {S S':List Tm},fp L S=some S'->vJ S'=vJ S++L
 |[],S,S',h=>by unfold fp at h;simp only[dW]at h;subst h;simp
 |n::L,S,S',h=>by
  unfold fp at h;cases D:ρ S n with
  |none=>rw[D]at h;cases h
  |some F=>
   rw[D]at h;rw[tM h,zfd D];simp
def jw n L S:fp (n::L) S=match ρ S n with|some S'=>fp L S'|none=>none:=rfl
def wI:∀(L h:List Nd) (S:List Tm),fp (L++h) S=match fp L S with|some S'=>fp h S'|none=>none
 |[],h,S=>rfl
 |n::L,h,S=>by
  rw[wZ,jw,jw];cases ρ S n with
  |none=>rfl
  |some D=>exact wI L h D
def sY:∀{t:Tm} {c:g_} (S:List Tm),t.ty=some c->fp t.d S=some (t::S)
 |.lf n,c,S,D=>by
  unfold Tm.ty at D;split at D
  .rename_i h;have F:FC n=false:=by
    unfold dI at h;unfold FC;rw[bN]at h;obtain⟨_,h⟩:=h;simp only[uC,uD];by_cases G:n.k=1
    .omega
    .rw[aj G]at h;by_cases H:n.k=7∨n.k=13
     .omega
     .rw[aj H]at h;simp only[bN,cf]at h;omega
   show fp [n] S=_
   unfold fp ρ;rw[F,aj Qw,ak h];rfl
  .cases D
 |.op k a b,c,S,D=>by
  have⟨x,y,I,J,O⟩:=Tm.qE D;have T:=qD O;unfold Tm.d;rw[wI,wI,sY S I];dsimp only;rw[sY (a::S) J];dsimp only;have F:FC ⟨k,0,true⟩=true:=by unfold FC;rcases T with rfl|rfl<;>rfl
  unfold fp ρ;rw[ak F,ak ⟨rfl,rfl⟩];dsimp only;rw[D];rfl
def zbE:∀{L:List Nd} {S S':List Tm},(∀t∈S,∃c,t.ty=some c)->fp L S=some S'->∀t∈S',∃c,t.ty=some c
 |[],S,S',G,D=>by unfold fp at D;simp only[dW]at D;subst D;exact G
 |n::L,S,S',G,D=>by
  unfold fp at D;cases h:ρ S n with
  |none=>rw[h]at D;cases D
  |some J=>
   rw[h]at D;refine zbE (fun t F=>?_) D;unfold ρ at h;split at h
   .split at h
    .split at h
     .rename_i b a I;split at h
      .rename_i H;simp only[dW]at h;subst h;rcases et.1 F with rfl|F
       .exact Av.1 H
       .exact G t (kC _ (kC _ F))
      .cases h
     .cases h
    .cases h
   .split at h
    .rename_i H;simp only[dW]at h;subst h;rcases et.1 F with rfl|F
     .exact⟨_,by unfold Tm.ty;rw[ak H]⟩
     .exact G t F
    .cases h
def zlQ(L:List Nd)(t:Tm):Prop:=L=t.d/\∃c,t.ty=some c
def sZ{L}{t}:zlQ L t↔fp L []=some [t]:=by
 constructor
 .rintro⟨rfl,c,h⟩;exact sY [] h
 .intro h;have:=tM h;refine⟨by simpa[vJ]using this.q,zbE (fun t D=>by cases D) h t (kD.2 rfl)⟩
def fv(n:Nd):Gr:=
 if n.k=1 then⟨n.v.toNat,[],List.range n.v.toNat,List.range n.v.toNat⟩
 else if n.k=2 then⟨2,[],[0,1],[1,0]⟩
 else⟨pC n+sC n,[⟨n.k,n.v,List.range (pC n),(List.range (sC n)).map (· +pC n)⟩],List.range (pC n),(List.range (sC n)).map (· +pC n)⟩
def Tm.gr:Tm->Gr
 |.lf n=>fv n
 |.op k a b=>if k=15 then pK a.gr b.gr else ls a.gr b.gr
def Ed.jd(e:Ed):Bool:=dI ⟨e.k,e.v,true⟩&&(decide (3<=e.k)&&(decide (e.i.length=pC ⟨e.k,e.v,true⟩)&&decide (e.o.length=sC ⟨e.k,e.v,true⟩)))
def Gr.B(g:Gr):Bool:=
 decide (g.w<=100)&&(decide (g.es.length<=60)&&(decide (g.i.length<=12)&&(decide (g.o.length<=12)&&(g.es.all Ed.jd&&(decide (∀x,x<g.w->g.O x=true)&&(g.i.all (fun x=>decide (x<g.w))&&(g.o.all (fun x=>decide (x<g.w))&&g.es.all fun e=>e.i.all (fun x=>decide (x<g.w))&&e.o.all (fun x=>decide (x<g.w)))))))))
def Gr.mE(D:g.B=true):g.In:=by
 unfold Gr.B at D;simp only[bN,eD,cf]at D;obtain⟨_,_,_,_,_,_,H,I,F⟩:=D;rintro x (h|h|⟨e,G,h|h⟩)
 .exact H x h
 .exact I x h
 .exact(F e G).1 x h
 .exact(F e G).2 x h
def Tm.pM:Tm->Bool
 |.lf n=>(fv n).B
 |.op k a b=>a.pM&&(b.pM&&((Tm.op k a b).gr).B)
end Go.Proofs.YtpieilkmmiopfaaGreatDoor
