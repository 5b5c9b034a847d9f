/- Parts of the walks and laws (Rel1, Rel2, Rel3). Conditions: as stated with each. -/
import Derived.Test.YtpieilkmmiopfaaGreatDoorPk12
import Derived.Test.YtpieilkmmiopfaaGreatDoorPk8
namespace Go.Proofs.YtpieilkmmiopfaaGreatDoor
open Go.RowKit Tryz
set_option linter.all false
variable{H Rn d i j n q r:Nat}{M:aN}{e:Ed}{g:Gr}{l:bO}{p:Int}{ps:nU}
structure Rl where
 l:Nat
 r:Nat
 b:List (List Int)
variable{QW:Rl}
def Rl.fI(p:Int)(h:Rl):Prop:=Go.Proofs.YtpieilkmmiopfaaGreatDoor.fI p h.b.length (h.l+h.r) h.b
def wZ(p:Int)(l r:Nat)(rows:aN):Rl:=⟨l,r,sI p (l+r) rows⟩
theorem uD(h:Go.Proofs.YtpieilkmmiopfaaGreatDoor.fI p H n M):Go.Proofs.YtpieilkmmiopfaaGreatDoor.fI p M.length n M:=by rw[h.1];exact h
def Rl.Red(p:Int)(h:Rl):Prop:=zaV p (h.l+h.r) h.b.length (eM h.b) (ldF h.b)
structure Rl.Ok(p:Int)(R:Rl):Prop where
 shp:R.fI p
 red:R.Red p
theorem zeO{l:Nat}{rows:aN}(D:cN p=true)(s:Go.Proofs.YtpieilkmmiopfaaGreatDoor.fI p H (l+r) rows):(wZ p l r rows).Red p:=by obtain⟨k,lf,_,h,F,_⟩:=se D (di D).1 s;unfold Rl.Red wZ;dsimp only;rw[h.1];exact zcx h F
theorem uE{l:Nat}{rows:aN}(h:cN p=true)(s:Go.Proofs.YtpieilkmmiopfaaGreatDoor.fI p H (l+r) rows):(wZ p l r rows).Ok p:=by obtain⟨k,_,_,D,_,_⟩:=se h (di h).1 s;exact⟨uD D,zeO h s⟩
theorem zbl{g:List Int->List Int}(h:g []=[])(i d:Nat):eM (M.map g) i d=(g (M.getD i [])).getD d 0:=by
 unfold eM;rw[bP (l:=List.map g M),cC,bP (l:=M)];cases M[i]? with
 |none=>simp[h]
 |some r=>rfl
theorem jI{a b:aH}:(a++b).getD d 0=if d<a.length then a.getD d 0 else b.getD (d-a.length) 0:=by rw[bP,DX];split <;>rw[bP]
theorem ph(a:aH)(q d:Nat):(a.drop q).getD d 0=a.getD (q+d) 0:=by rw[bP,eX,bP]
theorem pj{a:aH}(h:d<q):(a.take q).getD d 0=a.getD d 0:=by rw[bP,gm,ay h,bP]
theorem zg2{A B:aN}:eM (A++B) i d=if i<A.length then eM A i d else eM B (i-A.length) d:=by
 unfold eM;rw[bP (l:=A++B),DX];split
 .rw[bP (l:=A)]
 .rw[bP (l:=B)]
theorem fI.app{A B:aN}(h:fI p H n A)(D:fI p Rn n B):fI p (H+Rn) n (A++B):=by
 refine⟨by rw[bx,h.1,D.1],fun i hi=>?_,fun i d hi F=>?_⟩
 .rw[bP,DX];split
  .rename_i hl;rw[<-bP];exact h.2.1 i Tw
  .rename_i hl;rw[<-bP];have:=h.1;exact D.2.1 _ Rr
 .rw[zg2];have:=h.1;split
  .exact h.2.2 i d Rr F
  .exact D.2.2 _ d Rr F
theorem fI.yo{m:Nat}{g:List Int->List Int}(F:fI p H n M)(G:∀r∈M,(g r).length=m/\∀d,d<m->0<=(g r).getD d 0/\(g r).getD d 0<p):fI p H m (M.map g):=by
 have h:∀i,i<H->(M.map g).getD i []=g (M.getD i [])/\M.getD i []∈M:=fun i hi=>by
  have D:i<M.length:=by rw[F.1];exact hi
  refine⟨?_,vq D⟩;rw[bP,cC,dL D,bP,dL D];rfl
 refine⟨by rw[bh,F.1],fun i hi=>?_,fun i d hi I=>?_⟩
 .rw[(h i hi).1];exact(G _ (h i hi).2).1
 .unfold eM;rw[(h i hi).1];exact(G _ (h i hi).2).2 d I
theorem fI.zr(h:fI p H n M){r:aH}(F:r∈M)(D:d<n):0<=r.getD d 0/\r.getD d 0<p:=by obtain⟨i,hi⟩:=fk.1 F;have hl:=(bG.1 hi).1;have:=h.2.2 i d Tw D;unfold eM at this;rwa[getD_some hi]at this
def jg(p:Int)(c:aH)(M:aN)(n:Nat):Nat->List Int
 |0=>List.replicate n 0
 |i+1=>dD p (c.getD i 0) (jg p c M n i) (M.getD i [])
theorem lq{p:Int}{c:aH}{M:aN}{h n:Nat}(D:∀i,i<h->(M.getD i []).length=n):∀i,i<=h->(jg p c M n i).length=n
 |0,_=>by simp[jg]
 |i+1,hi=>by unfold jg;rw[nL,lq D i Rr,D i Rr,wB]
theorem C7{c:aH}(I:2<=p)(h:∀i,i<H->(M.getD i []).length=n)(D:d<n):∀i,i<=H->0<=(jg p c M n i).getD d 0/\(jg p c M n i).getD d 0<p
 |0,_=>by
  have:(jg p c M n 0).getD d 0=0:=by unfold jg;rw[bP,fH,ay D];rfl
  rw[this];omega
 |i+1,hi=>by
  have F:=lq (p:=p) (c:=c) h i Rr;have G:(jg p c M n (i+1)).getD d 0=((jg p c M n i).getD d 0+c.getD i 0*(M.getD i []).getD d 0)%p:=by
   conv=>lhs;unfold jg
   exact tU (by rw[F,h i Rr]) (by rw[F];exact D)
  rw[G];exact Ws
def pJ(p:Int)(y:aH):List Int:=dD p (-1) (List.replicate y.length 0) y
theorem Ex(p:Int)(y:aH):(pJ p y).length=y.length:=by unfold pJ;rw[nL];simp
theorem zg3{y:aH}(F:2<=p)(h:d<y.length):0<=(pJ p y).getD d 0/\(pJ p y).getD d 0<p:=by
 have D:(pJ p y).getD d 0=(0 + -1*y.getD d 0)%p:=by
  unfold pJ;rw[tU Rq (by simpa using h)];congr 2
  rw[bP,fH,ay h];rfl
 rw[D];exact Ws
def pk(h:Rl):List (List Int):=h.b.map fun r=>r.take h.l
def rh(h:Rl):List (List Int):=h.b.map fun r=>r.drop h.l
theorem C8(h:QW.fI p):fI p QW.b.length QW.l (pk QW):=by
 refine fI.yo h fun r D=>?_
 have hl:=h.row r D;exact⟨SZ,fun d F=>by rw[pj F];exact h.zr D Rr⟩
theorem C9(h:QW.fI p):fI p QW.b.length QW.r (rh QW):=by
 refine fI.yo h fun r D=>?_
 have hl:=h.row r D;exact⟨SY,fun d F=>by rw[ph];exact h.zr D Rr⟩
def gv(p:Int)(A B:Rl):List (List Int):=rh A++(pk B).map (pJ p)
def iz(p:Int)(A B:Rl)(c:aH):List Int:=jg p (c.take A.b.length) (pk A) A.l A.b.length++jg p (c.drop A.b.length) (rh B) B.r B.b.length
def pn(p:Int)(A B:Rl):List (List Int):=(uo p A.r (gv p A B)).map (iz p A B)
def Cd(p:Int)(A B:Rl):Rl:=wZ p A.l B.r (pn p A B)
theorem zJ{A B:Rl}(G:2<=p)(H:A.fI p)(I:B.fI p)(N:A.r=B.l):fI p (A.b.length+B.b.length) A.r (gv p A B):=by
 have R:=C9 H;have D:=C8 I;have F:fI p B.b.length B.l ((pk B).map (pJ p)):=fI.yo D fun r O=>by have h:=D.row r O;exact⟨by rw[Ex,h],fun d J=>zg3 G (by rw[h];exact J)⟩
 rw[<-N]at F;exact R.app F
theorem tx{A B:Rl}{c:aH}(h:2<=p)(I:A.fI p)(J:B.fI p):(iz p A B c).length=A.l+B.r/\∀d,d<A.l+B.r->0<=(iz p A B c).getD d 0/\(iz p A B c).getD d 0<p:=by
 have F:=C8 I;have G:=C9 J;have D:(jg p (c.take A.b.length) (pk A) A.l A.b.length).length=A.l:=lq F.2.1 _ (af _);have N:(jg p (c.drop A.b.length) (rh B) B.r B.b.length).length=B.r:=lq G.2.1 _ (af _);unfold iz;refine⟨by rw[bx,D,N],fun d O=>?_⟩;rw[jI,D];split
 .rename_i H;exact C7 h F.2.1 H _ (af _)
 .exact C7 h G.2.1 Rr _ (af _)
theorem zeP{A B:Rl}(D:cN p=true)(F:A.fI p)(G:B.fI p)(N:A.r=B.l):(Cd p A B).Ok p:=by
 have h:=(di D).1;have H:=zJ h F G N;have O:fI p (uo p A.r (gv p A B)).length (A.b.length+B.b.length) (uo p A.r (gv p A B)):=by
  obtain⟨R,_,I,_⟩:=BX D h H;obtain⟨r,_,_,J,_,_⟩:=se D h I;have e:uo p A.r (gv p A B)=sI p (A.b.length+B.b.length) (zcZ p A.r (gv p A B)):=by unfold uo;rw[H.1]
  rw[e];exact uD J
 exact uE D (fI.yo O fun c _=>tx h F G)
def zaU(p:Int)(h:Rl):Rl:=wZ p h.r h.l (h.b.map fun row=>row.drop h.l++row.take h.l)
theorem zfw(I:cN p=true)(D:QW.fI p):(zaU p QW).Ok p:=by
 have H:∀r∈QW.b,∀d,d<QW.r+QW.l->(r.drop QW.l++r.take QW.l).getD d 0=r.getD (if d<QW.r then QW.l+d else d-QW.r) 0:=fun r h d F=>by
  have hl:=D.row r h;have G:(r.drop QW.l).length=QW.r:=SY;rw[jI,G];split
  .rw[ph]
  .rw[pj Rr]
 have s:fI p QW.b.length (QW.r+QW.l) (QW.b.map fun row=>row.drop QW.l++row.take QW.l):=fI.yo D fun r h=>by have hl:=D.row r h;refine⟨by rw[bx,gp,cG,hl];omega,fun d F=>?_⟩;rw[H r h d F];exact D.zr h (by split<;>omega)
 exact uE I s
def iu(n:Nat):List Int:=List.replicate n 0
theorem DE(n d:Nat):(iu n).getD d 0=0:=by unfold iu;rw[bP,fH];split <;>rfl
def vF(A B:Rl)(row:aH):List Int:=row.take A.l++(iu B.l++(row.drop A.l++iu B.r))
def vG(A B:Rl)(row:aH):List Int:=iu A.l++(row.take B.l++(iu A.r++row.drop B.l))
def CS(p:Int)(A B:Rl):Rl:=wZ p (A.l+B.l) (A.r+B.r) (A.b.map (vF A B)++B.b.map (vG A B))
theorem zfx{A B:Rl}{row:aH}(hl:row.length=A.l+A.r)(d:Nat):(vF A B row).getD d 0=if d<A.l then row.getD d 0 else if d<A.l+B.l then 0 else if d<A.l+B.l+A.r then row.getD (A.l+(d-(A.l+B.l))) 0 else 0:=by
 have D:(row.take A.l).length=A.l:=SZ;have F:(row.drop A.l).length=A.r:=SY;have G:(iu B.l).length=B.l:=RL;unfold vF;rw[jI,D];by_cases c1:d<A.l
 .rw[ay c1,ay c1,pj c1]
 rw[av c1,av c1,jI,G];by_cases c2:d<A.l+B.l
 .rw[ay Rr,ay c2,DE]
 rw[av Rr,av c2,jI,F];by_cases h:d<A.l+B.l+A.r
 .rw[ay Rr,ay h,ph];congr 1;omega
 .rw[av Rr,av h,DE]
theorem zfy{A B:Rl}{row:aH}(hl:row.length=B.l+B.r)(d:Nat):(vG A B row).getD d 0=if d<A.l then 0 else if d<A.l+B.l then row.getD (d-A.l) 0 else if d<A.l+B.l+A.r then 0 else row.getD (B.l+(d-(A.l+B.l+A.r))) 0:=by
 have D:(row.take B.l).length=B.l:=SZ;have F:(iu A.l).length=A.l:=RL;have G:(iu A.r).length=A.r:=RL;unfold vG;rw[jI,F];by_cases c1:d<A.l
 .rw[ay c1,ay c1,DE]
 rw[av c1,av c1,jI,D];by_cases c2:d<A.l+B.l
 .rw[ay Rr,ay c2,pj Rr]
 rw[av Rr,av c2,jI,G];by_cases h:d<A.l+B.l+A.r
 .rw[ay Rr,ay h,DE]
 .rw[av Rr,av h,ph];congr 1;omega
theorem zfz{A B:Rl}(h:cN p=true)(hA:A.fI p)(hB:B.fI p):(CS p A B).Ok p:=by
 have G:=(di h).1;have D:fI p A.b.length (A.l+B.l+(A.r+B.r)) (A.b.map (vF A B)):=fI.yo hA fun r hr=>YU
 have F:fI p B.b.length (A.l+B.l+(A.r+B.r)) (B.b.map (vG A B)):=fI.yo hB fun r hr=>YT
 exact uE (l:=A.l+B.l) (r:=A.r+B.r) h (D.app F)
theorem vr(h:∀r∈M,r.length=n/\∀x∈r,0<=x/\x<p):fI p M.length n M:=by
 refine⟨rfl,fun i hi=>(h _ (vq hi)).1,fun i d hi H=>?_⟩;obtain⟨F,G⟩:=h _ (vq hi);unfold eM;have D:d < (M.getD i []).length:=by rw[F];exact H
 rw[bP (l:=M.getD i []),dL D];exact G _ (zi D)
def eO(k v:Int):List (List Int):=if k=3 then[[1,1,1]] else if k=4 then[[1]] else if k=5 then[[1,0,1],[0,1,1]] else if k=7 then[[1,v]] else[]
def yD(k:Int):Nat:=if k=5 then 2 else if k=6 then 0 else 1
def mv(k:Int):Nat:=if k=3 then 2 else if k=4 then 0 else 1
def Dp(p k v:Int):Prop:=3<=k/\k<=7/\(k=7->0<=v/\v<p)
theorem Dp.cases{k v:Int}(h:Dp p k v):k=3∨k=4∨k=5∨k=6∨k=7:=by obtain⟨D,F,_⟩:=h;omega
theorem ye{k v:Int}(F:2<=p)(h:Dp p k v):fI p (eO k v).length (yD k+mv k) (eO k v):=by
 refine vr ?_;have D:=h.2.2;rcases h.cases with rfl|rfl|rfl|rfl|rfl
 .intro r hr;simp only[eO,ay,kp]at hr;subst hr;refine⟨rfl,fun x hx=>?_⟩;simp at hx;omega
 .intro r hr;exact Xi
 .intro r hr;simp[eO]at hr;exact XF
 .intro r hr;simp[eO]at hr
 .intro r hr;have D:=D rfl;exact Xi
def kP(n:Nat):List (List Int):=(yg n).map fun r=>r++r
theorem zaJ(F:2<=p):fI p n (n+n) (kP n)/\∀i d,i<n->d<n+n->eM (kP n) i d=if d<n then(if d=i then 1 else 0) else if d-n=i then 1 else 0:=by
 have s:=yH (p:=p) (n:=n) F;have H:∀i d,i<n->d<n+n->eM (kP n) i d=if d<n then(if d=i then 1 else 0) else if d-n=i then 1 else 0:=fun i d hi G=>by
  unfold kP;rw[zbl Rp,jI,s.2.1 i hi];by_cases h:d<n
  .rw[ay h,ay h];exact zet hi h
  .rw[av h,av h];exact zet hi Rr
 refine⟨fI.yo s fun r D=>?_,H⟩;have I:=s.row r D;refine⟨by rw[bx,I],fun d G=>?_⟩;rw[jI];split
 .exact s.zr D Rr
 .exact s.zr D Rr
def idR(n:Nat):Rl:=⟨n,n,kP n⟩
theorem zgg(h:2<=p)(n:Nat):(idR n).fI p:=uD (zaJ h).1
theorem zgh(F:2<=p)(n:Nat):(idR n).Red p:=by
 obtain⟨s,h⟩:=zaJ (n:=n) F;unfold Rl.Red idR;dsimp only;rw[s.1];refine zcx (l:=fun i=>i) s ⟨fun i c hi D=>s.2.2 i c hi D,fun i hi=>Rr,fun i j G _=>G,fun i hi=>?_,fun i c hi D=>?_,fun i j hi H I=>?_⟩
 .rw[h i i hi Rr,ay hi,ay rfl]
 .rw[h i c hi Rr,ay Rr,av Rr]
 .rw[h i j hi Rr,ay H,av Rr]
def swR(p:Int):Rl:=wZ p 2 2 [[1,0,0,1],[0,1,1,0]]
theorem zhu(h:cN p=true):(swR p).Ok p:=by
 have D:=(di h).1;have s:fI p 2 (2+2) [[1,0,0,1],[0,1,1,0]]:=vr (M:=[[1,0,0,1],[0,1,1,0]]) fun r hr=>by simp at hr;exact XF
 exact uE (l:=2) (r:=2) h s
def zdQ(p k v:Int):Rl:=wZ p (yD k) (mv k) (eO k v)
def vt(p:Int)(n:Nd):Rl:=
 if n.k=1 then idR n.v.toNat else if n.k=2 then swR p else if 9<=n.k then zaU p (zdQ p (n.k-6) n.v) else zdQ p n.k n.v
def tg(p:Int)(n:Nd):Prop:=dh n=true/\n.k≠8/\n.k≠14/\(n.k=7∨n.k=13->n.v<p)
theorem tg.gen{n:Nd}(F:tg p n)(G:n.k≠1)(J:n.k≠2):if 9<=n.k then Dp p (n.k-6) n.v else Dp p n.k n.v:=by
 obtain⟨h,N,I,H⟩:=F;unfold dh at h;rw[bE]at h;have h:=h.2;rw[av G]at h;by_cases D:n.k=7∨n.k=13
 .rw[ay D]at h;simp only[bE,bX]at h;have:=H D;unfold Dp;split <;>omega
 .rw[av D]at h;simp only[bE,bX]at h;unfold Dp;split <;>omega
theorem Dq{k v:Int}(h:cN p=true)(D:Dp p k v):(zdQ p k v).Ok p:=uE (l:=yD k) (r:=mv k) h (ye (di h).1 D)
theorem zgi{n:Nd}(D:cN p=true)(N:tg p n):(vt p n).l=nW n/\(vt p n).r=qJ n/\(vt p n).Ok p:=by
 have I:=(di D).1;obtain⟨k,v,e⟩:=n;have h:=N.gen;unfold vt;dsimp only at h ⊢;by_cases F:k=1
 .subst F;rw[ay rfl];exact⟨rfl,rfl,⟨zgg I _,zgh I _⟩⟩
 by_cases G:k=2
 .subst G;rw[av F,ay rfl];exact⟨rfl,rfl,zhu D⟩
 have h:=h F G;rw[av F,av G];by_cases H:9<=k
 .rw[ay H]at h ⊢;have J:=Dq D h;have c1:=zfw D J.shp;obtain⟨m,rfl⟩:∃m,k=m+6:=⟨k-6,Rr⟩;rw[show m+6-6=m by omega]at h c1 ⊢;have hc:=h.cases;refine⟨?_,?_,c1⟩
  .show mv m=_
   exact WA
  .show yD m=_
   exact WA
 .rw[av H]at h ⊢;have hc:=h.cases;refine⟨?_,?_,Dq D h⟩
  .show yD k=_
   exact WA
  .show mv k=_
   exact WA
def Tm.rel(p:Int):Tm->Rl
 |.lf n=>vt p n
 |.op k a b=>if k=15 then Cd p (a.rel p) (b.rel p) else CS p (a.rel p) (b.rel p)
def Tm.tY(p:Int):Tm->Prop
 |.lf n=>tg p n
 |.op _ a b=>a.tY p/\b.tY p
theorem zcB(N:g.In)(R:∀q∈ps,q.1<g.w/\q.2<g.w):(iA g ps).In:=by
 have O:mB g.w (iH g.w ps):=Dj ps _ (uR g.w) R;intro x F;have G:∀y,g.On y->(nG g (iH g.w ps)).idxOf ((iH g.w ps).getD y 0) < (nG g (iH g.w ps)).length:=fun y h=>List.idxOf_lt_length_of_mem (zas O N h)
 unfold iA Gr.map at F ⊢;dsimp only at F ⊢;rcases F with D|D|⟨e,J,F⟩
 .obtain⟨y,h,rfl⟩:=cM.1 D;exact G y (au h)
 .obtain⟨y,h,rfl⟩:=cM.1 D;exact G y (an (au h))
 .obtain⟨H,I,rfl⟩:=cM.1 J;unfold Ed.map at F;rcases F with D|D
  .obtain⟨y,h,rfl⟩:=cM.1 D;exact G y (an (an ⟨H,I,au h⟩))
  .obtain⟨y,h,rfl⟩:=cM.1 D;exact G y (an (an ⟨H,I,an h⟩))
theorem zaK(n:Nd):(eY n).In:=by
 unfold eY;split
 .rintro x (h|h|⟨e,F,_⟩)
  .exact fi.1 h
  .exact fi.1 h
  .simp at F
 split
 .rintro x (h|h|⟨e,F,_⟩)
  .simp at h;dsimp only;omega
  .simp at h;dsimp only;omega
  .simp at F
 .have hi:∀x,x∈List.range (nW n)->x<nW n+qJ n:=fun x D=>by have:=fi.1 D;omega
  have G:∀x,x∈(List.range (qJ n)).map (· +nW n)->x<nW n+qJ n:=fun x D=>by obtain⟨y,H,rfl⟩:=cM.1 D;have:=fi.1 H;omega
  rintro x (h|h|⟨e,F,D⟩)
  .exact hi x h
  .exact G x h
  .rw[kp.1 F]at D;exact D.elim (hi x) (G x)
theorem CE(n:Nd)(h:dh n=true):(eY n).i.length=nW n/\(eY n).o.length=qJ n:=by
 unfold eY nW qJ;split
 .simp
 split
 .simp
 .simp[nW,qJ, *]
theorem Tm.vu:∀{t:Tm} {c:fQ},t.ty=some c->t.gr.In/\t.gr.i.length=c.1/\t.gr.o.length=c.2
 |.lf n,c,F=>by
  unfold Tm.ty at F;split at F
  .rename_i N;simp only[dZ]at F;subst F;exact⟨zaK n,CE n N⟩
  .cases F
 |.op k a b,c,F=>by
  obtain⟨x,y,ab,N,D⟩:=Tm.nN F;obtain⟨I,O,U⟩:=Tm.vu ab;obtain⟨J,V,R⟩:=Tm.vu N;unfold Tm.gr;unfold fG at D;by_cases e:k=15
  .rw[ay e]at D ⊢;split at D
   .rename_i ac;simp only[dZ]at D;subst D;refine⟨zcB (sg I J (fun z h=>by have:=I z (au h);omega) (fun z h=>by
     obtain⟨H,G,rfl⟩:=cM.1 h;have:=J H (an (au G));omega)) (fun q T=>by
     have Y:=(vV T).1;have Z:=(vV T).2;obtain⟨H,G,e⟩:=cM.1 Z;have:=I _ (an (au Y));have:=J H (au G);dsimp only;omega),?_,?_⟩
    .show(List.map _ a.gr.i).length=_
     rw[bh];exact O
    .show(List.map _ (List.map _ b.gr.o)).length=_
     rw[bh,bh];exact R
   .cases D
  .rw[av e]at D ⊢;split at D
   .split at D
    .simp only[dZ]at D;subst D;unfold jT;refine⟨sg I J (fun z h=>?_) (fun z h=>?_),by dsimp only;rw[bx,bh,O,V],by dsimp only;rw[bx,bh,U,R]⟩
     .rcases eh.1 h with h|h
      .have:=I z (au h);omega
      .obtain⟨H,G,rfl⟩:=cM.1 h;have:=J H (au G);omega
     .rcases eh.1 h with h|h
      .have:=I z (an (au h));omega
      .obtain⟨H,G,rfl⟩:=cM.1 h;have:=J H (an (au G));omega
    .cases D
   .cases D
theorem Tm.Dr{p:Int}(F:cN p=true):∀{t:Tm} {c:fQ},t.ty=some c->t.tY p->(t.rel p).l=c.1/\(t.rel p).r=c.2/\(t.rel p).Ok p
 |.lf n,c,D,G=>by
  unfold Tm.ty at D;split at D
  .simp only[dZ]at D;subst D;exact zgi F G
  .cases D
 |.op k a b,c,D,G=>by
  obtain⟨x,y,T,U,h⟩:=Tm.nN D;obtain⟨H,I,J⟩:=Tm.Dr F T G.1;obtain⟨N,O,R⟩:=Tm.Dr F U G.2;unfold Tm.rel;unfold fG at h;by_cases e:k=15
  .rw[ay e]at h;rw[ay e];split at h
   .rename_i V;simp only[dZ]at h;subst h;exact⟨H,O,zeP F J.shp R.shp (by rw[I,N];exact V)⟩
   .cases h
  .rw[av e]at h;rw[av e];split at h
   .split at h
    .simp only[dZ]at h;subst h;exact⟨by show(a.rel p).l+(b.rel p).l=_;rw[H,N],by show(a.rel p).r+(b.rel p).r=_;rw[I,O],zfz F J.shp R.shp⟩
    .cases h
   .cases h

def rV(p:Int):List (Nat×Int)->List Int->List Int
 |[],r=>r
 |q::L,r=>rV p L (r.set q.1 ((r.getD q.1 0+q.2)%p))
def gO:List (Nat×Int)->Nat->Int
 |[],_=>0
 |q::L,d=>(if q.1=d then q.2 else 0)+gO L d
theorem AY(q:Nat×Int)(L:gX)(d:Nat):gO (q::L) d=(if q.1=d then q.2 else 0)+gO L d:=rfl
def ku(p:Int)(n:Nat)(L:gX):List Int:=rV p L (List.replicate n 0)
theorem yl{r:aH}{a:Nat}{x:Int}(ha:a<r.length):(r.set a x).getD d 0=if a=d then x else r.getD d 0:=XU
theorem za3{p:Int}{n:Nat}(R:2<=p):∀(L:gX) (r:aH),r.length=n->(∀d,d<n->0<=r.getD d 0/\r.getD d 0<p)->(∀q∈L,q.1<n)->(rV p L r).length=n/\∀d,d<n->(rV p L r).getD d 0=(r.getD d 0+gO L d)%p
 |[],r,F,D,_=>⟨F,fun d h=>by unfold rV gO;rw[Int.add_zero,qB (D d h).1 (D d h).2]⟩
 |q::L,r,F,D,H=>by
  have U:=H q (lh ..);have G:∀d,(r.set q.1 ((r.getD q.1 0+q.2)%p)).getD d 0=if q.1=d then(r.getD q.1 0+q.2)%p else r.getD d 0:=fun d=>yl Rr
  obtain⟨I,J⟩:=za3 R L (r.set q.1 ((r.getD q.1 0+q.2)%p)) (by rw[iE];exact F) (fun d h=>by
   rw[G];split
   .exact Ws
   .exact D d h) (fun T O=>H T (lg _ O))
  refine⟨I,fun d h=>(J d h).trans ?_⟩;rw[G,AY];split
  .rename_i N;subst N;rw[Int.emod_add_emod];congr 1;omega
  .rw[Int.zero_add]
theorem um{L:gX}(H:2<=p)(I:∀q∈L,q.1<n):(ku p n L).length=n/\∀d,d<n->(ku p n L).getD d 0=gO L d%p:=by
 have D:∀d,d<n->(List.replicate n (0:Int)).getD d 0=0:=fun d h=>by rw[bP,fH,ay h];rfl
 obtain⟨F,G⟩:=za3 (n:=n) H L (List.replicate n 0) Rq (fun d h=>by rw[D d h];omega) I;refine⟨F,fun d h=>(G d h).trans ?_⟩;rw[D d h,Int.zero_add]
def AZ(p k v:Int)(i o:bO):List (List (Nat×Int)):=
 if k=3 then[[(o.getD 0 0,1),(i.getD 0 0,p-1)],[(o.getD 1 0,1),(i.getD 0 0,p-1)]]
 else if k=5 then[[(o.getD 0 0,1),(i.getD 0 0,p-1),(i.getD 1 0,p-1)]]
 else if k=6 then[[(o.getD 0 0,1)]]
 else if k=7 then[[(o.getD 0 0,1),(i.getD 0 0,(p-v)%p)]]
 else[]
def Ed.eqns(p:Int)(e:Ed):List (List (Nat×Int)):=if 9<=e.k then AZ p (e.k-6) e.v e.o e.i else AZ p e.k e.v e.i e.o
theorem zea(D:e.jt=true):3<=e.k/\e.k<=14/\e.i.length=nW ⟨e.k,e.v,true⟩/\e.o.length=qJ ⟨e.k,e.v,true⟩:=by
 unfold Ed.jt at D;simp only[bE,bX]at D;obtain⟨h,F,hi,G⟩:=D;refine⟨F,?_,hi,G⟩;unfold dh at h;simp only[wO]at h;rw[av Rr]at h;split at h
 .omega
 .simp only[bE,bX]at h;omega
theorem zh_{k v:Int}{b:Bool}(h:3<=k)(D:k<=8):nW ⟨k,v,b⟩=yD k/\qJ ⟨k,v,b⟩=mv k/\nW ⟨k+6,v,b⟩=mv k/\qJ ⟨k+6,v,b⟩=yD k:=by have:k=3∨k=4∨k=5∨k=6∨k=7∨k=8:=Rr;rcases this with rfl|rfl|rfl|rfl|rfl|rfl <;>exact⟨rfl,rfl,rfl,rfl⟩
theorem kS(h:j<l.length):l.getD j 0∈l:=by rw[bP,dL h];exact zi h
theorem zcP{k v:Int}{i o:bO}{w:Nat}(hi:yD k<=i.length)(G:mv k<=o.length)(U:∀x∈i,x<w)(V:∀x∈o,x<w):∀L∈AZ p k v i o,∀q∈L,q.1<w:=by
 have F:∀j,j<i.length->i.getD j 0<w:=fun j I=>U _ (kS I)
 have go:∀j,j<o.length->o.getD j 0<w:=fun j I=>V _ (kS I)
 unfold AZ;by_cases N:k=3
 .subst N;have J:1<=i.length:=hi;have H:2<=o.length:=G;rw[ay rfl];intro L h q D;have a:=F 0 Rr;have b:=go 0 Rr;have c:=go 1 Rr;simp only[dQ,gu,gI]at h;rcases h with rfl|rfl <;>simp only[dQ,gu,gI]at D <;>rcases D with rfl|rfl <;>assumption
 rw[av N];by_cases O:k=5
 .subst O;have J:2<=i.length:=hi;have H:1<=o.length:=G;rw[ay rfl];intro L h q D;have a:=F 0 Rr;have b:=F 1 Rr;have c:=go 0 Rr;simp only[dQ,gu,gI]at h;subst h;simp only[dQ,gu,gI]at D;rcases D with rfl|rfl|rfl <;>assumption
 rw[av O];by_cases R:k=6
 .subst R;have H:1<=o.length:=G;rw[ay rfl];intro L h q D;have c:=go 0 Rr;simp only[dQ,gu,gI]at h;subst h;simp only[dQ,gu,gI]at D;subst D;assumption
 rw[av R];by_cases T:k=7
 .subst T;have J:1<=i.length:=hi;have H:1<=o.length:=G;rw[ay rfl];intro L h q D;have a:=F 0 Rr;have c:=go 0 Rr;simp only[dQ,gu,gI]at h;subst h;simp only[dQ,gu,gI]at D;rcases D with rfl|rfl <;>assumption
 .rw[av T];intro L h;simp at h
theorem Gr.kg:g.okB=true↔g.w<=100/\g.es.length<=60/\g.i.length<=12/\g.o.length<=12/\(∀e∈g.es,e.jt=true)/\(∀x,x<g.w->g.onB x=true)/\(∀x∈g.i,x<g.w)/\(∀x∈g.o,x<g.w)/\∀e∈g.es,(∀x∈e.i,x<g.w)/\∀x∈e.o,x<g.w:=by unfold Gr.okB;simp only[bE,fZ,bX]
def Gr.eqs(p:Int)(g:Gr):List (List (Nat×Int)):=g.es.flatMap (Ed.eqns p)
def Gr.rows(p:Int)(g:Gr):List (List Int):=(g.eqs p).map (ku p g.w)
theorem Gr.zbI(T:∀e∈g.es,e.jt=true)(N:g.In):∀L∈g.eqs p,∀q∈L,q.1<g.w:=by
 intro L h;unfold Gr.eqs at h;obtain⟨e,G,h⟩:=ld.1 h;obtain⟨U,V,I,J⟩:=zea (T e G);have O:∀x∈e.i,x<g.w:=fun x H=>N x (an (an ⟨e,G,au H⟩))
 have R:∀x∈e.o,x<g.w:=fun x H=>N x (an (an ⟨e,G,an H⟩))
 unfold Ed.eqns at h;split at h
 .obtain⟨_,_,D,F⟩:=zh_ (k:=e.k-6) (v:=e.v) (b:=true) Rr Rr;rw[show e.k-6+6=e.k by omega]at D F;exact zcP (by rw[J,F];exact af _) (by rw[I,D];exact af _) R O L h
 .obtain⟨D,F,_,_⟩:=zh_ (k:=e.k) (v:=e.v) (b:=true) Rr Rr;exact zcP (by rw[I,D];exact af _) (by rw[J,F];exact af _) O R L h
theorem Cp{X:List (List (Nat×Int))}(G:2<=p)(F:∀L∈X,∀q∈L,q.1<n):fI p X.length n (X.map (ku p n)):=by
 have:=vr (p:=p) (n:=n) (M:=X.map (ku p n)) fun r J=>by obtain⟨L,H,rfl⟩:=cM.1 J;obtain⟨h,D⟩:=um G (F L H);refine⟨h,fun x N=>?_⟩;obtain⟨d,I,rfl⟩:=List.getElem_of_mem N;have:=D d Rr;rw[bP,dL I,Option.getD_some]at this;rw[this];exact Ws
 rwa[bh]at this
theorem Gr.ze1(D:2<=p)(h:∀e∈g.es,e.jt=true)(F:g.In):fI p (g.eqs p).length g.w (g.rows p):=Cp D (Gr.zbI h F)

def Gr.tY(p:Int)(g:Gr):Prop:=∀e∈g.es,e.jt=true/\tg p ⟨e.k,e.v,true⟩
section
variable{p:Int}{g:Gr}{A B:Rl}{X Y W:aH}
end
theorem Ca{n:Nd}(h:dh n=true):dh ⟨n.k,n.v,true⟩=true:=by unfold dh at h ⊢;rw[bE]at h;rw[bE];exact⟨rfl,h.2⟩
theorem pg{n:Nd}(h:dh n=true):(eY n).okB=true:=by
 have O:=pT h;have H:=zaK n;obtain⟨R,T⟩:=CE n h;rw[Gr.kg];have J:(∀x∈(eY n).i,x < (eY n).w)/\(∀x∈(eY n).o,x < (eY n).w)/\∀e∈(eY n).es,(∀x∈e.i,x < (eY n).w)/\∀x∈e.o,x < (eY n).w:=
  ⟨fun x D=>H x (au D),fun x D=>H x (an (au D)),fun e F=>⟨fun x D=>H x (an (an ⟨e,F,au D⟩)),fun x D=>H x (an (an ⟨e,F,an D⟩))⟩⟩
 have I:(eY n).w<=100/\(eY n).es.length<=60/\(∀e∈(eY n).es,e.jt=true)/\∀x,x < (eY n).w->(eY n).onB x=true:=by
  by_cases G:n.k=1
  .have:eY n=⟨n.v.toNat,[],List.range n.v.toNat,List.range n.v.toNat⟩:=by unfold eY;rw[ay G]
   rw[this];have:n.v.toNat<=12:=by unfold dh at h;rw[bE]at h;have h:=h.2;rw[ay G]at h;simp only[bE,bX]at h;omega
   exact⟨SN,Rq,fun e F=>by simp at F,fun x D=>Gr.jS.2 (au (fi.2 D))⟩
  by_cases N:n.k=2
  .have:eY n=⟨2,[],[0,1],[1,0]⟩:=by unfold eY;rw[av G,ay N]
   rw[this];refine⟨SN,Rq,fun e F=>by simp at F,fun x D=>Gr.jS.2 (au ?_)⟩;have:x=0∨x=1:=by dsimp only at D;omega
   rcases this with rfl|rfl <;>simp
  .have:eY n=⟨nW n+qJ n,[⟨n.k,n.v,List.range (nW n),(List.range (qJ n)).map (· +nW n)⟩],List.range (nW n),(List.range (qJ n)).map (· +nW n)⟩:=by unfold eY;rw[av G,av N]
   rw[this];refine⟨SN,Rq,fun e F=>?_,fun x D=>Gr.jS.2 ?_⟩
   .have F:e=_:=kp.1 F;subst F;have Y:3<=n.k:=by
     unfold dh at h;rw[bE]at h;have h:=h.2;rw[av G]at h;by_cases Z:n.k=7∨n.k=13
     .omega
     .rw[av Z]at h;simp only[bE,bX]at h;omega
    have U:nW ⟨n.k,n.v,true⟩=nW n:=rfl;have V:qJ ⟨n.k,n.v,true⟩=qJ n:=rfl;unfold Ed.jt;dsimp only;rw[Ca h,U,V];simp[Y]
   .dsimp only at D;by_cases ab:x<nW n
    .exact au (fi.2 ab)
    .exact an (au (cM.2 ⟨x-nW n,fi.2 Rr,Rr⟩))
 exact⟨I.1,I.2.1,by rw[R];exact O.1,by rw[T];exact O.2,I.2.2.1,I.2.2.2,J.1,J.2.1,J.2.2⟩
theorem Tm.nZ(k:Int)(a b:Tm):(Tm.op k a b).flat=a.flat++b.flat++[⟨k,0,true⟩]:=rfl
theorem Tm.Cb(k:Int)(a b:Tm):(Tm.op k a b).gr=if k=15 then nX a.gr b.gr else jT a.gr b.gr:=rfl
def Tm.leaves:Tm->List Nd
 |.lf n=>[n]
 |.op _ a b=>a.leaves++b.leaves
def Gr.kv(g:Gr):List (Int×Int):=g.es.map fun e=>(e.k,e.v)
theorem Cc(a b:Gr):(ff a b).map (fun e=>(e.k,e.v))=a.kv++b.kv:=by unfold ff Gr.kv;rw[kY,oP];rfl
theorem zgZ(a b:Gr):(nX a b).kv=a.kv++b.kv:=by rw[<-Cc];unfold nX iA Gr.kv Gr.map;dsimp only;rw[oP];rfl
theorem zg0(a b:Gr):(jT a b).kv=a.kv++b.kv:=by rw[<-Cc];rfl
theorem zfZ(n:Nd):(eY n).kv=if n.k=1∨n.k=2 then[] else[(n.k,n.v)]:=by
 unfold eY;by_cases h:n.k=1
 .rw[ay h,ay (au h)];rfl
 by_cases D:n.k=2
 .rw[av h,ay D,ay (an D)];rfl
 .rw[av h,av D,av Rr];rfl
theorem Tm.wY:∀{t:Tm} {x:Int×Int},x∈t.gr.kv↔∃n∈t.leaves,n.k≠1/\n.k≠2/\x=(n.k,n.v)
 |.lf n,x=>by
  show x∈(eY n).kv↔∃m∈[n],_
  rw[zfZ];by_cases h:n.k=1∨n.k=2
  .rw[ay h];simp only[gu,kp,exists_eq_left,false_iff];omega
  .rw[av h];simp only[kp,exists_eq_left];constructor
   .intro e;exact⟨Rr,Rr,e⟩
   .rintro⟨_,_,e⟩;exact e
 |.op k a b,x=>by
  have D:(Tm.op k a b).gr.kv=a.gr.kv++b.gr.kv:=by
   rw[Tm.Cb];by_cases e:k=15
   .rw[ay e];exact zgZ _ _
   .rw[av e];exact zg0 _ _
  rw[D,eh,Tm.wY (t:=a),Tm.wY (t:=b)]
  show _↔∃n∈a.leaves++b.leaves,_
  constructor
  .rintro(⟨n,h,r⟩|⟨n,h,r⟩)
   .exact⟨n,m9 _ h,r⟩
   .exact⟨n,jF _ h,r⟩
  .rintro⟨n,h,r⟩;rcases eh.1 h with h|h
   .exact au ⟨n,h,r⟩
   .exact an ⟨n,h,r⟩
theorem Tm.pH:∀{t:Tm} {c:fQ},t.ty=some c->∀n∈t.leaves,dh n=true
 |.lf n,c,D,m,h=>by
  have h:m=n:=kp.1 h;subst h;unfold Tm.ty at D;split at D
  .assumption
  .cases D
 |.op k a b,c,D,m,h=>by
  obtain⟨x,y,F,G,_⟩:=Tm.nN D;rcases eh.1 h with h|h
  .exact Tm.pH F m h
  .exact Tm.pH G m h
def n_(L:List Nd):Bool:=L.all fun n=>decide (n.k≠8)&&decide (n.k≠14)
def nv(p:Int)(L:List Nd):Bool:=L.all fun n=>!(decide (n.k=7)||decide (n.k=13))||decide (n.v<p)
theorem Tm.zI{p:Int}:∀{t:Tm} {c:fQ},t.ty=some c->(t.tY p↔n_ t.flat=true/\nv p t.flat=true)
 |.lf n,c,G=>by
  unfold Tm.ty at G;split at G
  .rename_i I;unfold Tm.tY tg n_ nv Tm.flat;simp only[wy,List.all_nil,Bool.and_true,bE,bX,iG,wk,qw,qx];constructor
   .rintro⟨_,h,D,F⟩;refine⟨⟨h,D⟩,?_⟩;by_cases e:n.k=7∨n.k=13
    .exact an (F e)
    .exact au Rr
   .rintro⟨⟨h,D⟩,F⟩;exact⟨I,h,D,fun e=>Rr⟩
  .cases G
 |.op k a b,c,G=>by
  obtain⟨x,y,R,I,T⟩:=Tm.nN G;have J:=nM T;have N:n_ (Tm.op k a b).flat=(n_ a.flat&&n_ b.flat):=by rw[Tm.nZ];unfold n_;rw[zf,zf];rcases J with rfl|rfl <;>simp
  have O:nv p (Tm.op k a b).flat=(nv p a.flat&&nv p b.flat):=by rw[Tm.nZ];unfold nv;rw[zf,zf];rcases J with rfl|rfl <;>simp
  rw[N,O];unfold Tm.tY;rw[Tm.zI R,Tm.zI I];simp only[bE];constructor
  .rintro⟨⟨h,D⟩,F,H⟩;exact⟨⟨h,F⟩,D,H⟩
  .rintro⟨⟨h,F⟩,D,H⟩;exact⟨⟨h,D⟩,F,H⟩
def Dw(k v:Int)(i o:bO):List (List (Nat×Int)):=
 if k=3 then[[(o.getD 0 0,1),(i.getD 0 0,-1)],[(o.getD 1 0,1),(i.getD 0 0,-1)]]
 else if k=5 then[[(o.getD 0 0,1),(i.getD 0 0,-1),(i.getD 1 0,-1)]]
 else if k=6 then[[(o.getD 0 0,1)]]
 else if k=7 then[[(o.getD 0 0,1),(i.getD 0 0,-v)]]
 else[]
def Ed.Dx(e:Ed):List (List (Nat×Int)):=if 9<=e.k then Dw (e.k-6) e.v e.o e.i else Dw e.k e.v e.i e.o
def mg(p:Int)(n:Nat)(L:gX):List Int:=(List.range n).map fun d=>gO L d%p
theorem zhv{L:gX}(h:d<n):(mg p n L).getD d 0=gO L d%p:=by unfold mg;rw[bP,cC,lJ h];rfl
theorem AM(p:Int)(n:Nat)(L:gX):(mg p n L).length=n:=by simp[mg]
theorem zd1{L:gX}(H:2<=p)(G:∀q∈L,q.1<n):ku p n L=mg p n L:=by
 obtain⟨I,F⟩:=um H G;refine gS fun d=>?_
 by_cases h:d<n
 .have:=F d h;have D:=zhv (p:=p) (L:=L) h;rw[bP,dL Rr]at this;rw[bP,dL (by rw[AM];exact h)]at D;rw[dL Rr,dL (by rw[AM];exact h)];simp only[Option.getD_some]at this D;rw[this,D]
 .rw[gT Rr,gT (by rw[AM];omega)]
theorem CM{L h:gX}(D:∀d,p∣gO L d-gO h d):mg p n L=mg p n h:=by
 unfold mg;refine kZ fun d _=>?_
 exact Int.emod_eq_emod_iff_emod_sub_eq_zero.2 (Int.emod_eq_zero_of_dvd (D d))
theorem zfr{k v:Int}{i o:bO}:(AZ p k v i o).map (mg p n)=(Dw k v i o).map (mg p n):=by
 have one:∀(a b:Nat) (x y:Int),p∣x-y->mg p n [(a,1),(b,x)]=mg p n [(a,1),(b,y)]:=fun a b x y h=>CM fun d=>by
  simp only[gO];by_cases D:b=d
  .rw[ay D,ay D];rwa[show ∀q:Int,q+(x+0)-(q+(y+0))=x-y from fun q=>Rr]
  .rw[av D,av D];exact⟨0,Rr⟩
 have J:∀(a b c:Nat) (x y:Int),p∣x-y->mg p n [(a,1),(b,x),(c,x)]=mg p n [(a,1),(b,y),(c,y)]:=fun a b c x y h=>CM fun d=>by simp only[gO];have G:p∣(if b=d then x else 0)-(if b=d then y else 0):=UO;have H:p∣(if c=d then x else 0)-(if c=d then y else 0):=UO;have:=Int.dvd_add G H;rwa[show ∀q b c e f:Int,q+(b+(c+0))-(q+(e+(f+0)))=b-e+(c-f) from fun q b c e f=>Rr]
 have F:p∣p-1 - -1:=⟨1,Rr⟩;have I:p∣(p-v)%p - -v:=by have:=Int.dvd_add (zfA (p-v) p) (show p∣p from⟨1,Rr⟩);rwa[show ∀m:Int,m-(p-v)+p=m - -v from fun m=>Rr]at this
 unfold AZ Dw;split
 .simp only[m_,oQ];rw[one _ _ _ _ F,one _ _ _ _ F]
 split
 .simp only[m_,oQ];rw[J _ _ _ _ _ F]
 split
 .rfl
 split
 .simp only[m_,oQ];rw[one _ _ _ _ I]
 .rfl
theorem Ed.zaP:(e.eqns p).map (mg p n)=e.Dx.map (mg p n):=by unfold Ed.eqns Ed.Dx;split <;>exact zfr
def Gr.fq(g:Gr):Nat:=g.i.length+g.o.length
def Gr.ends(p:Int)(g:Gr):List (List Int):=(List.range g.fq).map fun k=>ku p (g.fq+g.w) [(k,1),(g.fq+(g.i++g.o).getD k 0,p-1)]
def Gr.lF(p:Int)(g:Gr):List (List Int):=g.ends p++(g.rows p).map fun r=>List.replicate g.fq 0++r
def Gr.sys(p:Int)(g:Gr):Sy:=⟨g.fq,g.w,g.lF p⟩
theorem vA(p k v:Int)(i o:bO):(AZ p k v i o).length<=2:=by
 unfold AZ
 (repeat' split) <;>simp
theorem AN{D F:Type}{f:D->List F}(h:∀a,(f a).length<=2):∀(l:List D),(l.flatMap f).length<=2*l.length
 |[]=>Rq
 |a::l=>by rw[List.flatMap_cons,bx,jc];have:=AN h l;have:=h a;omega
theorem Gr.zgk(p:Int)(g:Gr):(g.eqs p).length<=2*g.es.length:=AN (fun e=>by unfold Ed.eqns;split<;>exact vA ..) g.es
theorem zfs(s:fI p H n M):∀r∈M,r.length=n/\∀x∈r,0<=x/\x<p:=fun r h=>by have F:=s.row r h;refine⟨F,fun x G=>?_⟩;obtain⟨d,D,rfl⟩:=List.getElem_of_mem G;have:=s.zr h (d:=d) Rr;rwa[bP,dL D]at this
theorem Gr.zhw(G:cN p=true)(I:g.okB=true):(g.sys p).Ok p:=by
 have F:=(di G).1;obtain⟨ac,ad,am,ao,O,ap,R,T,a0⟩:=Gr.kg.1 I;have Y:=Gr.rO I;have V:=zfs (Cp (p:=p) (n:=g.fq+g.w) (X:=(List.range g.fq).map fun k=>[(k,1),(g.fq+(g.i++g.o).getD k 0,p-1)]) F fun L U q N=>by
  obtain⟨k,H,rfl⟩:=cM.1 U;have H:=fi.1 H;simp only[dQ,gu,gI]at N;rcases N with rfl|rfl
  .dsimp only;omega
  .have:=kS (l:=g.i++g.o) (j:=k) (by rw[bx];exact H);have a2:(g.i++g.o).getD k 0<g.w:=by
    rcases eh.1 this with D|D
    .exact R _ D
    .exact T _ D
   dsimp only;omega)
 have ab:=zfs (Gr.ze1 F O Y);have a1:(g.rows p).length<=2*g.es.length:=by unfold Gr.rows;rw[bh];exact Gr.zgk p g
 have J:∀r∈g.lF p,r.length=g.fq+g.w/\∀x∈r,0<=x/\x<p:=fun r h=>by
  unfold Gr.lF at h;rcases eh.1 h with h|h
  .refine V r ?_;unfold Gr.ends at h;rw[oP];exact h
  .obtain⟨r',Z,rfl⟩:=cM.1 h;obtain⟨c1,c2⟩:=ab r' Z;refine⟨by rw[bx,iF,c1],fun x D=>?_⟩;rcases eh.1 D with D|D
   .rw[(List.mem_replicate.1 D).2];omega
   .exact c2 x D
 unfold Gr.sys Sy.Ok;refine⟨G,F,(di G).2,SN,by dsimp only;unfold Gr.fq;omega,SN,SN,?_,fun r h=>by have:=(J r h).1;dsimp only;omega,fun r h=>(J r h).2⟩;dsimp only;unfold Gr.lF Gr.ends;rw[bx,bh,bh,fX];unfold Gr.fq;omega
end Go.Proofs.YtpieilkmmiopfaaGreatDoor
