/- Parts of the walks. Conditions: as stated with each. -/
import Derived.Test.YtdpgblncijojiaaGreatDoorPk12
namespace Go.Proofs.YtdpgblncijojiaaGreatDoor
open Go.RowKit Tryz
set_option linter.all false
set_option maxHeartbeats 8000000
set_option maxRecDepth 100000
variable{B N N' d i j k n:Nat}{H R u:au}{g:Gr}{l:bX}{p:Int}{ps:qx}{us:bG}{w:aa}
section
variable{M:aE}
structure Rl where
 l:Nat
 r:Nat
 b:List (List Int)
def Rl.iO(p:Int)(z:Rl):Prop:=Go.Proofs.YtdpgblncijojiaaGreatDoor.iO p z.b (z.l+z.r) z.b
def zes(p:Int)(l r:Nat)(rows:aE):Rl:=⟨l,r,qy p (l+r) rows⟩
def Rl.Red(p:Int)(z:Rl):Prop:=oP p (z.l+z.r) z.b (eM z.b) (ldF z.b)
structure Rl.Ok(p:Int)(R:Rl):Prop where
 shp:R.iO p
 red:R.Red p
def zht{A B:aE}:eM (A++B) i d=if i<A.length then eM A i d else eM B (i-A.length) d:=by
 unfold eM;rw[bu (l:=A++B),List.getElem?_append];split
 .rw[bu (l:=A)]
 .rw[bu (l:=B)]
def iO.app{A B:aE}(h:iO p N n A)(h':iO p N' n B):iO p (N+N') n (A++B):=by
 refine⟨by rw[bQ,h.1,h'.1],fun i hi=>?_,fun i d hi z=>?_⟩
 .rw[bu,List.getElem?_append];split
  .rename_i hl;rw[<-bu];exact h.2.1 i TV
  .rename_i hl;rw[<-bu];have:=h.1;exact h'.2.1 _ RU
 .rw[zht];have:=h.1;split
  .exact h.2.2 i d RU z
  .exact h'.2.2 _ d RU z
def iO.gS(h:iO p N n M){r:aG}(D:r∈M)(z:d<n):0<=r.getD d 0/\r.getD d 0<p:=by obtain⟨i,hi⟩:=e_.1 D;have hl:=(bA.1 hi).1;have:=h.2.2 i d TV z;unfold eM at this;rwa[getD_some hi]at this
def zet(p:Int)(c:aG)(M:aE)(n:Nat):Nat->List Int
 |0=>List.replicate n 0
 |i+1=>dw p (c.getD i 0) (zet p c M n i) (M.getD i [])
def zi5(p:Int)(y:aG):List Int:=dw p (-1) (List.replicate y 0) y
def zir(z:Rl):List (List Int):=z.b.map fun r=>r.take z.l
def zis(z:Rl):List (List Int):=z.b.map fun r=>r.drop z.l
def zeu(p:Int)(A B:Rl):List (List Int):=zis A++(zir B).map (zi5 p)
def zev(p:Int)(A B:Rl)(c:aG):List Int:=zet p (c.take A.b) (zir A) A.l A.b++zet p (c.drop A.b) (zis B) B.r B.b
def zcQ(p:Int)(A B:Rl):List (List Int):=(zbf p A.r (zeu p A B)).map (zev p A B)
def zit(p:Int)(A B:Rl):Rl:=zes p A.l B.r (zcQ p A B)
end
def ziE(p:Int)(z:Rl):Rl:=zes p z.r z.l (z.b.map fun row=>row.drop z.l++row.take z.l)
def zgy(n:Nat):List Int:=List.replicate n 0
def zjb(A B:Rl)(row:aG):List Int:=row.take A.l++(zgy B.l++(row.drop A.l++zgy B.r))
def zjc(A B:Rl)(row:aG):List Int:=zgy A.l++(row.take B.l++(zgy A.r++row.drop B.l))
def ziF(p:Int)(A B:Rl):Rl:=zes p (A.l+B.l) (A.r+B.r) (A.b.map (zjb A B)++B.b.map (zjc A B))
section
variable{M:aE}
def zeP(h:∀r∈M,r.length=n/\∀x∈r,0<=x/\x<p):iO p M n M:=by
 refine⟨rfl,fun i hi=>(h _ (gT hi)).1,fun i d hi F=>?_⟩;obtain⟨D,E⟩:=h _ (gT hi);unfold eM;have z:d < (M.getD i []).length:=by rw[D];exact F
 rw[bu (l:=M.getD i []),dA z];exact E _ (oz z)
def zgt(k v:Int):List (List Int):=if k=3 then[[1,1,1]] else if k=4 then[[1]] else if k=5 then[[1,0,1],[0,1,1]] else if k=7 then[[1,v]] else[]
def gIn(k:Int):Nat:=if k=5 then 2 else if k=6 then 0 else 1
def zaO(k:Int):Nat:=if k=3 then 2 else if k=4 then 0 else 1
def zhI(n:Nat):List (List Int):=(xh n).map fun r=>r++r
def idR(n:Nat):Rl:=⟨n,n,zhI n⟩
def swR(p:Int):Rl:=zes p 2 2 [[1,0,0,1],[0,1,1,0]]
def ziB(p k v:Int):Rl:=zes p (gIn k) (zaO k) (zgt k v)
def ziC(p:Int)(n:Nd):Rl:=
 if n.k=1 then idR n.v.toNat else if n.k=2 then swR p else if 9<=n.k then ziE p (ziB p (n.k-6) n.v) else ziB p n.k n.v
def zb1(p:Int)(n:Nd):Prop:=dZ n=true/\n.k≠8/\n.k≠14/\(n.k=7∨n.k=13->n.v<p)
def Tm.rel(p:Int):Tm->Rl
 |.lf n=>ziC p n
 |.op k a b=>if k=15 then zit p (a.rel p) (b.rel p) else ziF p (a.rel p) (b.rel p)
def Tm.xe(p:Int):Tm->Prop
 |.lf n=>zb1 p n
 |.op _ a b=>a.xe p/\b.xe p
def zb2(J:g.In)(Q:∀q∈ps,q.1<g.w/\q.2<g.w):(iK g ps).In:=by
 have O:nZ g.w (jb g.w ps):=Cs ps _ (yY g.w) Q;intro x D;have E:∀y,g.On y->(lA g (jb g.w ps)).idxOf ((jb g.w ps).getD y 0) < (lA g (jb g.w ps)).length:=fun y z=>List.idxOf_lt_length_of_mem (DU O J z)
 unfold iK Gr.map at D ⊢;dsimp only at D ⊢;rcases D with h|h|⟨e,I,D⟩
 .obtain⟨y,z,rfl⟩:=cf.1 h;exact E y (aF z)
 .obtain⟨y,z,rfl⟩:=cf.1 h;exact E y (aA (aF z))
 .obtain⟨F,H,rfl⟩:=cf.1 I;unfold Ed.map at D;rcases D with h|h
  .obtain⟨y,z,rfl⟩:=cf.1 h;exact E y (aA (aA ⟨F,H,aF z⟩))
  .obtain⟨y,z,rfl⟩:=cf.1 h;exact E y (aA (aA ⟨F,H,aA z⟩))
def Dl(n:Nd):(gD n).In:=by
 unfold gD;split
 .rintro x (h|h|⟨e,D,_⟩)
  .exact et.1 h
  .exact et.1 h
  .simp at D
 split
 .rintro x (h|h|⟨e,D,_⟩)
  .simp at h;dsimp only;omega
  .simp at h;dsimp only;omega
  .simp at D
 .have hi:∀x,x∈List.range (pz n)->x<pz n+sN n:=fun x z=>by have:=et.1 z;omega
  have E:∀x,x∈(List.range (sN n)).map (· +pz n)->x<pz n+sN n:=fun x z=>by obtain⟨y,F,rfl⟩:=cf.1 z;have:=et.1 F;omega
  rintro x (h|h|⟨e,D,z⟩)
  .exact hi x h
  .exact E x h
  .rw[gp.1 D]at z;exact z.elim (hi x) (E x)
def AM(n:Nd)(h:dZ n=true):(gD n).i.length=pz n/\(gD n).o.length=sN n:=by
 unfold gD pz sN;split
 .simp
 split
 .simp
 .simp[pz,sN, *]
def Tm.zb3:∀{t:Tm} {c:gW},t.ty=some c->t.gr.In/\t.gr.i.length=c.1/\t.gr.o.length=c.2
 |.lf n,c,h=>by
  unfold Tm.ty at h;split at h
  .rename_i O;simp only[dX]at h;subst h;exact⟨Dl n,AM n O⟩
  .cases h
 |.op k a b,c,h=>by
  obtain⟨x,y,ad,O,D⟩:=Tm.Be h;obtain⟨H,Q,Y⟩:=Tm.zb3 ad;obtain⟨I,Z,R⟩:=Tm.zb3 O;unfold Tm.gr;unfold jl at D;by_cases e:k=15
  .rw[ay e]at D ⊢;split at D
   .rename_i am;simp only[dX]at D;subst D;refine⟨zb2 (rJ H I (fun J z=>by have:=H J (aF z);omega) (fun J z=>by
     obtain⟨F,E,rfl⟩:=cf.1 z;have:=I F (aA (aF E));omega)) (fun q U=>by
     have ab:=(pT U).1;have ac:=(pT U).2;obtain⟨F,E,e⟩:=cf.1 ac;have:=H _ (aA (aF ab));have:=I F (aF E);dsimp only;omega),?_,?_⟩
    .show(List.map _ a.gr.i).length=_
     rw[bt];exact Q
    .show(List.map _ (List.map _ b.gr.o)).length=_
     rw[bt,bt];exact R
   .cases D
  .rw[al e]at D ⊢;split at D
   .split at D
    .simp only[dX]at D;subst D;unfold o_;refine⟨rJ H I (fun J z=>?_) (fun J z=>?_),by dsimp only;rw[bQ,bt,Q,Z],by dsimp only;rw[bQ,bt,Y,R]⟩
     .rcases fc.1 z with z|z
      .have:=H J (aF z);omega
      .obtain⟨F,E,rfl⟩:=cf.1 z;have:=I F (aF E);omega
     .rcases fc.1 z with z|z
      .have:=H J (aA (aF z));omega
      .obtain⟨F,E,rfl⟩:=cf.1 z;have:=I F (aA (aF E));omega
    .cases D
   .cases D
end

def q_(p:Int):List (Nat×Int)->List Int->List Int
 |[],r=>r
 |q::L,r=>q_ p L (r.set q.1 ((r.getD q.1 0+q.2)%p))
def BK:List (Nat×Int)->Nat->Int
 |[],_=>0
 |q::L,d=>(if q.1=d then q.2 else 0)+BK L d
def zbw(q:Nat×Int)(L:vj)(d:Nat):BK (q::L) d=(if q.1=d then q.2 else 0)+BK L d:=rfl
def lG(p:Int)(n:Nat)(L:vj):List Int:=q_ p L (List.replicate n 0)
def zaa{r:aG}{a:Nat}{x:Int}(z:a<r.length):(r.set a x).getD d 0=if a=d then x else r.getD d 0:=by
 rw[bu,x_];by_cases h:a=d
 .subst h;rw[ay rfl,ay z,ay rfl];rfl
 .rw[al h,al h,bu]
def zab{p:Int}{n:Nat}(O:2<=p):∀(L:vj) (r:aG),r.length=n->(∀d,d<n->0<=r.getD d 0/\r.getD d 0<p)->(∀q∈L,q.1<n)->(q_ p L r).length=n/\∀d,d<n->(q_ p L r).getD d 0=(r.getD d 0+BK L d)%p
 |[],r,E,D,_=>⟨E,fun d z=>by unfold q_ BK;rw[pR,oC (D d z).1 (D d z).2]⟩
 |q::L,r,E,D,H=>by
  have R:=H q (lW ..);have F:∀d,(r.set q.1 ((r.getD q.1 0+q.2)%p)).getD d 0=if q.1=d then(r.getD q.1 0+q.2)%p else r.getD d 0:=fun d=>zaa RU
  obtain⟨I,J⟩:=zab O L (r.set q.1 ((r.getD q.1 0+q.2)%p)) (by rw[fP];exact E) (fun d z=>by
   rw[F];split
   .exact W_
   .exact D d z) (fun Q h'=>H Q (lV _ h'))
  refine⟨I,fun d z=>(J d z).trans ?_⟩;rw[F,zbw];split
  .rename_i h;subst h;rw[Int.emod_add_emod];congr 1;omega
  .rw[Int.zero_add]
def zt{L:vj}(H:2<=p)(I:∀q∈L,q.1<n):(lG p n L).length=n/\∀d,d<n->(lG p n L).getD d 0=BK L d%p:=by
 have D:∀d,d<n->(List.replicate n (0:Int)).getD d 0=0:=fun d z=>by rw[bu,ie,ay z];rfl
 obtain⟨E,F⟩:=zab (n:=n) H L (List.replicate n 0) RS (fun d z=>by rw[D d z];omega) I;refine⟨E,fun d z=>(F d z).trans ?_⟩;rw[D d z,Int.zero_add]
def CG(p k v:Int)(i o:bX):List (List (Nat×Int)):=
 if k=3 then[[(o.getD 0 0,1),(i.getD 0 0,p-1)],[(o.getD 1 0,1),(i.getD 0 0,p-1)]]
 else if k=5 then[[(o.getD 0 0,1),(i.getD 0 0,p-1),(i.getD 1 0,p-1)]]
 else if k=6 then[[(o.getD 0 0,1)]]
 else if k=7 then[[(o.getD 0 0,1),(i.getD 0 0,(p-v)%p)]]
 else[]
def Ed.eqns(p:Int)(e:Ed):List (List (Nat×Int)):=if 9<=e.k then CG p (e.k-6) e.v e.o e.i else CG p e.k e.v e.i e.o
def zdV{e:Ed}(h:e.mE=true):3<=e.k/\e.k<=14/\e.i.length=pz ⟨e.k,e.v,true⟩/\e.o.length=sN ⟨e.k,e.v,true⟩:=by
 unfold Ed.mE at h;simp only[bC,cK]at h;obtain⟨z,D,hi,E⟩:=h;refine⟨D,?_,hi,E⟩;unfold dZ at z;simp only[qc]at z;rw[al RU]at z;split at z
 .omega
 .simp only[bC,cK]at z;omega
def ziQ{k v:Int}{b:Bool}(z:3<=k)(D:k<=8):pz ⟨k,v,b⟩=gIn k/\sN ⟨k,v,b⟩=zaO k/\pz ⟨k+6,v,b⟩=zaO k/\sN ⟨k+6,v,b⟩=gIn k:=by have:k=3∨k=4∨k=5∨k=6∨k=7∨k=8:=RU;rcases this with rfl|rfl|rfl|rfl|rfl|rfl <;>exact⟨rfl,rfl,rfl,rfl⟩
def pH(h:j<l.length):l.getD j 0∈l:=by rw[bu,dA h];exact oz h
def zcs{k v:Int}{i o:bX}{w:Nat}(hi:gIn k<=i.length)(F:zaO k<=o.length)(Y:∀x∈i,x<w)(Z:∀x∈o,x<w):∀L∈CG p k v i o,∀q∈L,q.1<w:=by
 have E:∀j,j<i.length->i.getD j 0<w:=fun j I=>Y _ (pH I)
 have go:∀j,j<o.length->o.getD j 0<w:=fun j I=>Z _ (pH I)
 unfold CG;by_cases O:k=3
 .subst O;have J:1<=i.length:=hi;have H:2<=o.length:=F;rw[ay rfl];intro L z q D;have a:=E 0 RU;have b:=go 0 RU;have c:=go 1 RU;simp only[jh,kp,kJ]at z;rcases z with rfl|rfl <;>simp only[jh,kp,kJ]at D <;>rcases D with rfl|rfl <;>assumption
 rw[al O];by_cases Q:k=5
 .subst Q;have J:2<=i.length:=hi;have H:1<=o.length:=F;rw[ay rfl];intro L z q D;have a:=E 0 RU;have b:=E 1 RU;have c:=go 0 RU;simp only[jh,kp,kJ]at z;subst z;simp only[jh,kp,kJ]at D;rcases D with rfl|rfl|rfl <;>assumption
 rw[al Q];by_cases R:k=6
 .subst R;have H:1<=o.length:=F;rw[ay rfl];intro L z q D;have c:=go 0 RU;simp only[jh,kp,kJ]at z;subst z;simp only[jh,kp,kJ]at D;subst D;assumption
 rw[al R];by_cases U:k=7
 .subst U;have J:1<=i.length:=hi;have H:1<=o.length:=F;rw[ay rfl];intro L z q D;have a:=E 0 RU;have c:=go 0 RU;simp only[jh,kp,kJ]at z;subst z;simp only[jh,kp,kJ]at D;rcases D with rfl|rfl <;>assumption
 .rw[al U];intro L z;simp at z
def Gr.gl:g.okB=true↔g.w<=100/\g.es.length<=60/\g.i.length<=12/\g.o.length<=12/\(∀e∈g.es,e.mE=true)/\(∀x,x<g.w->g.DT x=true)/\(∀x∈g.i,x<g.w)/\(∀x∈g.o,x<g.w)/\∀e∈g.es,(∀x∈e.i,x<g.w)/\∀x∈e.o,x<g.w:=by unfold Gr.okB;simp only[bC,fp,cK]
def Gr.eqs(p:Int)(g:Gr):List (List (Nat×Int)):=g.es.flatMap (Ed.eqns p)
def Gr.rows(p:Int)(g:Gr):List (List Int):=(g.eqs p).map (lG p g.w)
def Gr.zfk(h:∀e∈g.es,e.mE=true)(O:g.In):∀L∈g.eqs p,∀q∈L,q.1<g.w:=by
 intro L z;unfold Gr.eqs at z;obtain⟨e,F,z⟩:=vK.1 z;obtain⟨U,Y,I,J⟩:=zdV (h e F);have Q:∀x∈e.i,x<g.w:=fun x H=>O x (aA (aA ⟨e,F,aF H⟩))
 have R:∀x∈e.o,x<g.w:=fun x H=>O x (aA (aA ⟨e,F,aA H⟩))
 unfold Ed.eqns at z;split at z
 .obtain⟨_,_,D,E⟩:=ziQ (k:=e.k-6) (v:=e.v) (b:=true) RU RU;rw[show e.k-6+6=e.k by omega]at D E;exact zcs (by rw[J,E];exact ag _) (by rw[I,D];exact ag _) R Q L z
 .obtain⟨D,E,_,_⟩:=ziQ (k:=e.k) (v:=e.v) (b:=true) RU RU;exact zcs (by rw[I,D];exact ag _) (by rw[J,E];exact ag _) Q R L z
def Bh{X:List (List (Nat×Int))}(E:2<=p)(h:∀L∈X,∀q∈L,q.1<n):iO p X n (X.map (lG p n)):=by
 have:=zeP (p:=p) (n:=n) (M:=X.map (lG p n)) fun r I=>by obtain⟨L,F,rfl⟩:=cf.1 I;obtain⟨z,D⟩:=zt E (h L F);refine⟨z,fun x J=>?_⟩;obtain⟨d,H,rfl⟩:=List.getElem_of_mem J;have:=D d RU;rw[bu,dA H,xP]at this;rw[this];exact W_
 rwa[bt]at this
def Gr.zfl(z:2<=p)(h:∀e∈g.es,e.mE=true)(D:g.In):iO p (g.eqs p) g.w (g.rows p):=Bh z (Gr.zfk h D)

def Gr.xe(p:Int)(g:Gr):Prop:=∀e∈g.es,e.mE=true/\zb1 p ⟨e.k,e.v,true⟩
section
variable{p:Int}{g:Gr}{A B:Rl}{X Y W:aG}
end
section
variable{M:aE}
def Gr.jM(g:Gr):Nat:=g.i.length+g.o
def Gr.ends(p:Int)(g:Gr):List (List Int):=(List.range g.jM).map fun k=>lG p (g.jM+g.w) [(k,1),(g.jM+(g.i++g.o).getD k 0,p-1)]
def Gr.mQ(p:Int)(g:Gr):List (List Int):=g.ends p++(g.rows p).map fun r=>List.replicate g.jM 0++r
def Gr.sys(p:Int)(g:Gr):Sy:=⟨g.jM,g.w,g.mQ p⟩
def yR(p k v:Int)(i o:bX):(CG p k v i o).length<=2:=by
 unfold CG
 (repeat' split) <;>simp
def yS{z D:Type}{f:z->List D}(h:∀a,(f a).length<=2):∀(l:List z),(l.flatMap f).length<=2*l
 |[]=>RS
 |a::l=>by rw[List.flatMap_cons,bQ,lU];have:=yS h l;have:=h a;omega
def Gr.zgM(p:Int)(g:Gr):(g.eqs p).length<=2*g.es:=yS (fun e=>by unfold Ed.eqns;split<;>exact yR ..) g.es
def zfd(s:iO p N n M):∀r∈M,r.length=n/\∀x∈r,0<=x/\x<p:=fun r z=>by have E:=s.row r z;refine⟨E,fun x F=>?_⟩;obtain⟨d,D,rfl⟩:=List.getElem_of_mem F;have:=s.gS z (d:=d) RU;rwa[bu,dA D]at this
def Gr.zfe(F:dr p=true)(h:g.okB=true):(g.sys p).Ok p:=by
 have E:=(eY F).1;obtain⟨ad,am,ao,ap,O,a0,Q,R,a1⟩:=Gr.gl.1 h;have Z:=Gr.lE h;have Y:=zfd (Bh (p:=p) (n:=g.jM+g.w) (X:=(List.range g.jM).map fun k=>[(k,1),(g.jM+(g.i++g.o).getD k 0,p-1)]) E fun L U q J=>by
  obtain⟨k,H,rfl⟩:=cf.1 U;have H:=et.1 H;simp only[jh,kp,kJ]at J;rcases J with rfl|rfl
  .dsimp only;omega
  .have:=pH (l:=g.i++g.o) (j:=k) (by rw[bQ];exact H);have a3:(g.i++g.o).getD k 0<g.w:=by
    rcases fc.1 this with D|D
    .exact Q _ D
    .exact R _ D
   dsimp only;omega)
 have ac:=zfd (Gr.zfl E O Z);have a2:(g.rows p).length<=2*g.es:=by unfold Gr.rows;rw[bt];exact Gr.zgM p g
 have I:∀r∈g.mQ p,r.length=g.jM+g.w/\∀x∈r,0<=x/\x<p:=fun r z=>by
  unfold Gr.mQ at z;rcases fc.1 z with z|z
  .refine Y r ?_;unfold Gr.ends at z;rw[ko];exact z
  .obtain⟨r',ab,rfl⟩:=cf.1 z;obtain⟨c1,c2⟩:=ac r' ab;refine⟨by rw[bQ,kj,c1],fun x D=>?_⟩;rcases fc.1 D with D|D
   .rw[(xX.1 D).2];omega
   .exact c2 x D
 unfold Gr.sys Sy.Ok;refine⟨F,E,(eY F).2,Tg,by dsimp only;unfold Gr.jM;omega,Tg,Tg,?_,fun r z=>by have:=(I r z).1;dsimp only;omega,fun r z=>(I r z).2⟩;dsimp only;unfold Gr.mQ Gr.ends;rw[bQ,bt,bt,g_];unfold Gr.jM;omega
end
def yH(a b:Int)(w:aa):aw 130 (bP a b) w fun e w'=>e=.returned (zI (max a b))/\w=w':=by
 by_cases h:b<=a
 .rw[Int.max_eq_left h];rcases Int.lt_or_eq_of_le h with z|rfl
  all_goals
   go_enter func130,ntmps130
   go_wp2;go_ret
   exact⟨rfl,rfl⟩
 .have z:a<b:=RU;rw[Int.max_eq_right RU];go_enter func130,ntmps130
  exact WY
def wR(a b:Int)(w:aa):aw 151 (bP a b) w fun e w'=>e=.returned (zI (min a b))/\w=w':=by
 by_cases h:a<=b
 .rw[Int.min_eq_left h];rcases Int.lt_or_eq_of_le h with z|rfl
  all_goals
   go_enter func151,ntmps151
   go_wp2;go_ret
   exact⟨rfl,rfl⟩
 .have z:b<a:=RU;rw[Int.min_eq_right RU];go_enter func151,ntmps151
  exact WY
def iR{z:Type}(xs:List z):Nat->List z
 |0=>xs
 |k+1=>match (iR xs k)[k]?,(iR xs k)[xs.length-1-k]? with
  |some x,some y=>((iR xs k).set k y).set (xs.length-1-k) x
  |_,_=>iR xs k
def rM{z:Type}(xs:List z):∀k,(iR xs k).length=xs
 |0=>rfl
 |k+1=>by have:=rM xs k;unfold iR;split <;>simp[this]
def BL{I:Type}(xs:List I):∀(k:Nat),2*k<=xs.length->∀i,i<xs.length->(iR xs k)[i]?=if i<k∨xs.length-1-i<k then xs[xs.length-1-i]? else xs[i]?
 |0,_,i,_=>by simp[iR]
 |k+1,h,i,hi=>by
  have ih:=BL xs k RU;have J:=rM xs k;obtain⟨x,F⟩:=aB (RU:k < (iR xs k).length);obtain⟨y,H⟩:=aB (RU:xs.length-1-k < (iR xs k));have e:iR xs (k+1)=((iR xs k).set k y).set (xs.length-1-k) x:=by
   show(match (iR xs k)[k]?,(iR xs k)[xs.length-1-k]? with|some x,some y=>((iR xs k).set k y).set (xs.length-1-k) x|_,_=>iR xs k)=_
   rw[F,H]
  rw[e,ld F H];unfold sw;by_cases z:i=xs.length-1-k
  .rw[ay z,ih k RU,al RU,ay RU];congr 1;omega
  .rw[al z];by_cases D:i=k
   .rw[ay D,ih _ RU,al RU,ay RU];congr 1;omega
   .rw[al D,ih i hi];by_cases E:i<k∨xs.length-1-i<k
    .rw[ay E,ay RU]
    .rw[al E,al RU]
def zd5{D:Type}(xs:List D)(k:Nat)(h:2*k<=xs.length)(E:xs.length<=2*k+1):iR xs k=xs.reverse:=by
 apply fu;intro i;by_cases hi:i<xs.length
 .rw[BL xs k h i hi,List.getElem?_reverse hi];by_cases z:i<k∨xs.length-1-i<k
  .rw[ay z]
  .rw[al z];congr 1;omega
 .rw[fQ (by rw[rM];omega),fQ Sk]
def zy{z:Type}{xs:List z}{x y:z}(D:(iR xs k)[k]?=some x)(E:(iR xs k)[xs.length-1-k]?=some y):iR xs (k+1)=((iR xs k).set k y).set (xs.length-1-k) x:=by
 show(match (iR xs k)[k]?,(iR xs k)[xs.length-1-k]? with|some x,some y=>((iR xs k).set k y).set (xs.length-1-k) x|_,_=>iR xs k)=_
 rw[D,E]
def lk(w:aa)(g o:Nat)(x:cS)(u:au):World:=
 ((((w.setCell ⟨g,o,none⟩ (zI x.k)).setCell ⟨g,o+1,none⟩ (zI x.a)).setCell ⟨g,o+2,none⟩ (zI x.b)).setCell ⟨g,o+3,none⟩ (zI x.c)).setCell ⟨g,o+4,none⟩ u
def tH{g cap:Nat}{xs:List cS}(Q:n=xs.length)(O:us.length=xs)(h:w.ownsRow B 29 5 (.slice (aY g) n cap) n (fS xs us))(J:k<n)(x:cS)(u:au):(lk w g (k*5) x u).ownsRow B 29 5 (.slice (aY g) n cap) n (fS (xs.set k x) (us.set k u))/\w.grownBy (lk w g (k*5) x u) (some g):=by subst Q;have z:=h.stored (k*5) (zI x.k);have D:=z.1.stored (k*5+1) (zI x.a);have E:=D.1.stored (k*5+2) (zI x.b);have F:=E.1.stored (k*5+3) (zI x.c);have H:=F.1.stored (k*5+4) u;have I:=bx (bx (bx (bx z.2 D.2) E.2) F.2) H.2;refine⟨?_,I⟩;have:=H.1;rw[vS x u O J]at this;exact this
def pJ{g cap:Nat}{xs:List cS}{x:cS}(h:w.ownsRow B 29 5 (.slice (aY g) n cap) n (fS xs us))(I:k<n)(H:xs[k]?=some x)(F:us[k]?=some u):(ah w g (k*5) (zI x.k)/\ah w g (k*5+1) (zI x.a)/\ah w g (k*5+2) (zI x.b)/\ah w g (k*5+3) (zI x.c)/\ah w g (k*5+4) u)/\(w.frozen? ⟨g,k*5,none⟩=false/\w.frozen? ⟨g,k*5+1,none⟩=false/\w.frozen? ⟨g,k*5+2,none⟩=false/\w.frozen? ⟨g,k*5+3,none⟩=false/\w.frozen? ⟨g,k*5+4,none⟩=false):=by
 have D:∀j,j<5->w.cell? ⟨g,k*5+j,none⟩=(dq x u)[j]?:=fun j E=>by rw[h.cellAt _ RU,nn E H F]
 have z:=h.frozenAt;exact⟨⟨D 0 RX,D 1 RX,D 2 RX,D 3 RX,D 4 RX⟩,⟨z _,z _,z _,z _,z _⟩⟩
def bq.swap{g cap:Nat}{xs:List cS}{D z:cS}(ab:n=xs.length)(h:bq w B (.slice (aY g) n cap) xs us)(hi:us[i]?=some H)(hj:us[j]?=some R)(Q:xs[i]?=some D)(U:xs[j]?=some z):bq (lk (lk w g (i*5) z R) g (j*5) D H) B (.slice (aY g) n cap) ((xs.set i z).set j D) ((us.set i R).set j H)/\w.grownBy (lk (lk w g (i*5) z R) g (j*5) D H) (some g):=by
 subst ab;have Y:=(bA.1 Q).1;have Z:=(bA.1 U).1;have E:=tH rfl h.len h.outer Y z R;have F:=tH (xs:=xs.set i z) (us:=us.set i R) RS Sn E.1 Z D H;refine⟨⟨Sn,by simpa using F.1,fun k u r hu O=>?_,fun k l u u' b hu Eu hb Gd=>?_⟩,bx E.2 F.2⟩
 .rw[ld hi hj]at hu;rw[ld Q U]at O;have J:=h.each _ u r hu O;have I:=iI RX J h.outer;exact ar.kept (ar.kept J E.2 I) F.2 I
 .exact XJ
def zcF(B:Nat)(A:an)(cap:Nat)(xs:List cS)(w:aa)(e:Ending)(w':aa):Prop:=
 e=.returned (.tuple #[])/\cB w' B (.slice A xs cap) xs.reverse/\w.grownBy w' (Value.slice A xs cap).ownBlock
def zie(B g cap:Nat)(xs:List cS)(w:aa)(k:Nat)(wr:aa):Prop:=
 2*k<=xs.length/\(∃us,bq wr B (.slice (aY g) xs cap) (iR xs k) us)/\w.grownBy wr (some g)
def CJ(B:Nat)(A:an)(cap:Nat)(xs:List cS)(w:aa)(h:cB w B (.slice A xs cap) xs)(bv:xs.length<=1048576):aw 92 (bL A xs cap) w (zcF B A cap xs w):=by
 by_cases bb:xs.length<=1
 .have ba:=zH (show xs.reverse=xs by
   match xs,bb with
   |[],_=>rfl
   |[x],_=>rfl)
  have a8:=zH h;clear h;go_enter func92,ntmps92
  go_wp2;go_loopw [2,3] (fun i j wr=>i=.int .i64 0/\j=.int .i64 ((xs:Int)-1)/\wr=w) (fun _ _ _=>0)
  case atStart=>exact⟨rfl,rfl,rfl⟩
  case round=>
   obtain⟨rfl,rfl,rfl⟩:=hrel;go_wp2;go_end0
   exact⟨rfl,by rw[ba.o];exact a8,zo _ _⟩
 .obtain⟨us,O⟩:=h;obtain⟨g,bm,a7,bo,bp⟩:=kG O.outer RU;simp only[fO]at a7;obtain⟨rfl,-,rfl⟩:=a7;have Y:=zH O;clear O;go_enter func92,ntmps92
  go_wp2;go_loopw [2,3] (fun i j wr=>∃(k:Nat) (q:Int),i=.int .i64 k/\j=.int .i64 q/\Hd (q=(xs:Int)-1-k)/\zie B g cap xs w k wr) (fun i _ _=>xs.length-(intOf i).toNat)
  case atStart=>exact⟨0,_,rfl,rfl,zH RS,RU,⟨us,Y.o⟩,zo _ _⟩
  case round=>
   obtain⟨k,q,rfl,rfl,HQ,be,⟨vs,ao⟩,ab⟩:=hrel;clear Y;obtain⟨F,U⟩:=bS ao ab;clear ao ab;by_cases br:(k:Int)<q
   .obtain⟨j,ac⟩:∃j:Nat,j=xs.length-1-k:=⟨_,rfl⟩;have bi:q=(j:Int):=by have:=HQ.o;omega
    subst bi;have IH:j<xs.length:=RU;have I:k<xs.length:=RU;have HJ:=zH ac;clear ac;have D:=zH (rM xs k);obtain⟨xi,Q⟩:=aB (by rw[D.o];exact I:k < (iR xs k).length);obtain⟨xj,R⟩:=aB (by rw[D.o];exact IH:j < (iR xs k).length);obtain⟨bz,a5,ad⟩:=F.get Q;obtain⟨b5,a6,am⟩:=F.get R;obtain⟨Ai,ci,rfl,_⟩:=ad.view;obtain⟨Aj,cj,rfl,_⟩:=am.view;obtain⟨IK,IG,Z,IJ⟩:=fU Q R a5 a6;clear Q R a5 a6 ad am;go_wp2;refine vG (S:=fun _=>True) Si trivial (fun hHeld=>?_);obtain⟨W0,GI⟩:=aO wr.drew;rw[<-GI];have z:ai wr W0:=UT;obtain⟨H,GL⟩:=bS (F.ext z) (bx U.o ((⟨z.os,z.tape,z.output,z.size,fun k bd _=>z.block k bd⟩:World.grownBy wr W0 (some g))));clear z GI;have E:=H.o.outer;rw[D.o]at E;obtain⟨⟨a0,a1,a2,a3,a4⟩,⟨f0,f1,f2,f3,f4⟩⟩:=pJ E I IK Z.o;obtain⟨⟨b0,b1,b2,b3,b4⟩,_⟩:=pJ E IH IG IJ;have ap:=tH D.o.symm H.o.len E I xj (.slice Aj xj.row cj);have GH:=zH ap.1;have J:=H.o.swap D.o.symm Z.o IJ IK IG;obtain⟨EV,IE⟩:=bS J.1 J.2;clear E ap J;refine cW 0 ?_;refine cW 1 ?_;refine cW 2 ?_;refine cW 3 ?_;refine cW 4 ?_;refine cW 5 ?_;refine cW 6 ?_;refine cW 8 ?_;refine cW 9 ?_;refine cW 10 ?_;refine cq (rs:=[7,11]) Si RS ?_;refine di rfl (fun K hK=>?_) (di rfl (fun K hK=>?_) cv)
    .go_simp;refine hK.out _ _ Sh (fun hHeld=>?_);clear hK K;try simp only[Act.put,zA]
     refine cq (rs:=[11]) Si RS ?_;exact Z4
    .go_simp;refine hK.out _ _ Sh (fun hHeld=>?_);clear hK K;try simp only[Act.put,zA]
     refine cq (rs:=[7]) Si RS ?_;exact Z4
   .have a9:=zH (show xs.length<=2*k+1 by have:=HQ.o;omega);go_wp2;go_end0
    have:=F.o;rw[zd5 xs k be a9]at this;exact⟨rfl,⟨_,this⟩,U.o⟩
def zh3(p v h a b c:Int)(A:an)(cap:Nat)(rows:aE)(w:aa)(bi:an)(n b5:Nat)(bp:aX w A rows)(d6:rows.length<=160)(Et:∀r∈rows,r.length<=1000)(bv:1<=p)(bz:p<=1000)(c9:0<=a)(da:a<rows.length)(hb:0<=b)(dc:b<rows.length)(db:a≠b)(a4:0<=c)(cF:c<=1000)(hx:∀r∈rows,∀x∈r,0<=x/\x<=1000)(m:Nat)(a5:∀r∈rows,r.length=m):aw 37 (dR p (ae v h A rows cap) (j7 a b c bi n b5)) w fun e w'=>∃u,e=.returned (.agg (dE v h u))/\aJ w' w u (rows.set b.toNat (dw p c (rows.getD b.toNat []) (rows.getD a.toNat [])))/\ai w w':=by
 obtain⟨D,EU⟩:=aB (RU:a.toNat<rows.length);obtain⟨z,Fa⟩:=aB (RU:b.toNat<rows.length);obtain⟨b7,ca,ck,cn,ab⟩:=lv (T1:rows.getD a.toNat []=D) (T0:rows.getD b.toNat []=z) (show ∀x∈D,0<=x/\x<=1000 from hx D (a_ EU)) (show ∀x∈z,0<=x/\x<=1000 from hx z (a_ Fa)) (by rw[a5 D (a_ EU),a5 z (a_ Fa)]:z.length=D);have d9:D.length<=1000:=Et D (a_ EU);clear hx a5;obtain⟨cc,ce⟩:=bS (RU:rows.length<=1048576) (show ∀r∈rows,r.length<=1048576 from fun r hr=>Uf);go_enter func37,m8
 go_wp2_with fail
 refine(iF _ _ _ _ _ _ (bp.ext (((aj _ _).alloc RS _ |>.alloc RS _).alloc SJ _)) cc ce).mono ?_;rintro e H ⟨u,rfl,⟨us,hu⟩,a2⟩;obtain⟨Y,ET,rfl,_,_,_⟩:=aJ.view ⟨us,hu⟩;obtain⟨b2,ap,a0⟩:=cA w (.cells (ae v h A rows cap) 26) (.cells (j7 a b c bi n b5) 29) (.cells aQ 26);have c0:=a2.size;simp only[cg]at c0;go_upto_region 2 with(fail)
 obtain⟨I,En⟩:=aO (H.alloc (.cells (ae v h Y rows ET) 26));rw[<-En];have a3:ai H I:=Wc;have ea:(I:Nat)=H+1:=SH;have Z:=cC a2 a3;have a9:aU I H (ae v h Y rows ET) 26:=UF;have b0:=cD Z b2;have a8:=cD Z ap;have b1:=cD Z a0;have E5:bh I ((w:Nat)+3) (.slice Y rows ET) rows us:=(hu.ext a3).mono RS;have c4:∀g',Y=some ⟨g',0,none⟩->g' < (H:Nat):=fun g' e=>VT
 have Q:∀(k:Nat) (x:au),us[k]?=some x->∀b,x.ownBlock=some b->b < (H:Nat):=fun k x hx b hb=>Wy
 have br:ai w I:=(below_alloc3 w _ _ _).trans (Z.mono SJ);clear hu a2 a3 Z bp Et b2 ap a0 En;obtain⟨ei,E6,a6⟩:=E5.get EU;obtain⟨ej,FZ,ad⟩:=E5.get Fa;obtain⟨g,cI,d0,d4⟩:∃g,Y=some ⟨g,0,none⟩/\(w:Nat)+3<=g/\g < (I:Nat):=ks E5 RU;subst cI;obtain⟨bd,bm,rfl,bo,_⟩:=a6.view;obtain⟨U,J,rfl,_,_⟩:=ad.view;have b6:ah I g a.toNat (.slice bd D bm):=VW;have bb:ah I g b.toNat (.slice U z J):=Wd;obtain⟨y0,y1,y2,y3,y4⟩:=bH a8;obtain⟨b3,b4,ba⟩:=aq a9;have b8:=zH (fun O F (cy:(Value.slice bd D bm).ownBlock=some O) (cz:(Value.slice U z J).ownBlock=some F)=>show O≠F from fun e=>by have:=E5.apart _ _ _ _ O E6 FZ cy (by rw[e];exact cz);omega)
 obtain⟨ci,b9,cj,a1,ch,cb,co,cr,ct,cu,be,Fx⟩:=zO E5 br FZ ad a6 bo b0 a8 b1 a9 (Q _ _ FZ) (fA E5.outer ad);clear E5 br E6 FZ a6 ad EU Fa bo c4 Q b0 a8 b1 a9;go_wp2;go_loopw [84] (fun i wr=>∃k:Nat,k<=D.length/\i=.int .i64 k/\wr.ownsRow ((w:Nat)+3) 3 1 (.slice U z J) z ((qO p c z D k).map (Value.int .i64))/\I.grownBy wr (Value.slice U z J).ownBlock)
  (fun i _=>D.length-(intOf i).toNat)
 case atStart=>exact⟨0,bf _,rfl,by rw[yZ];exact a1,⟨rfl,rfl,rfl,ag _,fun _ _ _=>rfl⟩⟩
 case round=>
  obtain⟨k,d5,rfl,R,E⟩:=hrel;by_cases ac:k<D.length
  .have cR:k<z.length:=by have:=ab.o;omega
   obtain⟨y,ao⟩:=aB ac;obtain⟨x,hx⟩:=aB cR;obtain⟨F,rfl,d2,_⟩:=kD a1 RU;obtain⟨O,rfl,d1,_⟩:=kD ch RU;have d3:=be F rfl;have d7:g≠F:=XF;have d8:O≠F:=b8 O F rfl rfl;have t2:ah wr ((w:Nat)+1) 2 (zI b):=E.cell y2 UL;have t3:ah wr ((w:Nat)+1) 3 (zI c):=E.cell y3 UL;have t5:ah wr H 2 (.slice (aY g) rows ET):=E.cell ba UL;have t6:ah wr g b.toNat (.slice (aY F) z J):=E.cell bb UL;have t7:ah wr O k (zI y):=by
    rcases cb.o with h|⟨c8,eg,h,a4⟩
    .rw[h]at ac;simp at ac
    .simp only[dX,su]at h;obtain⟨rfl,rfl,_⟩:=h;have:=a4 k y ao;rw[iw]at this;exact E.cell this UL
   have dl:ah wr F k (zI x):=by rw[R.cellAt k RU,cp,Bl _ _ _ _ _ ac ab,hx];rfl
   have dT:=R.frozenAt k;obtain⟨ap,a0⟩:=cn x (a_ hx);obtain⟨c6,c7⟩:=ck y (a_ ao);have c5:=ir (y*c) (RU:p≠0);have eb:=iu (y*c) (RU:0<p);have a7:(x+y*c)%p=(x+c*y)%p:=by rw[kh]
   have am:=R.stored k (zI ((x+y*c)%p));rw[a7,<-h_,Bm _ _ _ _ _ _ _ hx ao,<-a7]at am;obtain⟨HS,HG⟩:=bS am.1 (bx E am.2);clear am hx ao R E b3 b4 ba y0 y1 y2 y3 y4 b6 bb a7;go_wp2_with fail
   refine bJ (S:=fun W=>ah W ((w:Nat)+1) 2 (zI b)/\ah W ((w:Nat)+1) 3 (zI c)/\ah W H 2 (.slice (aY g) rows ET)/\ah W g b.toNat (.slice (aY F) z J)/\ah W F k (zI x)) 24 Si R4 (fun hHeld=>?_);refine aC 0 ?_;refine aC 1 ?_;refine aC 2 ?_;refine aC 3 ?_;refine aC 4 ?_;refine aC 5 ?_;refine aC 6 ?_;refine aC 7 ?_;refine aC 8 ?_;refine aC 9 ?_;refine aC 10 ?_;refine aC 11 ?_;refine aC 12 ?_;refine aC 13 ?_;refine aC 14 ?_;refine aC 15 ?_;refine aC 16 ?_;refine aC 17 ?_;refine aC 18 ?_;refine aC 19 ?_;refine aC 20 ?_;refine bM 21 fun K hK=>?_
   go_simp;refine(rH p y c _ bv bz c6 c7 a4 cF).mono ?_;rintro e w' ⟨rfl,rfl⟩;go_simp;refine hK.out _ _ (fun _=>hHeld) (fun hHeld=>?_);clear hK K;try simp only[Act.put,zA]
   have hHeld:=hHeld RX;refine bM 22 fun K hK=>?_
   go_simp;refine(Bf p x (y*c%p) _ bv bz ap a0 c5 RU).mono ?_;rintro e w' ⟨rfl,rfl⟩;go_simp;refine hK.out _ _ (fun _=>hHeld) (fun hHeld=>?_);clear hK K;try simp only[Act.put,zA]
   have hHeld:=hHeld RX;refine bM 23 fun K hK=>?_
   go_simp;refine hK.out _ _ (fun _=>hHeld) (fun hHeld=>?_);clear hK K;try simp only[Act.put,zA]
   have hHeld:=hHeld RX;refine bM 24 fun K hK=>?_
   go_simp;refine hK.out _ _ (fun h=>absurd h RX) (fun _=>?_);clear hK K;try simp only[Act.put,zA]
   refine eC Si ?_ _;exact YA
  .have F0:∀b,(Value.slice U z J).ownBlock=some b->(w:Nat)+3<=b/\b < (H:Nat):=fun b hb=>⟨(bZ a1 b hb).1,be b hb⟩
   have GZ:=(E.block H RU (fun e=>UK)).trans cu;have GY:=(E.block w RU (fun e=>UK)).trans co;have G4:=(E.block ((w:Nat)+1) RU (fun e=>UK)).trans cr;have G0:=(E.block ((w:Nat)+1+1) RU (fun e=>UK)).trans ct;have cO:k=D.length:=RU;subst cO;have Q:=ci.inner (r':=dw p c z D) cj E (by
    unfold ar;rw[show(dw p c z D).length=z by simp[dw,ab.o],<-Bk p c z D ab D (ag _)];exact R)
   rw[<-b7.o,<-ca.o]at Q;have HO:=zH (show aJ wr ((w:Nat)+3) (.slice (aY g) rows ET) (rows.set b.toNat (dw p c (rows.getD b.toNat []) (rows.getD a.toNat []))) by exact⟨_,Q⟩)
   have HE:=zH (b9.grown E RU fun b hb=>Ui);clear R E F0 Q b3 b4 ba y0 y1 y2 y3 y4 b6 bb;exact ZO
def uU(A A2:an)(cap z:Nat)(xs ys:aG)(w:aa)(h:aT w A xs)(h2:aT w A2 ys)(E:xs.length<=maxLen)(F:ys.length<=maxLen):aw 57 (rV A xs cap A2 ys z) w (fC w (decide (xs=ys))):=by
 unfold maxLen at E F;by_cases hn:xs.length=ys
 .have D:((xs:Int)!=(ys:Int))=false:=R_;have Hn:=zH hn;clear hn;go_enter func57,ntmps57
  exact Z3
 .have D:((xs:Int)!=(ys:Int))=true:=Sk;go_enter func57,ntmps57
  exact XH
def sY(A A2:an)(cap bb:Nat)(xs ys:aE)(w:aa)(h:aX w A xs)(ad:aX w A2 ys)(bm:xs.length<=maxLen)(bo:ys.length<=maxLen)(a8:∀r∈xs,r.length<=maxLen)(a9:∀r∈ys,r.length<=maxLen):aw 38 (rV A xs cap A2 ys bb) w (fC w (decide (xs=ys))):=by
 unfold maxLen at bm bo;by_cases hn:xs.length=ys
 .have bi:((xs:Int)!=(ys:Int))=false:=R_;have U:=zH hn;clear hn;go_enter func38,ntmps38
  go_wp2;go_loopw [13] (fun i wr=>∃k:Nat,k<=xs.length/\i=.int .i64 k/\xs.take k=ys.take k/\ai w wr) (fun i _=>xs.length-(intOf i).toNat)
  case atStart=>exact⟨0,bf _,rfl,RS,aj _ _⟩
  case round=>
   obtain⟨k,br,rfl,am,D⟩:=hrel;have R:=zH am;clear am;by_cases a6:k<xs.length
   .have a7:k<ys.length:=by have:=U.o;omega
    obtain⟨x,E⟩:=aB a6;obtain⟨y,F⟩:=aB a7;obtain⟨b,o,rfl,ao⟩:=(h.ext D).here a6;obtain⟨ba,bp,rfl,ap⟩:=(ad.ext D).here a7;obtain⟨A3,bd,a0,a2⟩:=ao k x E;obtain⟨J,be,a1,a4⟩:=ap k y F;have c1:∀W:Ext wr,ah W.W b (o+k) (.slice A3 x bd):=fun W=>W.cell a0
    have c2:∀W:Ext wr,ah W.W ba (bp+k) (.slice J y be):=fun W=>W.cell a1
    have a3:∀W:Ext wr,aT W.W A3 x:=fun W=>a2.ext W.ok
    have a5:∀W:Ext wr,aT W.W J y:=fun W=>a4.ext W.ok
    obtain⟨O,Q,ab,ac,Y,Z⟩:=mA a3 a5 (a8 x (a_ E)) (a9 y (a_ F)) E F;clear E F ao ap h ad a8 a9 a2 a4 a3 a5 a0 a1;by_cases z:x=y
    .obtain⟨H,I⟩:=bS (iy z) z;clear z;go_wp2;refine bV Si Si ?_
     repeat (go_big_quiet_step ((go_at_call 57;exact Calls.eJ (Calls.bl (uU _ _ _ _ _ _ _ (O.o _) (Q.o _) ab ac) H.o))))
     refine dF ?_;rintro _ ⟨W,rfl⟩;go_wp2;go_roundw
     case rel=>exact⟨k+1,RU,RW,pq R.o Y.o (by rw[I.o];exact Z.o),af D W.ok⟩
     case measure=>simp[intOf];omega
    .obtain⟨H,I⟩:=bS (gM z) z;clear z;go_wp2;refine bV Si Si ?_
     repeat (go_big_quiet_step ((go_at_call 57;exact Calls.eJ (Calls.bl (uU _ _ _ _ _ _ _ (O.o _) (Q.o _) ab ac) H.o))))
     refine dF ?_;rintro _ ⟨W,rfl⟩;go_wp2;go_ret
     exact⟨aS (gM (zeG Y.o Z.o I)).symm,af D W.ok⟩
   .go_wp2;go_ret
    exact⟨aS (iy (tf R.o RU (by have:=U.o;omega))).symm,D⟩
 .have bi:((xs:Int)!=(ys:Int))=true:=Sk;go_enter func38,ntmps38
  exact XH
end Go.Proofs.YtdpgblncijojiaaGreatDoor
