/- Parts of the walks. Conditions: as stated with each. -/
import Derived.Test.YtdpgblncijojiaaGreatDoorPk21
namespace Go.Proofs.YtdpgblncijojiaaGreatDoor
open Go.RowKit Tryz
set_option linter.all false
variable{B D b hi k lo n r x:Nat}{P:iS}{RQ T:dG}{cs:gh}{g:Gr}{l:bX}{ps:qx}{row:Option Nat}{v v0 v1 v2 v3:au}{w w':aa}
def uo(w:aa)(B z:Nat)(P:iS):Prop:=∃lo hi,B<=lo/\hi<=(w:Nat)/\(z<lo∨hi<=z)/\Fr w lo hi P
def uo.ext(h:uo w B D P)(hb:ai w w'):uo w' B D P:=Ya
def uo.set{a:dD}(h:uo w B a.block P):uo (w.setCell a v) B a.block P:=by obtain⟨lo,hi,z,h2,D,E⟩:=h;exact⟨lo,hi,z,SG,D,E.same fun k a b=>bw _ _ _ _ RU⟩
def uo.zhm(h:uo w B D P)(I:b<B):uo (eh w b v0 v1 v2 v3) B D P:=by obtain⟨lo,hi,z,E,F,H⟩:=h;exact⟨lo,hi,z,by rw[ey];exact E,F,H.same fun k a b=>jW RU⟩
def uo.mk(h:Fr w lo hi P)(z:B<=lo)(E:hi<=(w:Nat))(F:D<lo∨hi<=D):uo w B D P:=⟨lo,hi,z,E,F,h⟩
def uo.mk4(h:Fr w lo hi P)(z:B<=lo)(E:hi<=(w:Nat))(F:D<lo∨hi<=D):uo (eh w D v0 v1 v2 v3) B D P:=⟨lo,hi,z,by rw[ey];exact E,F,h.same fun k a b=>jW RU⟩
def uo.late(h:uo w B D P)(z:dh D (D+1) w w')(J:B<=D):uo w' B D P:=by obtain⟨lo,hi,E,F,H,I⟩:=h;exact⟨lo,hi,E,bc F z.size,H,I.same fun k a b=>z.block k RU RU⟩
def uo.all(h:uo w B D P):Fr w B w P:=by obtain⟨lo,hi,z,E,H,F⟩:=h;exact F.to z E
def uo.grown(h:uo w B D P)(E:w.grownBy w' row)(J:∀g,row=some g->(w:Nat)<=g):uo w' B D P:=by obtain⟨lo,hi,F,z,H,I⟩:=h;exact⟨lo,hi,F,bc z E.size,H,I.grown E z fun g e=>by have:=J g e;omega⟩
def dh.low{a b c:aa}(h:dh lo hi a b)(k:Below a b c):dh lo hi a c:=⟨k.os.trans h.os,k.tape.trans h.tape,k.output.trans h.output,bc h.size k.size,fun i z D=>(k.block i z).trans (h.block i z D)⟩
def zfq{E:Type}{s:Nat}{F:World->E->List Value->Prop}{xs:List E}(h:bN T s F w B v xs)(I:aU w D cs RQ)(H:T≠RQ):v.ownBlock≠some D:=by
 obtain⟨cs,h⟩:=h;rcases h.outer.2 with⟨rfl,_⟩|⟨g,cap,cur,rfl,_,z,_⟩
 .simp[Value.ownBlock]
 .intro e;simp only[Value.ownBlock,dX]at e;rw[e,I]at z;simp only[dX,Obj.cells.injEq]at z;exact H z.2.1.symm
def DX(t:aG)(f:gF)(g:Gr):Prop:=∀x,g.On x->t[x]?=some ((f x:Nat):Int)
def za{t:aG}{f:gF}(h:∀x∈l,t[x]?=some ((f x:Nat):Int)):ml t (bF l)=bF (l.map f):=by
 unfold ml bF;rw[ko,ko];refine jD fun x z=>?_
 simp[h x z]
def DY{t:aG}{f:gF}(h:∀x∈l,t[x]?=some ((f x:Nat):Int)):∀i∈bF l,0<=i/\i<t.length:=fun i hi=>by obtain⟨x,z,rfl⟩:=cf.1 hi;have:=(bA.1 (h x z)).1;omega

def fy(g:Gr):List (List Nat):=[g.i,g.o]++g.es.flatMap fun e=>[e.i,e.o]
def tm(g:Gr)(x:Nat):(∃l∈fy g,x∈l)↔g.On x:=by
 unfold fy Gr.On;constructor
 .rintro⟨l,E,D⟩;rcases fc.1 E with h|h
  .simp at h;rcases h with rfl|rfl
   .exact aF D
   .exact aA (aF D)
  .obtain⟨e,z,h⟩:=vK.1 h;simp at h;rcases h with rfl|rfl
   .exact aA (aA ⟨e,z,aF D⟩)
   .exact aA (aA ⟨e,z,aA D⟩)
 .rintro(h|h|⟨e,z,h|h⟩)
  .exact⟨g.i,RS,h⟩
  .exact⟨g.o,RS,h⟩
  .exact⟨e.i,oD _ (vK.2 ⟨e,z,RS⟩),h⟩
  .exact⟨e.o,oD _ (vK.2 ⟨e,z,RS⟩),h⟩
def zfp:(prog.info? 4).map (fun i=>(i.zero,i.size,i.bytes))=some (some (.bool false),1,1):=Si
def qz(C:bX)(d:List (List Nat))(r:Nat):Bool:=d.any fun l=>l.any fun x=>decide (C.getD x 0=r)
def sS(n:Nat)(C:bX)(d:List (List Nat)):List Bool:=(List.range n).map (qz C d)
def Bn(n:Nat)(C:bX)(d:List (List Nat)):(sS n C d).length=n:=by simp[sS]
def wh(C:bX)(d:List (List Nat))(h:r<n):(sS n C d)[r]?=some (qz C d r):=by simp[sS,h]
def zf{C:bX}:qz C (fy g) r=true↔∃x,g.On x/\C.getD x 0=r:=by
 unfold qz;rw[lT];constructor
 .rintro⟨l,D,h⟩;rw[lT]at h;obtain⟨x,z,h⟩:=h;exact⟨x,(tm g x).1 ⟨l,D,z⟩,So⟩
 .rintro⟨x,z,h⟩;obtain⟨l,D,z⟩:=(tm g x).2 z;exact⟨l,D,lT.2 ⟨x,z,So⟩⟩
def zck{C:bX}(F:g.In):Ad g C r=(decide (C.getD r 0=r)&&qz C (fy g) r):=by
 rw[mY];unfold Ad;rw[bC,bC,zf,lT];constructor
 .rintro⟨D,x,E,z⟩;rw[bC,cK]at z;exact⟨D,x,Gr.jY.1 z.1,z.2⟩
 .rintro⟨D,x,E,z⟩;exact⟨D,x,et.2 (F x E),by rw[Gr.jY.2 E];simpa using z⟩
def toN(g:Gr)(C:bX)(x:Nat):Int:=if qz C (fy g) (C.getD x 0)=true then(Cj g C x:Nat) else -1
def toL(g:Gr)(C:bX):List Int:=(List.range g.w).map (toN g C)
def zcl(g:Gr)(C:bX):(toL g C).length=g.w:=by simp[toL]
def xv(C:bX)(h:x<g.w):(toL g C)[x]?=some (toN g C x):=by simp[toL,h]
def pE(g:Gr)(C:bX)(k:Nat):Nat:=((List.range k).filter (Ad g C)).length
def Cy(g:Gr)(C:bX)(k:Nat):pE g C k<=k:=by have:=List.length_filter_le (Ad g C) (List.range k);rw[g_]at this;exact this
def Bv(g:Gr)(C:bX)(k:Nat):pE g C (k+1)=pE g C k+if Ad g C k=true then 1 else 0:=DK k
def zdG{C:bX}(D:g.In):DX (toL g C) (Cj g C) g:=fun x z=>by rw[xv C (D x z)];unfold toN;rw[ay (zf.2 ⟨x,z,rfl⟩)]
def zgS{C:bX}(h:qz C (fy g) (C.getD k 0)=false):toN g C k=-1:=by unfold toN;rw[h];simp
def zgT{C:bX}(z:nZ g.w C)(D:k<g.w):toN g C k=toN g C (C.getD k 0):=by unfold toN Cj;rw[z.rep k D]
def zgU{C:bX}(h:qz C (fy g) (C.getD k 0)=true)(e:C.getD k 0=k):toN g C k=(pE g C k:Nat):=by unfold toN Cj pE;rw[ay h,e]
def zgV{C:bX}(z:g.In)(h:qz C (fy g) (C.getD k 0)=true)(e:C.getD k 0=k):pE g C (k+1)=pE g C k+1:=by rw[Bv,zck z,e];rw[e]at h;rw[h];simp
def Ea{C:bX}(z:g.In)(h:qz C (fy g) (C.getD k 0)=false∨C.getD k 0≠k):pE g C (k+1)=pE g C k:=by
 rw[Bv,zck z];rcases h with h|h
 .by_cases e:C.getD k 0=k
  .rw[e]at h;rw[h];simp
  .rw[gM e,ic];rfl
 .rw[gM h,ic];rfl
def Eb(z:g.In)(D:∀q∈ps,q.1<g.w/\q.2<g.w):iK g ps=g.map (pE g (jb g.w ps) g.w) (Cj g (jb g.w ps)):=ze3 z D
def zbJ(n:Nat):(madeCells (Value.bool false).cells (n*1)).toList=(List.replicate n false).map Value.bool:=Y3
def mn{s:Nat}:∀{cs:List (List Value)},(∀c∈cs,c.length=s)->cs.flatten.length=cs*s
 |[],_=>RS
 |c::cs,h=>by rw[sl,bQ,h c (lW ..),mn fun c z=>h c (lV _ z),lU,vI,Nat.add_comm]
def zaZ(h:g.In):DX (iota g.w) (fun x=>x) g:=fun x z=>qG (h x z)
def za0(h:g.In)(a:Nat):DX (bF (jj a g.w)) (fun x=>x+a) g:=fun x z=>fv (AP (h x z))
structure rC(g:Gr):Prop where
 inr:g.In
 w:g.w<=4096
 es:g.es.length<=4096
 i:g.i.length<=4096
 o:g.o.length<=4096
 el:∀e∈g.es,e.i.length<=4096/\e.o.length<=4096
end Go.Proofs.YtdpgblncijojiaaGreatDoor
