/- Parts of the walks. Conditions: as stated with each. -/
import Derived.Test.YtdpgblncijojiaaGreatDoorPk5
namespace Go.Proofs.YtdpgblncijojiaaGreatDoor
open Go.RowKit Tryz
set_option linter.all false
set_option maxHeartbeats 4000000
variable{D N c i j k n r x:Nat}{RF:gF}{RI:Nat->Int}{iv p:Int}{l:bX}
def uq(p b:Int)(A1 A2:an)(cap z:Nat)(w:aa):aw 147 #[p,.slice A1 0 cap,b,.slice A2 0 z] w fun e w'=>e=.returned (.tuple #[])/\w'=w:=by
 go_enter func147,ntmps147
 go_wp2;go_loopw [12] (fun i wr=>i=.int .i64 0/\wr=w) (fun _ _=>0)
 case atStart=>exact⟨rfl,rfl⟩
 case round=>
  obtain⟨rfl,rfl⟩:=hrel;go_wp2;go_end0
  exact⟨rfl,rfl⟩
def zdz(a b c p v h:Int)(A:an)(cap:Nat)(rows:aE)(w:aa)(a7:aX w A rows)(c4:rows.length<=160)(Et:∀r∈rows,r.length<=1000)(c5:1<=p)(c6:p<=1000)(cu:0<=a)(cy:a<rows.length)(hb:0<=b)(cF:b<rows.length)(cz:a≠b)(cI:0<=c)(cO:c<=1000)(hx:∀r∈rows,∀x∈r,0<=x/\x<=1000)(am:∀r∈rows,r.length=0):aw 214 (eQ (fB a b c) p (ae v h A rows cap)) w fun e w'=>∃u,e=.returned (.agg (dE v h u))/\aJ w' w u (rows.set b.toNat (dw p c (rows.getD b.toNat []) (rows.getD a.toNat [])))/\ai w w':=by
 obtain⟨a0,EU⟩:=aB (RU:a.toNat<rows.length);obtain⟨a1,Fa⟩:=aB (RU:b.toNat<rows.length);obtain⟨bz,b1⟩:=bS (T1:rows.getD a.toNat []=a0) (T0:rows.getD b.toNat []=a1);obtain rfl:a0=[]:=eS (am a0 (a_ EU));obtain rfl:a1=[]:=eS (am a1 (a_ Fa));clear hx am;obtain⟨b2,b3⟩:=bS (RU:rows.length<=1048576) (show ∀r∈rows,r.length<=1048576 from fun r hr=>Uf);go_enter func214,ntmps214
 go_wp2_with fail
 refine(lp _ _ _ _ _ _ (a7.ext (((aj _ _).alloc RS _ |>.alloc RS _).alloc SJ _)) b2 b3).mono ?_;rintro e F ⟨u,rfl,⟨us,hu⟩,ac⟩;obtain⟨H,I,rfl,_,_,_⟩:=aJ.view ⟨us,hu⟩;obtain⟨bo,cn,bp⟩:=cA w (.cells (fB a b c) 134) (.cells (ae v h A rows cap) 26) (.cells aQ 26);have cj:=ac.size;simp only[cg]at cj;go_upto_region 2 with(fail)
 obtain⟨z,En⟩:=aO (F.alloc (.cells (ae v h H rows I) 26));rw[<-En];have ad:ai F z:=Wc;have c7:(z:Nat)=F+1:=SH;have O:=cC ac ad;have ao:aU z F (ae v h H rows I) 26:=UF;have bi:=cD O bo;have bm:=cD O bp;have E:bh z ((w:Nat)+3) (.slice H rows I) rows us:=(hu.ext ad).mono RS;have ck:∀g',H=some ⟨g',0,none⟩->g' < (F:Nat):=fun g' e=>VT
 have D:∀(k:Nat) (x:au),us[k]?=some x->∀b,x.ownBlock=some b->b < (F:Nat):=fun k x hx b hb=>Wy
 have a8:ai w z:=(below_alloc3 w _ _ _).trans (O.mono SJ);clear hu ac ad O a7 Et bo cn bp En;obtain⟨c8,bd,ba⟩:=E.get EU;obtain⟨c9,be,bb⟩:=E.get Fa;obtain⟨g,ci,cR,c0⟩:∃g,H=some ⟨g,0,none⟩/\(w:Nat)+3<=g/\g < (z:Nat):=ks E RU;subst ci;obtain⟨R,Z,rfl,ch,_⟩:=ba.view;obtain⟨U,ab,rfl,_,_⟩:=bb.view;obtain⟨a2,a3,a4⟩:=bT bi;have a5:=aW ao 2;simp only[dt,cZ]at a2 a3 a4 a5;have br:ah z g a.toNat (.slice R 0 Z):=by rw[E.outer.cellAt _ RU,bd];rfl
 have bv:ah z g b.toNat (.slice U 0 ab):=by rw[E.outer.cellAt _ RU,be];rfl
 obtain⟨b5,b0,b4,b6,b7,a6⟩:=mA E a8 Fa bm ao (uq p c U R ab Z z.drew);clear E a8 bd be ba bb EU Fa ch ck D bi bm ao;go_region_held3 (fun w'=>ah w' w 0 (zI a)/\ah w' w 1 (zI b)/\ah w' w 2 (zI c)/\ah w' F 2 (.slice (aY g) rows I)/\ah w' g a.toNat (.slice R 0 Z)/\ah w' g b.toNat (.slice U 0 ab))
  (first|exact⟨a2,a3,a4,a5,br,bv⟩)
  ((go_at_call 147;refine a6.mono ?_;rintro e wr ⟨rfl,rfl⟩))
 obtain⟨Y,J⟩:=aO z.drew;have a9:Y.heap=z.heap:=by rw[J];rfl
 have ap:=b7.o;have Q:=b6.o;rw[<-a9]at ap Q;have D:=b5.ext (aj _ _).drew;rw[<-J]at D ⊢;rw[<-nL b4,show([]:aG)=dw p c [] [] from rfl]at D;rw[show(List.set rows b.toNat (dw p c [] []))=rows.set b.toNat (dw p c (rows.getD b.toNat []) (rows.getD a.toNat [])) by rw[bz.o,b1.o]]at D;simp only[fP]at D;obtain⟨HO,HE⟩:=bS (show aJ Y ((w:Nat)+3) _ _ from⟨_,D⟩) (by rw[J];exact b0.drew:ai w Y);clear J a9;clear D a2 a3 a4 a5 br bv a6;obtain⟨b8,b9,ca⟩:=bT ap;obtain⟨cb,cc,ce⟩:=bT Q;obtain⟨co,cr,ct⟩:=bU Q;simp only[dt,cZ]at b8 b9 ca cb cc ce;clear ap Q;go_wp2;refine ax (v:=.agg (ae v h (aY g) rows I)) VM rfl ⟨_,rfl,?_,?_⟩
 .exact YD
 .exact Yq
def cN(f:Nat->Int):Nat->Int
 |0=>0
 |n+1=>cN f n+f n
def dn{f g:Nat->Int}:∀{n:Nat},(∀c,c<n->f c=g c)->cN f n=cN g n
 |0,_=>rfl
 |n+1,h=>by rw[cN,cN,dn fun c z=>h c RU,h n RU]
def np{f:Nat->Int}:∀{n:Nat},(∀c,c<n->f c=0)->cN f n=0
 |0,_=>rfl
 |n+1,h=>by rw[cN,np fun c z=>h c RU,h n RU];rfl
def lg{f:Nat->Int}{k:Nat}:∀{n:Nat},k<n->(∀c,c<n->c≠k->f c=0)->cN f n=f k
 |0,h,_=>RU
 |n+1,F,h=>by
  rw[cN];by_cases D:k=n
  .subst D;rw[np fun c z=>h c RU RU];omega
  .rw[lg RU fun c z E=>h c RU E,h n RU RU];omega
def mr(f g:Nat->Int):∀(n:Nat),cN (fun c=>f c+g c) n=cN f n+cN g n
 |0=>rfl
 |n+1=>by rw[cN,cN,cN,mr f g n];omega
def o5(a:Int)(f:Nat->Int):∀(n:Nat),cN (fun c=>a*f c) n=a*cN f n
 |0=>by simp[cN]
 |n+1=>by rw[cN,cN,o5 a f n,Int.mul_add]
def DQ{p:Int}{f:Nat->Int}:∀{n:Nat},(∀c,c<n->p∣f c)->p∣cN f n
 |0,_=>⟨0,by simp[cN]⟩
 |n+1,h=>qh (DQ fun c z=>h c RU) (h n RU)
def iJ{p:Int}{f g:Nat->Int}:∀{n:Nat},(∀c,c<n->p∣f c-g c)->p∣cN f n-cN g n
 |0,_=>⟨0,by simp[cN]⟩
 |n+1,h=>by have:=qh (iJ (n:=n) fun c z=>h c RU) (h n RU);rw[cN,cN];rwa[show cN f n+f n-(cN g n+g n)=cN f n-cN g n+(f n-g n) by omega]
structure oP(p:Int)(n m:Nat)(A:Nat->Nat->Int)(l:gF):Prop where
 bd:∀i c,i<m->c<n->0<=A i c/\A i c<p
 ln:∀i,i<m->l i<n
 inc:∀i j,i<j->j<m->l i<l j
 one:∀i,i<m->A i (l i)=1
 low:∀i c,i<m->c<l i->A i c=0
 col:∀i j,i<m->j<m->i≠j->A i (l j)=0
def Cq(p:Int)(n m:Nat)(A:Nat->Nat->Int)(x:Nat->Int):Prop:=∀i,i<m->p∣cN (fun c=>A i c*x c) n
def wW(A:Nat->Nat->Int)(l:gF)(m j:Nat)(c:Nat):Int:=(if c=j then 1 else 0)-cN (fun i=>if l i=c then A i j else 0) m
section
variable{p:Int}{n m:Nat}{A B:Nat->Nat->Int}{l:gF}
def oP.inj(h:oP p n m A l)(hi:i<m)(D:j<m)(e:l i=l j):i=j:=by
 rcases vt i j with z|z|z
 .have:=h.inc i j z D;omega
 .exact z
 .have:=h.inc j i z hi;omega
def yX(h:oP p n m A l)(hi:i<m)(D:l i≠j):wW A l m j (l i)=- A i j:=by unfold wW;rw[al D,lg hi (fun c z E=>al (fun e=>E (h.inj z hi e))),ay rfl];omega
def pC(z:∀i,i<m->l i≠c):wW A l m j c=if c=j then 1 else 0:=by unfold wW;rw[np fun i hi=>al (z i hi)];omega
def DR(J:oP p n m A l)(O:oP p n m B l)(hi:i<m)(Q:j<n)(E:∀i,i<m->l i≠j):cN (fun c=>B i c*wW A l m j c) n=B i j-A i j:=by
 have e:∀c,c<n->B i c*wW A l m j c=(if c=j then B i j else 0)+(if c=l i then - A i j else 0):=by
  intro c R;by_cases z:c=j
  .subst z;rw[pC E,ay rfl,ay rfl,al (fun e=>E i hi e.symm)];omega
  .rw[al z];by_cases D:c=l i
   .subst D;rw[yX J hi (E i hi),O.one i hi,ay rfl];omega
   .rw[al D];by_cases I:∃k,k<m/\l k=c
    .obtain⟨k,F,rfl⟩:=I;have:k≠i:=fun e=>D RV
     rw[O.col i k hi F (gJ this)];simp
    .rw[pC (fun k F e=>I ⟨k,F,e⟩),al z];simp
 rw[dn e,mr,lg Q (fun c _ H=>al H),lg (J.ln i hi) (fun c _ H=>al H),ay rfl,ay rfl];omega
def Bi(z:oP p n m A l)(E:j<n)(D:∀i,i<m->l i≠j):Cq p n m A (wW A l m j):=fun i hi=>by rw[DR z z hi E D];exact⟨0,RU⟩
def zbc(E:oP p n m A l)(H:∀i,i<m->l i≠j)(F:j<c):wW A l m j c=0:=by
 by_cases D:∃k,k<m/\l k=c
 .obtain⟨k,z,rfl⟩:=D;rw[yX E z (H k z),E.low k j z F];rfl
 .rw[pC (fun k z e=>D ⟨k,z,e⟩),al RU]
def zfm(z:oP p n m A l)(hi:i<m){x:Nat->Int}(I:Cq p n m A x)(J:∀c,l i<c->c<n->p∣x c):p∣x (l i):=by
 have D:p∣cN (fun c=>A i c*x c) n-cN (fun c=>if c=l i then x (l i) else 0) n:=by
  refine iJ fun c E=>?_
  rcases vt c (l i)with h|h|h
  .rw[z.low i c hi h,al RU];exact⟨0,RS⟩
  .subst h;rw[z.one i hi,ay rfl];exact⟨0,RU⟩
  .rw[al RU];obtain⟨k,F⟩:=J c h E;exact⟨A i c*k,by rw[F,Int.sub_zero,Int.mul_left_comm]⟩
 rw[lg (z.ln i hi) (fun c _ H=>al H),ay rfl]at D;have:=oI (I i hi) D;rwa[show cN (fun c=>A i c*x c) n-(cN (fun c=>A i c*x c) n-x (l i))=x (l i) by omega]at this
end
def DS{p:Int}{n m:Nat}{A B:Nat->Nat->Int}{l:gF}(O:2<=p)(F:oP p n m A l)(H:oP p n D B RF)(h:∀x,Cq p n D B x->Cq p n m A x)(hi:i<m):∃k,k<D/\RF k=l i:=by
 by_cases I:∃k,k<D/\RF k=l i
 .exact I
 .have E:∀k,k<D->RF k≠l i:=fun k J e=>I ⟨k,J,e⟩
  have z:=zfm F hi (h _ (Bi H (F.ln i hi) E)) (fun c z _=>by rw[zbc H E z];exact⟨0,RS⟩);rw[pC E,ay rfl]at z;have:=Int.le_of_dvd RU z;omega
def Bj{p:Int}{n m:Nat}{A B:Nat->Nat->Int}{l:gF}(E:oP p n m A l)(F:oP p n D B RF)(I:∀i,i<m->∃k,k<D/\RF k=l i)(J:∀i,i<D->∃k,k<m/\l k=RF i):∀i,i<m->i<D/\RF i=l i:=by
 intro i;induction i using Nat.strongRecOn with
 |ind i ih=>
  intro hi;obtain⟨k,R,Z⟩:=I i hi;have O:i<=k:=by
   rcases qi k i with h|h
   .have:=(ih k h RU).2;have:=E.inc k i h hi;omega
   .exact h
  have z:i<D:=RU;have U:RF i<=l i:=by
   rcases xM O with h|h
   .have:=F.inc i k h R;omega
   .subst h;omega
  obtain⟨q,H,eq⟩:=J i z;have Q:i<=q:=by
   rcases qi q i with h|h
   .have:=(ih q h H).2;have:=F.inc q i h z;omega
   .exact h
  have Y:l i<=RF i:=by
   rcases xM Q with h|h
   .have:=E.inc i q h H;omega
   .subst h;omega
  exact⟨z,RU⟩
def zbd{p:Int}{n m:Nat}{A B:Nat->Nat->Int}{l:gF}(U:2<=p)(z:oP p n m A l)(E:oP p n D B RF)(h:∀x,Cq p n m A x↔Cq p n D B x):m=D/\∀i,i<m->∀c,c<n->A i c=B i c:=by
 have ad:=fun i (hi:i<m)=>DS U z E (fun x=>(h x).2) hi
 have am:=fun i (hi:i<D)=>DS U E z (fun x=>(h x).1) hi
 have J:=Bj z E ad am;have ao:=Bj E z am ad;have ac:m=D:=by
  rcases vt m D with F|F|F
  .have:=(ao m F).1;omega
  .exact F
  .have:=(J D F).1;omega
 refine⟨ac,fun i hi c H=>?_⟩;subst ac;have Q:oP p n m B l:=⟨E.bd,z.ln,z.inc,fun i hi=>by rw[<-(J i hi).2];exact E.one i hi,fun i c hi H=>E.low i c hi (by rw[(J i hi).2];exact H),fun i j hi ab ap=>by rw[<-(J j ab).2];exact E.col i j hi ab ap⟩;by_cases F:∃k,k<m/\l k=c
 .obtain⟨k,I,rfl⟩:=F;by_cases R:i=k
  .subst R;rw[z.one i hi,Q.one i hi]
  .rw[z.col i k hi I R,Q.col i k hi I R]
 .have Z:∀k,k<m->l k≠c:=fun k I e=>F ⟨k,I,e⟩
  have Y:=(h _).1 (Bi z H Z) i hi;rw[DR z Q hi H Z]at Y;have a0:=z.bd i c hi H;have a1:=E.bd i c hi H;obtain⟨k,I⟩:=Y;have:k=0:=by
   rcases Int.lt_trichotomy k 0 with O|O|O
   .have:=CS (RU:k<=-1) (RU:0<=p);omega
   .exact O
   .have:=CS (RU:1<=k) (RU:0<=p);omega
  subst this;omega
def Bp(f:Nat->Nat->Int)(m:Nat):∀(n:Nat),cN (fun a=>cN (fun b=>f a b) m) n=cN (fun b=>cN (fun a=>f a b) n) m
 |0=>by rw[cN];exact(np fun _ _=>rfl).symm
 |n+1=>by rw[cN,Bp f m n,<-mr];exact dn fun c _=>rfl
def qP(a:Int)(f:Nat->Int)(n:Nat):cN (fun c=>f c*a) n=cN f n*a:=by rw[kh,<-o5];exact dn fun c _=>kh _ _
def jN{p a b:Int}(h:p∣a-b)(z:p∣b):p∣a:=by have:=qh h z;rwa[show a-b+b=a by omega]at this
def qQ{p a b c:Int}(h:p∣a-b):p∣a*c-b*c:=by rw[<-sv];exact jE h ⟨c,rfl⟩
section
open Classical
variable{p:Int}{n m:Nat}{A:Nat->Nat->Int}{l:gF}
end
def DZ{p:Int}{n M:Nat}{F own z:Nat->Nat->Int}{l:gF}(a1:r<=M)(E:oP p n r own l)(U:∀i,r<=i->i<M->∀c,c<n->own i c=0)(R:∀i,i<M->∀c,c<n->p∣own i c-cN (fun k=>z i k*F k c) M)(ac:∀x:Nat->Int,∃y:Nat->Int,∀k,k<M->p∣x k-cN (fun i=>y i*z i k) M)(J:Nat->Int):(∀i,r<=i->i<M->p∣cN (fun k=>z i k*J k) M)↔(∀x:Nat->Int,(∀c,c<n->p∣cN (fun k=>x k*F k c) M)->p∣cN (fun k=>x k*J k) M):=by
 constructor
 .intro h x ao;obtain⟨y,ap⟩:=ac x;have O:∀w:Nat->Int,p∣cN (fun k=>x k*w k) M-cN (fun i=>y i*cN (fun k=>z i k*w k) M) M:=fun w=>by
   have D:p∣cN (fun k=>x k*w k) M-cN (fun k=>cN (fun i=>y i*z i k) M*w k) M:=iJ fun k ad=>qQ (ap k ad)
   rwa[show cN (fun k=>cN (fun i=>y i*z i k) M*w k) M=cN (fun i=>y i*cN (fun k=>z i k*w k) M) M from by
    rw[show cN (fun i=>y i*cN (fun k=>z i k*w k) M) M=cN (fun i=>cN (fun k=>y i*z i k*w k) M) M from
     dn fun i _=>by rw[<-o5];exact dn fun k _=>(oB _ _ _).symm,<-Bp]
    exact dn fun k _=>(qP _ _ _).symm]at D
  have a0:∀i,i<r->p∣y i:=fun i hi=>by
   have D:=O (fun k=>F k (l i));have H:=ao (l i) (E.ln i hi);have Y:p∣cN (fun j=>y j*cN (fun k=>z j k*F k (l i)) M) M:=by have:=oI H D;rwa[show ∀a b:Int,a-(a-b)=b from fun a b=>RU]at this
   have Z:p∣cN (fun j=>y j*own j (l i)) M-cN (fun j=>y j*cN (fun k=>z j k*F k (l i)) M) M:=iJ fun j I=>by rw[<-Int.mul_sub];exact jE (R j I (l i) (E.ln i hi)) ⟨y j,kh _ _⟩
   have ab:=jN Z Y;rwa[lg (RU:i<M) (fun j I am=>by
    rcases qi j r with h|h
    .rw[E.col j i h hi am,pQ]
    .rw[U j h I (l i) (E.ln i hi),pQ]),E.one i hi,rZ]at ab
  refine jN (O J) (DQ fun i hi=>?_);rcases qi i r with D|D
  .exact jE (a0 i D) ⟨_,rfl⟩
  .exact jE (h i D hi) ⟨y i,kh _ _⟩
 .intro h i D H;refine h (fun k=>z i k) fun c Q=>?_
  have:=R i H c Q;rw[U i D H c Q]at this;have:=oI (Int.dvd_zero p) this;rwa[show ∀a:Int,0-(0-a)=a from fun a=>RU]at this
structure Ah(p:Int)(n N:Nat)(M:Nat->Nat->Int)(r c:Nat)(l:gF):Prop where
 bd:∀i d,i<N->d<n->0<=M i d/\M i d<p
 rN:r<=N
 cn:c<=n
 lt:∀i,i<r->l i<c
 inc:∀i j,i<j->j<r->l i<l j
 one:∀i,i<r->M i (l i)=1
 low:∀i d,i<r->d<l i->M i d=0
 col:∀i j,i<r->j<N->j≠i->M j (l i)=0
 z:∀j d,r<=j->j<N->d<c->M j d=0
def kL(r k i:Nat):Nat:=if i=r then k else if i=k then r else i
def Co(r k i:Nat):kL r k (kL r k i)=i:=by unfold kL;split<;>split<;>(try split)<;>omega
def yW(D:r<N)(z:k<N)(hi:i<N):kL r k i<N:=Wh
def mo(r k:Nat):kL r k r=k:=by simp[kL]
def Cp(z:r<=k)(hi:i<r):kL r k i=i:=by unfold kL;rw[al RU,al RU]
def zfi(z:r<=k)(hi:r<=i):r<=kL r k i:=Wh
def iQ(p:Int)(r k c:Nat)(iv:Int)(M X:Nat->Nat->Int)(i d:Nat):Int:=
 if i=r then X k d*iv%p else(X (kL r k i) d-M (kL r k i) c*(X k d*iv%p))%p
def zdq{M:Nat->Nat->Int}{l:gF}(h:Ah p n N M r c l)(F:c<n)(E:∀j,r<=j->j<N->M j c=0):Ah p n N M r (c+1) l:=
 ⟨h.bd,h.rN,RU,fun i hi=>by have:=h.lt i hi;omega,h.inc,h.one,h.low,h.col,fun j d z D H=>by
  by_cases e:d=c
  .subst e;exact E j z D
  .exact h.z j d z D RU⟩
def zdr{M:Nat->Nat->Int}{l:gF}(a0:2<=p)(h:Ah p n N M r c l)(a1:c<n)(F:r<=k)(I:k<N)(Q:M k c*iv%p=1):Ah p n N (iQ p r k c iv M M) (r+1) (c+1) (fun i=>if i=r then c else l i):=by
 have U:r<N:=RU;have ac:p≠0:=RU;have J:∀d,d<c->M k d*iv%p=0:=fun d D=>by rw[h.z k d F I D];simp
 have R:∀i,i<r->M k (l i)*iv%p=0:=fun i hi=>J (l i) (h.lt i hi)
 have nR:∀i d,i≠r->M k d*iv%p=0->i<N->d<n->iQ p r k c iv M M i d=M (kL r k i) d:=fun i d hi am ao D=>by have Y:=h.bd (kL r k i) d (yW U I ao) D;unfold iQ;rw[al hi,am,pQ,Int.sub_zero,oC Y.1 Y.2]
 have O:∀d,iQ p r k c iv M M r d=M k d*iv%p:=fun d=>by unfold iQ;rw[ay rfl]
 refine⟨fun i d hi D=>?_,RU,RU,fun i hi=>?_,fun i j ap H=>?_,fun i hi=>?_,fun i d hi D=>?_,fun i j hi H ab=>?_,fun j d H Z D=>?_⟩
 .unfold iQ;split
  .exact⟨ir _ ac,iu _ RU⟩
  .exact⟨ir _ ac,iu _ RU⟩
 .try dsimp only
  split
  .omega
  .have:=h.lt i RU;omega
 .try dsimp only
  rw[al RU];split
  .exact h.lt i RU
  .exact h.inc i j ap RU
 .try dsimp only
  by_cases e:i=r
  .subst e;rw[ay rfl,O];exact Q
  .have z:i<r:=RU;have:=h.lt i z;rw[al e,nR i (l i) e (R i z) RU RU,Cp F z];exact h.one i z
 .by_cases e:i=r
  .subst e;try dsimp only at D
   rw[ay rfl]at D;rw[O];exact J d D
  .have z:i<r:=RU;try dsimp only at D
   rw[al e]at D;have:=h.lt i z;rw[nR i d e (J d RU) RU RU,Cp F z];exact h.low i d z D
 .try dsimp only
  by_cases e:i=r
  .subst e;rw[ay rfl];unfold iQ;rw[al ab,Q,rZ,Int.sub_self];rfl
  .have z:i<r:=RU;have a2:=h.lt i z;rw[al e];by_cases E:j=r
   .subst E;rw[O];exact R i z
   .rw[nR j (l i) E (R i z) H RU];refine h.col i _ z (yW U I H) (fun ad=>ab ?_);rw[<-Co r k j,ad,Cp F z]
 .have E:j≠r:=RU;by_cases e:d=c
  .subst e;unfold iQ;rw[al E,Q,rZ,Int.sub_self];rfl
  .rw[nR j d E (J d RU) Z RU];exact h.z _ d (zfi F RU) (yW U I Z) RU
def zbb{M:Nat->Nat->Int}(z:∀i d,i<N->d<n->0<=M i d/\M i d<p):Ah p n N M 0 0 (fun _=>0):=⟨z,bf _,bf _,fun i hi=>RU,fun i j _ E=>RU,fun i hi=>RU,fun i d hi=>RU,fun i j hi=>RU,fun j d _ _ D=>RU⟩
def zfj{M:Nat->Nat->Int}{l:gF}(h:Ah p n N M r c l):oP p n r M l:=⟨fun i d hi z=>h.bd i d (by have:=h.rN;omega) z,fun i hi=>by have:=h.lt i hi;have:=h.cn;omega,h.inc,h.one,h.low,fun i j hi D E=>h.col j i D (by have:=h.rN;omega) E⟩
def zds{M:Nat->Nat->Int}{l:gF}(h:Ah p n N M r c l)(E:c=n∨r=N):∀i,r<=i->i<N->∀d,d<n->M i d=0:=fun i z D d F=>by
 rcases E with e|e
 .exact h.z i d z D RU
 .omega
structure mq(p:Int)(r k:Nat)(iv:Int)(g:Nat->Int)(f f':Nat->Int):Prop where
 top:p∣f' r-f k*iv
 oth:∀i,i≠r->p∣f' i-(f (kL r k i)-g (kL r k i)*f' r)
def mq.all{g f:Nat->Int}(h:mq p r k iv g f RI)(F:r<N)(D:k<N)(z:∀i,i<N->p∣f i):∀i,i<N->p∣RI i:=by
 have E:p∣RI r:=jN h.top (jE (z k D) ⟨iv,rfl⟩);intro i hi;by_cases e:i=r
 .subst e;exact E
 .exact jN (h.oth i e) (oI (z _ (yW F D hi)) (jE E ⟨_,kh _ _⟩))
def mq.back{b:Int}{g f:Nat->Int}(h:mq p r k iv g f RI)(F:r<N)(O:k<N)(J:p∣b*iv-1)(E:∀i,i<N->p∣RI i):∀i,i<N->p∣f i:=by
 have Q:p∣f k:=by
  have z:p∣f k*iv:=by have:=oI (E r F) h.top;rwa[show RI r-(RI r-f k*iv)=f k*iv by omega]at this
  have D:p∣f k*iv*b:=jE z ⟨b,rfl⟩;have I:p∣f k*(b*iv-1):=jE J ⟨f k,kh _ _⟩;have:=oI D I;rwa[show f k*iv*b-f k*(b*iv-1)=f k by rw[Int.mul_sub,rZ,oB,kh iv b];omega]at this
 intro i hi;by_cases e:i=k
 .subst e;exact Q
 .have R:kL r k i≠r:=fun H=>e (by rw[<-Co r k i,H,mo])
  have z:=h.oth (kL r k i) R;rw[Co]at z;have D:=oI (E _ (yW F O hi)) z;rw[show RI (kL r k i)-(RI (kL r k i)-(f i-g i*RI r))=f i-g i*RI r by omega]at D;exact jN D (jE (E r F) ⟨_,kh _ _⟩)
structure cS where
 k:Int
 a:Int
 b:Int
 c:Int
 row:List Int
structure Sy where
 v:Int
 h:Int
 rows:List (List Int)
variable{s:Sy}
def cE(p:Int)(s:Sy)(x:cS):Sy:=⟨s.v,dO x.k s.h,bE p s.v s.rows x.k x.a x.b x.c x.row (s.v+s.h).toNat⟩
def eI(p:Int)(s:Sy)(x:cS):Bool:=ja p s.v s.h s.rows x.k x.a x.b x.c x.row
def Sy.Ok(p:Int)(s:Sy):Prop:=Sys p s.v s.h s.rows
def gG{x:cS}(h:s.Ok p)(z:eI p s x=true):(cE p s x).Ok p:=by unfold eI at z;rw[oO h,bC,bC]at z;exact jI.1 z.2.2
def dC(p:Int):Sy->List cS->Nat->Sy
 |s,[],_=>s
 |s,_::_,0=>s
 |s,x::xs,n+1=>dC p (cE p s x) xs n
def bO(p:Int):Sy->List cS->Nat
 |_,[]=>0
 |s,x::xs=>if eI p s x=true then bO p (cE p s x) xs+1 else 0
def gg(p:Int)(s:Sy)(xs:List cS):dC p s xs 0=s:=by cases xs<;>rfl
def dk{p:Int}{x:cS}:∀{xs:List cS} {s:Sy} {i:Nat},xs[i]?=some x->dC p s xs (i+1)=cE p (dC p s xs i) x
 |[],_,_,h=>Sf
 |y::ys,s,0,h=>by simp at h;subst h;simp[dC,gg]
 |y::ys,s,i+1,h=>by simp only[cZ]at h;exact dk (xs:=ys) (s:=cE p s y) (i:=i) h
def fj(p:Int):∀(xs:List cS) (s:Sy),bO p s xs<=xs.length
 |[],_=>ag _
 |x::xs,s=>by
  have:=fj p xs (cE p s x);unfold bO;split
  .simp;omega
  .omega
def vP{p:Int}{x:cS}:∀{xs:List cS} {s:Sy} {i:Nat},i<bO p s xs->xs[i]?=some x->eI p (dC p s xs i) x=true
 |[],_,_,_,h=>Sf
 |y::ys,s,i,hi,h=>by
  unfold bO at hi;split at hi
  .rename_i z;cases i with
   |zero=>simp at h;subst h;rw[gg];exact z
   |succ i=>
    simp only[cZ]at h;exact vP (xs:=ys) (s:=cE p s y) (i:=i) RU h
  .omega
def zbO{p:Int}{x:cS}:∀{xs:List cS} {s:Sy} {i:Nat},i=bO p s xs->xs[i]?=some x->eI p (dC p s xs i) x=false
 |[],_,_,_,h=>Sf
 |y::ys,s,i,hi,h=>by
  unfold bO at hi;split at hi
  .cases i with
   |zero=>omega
   |succ i=>
    simp only[cZ]at h;exact zbO (xs:=ys) (s:=cE p s y) (i:=i) RU h
  .rename_i z;subst hi;simp at h;subst h;rw[gg];simpa using z
def tN{xs:List cS}{x:cS}(hi:i<=bO p s xs)(h:xs[i]?=some x)(D:eI p (dC p s xs i) x=true):i+1<=bO p s xs:=by
 rcases xM hi with z|z
 .exact z
 .rw[zbO z h]at D;cases D
def tO{xs:List cS}{x:cS}(hi:i<=bO p s xs)(h:xs[i]?=some x)(D:eI p (dC p s xs i) x=false):bO p s xs=i:=by
 rcases xM hi with z|z
 .rw[vP z h]at D;cases D
 .exact z.symm
def jG{p:Int}{s:Sy}{xs:List cS}(h:s.Ok p):∀{i:Nat},i<=bO p s xs->(dC p s xs i).Ok p
 |0,_=>by rw[gg];exact h
 |i+1,hi=>by have D:=fj p xs s;have z:xs[i]?=some xs[i]:=dA RU;rw[dk z];exact gG (jG h RU) (vP RU z)
structure Small(s:Sy):Prop where
 n:s.rows.length<=160
 len:∀r∈s.rows,r.length<=1000
def BY{O:Type}(D)(z:Sy)(E F H)(I:List O)(J):M (#[.int .i64 D,.int .i64 z.v,.int .i64 z.h,.slice E z.rows F,.slice H I J]:Array Value):=⟨⟩
def BZ(z:cS)(D):M (#[.int .i64 z.k,.int .i64 z.a,.int .i64 z.b,.int .i64 z.c,D]:Array Value):=⟨⟩
def Sy.Ok.small(h:s.Ok p):Small s:=⟨Sys.n h,fun r z=>by have:=Sys.len h r z;have:=Sys.v24 h;have:=Sys.h100 h;omega⟩
structure Ed where
 k:Int
 v:Int
 i:List Nat
 o:List Nat
structure Gr where
 w:Nat
 es:List Ed
 i:List Nat
 o:List Nat
variable{g:Gr}
def Ed.map(f:gF)(e:Ed):Ed:=⟨e.k,e.v,e.i.map f,e.o.map f⟩
def Gr.map(g:Gr)(w:Nat)(f:gF):Gr:=⟨w,g.es.map (Ed.map f),g.i.map f,g.o.map f⟩
def Gr.On(g:Gr)(x:Nat):Prop:=x∈g.i∨x∈g.o∨∃e∈g.es,x∈e.i∨x∈e.o
def Gr.In(g:Gr):Prop:=∀x,g.On x->x<g.w
def zhk(p k v:Int)(a b:aG):Prop:=
 if k=3 then p∣b.getD 0 0-a.getD 0 0/\p∣b.getD 1 0-a.getD 0 0
 else if k=5 then p∣b.getD 0 0-(a.getD 0 0+a.getD 1 0)
 else if k=6 then p∣b.getD 0 0
 else if k=7 then p∣b.getD 0 0-v*a.getD 0 0
 else True
def Ed.Ok(p:Int)(e:Ed)(f:Nat->Int):Prop:=if 9<=e.k then zhk p (e.k-6) e.v (e.o.map f) (e.i.map f) else zhk p e.k e.v (e.i.map f) (e.o.map f)
def zch(p:Int)(l:bX)(f z:Nat->Int):Prop:=∀(j:Nat) (x:Nat),l[j]?=some x->p∣z j-f x
def zch.map{f:Nat->Int}{h:gF}:zch p (l.map h) f RI↔zch p l (fun x=>f (h x)) RI:=by
 unfold zch;constructor
 .intro D j x z;exact D j (h x) (by rw[cp,z];rfl)
 .intro D j x z;rw[cp]at z;obtain⟨y,E,rfl⟩:=pV.1 z;exact D j y E
def wX(c:bX)(x y:Nat):List Nat:=c.map fun q=>if q=max (c.getD x 0) (c.getD y 0) then min (c.getD x 0) (c.getD y 0) else q
def jb(n:Nat)(ps:qx):List Nat:=ps.foldl (fun c q=>wX c q.1 q.2) (List.range n)
structure nZ(n:Nat)(c:bX):Prop where
 len:c.length=n
 le:∀x,x<n->c.getD x 0<=x
 rep:∀x,x<n->c.getD (c.getD x 0) 0=c.getD x 0
def bI(z:Gr)(D E F H I J):M (#[.int .i64 (z.w:Nat),.slice D z.es E,.slice F z.i H,.slice I z.o J]:Array Value):=⟨⟩
def Cr(z:Ed)(D E F H):M (#[.int .i64 z.k,.int .i64 z.v,.slice D z.i E,.slice F z.o H]:Array Value):=⟨⟩
def xu{c:bX}(h:x<c.length):c[x]?=some (c.getD x 0):=by rw[bu,dA h];rfl
def rI{y:Nat}{c:bX}(h:nZ n c)(z:D<n):(wX c x y).getD D 0=if c.getD D 0=max (c.getD x 0) (c.getD y 0) then min (c.getD x 0) (c.getD y 0) else c.getD D 0:=by unfold wX;rw[bu,cp,xu (by rw[h.len];exact z)];rfl
def zfn{y:Nat}{c:bX}(h:nZ n c)(F:x<n)(H:y<n):nZ n (wX c x y):=by
 have U:=h.le x F;have Y:=h.le y H;have O:=h.rep x F;have Q:=h.rep y H;refine⟨by unfold wX;rw[bt];exact h.len,fun D z=>?_,fun D z=>?_⟩
 .have I:=h.le D z;rw[rI h z];split
  .omega
  .exact I
 .have I:=h.le D z;have R:=h.rep D z;rw[rI h z];by_cases e:c.getD D 0=max (c.getD x 0) (c.getD y 0)
  .rw[ay e,rI h RU];have J:c.getD (min (c.getD x 0) (c.getD y 0)) 0=min (c.getD x 0) (c.getD y 0):=by
    rcases Nat.le_total (c.getD x 0) (c.getD y 0)with E|E
    .rw[iM E];exact O
    .rw[xN E];exact Q
   rw[J];split <;>rfl
  .rw[al e,rI h RU,R,al e]
def yY(n:Nat):nZ n (List.range n):=by
 have D:∀x,x<n->(List.range n).getD x 0=x:=fun x z=>by rw[bu,lu z];rfl
 exact⟨g_,fun x z=>by rw[D x z];exact ag _,fun x z=>by rw[D x z,D x z]⟩
def Cs{n:Nat}:∀(ps:qx) (c:bX),nZ n c->(∀q∈ps,q.1<n/\q.2<n)->nZ n (ps.foldl (fun c q=>wX c q.1 q.2) c)
 |[],c,h,_=>h
 |q::ps,c,h,z=>Cs ps _ (zfn h (z q (lW ..)).1 (z q (lW ..)).2) fun r D=>z r (lV _ D)
def Gr.DT(g:Gr)(x:Nat):Bool:=g.i.contains x||(g.o.contains x||g.es.any fun e=>e.i.contains x||e.o.contains x)
def Gr.jY:g.DT x=true↔g.On x:=by unfold Gr.DT Gr.On;simp
def lA(g:Gr)(c:bX):List Nat:=(List.range g.w).filter fun r=>decide (c.getD r 0=r)&&(List.range g.w).any fun x=>g.DT x&&decide (c.getD x 0=r)
def iK(g:Gr)(ps:qx):Gr:=g.map (lA g (jb g.w ps)) fun x=>(lA g (jb g.w ps)).idxOf ((jb g.w ps).getD x 0)
def DU{c:bX}(h:nZ g.w c)(E:g.In)(D:g.On x):c.getD x 0∈lA g c:=by have z:=E x D;have:=h.le x z;unfold lA;rw[vz,et,bC,cK,lT];exact⟨RU,h.rep x z,x,et.2 z,by rw[Gr.jY.2 D];simp⟩
def jc(a b:Gr):List Ed:=a.es++b.es.map (Ed.map (· +a.w))
def Al(a b:Gr):Gr:=iK ⟨a.w+b.w,jc a b,a.i,b.o.map (· +a.w)⟩ (a.o.zip (b.i.map (· +a.w)))
def o_(a b:Gr):Gr:=⟨a.w+b.w,jc a b,a.i++b.i.map (· +a.w),a.o++b.o.map (· +a.w)⟩
def rJ{a b:Gr}{i o:bX}(O:a.In)(H:b.In)(hi:∀x∈i,x<a.w+b.w)(Q:∀x∈o,x<a.w+b.w):Gr.In ⟨a.w+b.w,jc a b,i,o⟩:=by
 intro x z;rcases z with h|h|⟨e,I,z⟩
 .exact hi x h
 .exact Q x h
 .dsimp only;unfold jc at I;rcases fc.1 I with D|D
  .have:=O x (aA (aA ⟨e,D,z⟩));omega
  .obtain⟨F,J,rfl⟩:=cf.1 D;unfold Ed.map at z;rcases z with h|h
   .obtain⟨y,E,rfl⟩:=cf.1 h;have:=H y (aA (aA ⟨F,J,aF E⟩));omega
   .obtain⟨y,E,rfl⟩:=cf.1 h;have:=H y (aA (aA ⟨F,J,aA E⟩));omega
end Go.Proofs.YtdpgblncijojiaaGreatDoor
