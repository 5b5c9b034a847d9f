/- Parts of the walks and laws (Kin2, Grf). Conditions: as stated with each. -/
import Derived.Test.YtpieilkmmiopfaaGreatDoorPk11
import Derived.Test.YtpieilkmmiopfaaGreatDoorPk13
namespace Go.Proofs.YtpieilkmmiopfaaGreatDoor
open Go.RowKit Tryz
set_option linter.all false
variable{g:Gr}{p:Int}{ps:nU}{y:Nat}
theorem Tm.zbr(k:Int)(a b:Tm):(Tm.op k a b).np=(a.np&&(b.np&&((Tm.op k a b).gr).okB)):=rfl
theorem Tm.zN:∀{t:Tm},t.np=true->t.gr.okB=true
 |.lf _,h=>h
 |.op k a b,h=>by rw[Tm.zbr,bE,bE]at h;exact h.2.2
theorem Tm.rl{p:Int}:∀{t:Tm},t.tY p->∀n∈t.leaves,tg p n
 |.lf n,D,m,h=>by have h:m=n:=kp.1 h;subst h;exact D
 |.op k a b,D,m,h=>by
  rcases eh.1 h with h|h
  .exact Tm.rl D.1 m h
  .exact Tm.rl D.2 m h
theorem Tm.zf1{t:Tm}(T:t.tY p)(N:t.np=true):t.gr.tY p:=fun e D=>by have J:=(Gr.kg.1 (Tm.zN N)).2.2.2.2.1 e D;have O:(e.k,e.v)∈t.gr.kv:=cM.2 ⟨e,D,rfl⟩;obtain⟨n,R,_,_,h⟩:=Tm.wY.1 O;obtain⟨F,G,H,I⟩:=Tm.rl T n R;simp only[Prod.mk.injEq]at h;refine⟨J,?_⟩;rw[h.1,h.2];exact⟨Ca F,G,H,I⟩
def zf2(p:Int)(g:Gr):Bool:=(g.es.all fun e=>decide (e.v<p))&&g.es.all fun e=>decide (e.k≠8)&&decide (e.k≠14)
theorem Tm.rm:∀{t:Tm} {c:fQ},t.ty=some c->∀n∈t.flat,n∈t.leaves∨n.k=15∨n.k=16
 |.lf n,c,F,m,h=>au h
 |.op k a b,c,F,m,h=>by
  obtain⟨x,y,G,H,I⟩:=Tm.nN F;have J:=nM I;rw[Tm.nZ]at h;rcases eh.1 h with h|h
  .rcases eh.1 h with h|h
   .rcases Tm.rm G m h with D|D
    .exact au (m9 _ D)
    .exact an D
   .rcases Tm.rm H m h with D|D
    .exact au (jF _ D)
    .exact an D
  .rw[kp.1 h];exact an J
theorem Tm.od:∀{t:Tm},∀n∈t.leaves,n∈t.flat
 |.lf n,m,h=>h
 |.op k a b,m,h=>by
  rw[Tm.nZ];refine m9 _ ?_;rcases eh.1 h with h|h
  .exact m9 _ (Tm.od m h)
  .exact jF _ (Tm.od m h)
theorem zab{n:Nd}(H:2<=p)(h:dh n=true)(F:n.k≠1)(G:n.k=7∨n.k=13->n.v<p):n.v<p:=by
 unfold dh at h;rw[bE]at h;have h:=h.2;rw[av F]at h;by_cases D:n.k=7∨n.k=13
 .exact G D
 .rw[av D]at h;simp only[bE,bX]at h;omega
theorem Tm.zf3{t:Tm}{c:fQ}(N:2<=p)(I:t.ty=some c)(H:nv p t.flat=true):zf2 p t.gr=n_ t.flat:=by
 have T:∀n∈t.flat,n.k=7∨n.k=13->n.v<p:=fun n D O=>by unfold nv at H;have:=fZ.1 H n D;simp only[iG,wk,qw,qx,bX]at this;omega
 rw[jz];unfold zf2 n_;simp only[bE,fZ,bX];constructor
 .rintro⟨_,G⟩ n D;rcases Tm.rm I n D with R|O
  .by_cases V:n.k=1∨n.k=2
   .omega
   .obtain⟨e,F,h⟩:=cM.1 (Tm.wY.2 ⟨n,R,Rr,Rr,rfl⟩);simp only[Prod.mk.injEq]at h;have:=G e F;rw[h.1]at this;exact this
  .omega
 .intro G;refine⟨fun e F=>?_,fun e F=>?_⟩
  .obtain⟨n,D,J,U,h⟩:=Tm.wY.1 (cM.2 ⟨e,F,rfl⟩:(e.k,e.v)∈t.gr.kv);simp only[Prod.mk.injEq]at h;rw[h.2];exact zab N (Tm.pH I n D) J (T n (Tm.od n D))
  .obtain⟨n,D,J,U,h⟩:=Tm.wY.1 (cM.2 ⟨e,F,rfl⟩:(e.k,e.v)∈t.gr.kv);simp only[Prod.mk.injEq]at h;rw[h.1];exact G n (Tm.od n D)
def stepG(S:List Gr)(n:Nd):Option (List Gr):=
 if n.k=15∨n.k=16 then
  match S with
  |b::a::S'=>if(if n.k=15 then nX a b else jT a b).okB=true then some ((if n.k=15 then nX a b else jT a b)::S') else none
  |_=>none
 else if(eY n).okB=true then some (eY n::S) else none
def lY:List Nd->List Gr->Option (List Gr)
 |[],S=>some S
 |n::L,S=>match stepG S n with
  |some S'=>lY L S'
  |none=>none
theorem pM(n:Nd)(L:List Nd)(S:List Gr):lY (n::L) S=match stepG S n with|some S'=>lY L S'|none=>none:=rfl
theorem zcp{n:Nd}(h:dh n=true):¬(n.k=15∨n.k=16):=fun D=>by
 have:BD n=true:=by unfold BD;rcases D with e|e <;>rw[e] <;>rfl
 rw[Db this]at h;cases h
theorem tE:∀{t:Tm} {c:fQ} (L:List Nd) (S:List Gr),t.ty=some c->lY (t.flat++L) S=if t.np=true then lY L (t.gr::S) else none
 |.lf n,c,L,S,h=>by
  have D:dh n=true:=by
   unfold Tm.ty at h;split at h
   .assumption
   .cases h
  have N:(Tm.lf n).np=true:=pg D;rw[ay N]
  show lY (n::L) S=lY L (eY n::S)
  rw[pM];unfold stepG;rw[av (zcp D),ay (pg D)]
 |.op k a b,c,L,S,h=>by
  obtain⟨x,y,J,D,O⟩:=Tm.nN h;have R:=nM O;rw[Tm.nZ,fj,fj,tE _ S J,Tm.zbr];by_cases F:a.np=true
  .rw[ay F,tE _ _ D,F];by_cases G:b.np=true
   .rw[ay G,G]
    show lY (⟨k,0,true⟩::L) _=_
    rw[pM,Tm.Cb];unfold stepG;dsimp only;rw[ay R];obtain⟨H,I⟩:=aM (if k=15 then nX a.gr b.gr else jT a.gr b.gr);rw[<-I];by_cases e:H.okB=true
    .rw[ay e,e,ay Rp]
    .rw[av e,av Ry]
   .rw[av G,av (by simp[G])]
  .rw[av F,av (by simp[F])]
theorem zdl{t:Tm}{c:fQ}(h:t.ty=some c):lY t.flat []=if t.np=true then some [t.gr] else none:=by have:=tE [] [] h;rwa[k9]at this
structure Gr.G1(g:Gr):Prop where
 inr:g.In
 fit:∀e∈g.es,e.jt=true
 on:∀x,x<g.w->g.On x
theorem Gr.mo(h:g.okB=true):g.G1:=⟨Gr.rO h,(Gr.kg.1 h).2.2.2.2.1,fun x D=>Gr.jS.1 ((Gr.kg.1 h).2.2.2.2.2.1 x D)⟩
theorem Ed.zcs(f:ir)(e:Ed):(e.map f).jt=e.jt:=by unfold Ed.jt Ed.map;simp only[bh]
theorem Gr.zeV{w:Nat}{f:ir}(h:g.On y):(g.map w f).On (f y):=by
 rcases h with h|h|⟨e,D,h⟩
 .exact au (cM.2 ⟨y,h,rfl⟩)
 .exact an (au (cM.2 ⟨y,h,rfl⟩))
 .refine an (an ⟨e.map f,cM.2 ⟨e,D,rfl⟩,?_⟩);exact h.imp (fun h=>cM.2 ⟨y,h,rfl⟩) fun h=>cM.2 ⟨y,h,rfl⟩
theorem tH(n:Nat)(q:Nat->Bool):((List.range n).filter q).Nodup:=List.Pairwise.filter _ List.nodup_range
theorem zf7(T:g.In)(R:∀e∈g.es,e.jt=true)(V:∀q∈ps,q.1<g.w/\q.2<g.w):(iA g ps).G1:=by
 refine⟨zcB T V,fun e N=>?_,fun x h=>?_⟩
 .obtain⟨J,O,rfl⟩:=cM.1 N;rw[Ed.zcs];exact R J O
 .have h:x < (nG g (iH g.w ps)).length:=h;have U:(nG g (iH g.w ps)).Nodup:=tH _ _;obtain⟨r,I⟩:=aM ((nG g (iH g.w ps))[x]);have H:r∈nG g (iH g.w ps):=I ▸ zi h;rw[uC,wv]at H;have D:=H.2;unfold Bk at D;rw[bE,k7]at D;obtain⟨y,Y,F⟩:=D.2;rw[bE,bX]at F;have G:=Gr.zeV (w:=(nG g (iH g.w ps)).length) (f:=fun x=>(nG g (iH g.w ps)).idxOf ((iH g.w ps).getD x 0)) (Gr.jS.1 F.1);have e:(nG g (iH g.w ps)).idxOf ((iH g.w ps).getD y 0)=x:=by rw[F.2,I];exact U.idxOf_getElem x h
  rw[e]at G;exact G
theorem zS{a b:Gr}(F:∀e∈a.es,e.jt=true)(G:∀e∈b.es,e.jt=true):∀e∈ff a b,e.jt=true:=fun e h=>by
 rcases eh.1 h with h|h
 .exact F e h
 .obtain⟨D,H,rfl⟩:=cM.1 h;rw[Ed.zcs];exact G D H
def im(a b:Gr):Gr:=⟨a.w+b.w,ff a b,a.i,b.o.map (· +a.w)⟩
def xW(a b:Gr):List (Nat×Nat):=a.o.zip (b.i.map (· +a.w))
theorem zf8(a b:Gr):nX a b=iA (im a b) (xW a b):=rfl
theorem rp{a b:Gr}(D:a.In)(F:b.In):(im a b).In:=
 sg D F (fun x h=>by have:=D x (au h);omega) fun x h=>by obtain⟨y,G,rfl⟩:=cM.1 h;have:=F y (an (au G));omega
theorem uI{a b:Gr}(F:a.In)(G:b.In):∀q∈xW a b,q.1 < (im a b).w/\q.2 < (im a b).w:=fun q H=>by
 obtain⟨h,D⟩:=vV H;obtain⟨y,I,e⟩:=cM.1 D;have:=F q.1 (an (au h));have:=G y (au I)
 show q.1<a.w+b.w/\q.2<a.w+b.w
 omega
theorem zbA{a b:Gr}(h:a.G1)(D:b.G1):(nX a b).G1:=zf7 (g:=im a b) (ps:=xW a b) (rp h.inr D.inr) (zS h.fit D.fit) (uI h.inr D.inr)
theorem zbB{a b:Gr}(F:a.G1)(G:b.G1):(jT a b).G1:=by
 have J:∀{l:bO},(∀x∈l,b.On x)->∀x∈l.map (· +a.w),x<a.w+b.w:=fun h x D=>by obtain⟨y,N,rfl⟩:=cM.1 D;have:=G.inr y (h y N);omega
 refine⟨sg F.inr G.inr (fun x D=>?_) (fun x D=>?_),zS F.fit G.fit,fun x D=>?_⟩
 .rcases eh.1 D with h|h
  .have:=F.inr x (au h);omega
  .exact J (fun x D=>au D) x h
 .rcases eh.1 D with h|h
  .have:=F.inr x (an (au h));omega
  .exact J (fun x D=>an (au D)) x h
 .have D:x<a.w+b.w:=D;by_cases h:x<a.w
  .rcases F.on x h with h|h|⟨e,H,h⟩
   .exact au (m9 _ h)
   .exact an (au (m9 _ h))
   .exact an (an ⟨e,m9 _ H,h⟩)
  .have I:=Gr.zeV (w:=0) (f:=(· +a.w)) (G.on (x-a.w) Rr);rw[show x-a.w+a.w=x by omega]at I;rcases I with h|h|⟨e,H,h⟩
   .exact au (jF _ h)
   .exact an (au (jF _ h))
   .exact an (an ⟨e,jF _ H,h⟩)
theorem Tm.Ck:∀{t:Tm} {c:fQ},t.ty=some c->t.gr.G1
 |.lf n,c,h=>by
  unfold Tm.ty at h;split at h
  .rename_i D;exact Gr.mo (pg D)
  .cases h
 |.op k a b,c,h=>by
  obtain⟨x,y,F,D,G⟩:=Tm.nN h;rw[Tm.Cb];split
  .exact zbA (Tm.Ck F) (Tm.Ck D)
  .exact zbB (Tm.Ck F) (Tm.Ck D)
def gM(g:Gr):Bool:=decide (g.w<=100)&&(decide (g.es.length<=60)&&(decide (g.i.length<=12)&&decide (g.o.length<=12)))
theorem Gr.G1.okB(D:g.G1):g.okB=gM g:=by
 rw[jz,Gr.kg];unfold gM;simp only[bE,bX];constructor
 .rintro⟨F,G,H,I,_⟩;exact⟨F,G,H,I⟩
 .rintro⟨F,G,H,I⟩;exact⟨F,G,H,I,D.fit,fun x h=>Gr.jS.2 (D.on x h),fun x h=>D.inr x (au h),fun x h=>D.inr x (an (au h)),fun e J=>⟨fun x h=>D.inr x (an (an ⟨e,J,au h⟩)),fun x h=>D.inr x (an (an ⟨e,J,an h⟩))⟩⟩
end Go.Proofs.YtpieilkmmiopfaaGreatDoor
