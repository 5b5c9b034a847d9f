/- Parts of the walks. Conditions: as stated with each. -/
import Derived.Test.YtdpgblncijojiaaGreatDoorPk20
import Derived.Test.YtdpgblncijojiaaGreatDoorPk22
import Derived.Test.YtdpgblncijojiaaGreatDoorPk24
namespace Go.Proofs.YtdpgblncijojiaaGreatDoor
open Go.RowKit Tryz
set_option linter.all false
set_option maxHeartbeats 8000000
set_option maxRecDepth 100000
variable{B' D b i j k n x:Nat}{Q:iF}{R:ir}{Rg:Int}{Rv:dE}{a:Act}{l:bW}{o:ie}{rest:List Oper}{u v':av}{w w':aa}
def pR(l:bW):List Int:=l.map fun x:Nat=>(x:Int)
def tW(n k:Nat):List Nat:=(List.range n).map fun i=>if i<k then i else 0
def zcn(n:Nat):pR (tW n 0)=List.replicate n 0:=by
 unfold pR tW;apply eQ;intro k;simp only[bR,fR];by_cases h:k<n
 .rw[kx h,ar h];simp
 .rw[fy RX,ak h];rfl
def zeL(n:Nat):tW n n=List.range n:=by
 unfold tW;apply eQ;intro k;simp only[bR];by_cases h:k<n
 .rw[kx h];simp[h]
 .rw[fy RX];rfl
def zeM(h:k<n):(pR (tW n k)).set k (k:Int)=pR (tW n (k+1)):=by
 unfold pR tW;apply eQ;intro i;rw[ph];simp only[bl,hJ,bR];by_cases D:i<n
 .rw[kx D];by_cases z:k=i
  .subst z;simp[h]
  .rw[ak z];simp only[pa];congr 2
   by_cases B:i<k
   .rw[ar B,ar Ry]
   .rw[ak B,ak Ry]
 .rw[ak Ry,fy RX];rfl
def swap_perm{y:Nat}(h:l.Perm (List.range n))(hi:l[i]?=some x)(D:l[j]?=some y):((l.set i y).set j x).Perm (List.range n):=by obtain⟨z,rfl⟩:=bs.1 hi;obtain⟨B,rfl⟩:=bs.1 D;exact(List.set_set_perm z B).trans h
def zaV(h:(pR l)[k]?=some Rg):∃x:Nat,l[k]?=some x/\Rg=x:=by unfold pR at h;rw[bR]at h;obtain⟨x,z,B⟩:=o_.1 h;exact⟨x,z,B.symm⟩
def zaW(l:bW)(k x:Nat):(pR l).set k (x:Int)=pR (l.set k x):=by unfold pR;rw[fQ]
def zaX(C:Code)(b m:Nat)(w:aa)(n:Nat)(H:cy C b m w)(b7:m<=274877906944)(b8:n<=1024):ax 159 (lM (aX b) n) w (kQ C b (m+4096) (fun w' v=>∃(l:bW) (g:Nat),l.Perm (List.range n)/\v=.slice (aX g) n n/\yL w n g (pR l) w') w):=by
 obtain⟨b0,hi,bv,bz,Ev⟩:=cM fq;obtain⟨F,bb⟩:=bL H.lt H;have a5:IntKind.i64.wrap ((n:Int)-1)=(n:Int)-1:=Sq;clear H;go_enter func159,ntmps159
 go_wp2_with ((at_make;refine iJ _ rfl _ _ 27 rfl w.heap.size 3 b0 (zI 0) 1 dA hi bv bz .i64 .i64 n n n rfl rfl rfl rfl SB TB (ah _) ?_;intro b1 J a2))
 rw[gl,<-zcn]at J;obtain⟨Q,Z⟩:=bL (show yL w n w (pR (tW n 0)) b1 from⟨J,by simp[pR,tW]⟩) (bT a2);clear J a2;go_loopw [14] (fun i wr=>∃k:Nat,k<=n/\i=.int .i64 k/\Hd (yL w n w (pR (tW n k)) wr)/\Hd (aj w wr)) (fun i _=>n-(intOf i).toNat)
 case atStart=>exact⟨0,aT _,rfl,Q,Z⟩
 case round=>
  obtain⟨k,b6,rfl,B,D⟩:=hrel;clear Q Z;by_cases a3:k<n
  .obtain⟨b5,y,-,b4⟩:=B.at a3;clear a5;go_wp2;go_roundw
   case rel=>exact⟨k+1,Ry,RB,zH (by rw[<-zeM a3];exact B.put k k),zH (D.o.setCell (p:=⟨w,k,none⟩) (ah _) _)⟩
   case measure=>simp[intOf];omega
  .obtain rfl:n=k:=Ry;obtain⟨ab,ad,R⟩:=dD (bb.ext D.o) (show w.grownBy wr (some b) from aN D.o) (show yL w n w (pR (List.range n)) wr by have:=B.o;rwa[zeL]at this);clear B D;obtain⟨a8,rfl⟩:∃a8,a8=wr:=⟨wr,rfl⟩;go_wp2;go_loopw [7] (fun i wr=>∃(z:Int) (l:bW),-1<=z/\z<n/\i=.int .i64 z/\Hd (l.Perm (List.range n))/\Hd (yL w n w (pR l) wr)/\Hd (cy C b (m+(n-z).toNat*2) wr)/\Hd (w.grownBy wr (some b))) (fun i _=>(intOf i).toNat)
   case atStart=>exact⟨(n:Int)-1,List.range n,Ry,Ry,rfl,zH (List.Perm.refl _),R,zH (ab.mono Ry),ad⟩
   case round=>
    obtain⟨z,l,br,cc,rfl,ao,T,ac,am⟩:=hrel;clear R ab ad;by_cases b3:0<z
    .obtain⟨j,rfl⟩:∃j:Nat,z=j:=⟨z.toNat,Ry⟩;have bo:j<n:=Ry;have ca:IntKind.i64.wrap ((j:Int)+1)=(j:Int)+1:=Sq;have cb:IntKind.i64.wrap ((j:Int)-1)=(j:Int)-1:=Sq;have HM:=zH (Ry:m+((n:Int)-j).toNat*2<=549755813000);have bi:=zH (cY C b _ wr ((j:Int)+1) ac SZ);clear br a5;go_upto_region 11 with(go_at_call 88;(with_reducible refine bi.o.mono ?_);rintro e b2 ⟨v,rfl,⟨r,rfl,bp,-⟩,a1,I⟩;have a4:r<n:=Ry;have E:=T.drawn I F;obtain⟨f1,ce,ap,c1⟩:=E.at bo;obtain⟨f2,ch,a0,c2⟩:=E.at a4;have U:=zH E;have bd:=zH a1;have be:=zH (am.trans I);clear a1 I E bp)
     obtain⟨a9,a6,rfl⟩:=zaV ap;obtain⟨O,a7,rfl⟩:=zaV a0;obtain⟨f3,ci,-,c3⟩:=(U.o.put j (O:Int)).at a4;obtain⟨bm,ba⟩:=bL (swap_perm ao a6 a7) (by rw[<-zaW,<-zaW];exact(U.o.put j (O:Int)).put r (a9:Int):yL w n w (pR ((l.set j O).set r a9)) _);clear ap a0 a6 a7;go_wp2;go_roundw
     case rel=>exact⟨(j:Int)-1,_,Ry,Ry,Tv,bm,ba,zH ((bd.oD fun q b9=>(bx _ _ _ _ (by show q≠w.heap.size;have:=F.o;omega)).trans (bx _ _ _ _ (by show q≠w.heap.size;have:=F.o;omega))).mono Ry),zH (jl be (((ai w b2).setCell (p:=⟨w,j,none⟩) (ah _) _).setCell (p:=⟨w,r,none⟩) (ah _) _))⟩
     case measure=>simp[intOf];omega
    .go_wp2;go_ret
     refine⟨_,rfl,?_,ac.mono Ry,am⟩;exact⟨l,ao,w,rfl,T⟩
def ziG:(prog.info? 26).map (fun i=>(i.zero,i.size,i.bytes))=some (some (.agg aQ),3,40):=RU
def aI.qO{w w':aa}{B s:Nat}{v:av}{rows:aC}{xs:bN}(h:aI w B u rows)(I:27≠Rv)(J:3≠Rv)(F:w.ownsRow B' Rv s v n xs)(z:w.grownBy w' v.ownBlock):aI w' B u rows:=by obtain⟨us,h⟩:=h;exact⟨us,ic h.outer z (iY I h.outer F),fun k H r E D=>au.kept (h.each k H r E D) z (iY J (h.each k H r E D) F),h.apart⟩
def iS(x:Sy)(u:av):List Value:=[.int .i64 x.v,.int .i64 x.h,u]
def tX:List Sy->List Value->List Value
 |x::xs,u::us=>iS x u++tX xs us
 |_,_=>[]
def sV{j:Nat}(D:j<3):∀{xs:List Sy} {us:bN} {k:Nat} {x:Sy} {u:av},xs[k]?=some x->us[k]?=some u->(tX xs us)[k*3+j]?=(iS x u)[j]?
 |[],us,k,x,u,h,_=>RR
 |x::xs,[],k,_,_,_,h=>RR
 |x::xs,u::us,0,y,t,h,z=>by simp at h z;subst h z;rw[tX,dr (by simp[iS];omega)];simp
 |x::xs,u::us,k+1,y,t,h,z=>by simp only[cT]at h z;have:=sV D h z;rw[tX,gD (by simp[iS];omega)];rw[<-this];congr 1;simp[iS];omega
def Bb:∀{xs:List Sy} {us:bN} (x:Sy) (u:av),us.length=xs->tX (xs++[x]) (us++[u])=tX xs us++iS x u
 |[],us,x,u,h=>by have:us=[]:=fw R3;subst this;simp[tX]
 |x::xs,[],_,_,h=>RR
 |x::xs,u::us,y,t,h=>by have:=Bb (xs:=xs) (us:=us) y t R3;simp[tX,this]
structure jn(w:aa)(B:Nat)(v:av)(xs:List Sy)(us:bN):Prop where
 len:us.length=xs
 outer:w.ownsRow B 26 3 v xs.length (tX xs us)
 each:∀(k:Nat) (u:av) (x:Sy),us[k]?=some u->xs[k]?=some x->aI w B u x.rows
def kL(w:aa)(B:Nat)(v:av)(xs:List Sy):Prop:=∃us,jn w B v xs us
def zjg(w:aa)(A:aq)(xs:List Sy):Prop:=
 xs=[]∨∃b o,A=some ⟨b,o,none⟩/\∀(k:Nat) (x:Sy),xs[k]?=some x->∃z cap,(af w b (o+k*3) (zI x.v)/\af w b (o+k*3+1) (zI x.h)/\af w b (o+k*3+2) (.slice z x.rows cap))/\aL w z x.rows
section
variable{w w':aa}{B:Nat}{v:av}{xs:List Sy}{us:bN}
def jn.get(h:jn w B v xs us){x:Sy}(hx:xs[k]?=some x):∃u,us[k]?=some u/\aI w B u x.rows:=Yn
def kL.view(h:kL w B v xs):∃A cap,v=.slice A xs cap/\zjg w A xs/\xs.length<=cap/\cap<=maxLen:=by
 obtain⟨us,h⟩:=h;have I:=fun g=>pc h.outer (g:=g)
 rcases h.outer.2 with⟨rfl,hn⟩|⟨g,cap,cur,rfl,T,U,hn,J,Z⟩
 .exact Xc
 .refine⟨_,cap,rfl,aB ⟨g,0,rfl,fun k x F=>?_⟩,hn,J⟩;obtain⟨u,Q,O⟩:=h.get F;obtain⟨D,E,rfl,hi,_⟩:=O.view;have z:∀(j:Nat) (y:av),j<3->(iS x (.slice D x.rows E))[j]?=some y->af w g (0+k*3+j) y:=fun j y H R=>by have:=I g rfl (k*3+j) y (by rw[sV H F Q];exact R);rwa[dy,<-qD]at this
  exact⟨D,E,⟨z 0 _ RC rfl,z 1 _ RC rfl,z 2 _ RC rfl⟩,hi⟩
def jn.ext(h:jn w B v xs us)(z:aj w w'):jn w' B v xs us:=⟨h.len,ic h.outer (row:=none) ⟨z.os,z.tape,z.output,z.size,fun k D _=>z.block k D⟩ Ud,fun k u r F E=>(h.each k u r F E).ext z⟩
def kL.ext(h:kL w B v xs)(hb:aj w w'):kL w' B v xs:=WM
def jn.mono{B':Nat}(h:jn w B v xs us)(E:B'<=B):jn w B' v xs us:=⟨h.len,⟨h.outer.1,h.outer.2.imp id fun⟨g,cap,cur,z,I,D⟩=>⟨g,cap,cur,z,Ry,D⟩⟩,fun k u r H F=>(h.each k u r H F).mono E⟩
def kL.mono(h:kL w B v xs)(z:B'<=B):kL w B' v xs:=by obtain⟨us,h⟩:=h;exact⟨us,h.mono z⟩
def kL.nil(w:aa)(B:Nat):kL w B (.slice none 0 0) []:=⟨[],rfl,kX _ _ _ _,fun k u r hu=>RS⟩
def kL.lit(W:aa)(B:Nat)(z:B<=(W:Nat)):kL (W.alloc (.cells #[] 26)) B (.slice (aX W) 0 0) []:=⟨[],rfl,tg W #[] 0 z RC rfl,fun k u r hu=>RS⟩
def kL.one(W:aa)(B:Nat)(x:Sy)(u:av)(E:B<=(W:Nat))(F:aI W B u x.rows):kL (W.alloc (.cells #[x.v,x.h,u] 26)) B (.slice (aX W) 1 1) [x]:=by
 refine⟨[u],rfl,?_,fun k H I z D=>?_⟩
 .exact⟨rfl,aB ⟨W,1,#[.int .i64 x.v,.int .i64 x.h,u],rfl,E,aD _ _ rfl,ah _,RC,rfl,rfl⟩⟩
 .cases k with
  |zero=>simp at z D;subst z D;exact F.ext ((ai _ _).alloc (ah _) _)
  |succ k=>simp at z
def jn.snoc{x:Sy}(h:jn w B v xs us)(I:aI w B u x.rows)(H:w'.ownsRow B 26 3 v' (xs.length+1) (tX xs us++iS x u))(E:w.grownBy w' v.ownBlock):jn w' B v' (xs++[x]) (us++[u]):=by
 refine⟨R0,by rw[Bb _ _ h.len];simpa using H,?_⟩;intro k J O z D;by_cases hk:k<us.length
 .rw[dr hk]at z;rw[dr TQ]at D;exact aI.qO (h.each k J O z D) RC RC h.outer E
 .have F:k=us.length:=by have:=(bs.1 z).1;simp at this;omega
  subst F;simp at z;rw[h.len]at D;simp at D;subst z D;exact aI.qO I RC RC h.outer E
end
def Bw{K:oS}{T:Prop}(Z:o.guard=none)(s x:kE)(ac:o.op=.call {callee:=.builtin .append,args:=#[s,x],argTypes:=#[79,79]})(B:Nat)(W:aa)(v u:av)(xs:List Sy)(y:Sy)(am:kL W B v xs)(J:aI W B u y.rows)(a6:xs.length+1<=1048576)(U:B<=(W:Nat))(ap:a.eval s=v)(a0:a.eval x=.slice (aX W) 1 1)(h:∀g cap w',kL w' B (.slice (aX g) (xs.length+1) cap) (xs++[y])->W.grownBy w' v.ownBlock->Below B W w'->K (a.put o.dst (.slice (aX g) (xs.length+1) cap)) w'):if Region.wanted o (yielded Q a.tmps)=true then Oper.wp prog o a (W.alloc (.cells #[y.v,y.h,u] 26)) K R else T:=by
 obtain⟨a4,hi,a1,a2,a3⟩:=cM ziG;obtain⟨us,D⟩:=am;obtain⟨H,I,rfl,_⟩:=J.view;have ad:=mq D.outer (.cells (ae y.v y.h H y.rows I) 26);refine zg _ Z s x 79 ac B 26 a4 (.agg aQ) 3 40 underlying79 hi a1 a2 a3 rfl RC v _ _ ap ad ⟨W,0,none⟩ 1 1 (iS y (.slice H y.rows I)) a0 rfl ?_ ?_ RC ?_ ?_ ?_ _ rfl ?_
 .intro j a5 z
  match j,z with
  |0,z=>simp[iS]at z;subst z;simp[Addr.add]
  |1,z=>simp[iS]at z;subst z;simp[Addr.add]
  |2,z=>simp[iS]at z;subst z;simp[Addr.add]
  |j+3,z=>simp[iS]at z
 .intro a5 O;simp[iS]at O;rcases O with rfl|rfl|rfl <;>rfl
 .unfold maxLen;omega
 .omega
 .simp;omega
 .intro g cap w' ao EJ _ _;have E:W.grownBy w' v.ownBlock:=⟨EJ.os,EJ.tape,EJ.output,VF,fun k F ab=>(EJ.block k RX ab).trans (qE W _ F)⟩;exact h g cap w' ⟨_,D.snoc J ao E⟩ E ((ai _ _).grown E U fun k F=>(b_ D.outer k F).1)
def oy{K:oS}{E:Prop}(F:o.guard=none)(s x:kE)(H:o.op=.call {callee:=.builtin .append,args:=#[s,x],argTypes:=#[44,44]})(B:Nat)(W:aa)(v u:av)(xs:List cZ)(us:bN)(y:cZ)(hW:bG W B v xs us)(hu:au W B u y.row)(hd:∀b,u.ownBlock=some b->∀u'∈us,u'.ownBlock≠some b)(ac:xs.length+1<=1048576)(hB:B<=(W:Nat))(J:a.eval s=v)(O:a.eval x=.slice (aX W) 1 1)(h:∀g cap w',bG w' B (.slice (aX g) (xs.length+1) cap) (xs++[y]) (us++[u])->W.grownBy w' v.ownBlock->Below B W w'->K (a.put o.dst (.slice (aX g) (xs.length+1) cap)) w'):if Region.wanted o (yielded Q a.tmps)=true then Oper.wp prog o a (W.alloc (.cells #[y.k,y.a,y.b,y.c,u] 29)) K R else E:=by
 obtain⟨ab,hi,T,U,Z⟩:=cM CO;obtain⟨z,D,rfl,_⟩:=hu.view;have I:=mq hW.outer (.cells (dk y.k y.a y.b y.c z y.row D) 29);refine zg _ F s x 44 H B 29 ab (.agg dH) 5 56 wT hi T U Z rfl RC v _ _ J I ⟨W,0,none⟩ 1 1 (dx y (.slice z y.row D)) O rfl ?_ ?_ RC ?_ ?_ ?_ _ rfl ?_
 .exact Zl
 .exact XO
 .unfold maxLen;omega
 .omega
 .simp;omega
 .exact Zj
def ng(E:o.guard=none)(s x:kE)(F:o.op=.call {callee:=.builtin .append,args:=#[s,x],argTypes:=#[44,44]})(B:Nat)(W:aa)(v u:av)(xs:List cZ)(us:bN)(y:cZ)(hW:bG W B v xs us)(hu:au W B u y.row)(hd:∀b,u.ownBlock=some b->∀u'∈us,u'.ownBlock≠some b)(ab:xs.length+1<=1048576)(hB:B<=(W:Nat))(I:a.eval s=v)(J:a.eval x=.slice (aX W) 1 1)(h:∀g cap w',bG w' B (.slice (aX g) (xs.length+1) cap) (xs++[y]) (us++[u])->W.grownBy w' v.ownBlock->Below B W w'->wpList prog Q R rest (a.put o.dst (.slice (aX g) (xs.length+1) cap)) w'):wpList prog Q R (o::rest) a (W.alloc (.cells #[y.k,y.a,y.b,y.c,u] 29)):=by
 obtain⟨Z,hi,O,T,U⟩:=cM CO;obtain⟨z,D,rfl,_⟩:=hu.view;have H:=mq hW.outer (.cells (dk y.k y.a y.b y.c z y.row D) 29);refine wN _ E s x 44 F B 29 Z (.agg dH) 5 56 wT hi O T U rfl RC v _ _ I H ⟨W,0,none⟩ 1 1 (dx y (.slice z y.row D)) J rfl ?_ ?_ RC ?_ ?_ ?_ _ rfl ?_
 .exact Zl
 .exact XO
 .unfold maxLen;omega
 .omega
 .simp;omega
 .exact Zj
def zik(p v h a b c:Int)(A:aq)(cap:Nat)(rows:aC)(w:aa)(be:aq)(n b4:Nat)(bo:aL w A rows)(d6:rows.length<=160)(Ew:∀r∈rows,r.length<=1000)(br:1<=p)(bv:p<=1000)(c9:0<=a)(da:a<rows.length)(hb:0<=b)(dc:b<rows.length)(db:a≠b)(a3:0<=c)(cI:c<=1000)(hx:∀r∈rows,∀x∈r,0<=x/\x<=1000)(m:Nat)(a4:∀r∈rows,r.length=m):ax 37 (dI p (ae v h A rows cap) (kj a b c be n b4)) w fun e w'=>∃u,e=.returned (.agg (dz v h u))/\aI w' w u (rows.set b.toNat (cV p c (rows.getD b.toNat []) (rows.getD a.toNat [])))/\aj w w':=by
 obtain⟨B,EW⟩:=aw (Ry:a.toNat<rows.length);obtain⟨z,Fm⟩:=aw (Ry:b.toNat<rows.length);obtain⟨b6,b9,cj,cn,Z⟩:=l_ (TI:rows.getD a.toNat []=B) (TH:rows.getD b.toNat []=z) (show ∀x∈B,0<=x/\x<=1000 from hx B (aR EW)) (show ∀x∈z,0<=x/\x<=1000 from hx z (aR Fm)) (by rw[a4 B (aR EW),a4 z (aR Fm)]:z.length=B);have d9:B.length<=1000:=Ew B (aR EW);clear hx a4;obtain⟨cb,cc⟩:=bL (Ry:rows.length<=1048576) (show ∀r∈rows,r.length<=1048576 from fun r hr=>TZ);go_enter func37,nr
 go_wp2_with fail
 refine(ix _ _ _ _ _ _ (bo.ext (((ai _ _).alloc Rx _ |>.alloc Rx _).alloc Sn _)) cb cc).mono ?_;rintro e F ⟨u,rfl,⟨us,hu⟩,a1⟩;obtain⟨T,EV,rfl,_,_,_⟩:=aI.view ⟨us,hu⟩;obtain⟨b1,ao,ap⟩:=cv w (.cells (ae v h A rows cap) 26) (.cells (kj a b c be n b4) 29) (.cells aQ 26);have c0:=a1.size;simp only[cx]at c0;go_upto_region 2 with(fail)
 obtain⟨H,Er⟩:=aK (F.alloc (.cells (ae v h T rows EV) 26));rw[<-Er];have a2:aj F H:=VH;have ea:(H:Nat)=F+1:=So;have U:=bQ a1 a2;have a8:aW H F (ae v h T rows EV) 26:=Um;have bz:=cp U b1;have a7:=cp U ao;have b0:=cp U ap;have E9:a_ H ((w:Nat)+3) (.slice T rows EV) rows us:=(hu.ext a2).mono Rx;have c4:∀g',T=some ⟨g',0,none⟩->g' < (F:Nat):=fun g' e=>Vy
 have O:∀(k:Nat) (x:av),us[k]?=some x->∀b,x.ownBlock=some b->b < (F:Nat):=fun k x hx b hb=>Wi
 have bp:aj w H:=(below_alloc3 w _ _ _).trans (U.mono Sn);clear hu a1 a2 U bo Ew b1 ao ap Er;obtain⟨eg,E_,a5⟩:=E9.get EW;obtain⟨ei,Gl,ac⟩:=E9.get Fm;obtain⟨g,cK,d0,d4⟩:∃g,T=some ⟨g,0,none⟩/\(w:Nat)+3<=g/\g < (H:Nat):=kH E9 Ry;subst cK;obtain⟨bb,bi,rfl,bm,_⟩:=a5.view;obtain⟨R,I,rfl,_,_⟩:=ac.view;have b5:af H g a.toNat (.slice bb B bi):=VD;have ba:af H g b.toNat (.slice R z I):=VJ;obtain⟨y0,y1,y2,y3,y4⟩:=bO a7;obtain⟨b2,b3,a9⟩:=al a8;have b7:=zH (fun J E (cz:(Value.slice bb B bi).ownBlock=some J) (cF:(Value.slice R z I).ownBlock=some E)=>show J≠E from fun e=>by have:=E9.apart _ _ _ _ J E_ Gl cz (by rw[e];exact cF);omega)
 obtain⟨ch,b8,ci,a0,ce,ca,co,cr,ct,cu,bd,FJ⟩:=zjS E9 bp Gl ac a5 bm bz a7 b0 a8 (O _ _ Gl) (fv E9.outer ac);clear E9 bp E_ Gl a5 ac EW Fm bm c4 O bz a7 b0 a8;go_wp2;go_loopw [84] (fun i wr=>∃k:Nat,k<=B.length/\i=.int .i64 k/\wr.ownsRow ((w:Nat)+3) 3 1 (.slice R z I) z ((kN p c z B k).map (Value.int .i64))/\H.grownBy wr (Value.slice R z I).ownBlock)
  (fun i _=>B.length-(intOf i).toNat)
 case atStart=>exact⟨0,aT _,rfl,by rw[um];exact a0,⟨rfl,rfl,rfl,ah _,fun _ _ _=>rfl⟩⟩
 case round=>
  obtain⟨k,d5,rfl,Q,D⟩:=hrel;by_cases ab:k<B.length
  .have cR:k<z.length:=by have:=Z.o;omega
   obtain⟨y,am⟩:=aw ab;obtain⟨x,hx⟩:=aw cR;obtain⟨E,rfl,d2,_⟩:=kU a0 Ry;obtain⟨J,rfl,d1,_⟩:=kU ce Ry;have d3:=bd E rfl;have d7:g≠E:=Xp;have d8:J≠E:=b7 J E rfl rfl;have t2:af wr ((w:Nat)+1) 2 (zI b):=D.cell y2 Us;have t3:af wr ((w:Nat)+1) 3 (zI c):=D.cell y3 Us;have t5:af wr F 2 (.slice (aX g) rows EV):=D.cell a9 Us;have t6:af wr g b.toNat (.slice (aX E) z I):=D.cell ba Us;have t7:af wr J k (zI y):=by
    rcases ca.o with h|⟨c8,ee,h,a3⟩
    .rw[h]at ab;simp at ab
    .simp only[dt,pg]at h;obtain⟨rfl,rfl,_⟩:=h;have:=a3 k y am;rw[fY]at this;exact D.cell this Us
   have dl:af wr E k (zI x):=by rw[Q.cellAt k Ry,bR,xp _ _ _ _ _ ab Z,hx];rfl
   have dT:=Q.frozenAt k;obtain⟨ao,ap⟩:=cn x (aR hx);obtain⟨c6,c7⟩:=cj y (aR am);have c5:=gI (y*c) (Ry:p≠0);have eb:=gJ (y*c) (Ry:0<p);have a6:(x+y*c)%p=(x+c*y)%p:=by rw[iI]
   have ad:=Q.stored k (zI ((x+y*c)%p));rw[a6,<-fQ,xq _ _ _ _ _ _ _ hx am,<-a6]at ad;obtain⟨HS,HG⟩:=bL ad.1 (bq D ad.2);clear ad hx am Q D b2 b3 a9 y0 y1 y2 y3 y4 b5 ba a6;go_wp2_with fail
   refine bk (S:=fun W=>af W ((w:Nat)+1) 2 (zI b)/\af W ((w:Nat)+1) 3 (zI c)/\af W F 2 (.slice (aX g) rows EV)/\af W g b.toNat (.slice (aX E) z I)/\af W E k (zI x)) 24 RU RI (fun hHeld=>?_);refine ay 0 ?_;refine ay 1 ?_;refine ay 2 ?_;refine ay 3 ?_;refine ay 4 ?_;refine ay 5 ?_;refine ay 6 ?_;refine ay 7 ?_;refine ay 8 ?_;refine ay 9 ?_;refine ay 10 ?_;refine ay 11 ?_;refine ay 12 ?_;refine ay 13 ?_;refine ay 14 ?_;refine ay 15 ?_;refine ay 16 ?_;refine ay 17 ?_;refine ay 18 ?_;refine ay 19 ?_;refine ay 20 ?_;refine bu 21 fun K hK=>?_
   go_simp;refine(nJ p y c _ br bv c6 c7 a3 cI).mono ?_;rintro e w' ⟨rfl,rfl⟩;go_simp;refine hK.out _ _ (fun _=>hHeld) (fun hHeld=>?_);clear hK K;try simp only[Act.put,zA]
   have hHeld:=hHeld RC;refine bu 22 fun K hK=>?_
   go_simp;refine(BX p x (y*c%p) _ br bv ao ap c5 Ry).mono ?_;rintro e w' ⟨rfl,rfl⟩;go_simp;refine hK.out _ _ (fun _=>hHeld) (fun hHeld=>?_);clear hK K;try simp only[Act.put,zA]
   have hHeld:=hHeld RC;refine bu 23 fun K hK=>?_
   go_simp;refine hK.out _ _ (fun _=>hHeld) (fun hHeld=>?_);clear hK K;try simp only[Act.put,zA]
   have hHeld:=hHeld RC;refine bu 24 fun K hK=>?_
   go_simp;refine hK.out _ _ (fun h=>absurd h RC) (fun _=>?_);clear hK K;try simp only[Act.put,zA]
   refine dS RU ?_ _;exact Yo
  .have Gm:∀b,(Value.slice R z I).ownBlock=some b->(w:Nat)+3<=b/\b < (F:Nat):=fun b hb=>⟨(b_ a0 b hb).1,bd b hb⟩
   have IH:=(D.block F Ry (fun e=>Uq)).trans cu;have IG:=(D.block w Ry (fun e=>Uq)).trans co;have IJ:=(D.block ((w:Nat)+1) Ry (fun e=>Uq)).trans cr;have II:=(D.block ((w:Nat)+1+1) Ry (fun e=>Uq)).trans ct;have cO:k=B.length:=Ry;subst cO;have O:=ch.inner (r':=cV p c z B) ci D (by
    unfold au;rw[show(cV p c z B).length=z by simp[cV,Z.o],<-xo p c z B Z B (ah _)];exact Q)
   rw[<-b6.o,<-b9.o]at O;have HO:=zH (show aI wr ((w:Nat)+3) (.slice (aX g) rows EV) (rows.set b.toNat (cV p c (rows.getD b.toNat []) (rows.getD a.toNat []))) by exact⟨_,O⟩)
   have HE:=zH (b8.grown D Ry fun b hb=>T3);clear Q D Gm O b2 b3 a9 y0 y1 y2 y3 y4 b5 ba;exact ZL
def zcm(p v h k a b c:Int)(A:aq)(cap:Nat)(rows:aC)(w:aa)(B:aq)(row:aH)(D:Nat)(F:aL w A rows)(ad:aU w B row)(s:Sys p v h rows)(ao:jO p v h rows k a b c row=true):ax 37 (ew p (ae v h A rows cap) (dk k a b c B row D)) w fun e w'=>∃u,e=.returned (.agg (dz v (dK k h) u))/\aI w' w u (bH p v rows k a b c row (v+h).toNat)/\aj w w':=by
 have ap:=s.p2;have a0:=s.p97;have a1:=s.v0;have a2:=s.v24;have a3:=s.h0;have a4:=s.h100;have E:=s.n;have H:∀r∈rows,r.length<=1000:=fun r hr=>Ub
 have I:∀r∈rows,∀x∈r,0<=x/\x<=1000:=fun r hr x hx=>Ux
 have am:∀r∈rows,r.length=(v+h).toNat:=fun r hr=>Ub
 have z:=ao;unfold jO at z;rw[bn]at z
 replace z:=z.2
 by_cases J:k=1
 .subst J;simp[bh]at z;rw[show dK 1 h=h by simp[dK],show bH p v rows 1 a b c row (v+h).toNat=((rows.set a.toNat (rows.getD b.toNat [])).set b.toNat (rows.getD a.toNat [])) by simp[bH]];exact zhz p v h a b c A cap rows w B row D F E H Ry Ry Ry Ry Ry
 by_cases O:k=2
 .subst O;simp[bh]at z;rw[show dK 2 h=h by simp[dK],show bH p v rows 2 a b c row (v+h).toNat=(rows.set a.toNat (fU p c (rows.getD a.toNat []))) by simp[bH]];exact zgE p v h a b c A cap rows w B row D F E H Ry Ry Ry Ry Ry Ry I
 by_cases Q:k=3
 .subst Q;simp[bh]at z;rw[show dK 3 h=h by simp[dK],show bH p v rows 3 a b c row (v+h).toNat=(rows.set b.toNat (cV p c (rows.getD b.toNat []) (rows.getD a.toNat []))) by simp[bH]];exact zik p v h a b c A cap rows w B row D F E H Ry Ry Ry Ry Ry Ry Ry Ry Ry I (v+h).toNat am
 by_cases R:k=4
 .subst R;simp[bh]at z;rw[show dK 4 h=h by simp[dK],show bH p v rows 4 a b c row (v+h).toNat=(rows.eraseIdx a.toNat) by simp[bH]];exact zhA p v h a b c A cap rows w B row D F E H Ry Ry
 by_cases T:k=5
 .subst T;simp[bh]at z;rw[show dK 5 h=h by simp[dK],show bH p v rows 5 a b c row (v+h).toNat=(bK rows a.toNat (List.replicate (v+h).toNat 0)) by simp[bH]];exact ziE p v h a b c A cap rows w B row D F E H Ry Ry Ry Ry Ry Ry
 by_cases U:k=6
 .subst U;simp[bh]at z;rw[show dK 6 h=h-1 by simp[dK],show bH p v rows 6 a b c row (v+h).toNat=((rows.map (fun r=>r.eraseIdx (v+b).toNat)).eraseIdx a.toNat) by simp[bH]];exact zfn p v h a b c A cap rows w B row D F E H Ry Ry Ry Ry Ry Ry Ry Ry (fun r hr=>Ub)
 by_cases Z:k=7
 .subst Z;simp[bh]at z;rw[show dK 7 h=h+1 by simp[dK],show bH p v rows 7 a b c row (v+h).toNat=(bK (rows.map (fun r=>bK r (v+b).toNat 0)) a.toNat row) by simp[bH]];exact zgb p v h a b c A cap rows w B row D F E H Ry Ry Ry Ry Ry Ry (fun r hr=>Ub) Ry Ry row ad rfl Ry
 by_cases ab:k=8
 .subst ab;simp[bh]at z;rw[show dK 8 h=h-1 by simp[dK],show bH p v rows 8 a b c row (v+h).toNat=(rows.map (fun r=>r.eraseIdx (v+b).toNat)) by simp[bH]];exact zdD p v h a b c A cap rows w B row D F E H Ry Ry Ry Ry Ry Ry (fun r hr=>Ub)
 by_cases ac:k=9
 .subst ac;simp[bh]at z;rw[show dK 9 h=h+1 by simp[dK],show bH p v rows 9 a b c row (v+h).toNat=(rows.map (fun r=>bK r (v+b).toNat 0)) by simp[bH]];exact zek p v h a b c A cap rows w B row D F E H Ry Ry Ry Ry Ry Ry (fun r hr=>Ub)
 simp[*]at z
def ld(h:Below D w w')(z:D<=b)(v0 v1 v2:av):Below D w (((w'.setCell ⟨b,0,none⟩ v0).setCell ⟨b,1,none⟩ v1).setCell ⟨b,2,none⟩ v2):=((h.setCell z _).setCell z _).setCell z _
def q7(p:Int)(s:Sy)(xs:List cZ)(n:Nat):List Sy:=(List.range n).map (dn p s xs)
def zeN(p:Int)(s:Sy)(xs:List cZ)(n:Nat):q7 p s xs (n+1)=q7 p s xs n++[dn p s xs n]:=by simp[q7,mo]
def A_(p:Int)(s:Sy)(xs:List cZ)(n:Nat):(q7 p s xs n).length=n:=by simp[q7]
def Ba(p:Int)(s:Sy)(xs:List cZ)(n k:Nat)(h:k<n):(q7 p s xs n)[k]?=some (dn p s xs k):=by simp[q7,h]
def Dz(p:Int)(s:Sy)(x:cZ)(A:aq)(cap:Nat)(w:aa)(z:aq)(D:Nat)(H:aL w A s.rows)(I:aU w z x.row)(Q:s.Ok p)(O:eZ p s x=true):ax 37 (ew p (ae s.v s.h A s.rows cap) (dk x.k x.a x.b x.c z x.row D)) w fun e w'=>∃A2 c2,e=.returned (.agg (dp (cq p s x).v (cq p s x).h A2 (cq p s x).rows c2))/\aI w' w (.slice A2 (cq p s x).rows c2) (cq p s x).rows/\aj w w':=by
 refine(zcm p s.v s.h x.k x.a x.b x.c A cap s.rows w z x.row D H I Q O).mono fun e w' J=>?_
 obtain⟨u,E,B,F⟩:=J;obtain⟨A2,c2,rfl,_⟩:=B.view;exact⟨A2,c2,E,B,F⟩
def zgF(p:Int)(s:Sy)(xs:List cZ)(w:aa)(e:Ending)(w':aa):Prop:=
 ∃g cap,e=.returned (.slice (aX g) (bB p s xs+1) cap)/\kL w' w (.slice (aX g) (bB p s xs+1) cap) (q7 p s xs (bB p s xs+1))/\aj w w'
def ziF(p:Int)(s:Sy)(xs:List cZ)(w:aa)(k:Nat)(u:av)(wr:aa):Prop:=
 k<=bB p s xs/\∃g m cap,m=k+1/\u=.slice (aX g) m cap/\kL wr w u (q7 p s xs (k+1))/\aj w wr
def Cz(p:Int)(s:Sy)(A:aq)(cap:Nat)(xs:List cZ)(w:aa)(a0:aq)(b4:Nat)(cu:aL w A s.rows)(cF:fF w a0 xs)(bz:s.Ok p)(e2:xs.length<=40000)(c7:∀x∈xs,x.row.length<=1048576):ax 50 (wA p (ae s.v s.h A s.rows cap) a0 xs b4) w (zgF p s xs w):=by
 have hs:=bz.small;obtain⟨cb,eb,FO,d4,ca,b8⟩:=lq cu cF bz c7 (show s.rows.length<=1048576 by have:=hs.n;omega) (show ∀r∈s.rows,r.length<=1048576 from fun r hr=>Ui);clear cu cF bz c7 hs;have a6:=zH ((ai w w).alloc (ah _) (.cells (ae s.v s.h A s.rows cap) 26));go_enter func50,ntmps50
 go_wp2_with (go_at_call 76;refine(ix _ _ _ _ _ _ (cb.ext a6) ca b8).mono ?_;rintro e b3 ⟨u,rfl,b2,cI⟩;obtain⟨A1,c1,rfl,_⟩:=b2.view;have cj:=zH b2;have b6:=zH cI;clear b2 cI)
 have dl:ziF p s xs w 0 (.slice (aX b3) 1 1) (b3.alloc (.cells (ae s.v s.h A1 s.rows c1) 26)):=by have bp:=a6.trans (b6.mono (B':=w.heap.size) Sn);refine⟨aT _,_,1,_,rfl,rfl,?_,bp.alloc bp.size _⟩;have:=kL.one b3 w s (.slice A1 s.rows c1) bp.size (cj.mono Rx);rw[show q7 p s xs (0+1)=[s] by simp[q7,ij]];exact this
 have ci:=zH dl;clear dl cj b6 a6 cb ca b8;go_loopw [7,15] (fun u i wr=>∃k:Nat,k<=xs.length/\i=.int .i64 k/\ziF p s xs w k u wr)
  (fun _ i _=>xs.length-(intOf i).toNat)
 case atStart=>exact⟨0,aT _,rfl,ci⟩
 case round=>
  obtain⟨k,e0,rfl,Fp,g,m,bo,c6,rfl,a2,br⟩:=hrel;have ac:=zH c6;have e1:k<m:=Ry;clear ci c6;obtain⟨a8,ab⟩:=bL a2 br;obtain⟨z,Gx⟩:=aK (dn p s xs k);obtain⟨Gy,a7⟩:=bL Gx (Ur:z.Ok p);by_cases c5:k<xs.length
  .obtain⟨x,a3⟩:=aw c5;obtain⟨b,o,rfl,cR⟩:=(eb.ext ab).here c5;obtain⟨R,ao,⟨H,I,J,O,Q⟩,c4⟩:=cR k x a3;obtain⟨ce,d3,a9⟩:=dD (d4 x (aR a3)) c4 a3;obtain⟨es,ev,d0,db,_⟩:=a2.view;simp only[ez]at d0;obtain⟨rfl,-,-⟩:=d0;have bv:k < (q7 p s xs (k+1)).length:=by rw[A_];omega
   obtain⟨eA,e3,c0,dc⟩:∃b o,some (⟨g,0,none⟩:dw)=some ⟨b,o,none⟩/\∀(a4:Nat) (x:Sy),(q7 p s xs (k+1))[a4]?=some x->∃R cap,(af wr b (o+a4*3) (zI x.v)/\af wr b (o+a4*3+1) (zI x.h)/\af wr b (o+a4*3+2) (.slice R x.rows cap))/\aL wr R x.rows:=by
    rcases db with h|h
    .rw[h]at bv;simp at bv
    .exact h
   simp only[dt,pg,and_true]at c0;obtain⟨rfl,rfl⟩:=c0;obtain⟨a5,ck,⟨D,E,F⟩,da⟩:=dc k z (by rw[Gx];exact Ba _ _ _ _ _ Ry);simp only[fY]at D E F;obtain⟨d8,ee,eg,ei⟩:=fS da D E F;clear cR c4 a3 a2 br Gx dc db bv da D E F;go_upto_region 5 with(fail)
   obtain⟨B,Er⟩:=aK (wr.alloc (.cells (dk x.k x.a x.b x.c R x.row ao) 29));rw[<-Er];have U:aj wr B:=VH;have c9:aW B wr (dk x.k x.a x.b x.c R x.row ao) 29:=Um;have b5:=zH U;clear H I J O Q;obtain⟨H,I,J,O,Q⟩:=bO c9;have D:=ag U ee;have E:=ag U eg;have F:=ag U ei;have bb:∀W:Ext B,af W.W wr 0 (zI x.k):=fun W=>W.cell H
   have bd:∀W:Ext B,af W.W wr 1 (zI x.a):=fun W=>W.cell I
   have be:∀W:Ext B,af W.W wr 2 (zI x.b):=fun W=>W.cell J
   have bi:∀W:Ext B,af W.W wr 3 (zI x.c):=fun W=>W.cell O
   have bm:∀W:Ext B,af W.W wr 4 (.slice R x.row ao):=fun W=>W.cell Q
   have f0:∀W:Ext B,af W.W g (k*3) (zI z.v):=fun W=>W.cell D
   have f1:∀W:Ext B,af W.W g (k*3+1) (zI z.h):=fun W=>W.cell E
   have f2:∀W:Ext B,af W.W g (k*3+2) (.slice a5 z.rows ck):=fun W=>W.cell F
   obtain⟨ad,am⟩:=bL (fun W:Ext B=>(d8.ext U).ext W.ok) (fun W:Ext B=>(d3.ext U).ext W.ok);clear U c9 Er H I J O Q D E F;cases a1:eZ p z x with
   |true=>
    have HO:=zH a1;clear a1;refine bM RU RU ?_
    repeat (go_big_quiet_step ((go_at_call 36;exact Calls.eF (Calls.bj (wZ p z.v z.h x.k x.a x.b x.c _ _ z.rows _ _ x.row _ (ad.o _) (am.o _) ce a7) HO))))
    refine dm ?_;rintro _ ⟨W,rfl⟩;obtain⟨T,cc,cn⟩:=dD (an b5 W.ok) (ad W) (am W);have H:=bb W;have I:=bd W;have J:=be W;have O:=bi W;have Q:=bm W;have D:=f0 W;have E:=f1 W;have F:=f2 W;obtain⟨ba,cz⟩:=aK W.W;rw[<-cz]at T cc cn H I J O Q D E F ⊢;clear bb bd be bi bm f0 f1 f2 ad am cz;obtain⟨d1,b1⟩:=aK (cq p z x);obtain⟨d9,co⟩:=bL b1 (fun(A cap W a0 b4 ej ek)=>Dz p z x A cap W a0 b4 ej ek a7 HO);rw[<-b1]at co;clear b1;go_upto_region 7 with(fail)
    refine bk (S:=fun W=>af W wr 0 (zI x.k)/\af W wr 1 (zI x.a)/\af W wr 2 (zI x.b)/\af W wr 3 (zI x.c)/\af W wr 4 (.slice R x.row ao)/\af W g (k*3) (zI z.v)/\af W g (k*3+1) (zI z.h)/\af W g (k*3+2) (.slice a5 z.rows ck)) 9 RU ⟨H,I,J,O,Q,D,E,F⟩ (fun hHeld=>?_);refine ay 0 ?_;refine ay 1 ?_;refine ay 2 ?_;refine ay 3 ?_;refine ay 4 ?_;refine ay 5 ?_;refine ay 6 ?_;refine bu 7 fun K hK=>?_
    go_simp;refine(co.o _ _ _ _ _ (cc.ext (ai _ _).drew) (cn.ext (ai _ _).drew)).mono ?_;rintro e en ⟨A2,c2,rfl,dT,cK⟩;obtain⟨Z,ea,ch⟩:=dD ((ai ba ba).drew.trans cK) dT (fun w' (h:aj ba w')=>(⟨ag h H,ag h I,ag h J,ag h O,ag h Q,ag h D,ag h E,ag h F⟩:af w' wr 0 (zI x.k)/\af w' wr 1 (zI x.a)/\af w' wr 2 (zI x.b)/\af w' wr 3 (zI x.c)/\af w' wr 4 (.slice R x.row ao)/\af w' g (k*3) (zI z.v)/\af w' g (k*3+1) (zI z.h)/\af w' g (k*3+2) (.slice a5 z.rows ck)));clear dT cK H I J O Q D E F;go_simp;refine hK.out _ _ (fun _=>ch.o _ Z.o) (fun hHeld=>?_);clear hK K;try simp only[Act.put,zA]
    have hHeld:=hHeld RC;refine bu 8 fun K hK=>?_
    go_simp;refine hK.out _ _ (fun _=>ch.o _ (Z.alloc Z.size _)) (fun hHeld=>?_);clear hK K;try simp only[Act.put,zA]
    have hHeld:=hHeld RC;refine bu 9 fun K hK=>?_
    obtain⟨d7,b9⟩:=bL (a8.ext (an T Z)) (A_ p s xs (k+1));refine Bw rfl (.tmp 29) (.tmp 37) rfl w en (.slice (aX g) m bo) (.slice A2 d1.rows c2) (q7 p s xs (k+1)) d1 d7.o (ea.mono (by have:=(an ab T).size;simpa using this)) (by rw[b9.o];omega) (by have:=(an ab (an T Z)).size;exact this) rfl rfl ?_;intro ct cr eo b0 em cO;rw[b9.o]at b0 ⊢;obtain⟨d6,d2⟩:=bL b0 cO;clear b0 em cO;refine hK.out _ _ (fun h=>absurd h RC) (fun _=>?_);clear hK K;try simp only[Act.put,zA]
    refine bu 10 fun K hK=>?_
    go_simp;refine hK.out _ _ (fun h=>absurd h RC) (fun _=>?_);clear hK K hHeld;try simp only[Act.put,zA]
    refine dS RU ?_ _;have c8:ziF p s xs w (k+1) (.slice (aX ct) (k+1+1) cr) eo:=by refine⟨zn Fp a9 T4,ct,_,cr,rfl,rfl,?_,(an ab (an T Z)).trans d2⟩;rw[zeN p s xs (k+1),je a9,<-Gy.o,<-d9.o];exact d6
    have d5:=zH c8;clear c8;go_wp2;go_roundw
    case rel=>exact⟨k+1,Ry,RB,d5⟩
    case measure=>simp[intOf];omega
   |false=>
    have HO:=zH a1;clear a1;refine bM RU RU ?_
    repeat (go_big_quiet_step ((go_at_call 36;exact Calls.eF (Calls.bj (wZ p z.v z.h x.k x.a x.b x.c _ _ z.rows _ _ x.row _ (ad.o _) (am.o _) ce a7) HO))))
    refine dm ?_;rintro _ ⟨W,rfl⟩;have T:=zH (an b5 W.ok);clear bb bd be bi bm f0 f1 f2 ad am;go_wp2;go_ret
    have ap:=zo Fp a9 T4;exact⟨g,bo,by rw[ap,<-ac.o];rfl,by rw[ap,<-ac.o];have:=a8.ext T;rw[<-ac.o]at this;exact this,an ab T⟩
  .have ap:bB p s xs=k:=by have:=iz p xs s;omega
   have b7:=zH ap;clear ap a2 br Gx;go_wp2;go_ret
   exact⟨g,bo,by rw[b7.o,<-ac.o];rfl,by rw[b7.o,<-ac.o];have:=a8.o;rw[<-ac.o]at this;exact this,ab⟩
end Go.Proofs.YtdpgblncijojiaaGreatDoor
