/- Parts of the walks and laws (Win, MarkI, MarkR). Conditions: as stated with each. -/
import Derived.Test.YtpieilkmmiopfaaGreatDoorPk2
namespace Go.Proofs.YtpieilkmmiopfaaGreatDoor
open Go.RowKit Tryz
set_option linter.all false
set_option maxHeartbeats 4000000
set_option maxRecDepth 20000
variable{A:aq}{B B' H b c hi hi' lo lo' n:Nat}{K:mE}{P:iU}{Q:gj}{a:Act}{o:fR}{ops:gP}{rest:List Oper}{t:du}{u v z:ax}{us:bU}{w w':aa}{xs:aH}
structure bn(lo hi:Nat)(w w':aa):Prop where
 os:w'.os=w.os
 tape:w'.tape=w.tape
 output:w'.output=w.output
 size:w.heap.size<=w'.heap.size
 block:∀k,k<w.heap.size->(k<lo∨hi<=k)->w'.heap[k]?=w.heap[k]?
theorem bn.refl(lo hi:Nat)(w:aa):bn lo hi w w:=⟨rfl,rfl,rfl,af _,fun _ _ _=>rfl⟩
theorem bn.trans{lo hi:Nat}{a b c:aa}(h:bn lo hi a b)(k:bn lo hi b c):bn lo hi a c:=⟨k.os.trans h.os,k.tape.trans h.tape,k.output.trans h.output,aR h.size k.size,fun i D F=>(k.block i (dI D h.size) F).trans (h.block i D F)⟩
theorem bn.eu(h:ag w w'):bn lo hi w w':=⟨h.os,h.tape,h.output,h.size,fun k D _=>h.block k D⟩
theorem bn.AL(h:w.grownBy w' (some b))(F:lo<=b)(G:b<hi):bn lo hi w w':=⟨h.os,h.tape,h.output,h.size,fun k D H=>h.block k D (fun e=>by cases e;omega)⟩
theorem bn.mono(h:bn lo hi w w')(F:lo'<=lo)(G:hi<=hi'):bn lo' hi' w w':=⟨h.os,h.tape,h.output,h.size,fun k D H=>h.block k D Rr⟩
theorem bn.below(h:bn lo hi w w')(D:B<=lo)(G:B<=w.heap.size):Below B w w':=⟨h.os,h.tape,h.output,h.size,fun k F=>h.block k Rr Rr⟩
theorem bn.cell(D:bn lo hi w w'){p:dk}(h:w.cell? p=some v)(F:p.block<lo∨hi<=p.block):w'.cell? p=some v:=by rw[<-h];exact v_ (w:=w) (D.block _ (jA w p h) F)
structure rP(w:aa)(lo hi:Nat)(v:ax)(xs:aH):Prop where
 own:aD w lo v xs
 up:∀b,v.ownBlock=some b->b<hi
structure pA(w:aa)(lo hi:Nat)(v:ax)(rows:aN)(us:bU):Prop where
 own:bC w lo v rows us
 up:∀b,v.ownBlock=some b->b<hi
 ups:∀u∈us,∀b,u.ownBlock=some b->b<hi
def Has(w:aa)(lo hi:Nat)(v:ax)(rows:aN):Prop:=∃us,pA w lo hi v rows us
theorem rP.of(h:aD w B v xs):rP w B w.heap.size v xs:=⟨h,fun b D=>(h.lt b D).2⟩
theorem Has.of{rows:aN}(h:aU w B v rows):Has w B w.heap.size v rows:=by obtain⟨us,h⟩:=h;refine⟨us,h,fun b hb=>(bL h.outer b hb).2,fun u hu b hb=>?_⟩;exact Xo
theorem rP.mono(h:rP w lo hi v xs)(D:lo'<=lo)(G:hi<=hi'):rP w lo' hi' v xs:=⟨h.own.mono D,fun b F=>by have:=h.up b F;omega⟩
theorem aD.within(D:aD w B v xs)(N:∀b,v.ownBlock=some b->b<H)(J:bn lo hi w w')(O:H<=lo∨hi<=B):aD w' B v xs:=by refine⟨D.1,D.2.imp id fun⟨g,cap,I,a1,F,h,G⟩=>⟨g,cap,I,a1,F,?_,G⟩⟩;have:=N g RY;exact(J.block g (aT.1 h).1 Rr).trans h
theorem rP.within(h:rP w lo hi v xs)(F:bn lo' hi' w w')(D:hi<=lo'∨hi'<=lo):rP w' lo hi v xs:=⟨h.own.within h.up F D,h.up⟩
theorem pA.within{rows:aN}(h:pA w lo hi v rows us)(hw:bn lo' hi' w w')(hd:hi<=lo'∨hi'<=lo):pA w' lo hi v rows us:=by refine⟨⟨⟨h.own.outer.1,h.own.outer.2.imp id fun⟨g,cap,H,a1,F,D,G⟩=>⟨g,cap,H,a1,F,(hw.block g (aT.1 D).1 Vf).trans D,G⟩⟩,fun k u r hu hr=>?_,h.own.apart⟩,h.up,h.ups⟩;exact WR
theorem Has.within{rows:aN}(h:Has w lo hi v rows)(F:bn lo' hi' w w')(D:hi<=lo'∨hi'<=lo):Has w' lo hi v rows:=by obtain⟨us,h⟩:=h;exact⟨us,h.within F D⟩
theorem rP.ext(h:rP w lo hi v xs)(D:ag w w'):rP w' lo hi v xs:=⟨h.own.ext D,h.up⟩
theorem pA.ext{rows:aN}(h:pA w lo hi v rows us)(D:ag w w'):pA w' lo hi v rows us:=⟨h.own.ext D,h.up,h.ups⟩
theorem Has.ext{rows:aN}(h:Has w lo hi v rows)(D:ag w w'):Has w' lo hi v rows:=by obtain⟨us,h⟩:=h;exact⟨us,h.ext D⟩
theorem Has.own{rows:aN}(h:Has w lo hi v rows):aU w lo v rows:=by obtain⟨us,h⟩:=h;exact⟨us,h.own⟩
theorem Has.nil(w:aa)(lo hi:Nat):Has w lo hi (.slice none 0 0) []:=⟨[],⟨qv _ _ _ _,fun k u r hu=>RN,fun i j u D b hu=>RN⟩,fun b h=>by simp[Value.ownBlock]at h,fun u hu=>by cases hu⟩
theorem Aq(w:aa)(r:Option Nat):w.grownBy w r:=⟨rfl,rfl,rfl,af _,fun _ _ _=>rfl⟩
theorem zax{a b c:aa}{r:Option Nat}(h:a.grownBy b r)(k:b.grownBy c r):a.grownBy c r:=⟨k.os.trans h.os,k.tape.trans h.tape,k.output.trans h.output,aR h.size k.size,fun i hi D=>(k.block i (dI hi h.size) D).trans (h.block i hi D)⟩
theorem bn.As{r:Option Nat}(h:w.grownBy w' r)(F:∀b,r=some b->lo<=b/\b<hi):bn lo hi w w':=⟨h.os,h.tape,h.output,h.size,fun k D G=>h.block k D (fun e=>by have:=F k e.symm;omega)⟩
def pQ(k:Int)(n:Nat):List Int:=(List.range n).map fun(i:Nat)=>k+(i:Int)
theorem nJ(k:Int)(n:Nat):(pQ k n).length=n:=by simp[pQ]
theorem ze8(k:Int)(n j:Nat)(h:j<n):(pQ k n)[j]?=some (k+j):=by simp[pQ,h]
theorem zdy(k:Int)(n:Nat):pQ k (n+1)=pQ k n++[k+n]:=by simp[pQ,oL]
def rE(k:Int)(xs:aH)(j:Nat):List Int:=pQ k j++xs.drop j
theorem zdz(k:Int)(xs:aH)(j:Nat)(h:j<=xs.length):(rE k xs j).length=xs.length:=by simp[rE,nJ];omega
theorem zdA(k:Int)(xs:aH)(j:Nat)(h:j=xs.length):rE k xs j=pQ k xs.length:=by subst h;simp[rE]
theorem zdB(k:Int)(xs:aH)(j:Nat)(h:j<xs.length):(rE k xs j).set j (k+j)=rE k xs (j+1):=by unfold rE;rw[lI _ _ (by rw[nJ];omega),nJ,oK,mT h,oM,zdy,fj];rfl
theorem uZ(k:Int)(lo:Nat)(A:aq)(cap:Nat)(xs:aH)(w:aa)(D:aD w lo (.slice A xs.length cap) xs)(a3:xs.length<=1048576)(a1:0<=k)(a2:k<=1152921504606846976):aw 44 (oI A xs cap k) w fun e w'=>e=.returned (.int .i64 (k+xs.length))/\aD w' lo (.slice A xs.length cap) (pQ k xs.length)/\w.grownBy w' (Value.slice A xs.length cap).ownBlock:=by
 by_cases J:xs.length=0
 .have ab:xs=[]:=fC J;subst ab;have F:=zH D;clear D J;go_enter func44,ntmps44
  go_wp2;go_loopw [1,5] (fun q i wr=>i=.int .i64 0/\q=.int .i64 k/\wr=w) (fun _ _ _=>0)
  case atStart=>exact⟨rfl,rfl,rfl⟩
  case round=>
   obtain⟨rfl,rfl,rfl⟩:=hrel;go_wp2;go_ret
   exact⟨iB Rq,F.o,Aq _ _⟩
 .obtain⟨g,ad,V,ap,a0⟩:=kn D Rr;simp only[dW]at V;obtain⟨rfl,_,rfl⟩:=V;obtain⟨F,ac⟩:=bD (show aD w lo (.slice (some ⟨g,0,none⟩) xs.length cap) xs from D) (Rr:(0:Nat)<xs.length);clear D J;go_enter func44,ntmps44
  go_wp2;go_loopw [1,5] (fun q i wr=>∃j:Nat,j<=xs.length/\i=.int .i64 j/\q=.int .i64 (k+j)/\wr.ownsRow lo 3 1 (.slice (some ⟨g,0,none⟩) xs.length cap) xs.length ((rE k xs j).map (Value.int .i64))/\w.grownBy wr (some g))
   (fun _ i _=>xs.length-(intOf i).toNat)
  case atStart=>exact⟨0,aX _,rfl,Rt,by simpa[rE,pQ,aD]using F.o,Aq _ _⟩
  case round=>
   obtain⟨j,Z,rfl,rfl,h,H⟩:=hrel;by_cases U:j<xs.length
   .have ao:=h.frozenAt j;have am:ae wr g j (.int .i64 ((rE k xs j).getD j 0)):=by
     have R:j < (rE k xs j).length:=by rw[zdz k xs j Z];exact U
     rw[h.cellAt j Rr,cC,dL R,bP,dL R];rfl
    have G:=h.stored j (.int .i64 (k+j));rw[<-fh,zdB k xs j U]at G;obtain⟨Y,I⟩:=bD G.1 (zax H G.2);clear G h H F;go_wp2;go_roundw
    case rel=>exact⟨j+1,Rr,Rt,Rt,Y.o,I.o⟩
    case measure=>simp[intOf];omega
   .have T:j=xs.length:=Rr;obtain⟨O,I,N⟩:=dO h H T;clear h H T;go_wp2;go_ret
    rw[zdA k xs j N.o]at O;exact⟨iB (by rw[N.o]),by simpa[aD,nJ]using O.o,I.o⟩
theorem mN(k:Int)(A:aq)(cap n:Nat)(w:aa)(h:aJ w A (pQ k n))(R:n<=1048576)(N:0<=k)(O:k<=1152921504606846976):aw 46 #[.slice A n cap,k] w fun e w'=>e=.returned (.int .i64 (k+n))/\w=w':=by
 go_enter func46,ntmps46
 go_wp2;go_loop [1,5] (fun q i=>∃j:Nat,j<=n/\i=.int .i64 j/\q=.int .i64 (k+j)) (fun _ i=>n-(intOf i).toNat)
 case atStart=>exact⟨0,aX _,rfl,Rt⟩
 case round=>
  obtain⟨j,J,rfl,rfl⟩:=hrel;by_cases F:j<n
  .have H:j < (pQ k n).length:=by rw[nJ];exact F
   obtain⟨b,o,rfl,D⟩:=h.here H;have I:=D j _ (ze8 k n j F);clear D h;go_wp2;go_round
   case rel=>exact⟨j+1,Rr,Rt,Rt⟩
   case measure=>simp[intOf];omega
  .have G:=zH (Rr:j=n);go_wp2;go_ret
   exact⟨iB (by rw[G.o]),rfl⟩
theorem zdD(h:aD w B u xs):∃A c,u=.slice A xs.length c:=by obtain⟨A,c,D,_⟩:=h.view;exact⟨A,c,D⟩
theorem lE(h:n<=1048576):n<=maxLen:=TD
theorem yL{rows:aN}(h:aU w B (.slice A n c) rows):bk w A rows:=XQ
theorem ah{o:Obj}(h:w.heap[b]?=some o)(D:ag w w'):w'.heap[b]?=some o:=(D.block b (aT.1 h).1).trans h
theorem iY{o:Obj}(h:w.heap[b]?=some o)(F:bn lo hi w w')(D:b<lo∨hi<=b):w'.heap[b]?=some o:=(F.block b (aT.1 h).1 D).trans h
theorem aG{x y:ax}(h:aW w b #[x,y,z] t):ae w b 0 x/\ae w b 1 y/\ae w b 2 z:=by obtain⟨D,F,G,_⟩:=zgc (aj _ _) h;exact⟨D,F,G⟩
theorem ez{x y:ax}(h:aW w b #[x,y,z,u,v] t):ae w b 0 x/\ae w b 1 y/\ae w b 2 z/\ae w b 3 u/\ae w b 4 v:=by obtain⟨D,_⟩:=zdE (aj _ _) h;exact D
section
variable{w2:aa}{E8 E10 E11 E12:eU}{v8 v10 v11 v12:ax}{r8:aH}{R10:aN}{r11 r12:aH}{l8 h8 b8 l10 h10 b10 l11 h11 b11 l12 h12 b12:Nat}{W W':aa}
end
theorem ns{E:Prop}(I:o.guard=none)(s x:jk)(J:o.op=.call {callee:=.builtin .append,args:=#[s,x],argTypes:=#[55,55]})(B:Nat)(h W:aa)(v u:ax)(rows:aN)(r:aH)(EF:aU h B v rows)(D:ag h W)(hu:aD W h.heap.size u r)(ab:rows.length+1<=1073741824)(H:B<=h.heap.size)(R:a.eval s=v)(T:a.eval x=.slice (some ⟨W.heap.size,0,none⟩) 1 1)(G:∀g cap w',aU w' B (.slice (some ⟨g,0,none⟩) (rows.length+1) cap) (rows++[r])->Below B h w'->W.heap.size<=w'.heap.size->(∀k,k<W.heap.size->some k≠v.ownBlock->w'.heap[k]?=W.heap[k]?)->K (a.put o.dst (.slice (some ⟨g,0,none⟩) (rows.length+1) cap)) w'):if Region.wanted o (yielded ops a.tmps)=true then Oper.wp prog o a (W.alloc (.cells #[u] 26)) K Q else E:=by
 obtain⟨Z,hi,U,V,Y⟩:=de jV;obtain⟨us,EF⟩:=EF;have hW:=EF.ext D;have N:=km hW.outer (.cells #[u] 26);have ac:=D.size;refine zc _ I s x 55 J B 26 Z (.slice none 0 0) 1 24 gF hi U V Y rfl Rs v _ _ R N ⟨W.heap.size,0,none⟩ 1 1 [u] T rfl ?_ ?_ Rs ?_ ?_ ?_ _ rfl ?_
 .exact Yb
 .exact Xr
 .unfold maxLen;omega
 .omega
 .simp;omega
 .intro g cap w' O Fy _ _;have hg:W.grownBy w' v.ownBlock:=⟨Fy.os,Fy.tape,Fy.output,Vi,fun k hk F=>(Fy.block k RS F).trans (sC W _ hk)⟩;refine G g cap w' ⟨us++[u],?_,?_,?_⟩ (D.mono H |>.trans ((aj _ _).grown hg Rr fun k hk=>(bL hW.outer k hk).1)) hg.size (fun k hk F=>hg.block k hk F)
  .simpa using O
  .exact Zt
  .exact ZK
def StO(v h:Int)(rows:aN)(w:aa)(k:Nat)(wr:aa):Prop:=
 ag w wr/\∃u,aW wr (w.heap.size+1+1) (dK v h u) 57/\aW wr (w.heap.size+1) bj 57/\
  aU wr (w.heap.size+3) u (rows.take k)/\w.heap.size+3<=wr.heap.size
theorem jl(v h:Int)(A:aq)(cap:Nat)(rows:aN)(w:aa)(a0:bk w A rows)(b2:rows.length<=1048576)(a5:∀r∈rows,r.length<=1048576):aw 94 (cy (ar v h A rows cap)) w fun e w'=>∃u,e=.returned (.agg (dK v h u))/\aU w' w.heap.size u rows/\ag w w':=by
 obtain⟨b8,bb⟩:=bD b2 a5;clear a5;go_enter func94,ntmps94
 go_wp2;go_loopw [14] (fun i wr=>∃k:Nat,k<=rows.length/\i=.int .i64 k/\StO v h rows w k wr) (fun i _=>rows.length-(intOf i).toNat)
 case atStart=>
  obtain⟨ch,F,G⟩:=cm w (.cells (ar v h A rows cap) 57) (.cells bj 57) (.cells #[v,h,bW] 57);exact⟨0,aX _,rfl,below_alloc3 w _ _ _,.slice none 0 0,G,F,(Has.nil _ _ 0).own,Rq⟩
 case round=>
  obtain⟨k,cb,rfl,J,u,G,F,D,U⟩:=hrel;by_cases a4:k<rows.length
  .obtain⟨r,T⟩:=aB a4;obtain⟨b9,o,rfl,a2⟩:=(a0.ext J).here a4;obtain⟨a8,bu,ca,a3⟩:=a2 _ r T;obtain⟨ba,bp,bq,Y,HO,bi,bd,Z⟩:=zH8 a3 (bb.o r (aY T)) T J D G F U;obtain⟨H,I,a6⟩:∃H I,u=.slice H (rows.take k).length I:=by obtain⟨A1,c1,e,_⟩:=D.view;exact⟨A1,c1,e⟩
   obtain⟨b4,b5,am⟩:=aG G;clear a0 a2 a3 T J D G F U;rw[show(rows.take k).length=k by simp;omega]at a6;subst a6;go_upto_region 5 with(fail)
   refine cR (S:=fun W=>ae W (w.heap.size+1+1) 2 (.slice H k I)) 7 RP Rz (fun hHeld=>?_);refine aP 0 ?_;simp only[Act.put,zA];refine aP 1 ?_;simp only[Act.put,zA];refine aP 2 ?_;simp only[Act.put,zA];refine cw 3 fun K hK=>?_
   go_simp;refine(jn a8 bu r _ (ba.o.ext (aj _ _).drew) (by have:=bp.o;omega)).mono ?_;rintro e b3 ⟨u2,rfl,ac,a1⟩;obtain⟨a9,c2,rfl,_⟩:=ac.view;obtain⟨N,br⟩:=bD ((aj wr.heap.size wr).drew.trans a1) ac;clear ac a1;go_simp;refine hK.out _ _ (fun _=>al N.o am) (fun hHeld=>?_);clear hK K;try simp only[Act.put,zA]
   have hHeld:=hHeld Rs;refine cw 4 fun K hK=>?_
   go_simp;refine hK.out _ _ (fun _=>al (N.o.alloc N.o.size _) am) (fun hHeld=>?_);clear hK K;try simp only[Act.put,zA]
   have hHeld:=hHeld Rs;refine cw 5 fun K hK=>?_
   refine ns rfl (.tmp 19) (.tmp 22) rfl (w.heap.size+3) wr b3 (.slice H k I) (.slice a9 r.length c2) (rows.take k) r HO.o N.o br.o RS Z.o rfl rfl ?_;intro g O V ab R _ _;rw[show(rows.take k).length+1=k+1 by simp;omega]at ab ⊢;have ad:V.heap[w.heap.size+1+1]?=_:=(R.block _ Rr).trans bi.o;have a7:V.heap[w.heap.size+1]?=_:=(R.block _ Rr).trans bd.o;obtain⟨b6,b7,ao,f0,f1,f2⟩:=zgc (aj _ _) ad;obtain⟨bo,bg,bc,ap⟩:=fU ad a7 ab R;clear ad a7 ab R;refine hK.out _ _ (fun _=>ao) (fun hHeld=>?_);clear hK K;try simp only[Act.put,zA]
   have hHeld:=hHeld Rs;refine cw 6 fun K hK=>?_
   go_simp;refine hK.out _ _ (fun _=>ao) (fun hHeld=>?_);clear hK K;try simp only[Act.put,zA]
   have hHeld:=hHeld Rs;refine cw 7 fun K hK=>?_
   go_simp;refine hK.out _ _ (fun h=>absurd h Rs) (fun _=>?_);clear hK K;try simp only[Act.put,zA]
   refine gN RP ?_ _;go_wp2;go_roundw
   case rel=>
    have bz:=bm V (w.heap.size+1+1) 2 _ _ (.slice (some ⟨g,0,none⟩) (k+1) O) bo.o;have bv:=(en V ⟨w.heap.size+1+1,2,none⟩ (w.heap.size+1) (.slice (some ⟨g,0,none⟩) (k+1) O) Sp).trans bg.o;have ce:=ap.o.size;have cc:=Z.o;refine⟨k+1,Rr,Rt,?_,.slice (some ⟨g,0,none⟩) (k+1) O,by simpa using bz,bv,?_,?_⟩
    .exact(Y.o.trans (ap.o.mono Rr)).setCell Sp _
    .have b0:=bc.o.setCell (a:=⟨w.heap.size+1+1,2,none⟩) Sp (.slice (some ⟨g,0,none⟩) (k+1) O);rw[dH,bq.o];exact b0
    .simp;omega
   case measure=>simp[intOf];omega
  .have b1:k=rows.length:=Rr;subst b1;obtain⟨b4,b5,am⟩:=aG G;obtain⟨b6,b7,ao⟩:=aG F;obtain⟨_,_,_,f0,f1,f2⟩:=zgc (aj _ _) F;rw[k_]at D;obtain⟨H,I,rfl,_⟩:=D.view;obtain⟨HO,Y,Z⟩:=dO D J U;clear D J F G U;go_wp2;refine aE (v:=.agg (ar v h H rows I)) (by simp[results,results94,go_sem, *]) rfl ⟨_,rfl,?_,?_⟩
   .exact Yp
   .exact((Y.o.setCell Sp _).setCell Sp _).setCell Sp _
theorem lG(J:o.guard=none)(s x:jk)(R:o.op=.call {callee:=.builtin .append,args:=#[s,x],argTypes:=#[55,55]})(B:Nat)(W:aa)(v:ax)(n m:Nat)(us ys:bU)(A:dk)(c:Nat)(U:a.eval s=v)(V:a.eval x=.slice (some A) m c)(am:ys.length=m)(F:W.ownsRow B 26 1 v n us)(I:∀j y,ys[j]?=some y->W.cell? (A.add j)=some y)(H:∀u∈ys,u.oneCell'=true)(ad:n+m<=1073741824)(D:B<=W.heap.size)(G:∀h w',w'.ownsRow B 26 1 h (n+m) (us++ys)->Below B W w'->wpList prog ops Q rest (a.put o.dst h) w'):wpList prog ops Q (o::rest) a W:=by
 obtain⟨ac,hi,Y,Z,ab⟩:=de jV;refine zd _ J s x 55 R B 26 ac (.slice none 0 0) 1 24 gF hi Y Z ab rfl Rs v _ _ U F A m c ys V Rr I H ?_ ?_ D ?_
 .unfold maxLen;omega
 .omega
 .intro h w' T N _;exact G h w' T ((aj _ _).grown N D fun k O=>(bL F k O).1)
theorem th(D:o.guard=none)(s x:jk)(F:o.op=.call {callee:=.builtin .append,args:=#[s,x],argTypes:=#[55,55]})(B:Nat)(W:aa)(v:ax)(n c:Nat)(us:bU)(I:a.eval s=v)(J:a.eval x=.slice none 0 c)(G:W.ownsRow B 26 1 v n us)(h:wpList prog ops Q rest (a.put o.dst v) W):wpList prog ops Q (o::rest) a W:=by
 obtain⟨N,hi,O,R,T⟩:=de jV;refine lj D fun K hK=>?_
 have H:=iw (P:=prog) (w:=W) B 55 o.type 26 N 1 gF hi v _ c _ G;unfold Oper.wp;simp[execOp,F,resolve,invoke,builtin,I,J,H,Result.andThen];exact hK _ _ h
theorem AT(W:aa)(B:Nat)(h:B<=W.heap.size):(W.alloc (.cells #[] 26)).ownsRow B 26 1 (.slice (some ⟨W.heap.size,0,none⟩) 0 0) 0 []:=wF W #[] 0 h Rs rfl
theorem zcK(w:aa)(u:ax):∀(j:Nat) (y:ax),[u][j]?=some y->(w.alloc (.cells #[u] 26)).cell? ((⟨w.heap.size,0,none⟩:dk).add j)=some y:=by
 intro j y h
 match j,h with
 |0,h=>simp at h;subst h;simp[Addr.add]
 |j+1,h=>simp at h
theorem zfv(w:aa)(o:Obj)(u:ax):∀(j:Nat) (y:ax),[u][j]?=some y->((w.alloc o).alloc (.cells #[u] 26)).cell? ((⟨w.heap.size+1,0,none⟩:dk).add j)=some y:=by intro j y h;have:=zcK (w.alloc o) u j y h;simpa only[dt]using this
theorem zcL(A:aq)(n c:Nat):∀u∈[Value.slice A n c],u.oneCell'=true:=by intro u h;simp at h;subst h;rfl
theorem ti(B g n cap k:Nat)(us:bU)(F:aq)(H G:Nat)(w:aa)(U:w.ownsRow B 26 1 (.slice (some ⟨g,0,none⟩) n cap) n us)(V:∀u∈us,u.oneCell'=true)(bu:k<=n)(bz:n<=1048576):aw 141 #[.slice (some ⟨g,0,none⟩) n cap,k,.slice F H G] w fun e w'=>∃a2,e=.returned a2/\w'.ownsRow w.heap.size 26 1 a2 (n+1) (cf us k (.slice F H G))/\ag w w':=by
 have a8:=U;obtain⟨O,bc⟩:=U;rcases bc with⟨bi,_⟩|⟨bq,bp,a7,bg,a9,N,b0,ba,am,Fo⟩
 .cases bi
 cases bg
 simp only[eG]at O am Fo;have ad:∀t,t<n->a7.toList[t]?=us[t]?:=fun t ht=>TZ
 have ao:=(aT.1 N).1;have cell:∀W,ag w W->∀t u,us[t]?=some u->ae W g t u:=fun W D t u h=>by
  have ht:t<n:=by have:=(bG.1 h).1;omega
  rw[a_ ((D.block g ao).trans N),ad t ht,h]
 obtain⟨A,br,bd⟩:∃A:dk,(if cap=k then some (⟨g,0,none⟩:dk) else some ⟨g,k,none⟩)=some A/\Hd (∀W,ag w W->∀t u,(us.drop k)[t]?=some u->W.cell? (A.add t)=some u):=by
  by_cases ac:cap=k
  .refine⟨⟨g,0,none⟩,by simp[ac],fun W D t u h=>?_⟩;rw[iN Rr]at h;simp at h
  .refine⟨⟨g,k,none⟩,by simp[ac],fun W D t u h=>?_⟩;rw[eX]at h;rw[dj];exact cell W D _ _ h
 have bb:Hd (∀W,ag w W->∀t u,(us.take k)[t]?=some u->W.cell? ((⟨g,0,none⟩:dk).add t)=some u):=by
  intro W D t u h;rw[dj,iO];rw[gm]at h;split at h
  .exact cell W D _ _ h
  .cases h
 obtain⟨T,R⟩:=bD O V;have bv:k<=cap:=Rr;unfold maxLen at ba;clear ad cell Fo am N ao O a9 V a8;go_enter func141,ntmps141
 go_wp2_with (first|(at_builtin;refine lG rfl (.tmp 8) (.tmp 11) rfl w.heap.size _ _ 0 k [] (us.take k) ⟨g,0,none⟩ cap rfl rfl (by rw[cG,T.o];omega) (AT _ _ (af _)) (bb.o _ ((aj _ _).alloc (af _) _)) (fun u h=>R.o u (wG h)) Rr Rq ?_;intro v1 bo ap Y;have I:=zH (((aj w.heap.size w).alloc (af _) (.cells #[] 26)).trans Y);have a4:=zH ap;clear Y ap)|(at_builtin;refine lG rfl (.tmp 13) (.tmp 15) rfl w.heap.size _ v1 (0+k) 1 ([]++us.take k) [.slice F H G] ⟨bo.heap.size,0,none⟩ 1 rfl rfl rfl (km a4.o _) (zcK _ _) (zcL _ _ _) Rr (by have:=I.o.size;simp;omega) ?_;intro v2 b1 a0 Z;have J:=zH ((I.o.alloc I.o.size _).trans Z);have a5:=zH a0;clear Z a0)|(at_builtin;refine lG rfl (.tmp 17) (.tmp 20) rfl w.heap.size _ v2 (0+k+1) (n-k) ([]++us.take k++[.slice F H G]) (us.drop k) A (cap-k) rfl rfl (by rw[gp,T.o]) a5.o (bd.o _ J.o) (fun u h=>R.o u (ko h)) Rr J.o.size ?_;intro v3 b2 a1 ab;have a3:=zH (J.o.trans ab);have a6:=zH a1;clear ab a1))
 go_ret
 refine⟨_,rfl,?_,a3.o⟩;have:=a6.o;rw[show 0+k+1+(n-k)=n+1 by omega,qs,fj]at this;exact this
theorem DD(h:aq)(F D:Nat)(w:aa):aw 141 #[bW,(),.slice h F D] w fun e w'=>∃J,e=.returned J/\w'.ownsRow w.heap.size 26 1 J (0+1) (cf [] 0 (.slice h F D))/\ag w w':=by
 go_enter func141,ntmps141
 go_wp2_with (first|(at_builtin;refine th rfl (.tmp 8) (.tmp 11) rfl w.heap.size _ _ 0 _ [] rfl rfl (AT _ _ (af _)) ?_)|(at_builtin;refine lG rfl (.tmp 13) (.tmp 15) rfl w.heap.size _ _ 0 1 [] [.slice h F D] ⟨w.heap.size+1,0,none⟩ 1 rfl rfl rfl (km (AT w _ (af _)) _) (zfv _ _ _) (zcL _ _ _) Rr Sp ?_;intro v2 O I H;have N:=zH ((((aj w.heap.size w).alloc (af _) _).alloc Rq _).trans H);have G:=zH I;clear H I)|(at_builtin;refine th rfl (.tmp 17) (.tmp 20) rfl w.heap.size _ v2 (0+1) _ _ rfl rfl G.o ?_))
 go_ret
 exact⟨_,rfl,G.o,N.o⟩
theorem vD(B:Nat)(v:ax)(k:Int)(us:bU)(n:Nat)(h:aq)(G D:Nat)(w:aa)(F:w.ownsRow B 26 1 v n us)(H:∀u∈us,u.oneCell'=true)(N:0<=k)(T:k<=n)(O:n<=1048576):aw 141 #[v,k,.slice h G D] w fun e w'=>∃I,e=.returned I/\w'.ownsRow w.heap.size 26 1 I (n+1) (cf us k.toNat (.slice h G D))/\ag w w':=by
 obtain⟨j,rfl⟩:=fY N;by_cases J:n=0
 .subst J;obtain rfl:j=0:=Rr;obtain rfl:us=[]:=fC (by have:=F.1;omega);rcases F.2 with⟨rfl,_⟩|⟨g,cap,R,rfl,_⟩
  .exact DD h G D w
  .exact ti B g 0 cap 0 [] h G D w F H (af _) (aX _)
 .obtain⟨g,cap,rfl,_⟩:=kn F Rr;exact ti B g n cap j us h G D w F H Rr O
theorem CP(w:aa){E:Prop}(Y:o.guard=none)(l c:jk)(t:du)(ab:o.op=Op.makeSlice t l c)(h:Nat)(e:du)(i:TypeInfo)(z:ax)(size:Nat)(J:P.underlying t=some (.slice e))(N:P.info? e=some i)(O:i.zero=some z)(R:i.size=size)(F D:IntKind)(L C:Int)(n:Nat)(Z:a.eval l=.int F L)(V:a.eval c=.int D C)(U:L=(n:Int))(T:C=(n:Int))(G:i.bytes*n<=281474976710656)(H:n<=maxLen)(I:h<=w.heap.size)(hK:∀w',w'.ownsRow h e size (.slice (some ⟨w.heap.size,0,none⟩) n n) n (madeCells z.cells (n*size)).toList->w.grownBy w' none->K (a.put o.dst (.slice (some ⟨w.heap.size,0,none⟩) n n)) w'):if Region.wanted o (yielded ops a.tmps)=true then Oper.wp P o a w K Q else E:=by rw[ay (by simp[Region.wanted,Y]:Region.wanted o (yielded ops a.tmps)=true)];obtain⟨w',ac,ad,am⟩:=run_make_full (P:=P) w h t e i z size J N O R F D n G H I;subst U;subst T;unfold Oper.wp;simp[execOp,ab,Z,V,ac,Result.andThen];exact hK w' ad am
theorem vE{e:du}(h:w.ownsRow B e 1 v n us)(I:B'<=B):w.ownsRow B' e 1 v n us:=⟨h.1,h.2.imp id fun⟨g,cap,G,D,H,F⟩=>⟨g,cap,G,D,Rr,F⟩⟩
theorem fu{r:Option Nat}(h:ag w w'):w.grownBy w' r:=⟨h.os,h.tape,h.output,h.size,fun k D _=>h.block k D⟩
theorem CQ(p x y:Int)(w:aa)(H:1<=p)(I:p<=1000)(D:0<=x)(F:x<=1000)(h:0<=y)(G:y<=1000):aw 139 (fP p x y) w fun e w'=>e=.returned (.int .i64 (x*y%p))/\w=w':=by
 have J:0<=x*y:=y_ D h;have N:x*y<=1000000:=by have:=Int.mul_le_mul F G h Rr;omega
 go_enter func139,ntmps139
 exact Wn
theorem CR(p x y:Int)(w:aa)(h:1<=p)(D:p<=1000)(F:0<=x)(G:x<=1000)(H:0<=y)(I:y<=1000):aw 140 (fP p x y) w fun e w'=>e=.returned (.int .i64 ((x+y)%p))/\w=w':=by
 go_enter func140,ntmps140
 exact Wn
theorem bC.form{rows:aN}(h:bC w B v rows us)(D:0<rows.length):∃g cap,v=.slice (some ⟨g,0,none⟩) rows.length cap/\B<=g/\g<w.heap.size:=h.outer.form D
theorem zbh(a b p v h:Int)(A:aq)(cap:Nat)(rows:aN)(w:aa)(U:bk w A rows)(bi:rows.length<=160)(EM:∀r∈rows,r.length<=1000)(a9:0<=a)(ba:a<rows.length)(bc:0<=b)(bd:b<rows.length)(bb:a≠b):aw 245 (gQ (bf a b) p (ar v h A rows cap)) w fun e w'=>∃u,e=.returned (.agg (dK v h u))/\aU w' w.heap.size u ((rows.set a.toNat (rows.getD b.toNat [])).set b.toNat (rows.getD a.toNat []))/\ag w w':=by
 obtain⟨ra,Fk⟩:=aB (Rr:a.toNat<rows.length);obtain⟨rb,FE⟩:=aB (Rr:b.toNat<rows.length);obtain⟨HA,HB,Z,ab⟩:=fU (TN:rows.getD a.toNat []=ra) (TM:rows.getD b.toNat []=rb) (Rr:rows.length<=1048576) (show ∀r∈rows,r.length<=1048576 from fun r hr=>T3);clear EM;go_enter func245,ntmps245
 go_wp2_with fail
 refine(kH _ _ _ _ _ _ (U.ext (((aj _ _).alloc Rq _ |>.alloc Rq _).alloc Sp _)) Z.o ab.o).mono ?_;rintro e G ⟨u,rfl,⟨us,H⟩,I⟩;obtain⟨g,Ff,rfl,a0,bg⟩:=H.form Rr;simp only[dt]at a0;obtain⟨T,a3,F⟩:=cm w (.cells (bf a b) 229) (.cells (ar v h A rows cap) 57) (.cells bj 57);have a2:=I.size;simp only[dt]at a2;obtain⟨bo,Fx,N⟩:=H.get Fk;obtain⟨bp,R,O⟩:=H.get FE;obtain⟨Aa,ca,rfl,_⟩:=N.view;obtain⟨Ab,cb,rfl,_⟩:=O.view;go_wp2;obtain⟨W2,EJ⟩:=aM (G.alloc (.cells (ar v h (some ⟨g,0,none⟩) rows Ff) 57));rw[<-EJ];have J:ag G W2:=Vj;have D:=I.trans (J.mono I.size);have V:aW W2 G.heap.size (ar v h (some ⟨g,0,none⟩) rows Ff) 57:=Uo;have Fa:=H.ext J;have y0:=zff D T 0;have y1:=zff D T 1;obtain⟨a4,a5,x2⟩:=bS V;have r0:=zff D F 0;have r1:=zff D F 1;have r2:=zff D F 2;have s0:=zhn D F 0;have s1:=zhn D F 1;have s2:=zhn D F 2;simp only[cZ,cP]at y0 y1 a4 a5 x2 r0 r1 r2;have z0:ae W2 g a.toNat (.slice Aa ra.length ca):=Vg;have z1:ae W2 g b.toNat (.slice Ab rb.length cb):=by rw[Fa.outer.cellAt _ Rr,R]
 have f0:=Fa.outer.frozenAt a.toNat;have f1:=Fa.outer.frozenAt b.toNat;obtain⟨am,Y,ac,ad,ao,ap,a6,a7,a8⟩:=zH9 Fa D Fk FE Fx R N O EJ;clear H I Fk FE Fx R N O U Fa D J V T a3 F EJ;have Kk:∀W5,W5=((W2.setCell ⟨g,a.toNat,none⟩ (.slice Ab rb.length cb)).setCell ⟨g,b.toNat,none⟩ (.slice Aa ra.length ca)).drew->
   ae W5 G.heap.size 0 (.int .i64 v)/\ae W5 G.heap.size 1 (.int .i64 h)/\ae W5 G.heap.size 2 (.slice (some ⟨g,0,none⟩) rows.length Ff)/\
   ae W5 (w.heap.size+1+1) 0 (.int .i64 0)/\ae W5 (w.heap.size+1+1) 1 (.int .i64 0)/\ae W5 (w.heap.size+1+1) 2 (.slice none 0 0)/\
   W5.frozen? ⟨w.heap.size+1+1,0,none⟩=false/\W5.frozen? ⟨w.heap.size+1+1,1,none⟩=false/\W5.frozen? ⟨w.heap.size+1+1,2,none⟩=false/\
   aU W5 (w.heap.size+3) (.slice (some ⟨g,0,none⟩) rows.length Ff) ((rows.set a.toNat rb).set b.toNat ra)/\ag w W5:=by
  rintro W5 rfl;have a1:=am.o.swap rfl ao.o ap.o ac.o ad.o;refine⟨?_,?_,?_,?_,?_,?_,by simpa using s0,by simpa using s1,by simpa using s2,⟨_,bC.mono (a1.ext (aj _ _).drew) Sp⟩,((jB ((below_alloc3 w _ _ _).trans (Y.o.mono (B':=w.heap.size) Sp)) Sp _).setCell Sp _).drew⟩
  all_goals refine(bV (w:=W2.setCell _ _) Sp).trans ((bV Sp).trans ?_)
  all_goals assumption
 refine ze (S:=fun w'=>ae w' w.heap.size 0 (.int .i64 a)/\ae w' w.heap.size 1 (.int .i64 b)/\ae w' G.heap.size 2 (.slice (some ⟨g,0,none⟩) rows.length Ff)) RP Rz (fun hHeld=>?_);refine ep 0 ?_;simp only[Act.put,zA];refine ep 1 ?_;simp only[Act.put,zA];refine ep 2 ?_;simp only[Act.put,zA];refine ep 3 ?_;simp only[Act.put,zA];refine ep 4 ?_;simp only[Act.put,zA];refine ep 5 ?_;simp only[Act.put,zA];refine ep 6 ?_;simp only[Act.put,zA];refine ep 7 ?_;simp only[Act.put,zA];refine ep 8 ?_;simp only[Act.put,zA];refine ep 9 ?_;simp only[Act.put,zA];refine ep 10 ?_;simp only[Act.put,zA];refine ep 11 ?_;simp only[Act.put,zA];refine ep 12 ?_;simp only[Act.put,zA];refine ep 14 ?_;simp only[Act.put,zA];refine ep 15 ?_;simp only[Act.put,zA];refine ep 16 ?_;simp only[Act.put,zA];refine ep 17 ?_;simp only[Act.put,zA];refine ep 18 ?_;simp only[Act.put,zA];refine jD (rs:=[13,19]) RP Rq ?_;refine mA rfl (fun K hK=>?_) (mA rfl (fun K hK=>?_) jE)
 .go_simp;refine hK.out _ _ RO (fun hHeld=>?_);clear hK K;try simp only[Act.put,zA]
  refine jD (rs:=[19]) RP Rq ?_;exact Z3
 .go_simp;refine hK.out _ _ RO (fun hHeld=>?_);clear hK K;try simp only[Act.put,zA]
  refine jD (rs:=[13]) RP Rq ?_;exact Z3
end Go.Proofs.YtpieilkmmiopfaaGreatDoor
