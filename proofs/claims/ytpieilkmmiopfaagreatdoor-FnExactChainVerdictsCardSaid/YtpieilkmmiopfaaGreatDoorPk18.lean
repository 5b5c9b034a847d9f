/- Parts of the walks and laws (Gr4, Gr5, Gr6). Conditions: as stated with each. -/
import Derived.Test.YtpieilkmmiopfaaGreatDoorPk17
namespace Go.Proofs.YtpieilkmmiopfaaGreatDoor
open Go.RowKit Tryz
set_option linter.all false
set_option maxHeartbeats 4000000
set_option maxRecDepth 100000
variable{A Y:aq}{B B' H QO Q_ Rn b k n r s x y:Nat}{C l:bO}{J Rg w w':aa}{Q:gj}{R Rj Ro T v v0 v1 v2 v3 v4 z z2:ax}{Rk t:du}{a:Act}{g:Gr}{o:fR}{ops:gP}{ps:nU}{rest:List Oper}
theorem yn.root{P:bO}(h:yn n P C)(I:P[x]?=some y)(D:x<n):y<=x/\C.getD y 0=C.getD x 0/\(y=x->C.getD x 0=x):=by
 have e:P.getD x 0=y:=by rw[bP,I];rfl
 have F:=h.le x D;have G:=h.up x D;have H:=h.top x D;rw[e]at F G H;exact⟨F,G,H⟩
theorem yn.lt{P:bO}(h:yn n P C)(D:x<n):C.getD x 0<=x:=h.cls.le x D
theorem zp(n:Nat)(P C:bO)(A:aq)(cap:Nat)(x:Nat)(w:aa)(O:yn n P C)(Z:aJ w A (bt P))(ab:x<n)(am:n<=1048576):aw 209 #[.slice A n cap,x] w fun e w'=>e=.returned (.int .i64 (C.getD x 0:Nat))/\w=w':=by
 have D:=zH O;obtain⟨r,I⟩:=aM (C.getD x 0);rw[<-I];have V:=zH I;clear O I;go_enter func209,ntmps209
 go_wp2;go_loopw [1] (fun u wr=>∃y:Nat,u=.int .i64 y/\y<n/\Hd (C.getD y 0=r)/\wr=w) (fun u _=>(intOf u).toNat)
 case atStart=>exact⟨x,rfl,ab,zH V.o.symm,rfl⟩
 case round=>
  obtain⟨y,rfl,J,R,rfl⟩:=hrel;obtain⟨z,h⟩:=aB (by rw[D.o.len];exact J:y<P.length);obtain⟨b,o,rfl,H⟩:=Z.here (k:=y) (by rw[aQ,D.o.len];exact J);have ac:=H y _ (dJ h);obtain⟨Y,F,G⟩:=D.o.root h J;have T:=zH F;by_cases N:z=y
  .have U:=zH (G N);subst N;clear H F G h;go_wp2;go_ret
   exact⟨iB (by rw[show r=z by rw[<-R.o,U.o]]),rfl⟩
  .have ao:((z:Int)!=(y:Int))=true:=RS;have ad:z<y:=Rr;clear H F G h N Y;go_wp2;go_roundw
   case rel=>exact⟨z,rfl,Rr,zH (by rw[T.o,R.o]),Rv⟩
   case measure=>simp[intOf];omega
theorem zeu(l:bO)(i x:Nat):(bt l).set i (x:Int)=bt (l.set i x):=by simp[bt,fh]
def zhU(n cap B:Nat)(A:aq)(P C:bO)(x y:Nat)(w:aa)(e:Ending)(w':aa):Prop:=
 e=.returned (.tuple #[])/\aD w' B (.slice A n cap) (bt (P.set (max (C.getD x 0) (C.getD y 0)) (min (C.getD x 0) (C.getD y 0))))/\w.grownBy w' (Value.slice A n cap).ownBlock/\w'.heap.size=w.heap.size
theorem zev(n B:Nat)(P C:bO)(A:aq)(cap:Nat)(x y:Nat)(w:aa)(D:yn n P C)(G:aD w B (.slice A n cap) (bt P))(ac:x<n)(ad:y<n)(ap:n<=1048576):aw 207 #[.slice A n cap,x,y] w (zhU n cap B A P C x y w):=by
 obtain⟨a1,a2,e,R,-⟩:=G.view;simp only[dW]at e;obtain⟨rfl,-,-⟩:=e;have H:=zH (fun(z:Nat) (a0:z<n)=>zp n P C A cap z w D R a0 ap);obtain⟨g,rfl⟩:∃g,A=some ⟨g,0,none⟩:=by
  rcases AJ G with⟨_,h,_⟩|h
  .have:=mX List.length h;rw[aQ,D.len]at this;simp at this;omega
  .exact h
 have V:=D.lt ac;have Y:=D.lt ad;have Z:=D.len;obtain⟨a,T⟩:=aM (C.getD x 0);obtain⟨b,U⟩:=aM (C.getD y 0);obtain⟨HX,HY⟩:=bD (H.o x ac) (H.o y ad);unfold zhU;rw[<-T]at HX V ⊢;rw[<-U]at HY Y ⊢;have N:max a b<n:=Rr;obtain⟨q,ab⟩:=aB (Rr:max a b<P.length);have F:=G;unfold aD at F;rw[aQ,Z]at F;have I:ae w g (max a b) (.int .i64 (q:Nat)):=by rw[F.cellAt _ Rr,cC,dJ ab];rfl
 have J:=F.frozenAt (max a b);have O:=F.stored (max a b) (.int .i64 ((min a b:Nat):Int));rw[<-fh,zeu]at O;have HS:=zH O;clear H D G R F O ab T U V Y;have HE:=zH (show ∀M m,max a b=M->min a b=m->aD (w.setCell ⟨g,M,none⟩ (.int .i64 (m:Nat))) B (.slice (some ⟨g,0,none⟩) n cap) (bt (P.set (max a b) (min a b)))/\w.grownBy (w.setCell ⟨g,M,none⟩ (.int .i64 (m:Nat))) (Value.slice (some ⟨g,0,none⟩) n cap).ownBlock/\(w.setCell ⟨g,M,none⟩ (.int .i64 (m:Nat))).heap.size=w.heap.size from fun M m am ao=>by subst am ao;refine⟨?_,HS.o.2,Rq⟩;unfold aD;rw[aQ,iE,Z];exact HS.o.1)
 rcases Nat.lt_trichotomy a b with h|h|h
 .rw[show max a b=b by omega]at I J N;have HF:=zH (HE.o b a Rr Rr);exact Zc
 .rw[show max a b=b by omega]at I J N;have HF:=zH (HE.o b a Rr Rr);clear HE HS;subst h;go_enter func207,ntmps207
  go_wp2_with ((first|(go_at_call 209;with_reducible refine HX.o.mono ?_;rintro e w' ⟨rfl,rfl⟩)|(go_at_call 209;with_reducible refine HY.o.mono ?_;rintro e w' ⟨rfl,rfl⟩)))
  go_end0
  exact⟨rfl,HF.o⟩
 .rw[show max a b=a by omega]at I J N;have HF:=zH (HE.o a b Rr Rr);exact Zc
def dE(g:Gr):List (List Nat):=[g.i,g.o]++g.es.flatMap fun e=>[e.i,e.o]
theorem uf(g:Gr)(x:Nat):(∃l∈dE g,x∈l)↔g.On x:=by
 unfold dE Gr.On;constructor
 .rintro⟨l,G,F⟩;rcases eh.1 G with h|h
  .simp at h;rcases h with rfl|rfl
   .exact au F
   .exact an (au F)
  .obtain⟨e,D,h⟩:=ld.1 h;simp at h;rcases h with rfl|rfl
   .exact an (an ⟨e,D,au F⟩)
   .exact an (an ⟨e,D,an F⟩)
 .rintro(h|h|⟨e,D,h|h⟩)
  .exact⟨g.i,Rq,h⟩
  .exact⟨g.o,Rq,h⟩
  .exact⟨e.i,jF _ (ld.2 ⟨e,D,Rq⟩),h⟩
  .exact⟨e.o,jF _ (ld.2 ⟨e,D,Rq⟩),h⟩
theorem zb7(g:Gr)(A1 G H:aq)(c1 c2 R:Nat)(v1 v2:ax)(lo hi:Nat)(N w:aa)(I:List (List Nat)->World->Prop)(ab:j6 N A1 G H g)(bz:g.es.length<=1048576)(U:∀l∈dE g,l.length<=65536)(ac:∀d h O,I d h->ag h O->I d O)(T:ag N w)(a3:N.heap.size<=lo)(I2:hi<=w.heap.size)(a5:I [] w)(a0:∀(d:List (List Nat)) (l:bO) (A:aq) (cap:Nat) (h:aa),I d h->aJ N A (bt l)->ag N h->(∀x∈l,g.On x)->l.length<=65536->aw 208 #[.slice A l.length cap,v1,v2] h fun e O=>e=.returned (.tuple #[])/\I (d++[l]) O/\bn lo hi h O):aw 169 #[.agg (bl g A1 c1 G c2 H R),.func (.func 208) #[] #[v1,v2]] w fun e w'=>e=.returned (.tuple #[])/\I (dE g) w'/\bn lo hi w w':=by
 obtain⟨F,es,D,go⟩:=g;dsimp only at *;obtain⟨HH,HI,Jb,Gy⟩:=fU a0 ac ab (show ∀h,bn lo hi w h->ag N h from fun h ad=>T.trans (ad.below a3 T.size));have Y:=ac _ _ _ a5 (ak w (.cells (fw F A1 es.length c1 G D.length c2 H go.length R) 54));have V:=aC w (.cells (fw F A1 es.length c1 G D.length c2 H go.length R) 54) rfl;have Z:bn lo hi w (w.alloc (.cells (fw F A1 es.length c1 G D.length c2 H go.length R) 54)):=bn.eu (ak _ _);have bu:=zH (show ∀h,bn lo hi w h->j6 h A1 G H ⟨F,es,D,go⟩ from fun h ad=>ab.ext (T.trans (ad.below a3 T.size)));have bb:∀x∈D,Gr.On ⟨F,es,D,go⟩ x:=fun x J=>au J
 have bg:∀x∈go,Gr.On ⟨F,es,D,go⟩ x:=fun x J=>an (au J)
 obtain⟨LE,I8⟩:=bD (show ∀e∈es,(∀x∈e.i,Gr.On ⟨F,es,D,go⟩ x)/\∀x∈e.o,Gr.On ⟨F,es,D,go⟩ x from fun e he=>⟨fun x J=>an (an ⟨e,he,au J⟩),fun x J=>an (an ⟨e,he,an J⟩)⟩) (show ∀k e,es[k]?=some e->((es.take (k+1)).flatMap fun e=>[e.i,e.o])=((es.take k).flatMap fun e=>[e.i,e.o])++[e.i]++[e.o] from fun k e he=>by rw[dH,he,D9];simp);have bc:D.length<=65536:=U D RC;have bd:go.length<=65536:=U go RC;have I9:=zH (show ∀e∈es,e.i.length<=65536/\e.o.length<=65536 from fun e he=>⟨U e.i (jF _ (ld.2 ⟨e,he,Rq⟩)),U e.o (jF _ (ld.2 ⟨e,he,Rq⟩))⟩);clear a0 ac ab a5 T U;go_enter func169,ntmps169
 go_upto_region 1 with(fail)
 generalize w.alloc _=W at V Y Z ⊢;obtain⟨x0,x1,x2,x3⟩:=aA V;obtain⟨bv,FW,a7,a9⟩:=fU Y (HH.o [] D G c2 W Y Jb.o.i (Gy.o _ Z) bb bc) V Z;clear Y V Z;go_wp2_with fail
 refine FW.o.mono ?_;rintro e bi ⟨rfl,hi2,ao⟩;have am:=iY a7.o ao (an I2);obtain⟨bo,bp,bq,br⟩:=aA am;have a1:=zH (a9.o.trans ao);obtain⟨FV,a8⟩:=bD (HH.o [D] go H R bi hi2 Jb.o.o (Gy.o _ a1.o) bg bd) am;clear x0 x1 x2 x3 hi2 ao am FW;go_wp2_with fail
 refine FV.o.mono ?_;rintro e b0 ⟨rfl,a2,ap⟩;have a4:=iY a8.o ap (an I2);obtain⟨z0,z1,z2,z3⟩:=aA a4;obtain⟨ba,a6⟩:=bD (a1.o.trans ap) a2;clear bo bp bq br a2 ap a4 FV;go_wp2;go_loopw [17] (fun i wr=>∃k:Nat,k<=es.length/\i=.int .i64 k/\I ([D,go]++(es.take k).flatMap fun e=>[e.i,e.o]) wr/\bn lo hi w wr) (fun i _=>es.length-(intOf i).toNat)
 case atStart=>exact⟨0,aX _,rfl,a6.o,ba.o⟩
 case round=>
  exact Z1
theorem BJ(g:Gr)(A1 G H:aq)(c1 c2 R:Nat)(v1 v2 v3 v4:ax)(lo hi:Nat)(N w:aa)(I:List (List Nat)->World->Prop)(ab:j6 N A1 G H g)(bz:g.es.length<=1048576)(U:∀l∈dE g,l.length<=65536)(ac:∀d h O,I d h->ag h O->I d O)(T:ag N w)(a3:N.heap.size<=lo)(I2:hi<=w.heap.size)(a5:I [] w)(a0:∀(d:List (List Nat)) (l:bO) (A:aq) (cap:Nat) (h:aa),I d h->aJ N A (bt l)->ag N h->(∀x∈l,g.On x)->l.length<=65536->aw 170 #[.slice A l.length cap,v1,v2,v3,v4] h fun e O=>e=.returned (.tuple #[])/\I (d++[l]) O/\bn lo hi h O):aw 169 #[.agg (bl g A1 c1 G c2 H R),.func (.func 170) #[] #[v1,v2,v3,v4]] w fun e w'=>e=.returned (.tuple #[])/\I (dE g) w'/\bn lo hi w w':=by
 obtain⟨F,es,D,go⟩:=g;dsimp only at *;obtain⟨HH,HI,Jb,Gy⟩:=fU a0 ac ab (show ∀h,bn lo hi w h->ag N h from fun h ad=>T.trans (ad.below a3 T.size));have Y:=ac _ _ _ a5 (ak w (.cells (fw F A1 es.length c1 G D.length c2 H go.length R) 54));have V:=aC w (.cells (fw F A1 es.length c1 G D.length c2 H go.length R) 54) rfl;have Z:bn lo hi w (w.alloc (.cells (fw F A1 es.length c1 G D.length c2 H go.length R) 54)):=bn.eu (ak _ _);have bu:=zH (show ∀h,bn lo hi w h->j6 h A1 G H ⟨F,es,D,go⟩ from fun h ad=>ab.ext (T.trans (ad.below a3 T.size)));have bb:∀x∈D,Gr.On ⟨F,es,D,go⟩ x:=fun x J=>au J
 have bg:∀x∈go,Gr.On ⟨F,es,D,go⟩ x:=fun x J=>an (au J)
 obtain⟨LE,I8⟩:=bD (show ∀e∈es,(∀x∈e.i,Gr.On ⟨F,es,D,go⟩ x)/\∀x∈e.o,Gr.On ⟨F,es,D,go⟩ x from fun e he=>⟨fun x J=>an (an ⟨e,he,au J⟩),fun x J=>an (an ⟨e,he,an J⟩)⟩) (show ∀k e,es[k]?=some e->((es.take (k+1)).flatMap fun e=>[e.i,e.o])=((es.take k).flatMap fun e=>[e.i,e.o])++[e.i]++[e.o] from fun k e he=>by rw[dH,he,D9];simp);have bc:D.length<=65536:=U D RC;have bd:go.length<=65536:=U go RC;have I9:=zH (show ∀e∈es,e.i.length<=65536/\e.o.length<=65536 from fun e he=>⟨U e.i (jF _ (ld.2 ⟨e,he,Rq⟩)),U e.o (jF _ (ld.2 ⟨e,he,Rq⟩))⟩);clear a0 ac ab a5 T U;go_enter func169,ntmps169
 go_upto_region 1 with(fail)
 generalize w.alloc _=W at V Y Z ⊢;obtain⟨x0,x1,x2,x3⟩:=aA V;obtain⟨bv,FW,a7,a9⟩:=fU Y (HH.o [] D G c2 W Y Jb.o.i (Gy.o _ Z) bb bc) V Z;clear Y V Z;go_wp2_with fail
 refine FW.o.mono ?_;rintro e bi ⟨rfl,hi2,ao⟩;have am:=iY a7.o ao (an I2);obtain⟨bo,bp,bq,br⟩:=aA am;have a1:=zH (a9.o.trans ao);obtain⟨FV,a8⟩:=bD (HH.o [D] go H R bi hi2 Jb.o.o (Gy.o _ a1.o) bg bd) am;clear x0 x1 x2 x3 hi2 ao am FW;go_wp2_with fail
 refine FV.o.mono ?_;rintro e b0 ⟨rfl,a2,ap⟩;have a4:=iY a8.o ap (an I2);obtain⟨z0,z1,z2,z3⟩:=aA a4;obtain⟨ba,a6⟩:=bD (a1.o.trans ap) a2;clear bo bp bq br a2 ap a4 FV;go_wp2;go_loopw [17] (fun i wr=>∃k:Nat,k<=es.length/\i=.int .i64 k/\I ([D,go]++(es.take k).flatMap fun e=>[e.i,e.o]) wr/\bn lo hi w wr) (fun i _=>es.length-(intOf i).toNat)
 case atStart=>exact⟨0,aX _,rfl,a6.o,ba.o⟩
 case round=>
  exact Z1
theorem zt:(prog.info? 4).map (fun i=>(i.zero,i.size,i.bytes))=some (some (.bool false),1,1):=RP
def mH(C:bO)(d:List (List Nat))(r:Nat):Bool:=d.any fun l=>l.any fun x=>decide (C.getD x 0=r)
def kG(n:Nat)(C:bO)(d:List (List Nat)):List Bool:=(List.range n).map (mH C d)
theorem jQ(n:Nat)(C:bO)(d:List (List Nat)):(kG n C d).length=n:=by simp[kG]
theorem lp(C:bO)(d:List (List Nat))(h:r<n):(kG n C d)[r]?=some (mH C d r):=by simp[kG,h]
theorem wT(n:Nat)(C:bO):kG n C []=List.replicate n false:=by
 apply gS;intro k;by_cases h:k<n
 .rw[lp _ _ h,fH,ay h];rfl
 .rw[gT (by rw[jQ];omega),fH,av h]
theorem zc1{d:List (List Nat)}(h:l[k]?=some x)(r:Nat):mH C (d++[l.take (k+1)]) r=(mH C (d++[l.take k]) r||decide (C.getD x 0=r)):=by unfold mH;rw[yX,yX,List.any_cons,List.any_cons,List.any_nil,Bool.or_false,Bool.or_false,dH,h,yX];simp[Bool.or_assoc]
theorem BZ{d:List (List Nat)}(D:l[k]?=some x)(F:C.getD x 0<n):(kG n C (d++[l.take k])).set (C.getD x 0) true=kG n C (d++[l.take (k+1)]):=by
 apply gS;intro r;by_cases h:r<n
 .rw[lp _ _ h,zc1 D];by_cases e:C.getD x 0=r
  .subst e;rw[fB (by rw[jQ];exact h)];simp
  .rw[eF e,lp _ _ h];simp only[e,decide_false,Bool.or_false]
 .rw[gT (by rw[iE,jQ];omega),gT (by rw[jQ];omega)]
structure UI(n B bu bc ug uc cp:Nat)(Ac:aq)(P C:bO)(d:List (List Nat))(V:aa):Prop where
 hu:aW V bu (cg (some ⟨ug,0,none⟩) n uc) 209
 hc:aW V bc (cg Ac n cp) 258
 ci:aD V B (.slice Ac n cp) (bt P)
 us:V.ownsRow B 4 1 (.slice (some ⟨ug,0,none⟩) n uc) n ((kG n C d).map Value.bool)
theorem UI.ext{ug:Nat}{P:bO}{d:List (List Nat)}(D:UI n B H Rn ug Q_ QO Y P C d J)(h:ag J Rg):UI n B H Rn ug Q_ QO Y P C d Rg:=⟨ah D.hu h,ah D.hc h,D.ci.ext h,ik D.us (row:=none) ⟨h.os,h.tape,h.output,h.size,fun k F _=>h.block k F⟩ TO⟩
theorem UI.ug{ug:Nat}{P:bO}{d:List (List Nat)}(D:UI n B H Rn ug Q_ QO Y P C d J):∃cs,aW J ug cs 4:=by
 rcases D.us.2 with⟨e,_⟩|⟨g,cap,h,e,_,F,_⟩
 .cases e
 .cases e;exact⟨h,F⟩
theorem UI.set{ug:Nat}{P:bO}{d:List (List Nat)}(h:UI n B H Rn ug Q_ QO Y P C (d++[l.take k]) J)(I:l[k]?=some x)(G:C.getD x 0<n):UI n B H Rn ug Q_ QO Y P C (d++[l.take (k+1)]) (J.setCell ⟨ug,C.getD x 0,none⟩ (.bool true)):=by
 obtain⟨cs,F⟩:=h.ug;have N:H≠ug:=fun e=>by have:=h.hu;rw[e,F]at this;simp at this
 have n2:Rn≠ug:=fun e=>by have:=h.hc;rw[e,F]at this;simp at this
 have D:=h.us.stored (C.getD x 0) (.bool true);rw[<-fh,BZ I G]at D;exact⟨(aZ _ _ _ _ N).trans h.hu,(aZ _ _ _ _ n2).trans h.hc,aD.kept h.ci D.2 (jj Rs h.ci h.us),D.1⟩
theorem zc2(n B F D ug J H:Nat)(h:aq)(P C:bO)(d:List (List Nat))(l:bO)(A:aq)(cap:Nat)(G:aa)(ao:yn n P C)(I:UI n B F D ug J H h P C d G)(am:aJ G A (bt l))(a0:∀x∈l,x<n)(bo:n<=1048576)(bv:l.length<=1048576)(a2:∀b o,A=some ⟨b,o,none⟩->0<l.length->b≠ug):aw 208 #[.slice A l.length cap,.pointer (some ⟨F,0,none⟩),.pointer (some ⟨D,0,none⟩)] G fun e ab=>e=.returned (.tuple #[])/\UI n B F D ug J H h P C (d++[l]) ab/\bn ug (ug+1) G ab:=by
 obtain⟨Z,a4,a6,a7⟩:=fU ao am a0 a2;have a8:=zH (show UI n B F D ug J H h P C (d++[l.take 0]) G from by
  have:kG n C (d++[l.take 0])=kG n C d:=by unfold kG mH;simp
  exact⟨I.hu,I.hc,I.ci,by rw[this];exact I.us⟩)
 clear ao I am a0 a2;go_enter func208,ntmps208
 go_wp2;go_loopw [8] (fun i wr=>∃k:Nat,k<=l.length/\i=.int .i64 k/\UI n B F D ug J H h P C (d++[l.take k]) wr/\bn ug (ug+1) G wr) (fun i _=>l.length-(intOf i).toNat)
 case atStart=>exact⟨0,aX _,rfl,a8.o,bn.refl _ _ _⟩
 case round=>
  obtain⟨k,bu,rfl,hu,hw⟩:=hrel;by_cases EH:k<l.length
  .obtain⟨x,O⟩:=aB EH;obtain⟨b,o,rfl,ap⟩:=a4.o.here (k:=k) S_;have bz:=a7.o b o rfl Rr;have br:=hw.cell (ap k _ (dJ O)) (by show b<ug∨ug+1<=b;omega);have U:=a6.o x (aY O);have R:C.getD x 0<n:=by have:=Z.o.lt U;omega
   obtain⟨Y,V⟩:=bD (hu.set O R) (fun W (bd:aJ W h (bt P))=>zp n P C h H x W Z.o bd U bo);have a5:Hd (aJ wr h (bt P)):=by obtain⟨bp,bq,e,bc,-⟩:=hu.ci.view;simp only[dW]at e;obtain⟨rfl,-,-⟩:=e;exact zH bc
   obtain⟨r,a1⟩:=aM (C.getD x 0);rw[<-a1]at Y V R;have ac:=aI hu.hu 0 rfl;have ad:=aI hu.hc 0 rfl;have bg:∃q,ae wr ug r q:=by obtain⟨q,hq⟩:=aB (by rw[jQ];exact R:r < (kG n C (d++[l.take k])).length);exact⟨.bool q,Vt⟩
   obtain⟨q,hq⟩:=bg;have bi:=hu.us.frozenAt r;obtain⟨cs,T⟩:=hu.ug;have a3:F≠ug:=fun e=>by have:=hu.hu;rw[e,T]at this;simp at this
   have n2:D≠ug:=fun e=>by have:=hu.hc;rw[e,T]at this;simp at this
   obtain⟨ba,bb,a9⟩:=dO a3 n2 hw;have N:=aF ac ad;clear ap O U hu a1 T a3 n2 hw ac ad;go_wp2_with fail
   go_region_held3 (fun W=>ae W F 0 (.slice (some ⟨ug,0,none⟩) n J)/\ae W D 0 (.slice h n H))
    (first|exact N|exact⟨(bV ba.o).trans N.1,(bV bb.o).trans N.2⟩)
    ((go_at_call 209;refine(V.o _ (a5.o.ext (az _))).mono ?_;rintro e w' ⟨rfl,rfl⟩))
   obtain⟨HE,FX⟩:=bD (Y.o.ext (az _)) ((a9.o.nC (p:=⟨ug,r,none⟩) (v:=.bool true) (af _) (gq _)).trans (bn.eu (az _)));clear N hq bi;go_wp2;go_roundw
   case rel=>exact⟨k+1,Rr,Rt,HE.o,FX.o⟩
   case measure=>simp[intOf];omega
  .exact Yo
theorem AI:mH C (dE g) r=true↔∃x,g.On x/\C.getD x 0=r:=by
 unfold mH;rw[k7];constructor
 .rintro⟨l,F,h⟩;rw[k7]at h;obtain⟨x,D,h⟩:=h;exact⟨x,(uf g x).1 ⟨l,F,D⟩,R9⟩
 .rintro⟨x,D,h⟩;obtain⟨l,F,D⟩:=(uf g x).2 D;exact⟨l,F,k7.2 ⟨x,D,R9⟩⟩
theorem zcC(G:g.In):Bk g C r=(decide (C.getD r 0=r)&&mH C (dE g) r):=by
 rw[jz];unfold Bk;rw[bE,bE,AI,k7];constructor
 .rintro⟨D,x,F,h⟩;rw[bE,bX]at h;exact⟨D,x,Gr.jS.1 h.1,h.2⟩
 .rintro⟨D,x,F,h⟩;exact⟨D,x,fi.2 (G x F),by rw[Gr.jS.2 F];simpa using h⟩
def toN(g:Gr)(C:bO)(x:Nat):Int:=if mH C (dE g) (C.getD x 0)=true then(zG g C x:Nat) else -1
def Eb(g:Gr)(C:bO):List Int:=(List.range g.w).map (toN g C)
theorem yS(g:Gr)(C:bO):(Eb g C).length=g.w:=by simp[Eb]
theorem sl(C:bO)(h:x<g.w):(Eb g C)[x]?=some (toN g C x):=by simp[Eb,h]
def lD(g:Gr)(C:bO)(k:Nat):Nat:=((List.range k).filter (Bk g C)).length
theorem sm(g:Gr)(C:bO)(k:Nat):lD g C k<=k:=by have:=List.length_filter_le (Bk g C) (List.range k);rw[fX]at this;exact this
theorem CH(g:Gr)(C:bO)(k:Nat):lD g C (k+1)=lD g C k+if Bk g C k=true then 1 else 0:=Es k
theorem CI(D:g.In):Ei (Eb g C) (zG g C) g:=fun x h=>by rw[sl C (D x h)];unfold toN;rw[ay (AI.2 ⟨x,h,rfl⟩)]
theorem zcD(h:mH C (dE g) (C.getD k 0)=false):toN g C k=-1:=by unfold toN;rw[h];simp
theorem zcE(h:mB g.w C)(D:k<g.w):toN g C k=toN g C (C.getD k 0):=by unfold toN zG;rw[h.rep k D]
theorem zcF(h:mH C (dE g) (C.getD k 0)=true)(e:C.getD k 0=k):toN g C k=(lD g C k:Nat):=by unfold toN zG lD;rw[ay h,e]
theorem zcG(D:g.In)(h:mH C (dE g) (C.getD k 0)=true)(e:C.getD k 0=k):lD g C (k+1)=lD g C k+1:=by rw[CH,zcC D,e];rw[e]at h;rw[h];simp
theorem vx(D:g.In)(h:mH C (dE g) (C.getD k 0)=false∨C.getD k 0≠k):lD g C (k+1)=lD g C k:=by
 rw[CH,zcC D];rcases h with h|h
 .by_cases e:C.getD k 0=k
  .rw[e]at h;rw[h];simp
  .rw[fW e,kq];rfl
 .rw[fW h,kq];rfl
theorem vy(h:g.In)(D:∀q∈ps,q.1<g.w/\q.2<g.w):iA g ps=g.map (lD g (iH g.w ps) g.w) (zG g (iH g.w ps)):=zeJ h D
def EPr(_:aa)(x:fQ)(c:bU):Prop:=c=[.int .i64 (x.1:Nat),.int .i64 (x.2:Nat)]
theorem zix:RT prog 201 202 2 (.agg eW) 16:=⟨underlying201,RP,Rs,Rs,Rs⟩
theorem zbY(G:bF 2 EPr w A ps){q:fQ}(F:ps[k]?=some q):∃b o,A=some ⟨b,o,none⟩/\ae w b (o+k*2) (.int .i64 (q.1:Nat))/\ae w b (o+k*2+1) (.int .i64 (q.2:Nat)):=by obtain⟨b,o,e,H⟩:=G.here (bG.1 F).1;obtain⟨c,h,D⟩:=H k q F;unfold EPr at D;subst D;exact⟨b,o,e,h 0 _ rfl,h 1 _ rfl⟩
theorem zdV(h:bF 2 EPr w A ps)(D:ag w w'):bF 2 EPr w' A ps:=bF.ext (fun _ _ h=>(h:EPr w _ _)) h D
def zif(g:Gr)(ps:nU)(w:aa)(e:Ending)(w':aa):Prop:=∃A1 c1 h c2 D G F H,e=.returned (.agg #[.int .i64 ((iA g ps).w:Nat),.slice A1 (iA g ps).es.length c1,.slice h (iA g ps).i.length c2,.slice D (iA g ps).o.length G,.slice F g.w H])/\
 Fr w' w.heap.size w'.heap.size (fun W=>j6 W A1 h D (iA g ps))/\ag w w'
abbrev st5(w:aa)(b:Nat)(v0 v1 v2 v3 v4:ax):World:=((((w.setCell ⟨b,0,none⟩ v0).setCell ⟨b,1,none⟩ v1).setCell ⟨b,2,none⟩ v2).setCell ⟨b,3,none⟩ v3).setCell ⟨b,4,none⟩ v4
theorem zc3(I:aW w b #[R,T,z2,Ro,Rj] t):(st5 w b v0 v1 v2 v3 v4).heap[b]?=some (.cells #[v0,v1,v2,v3,v4] t (0,0)):=by have h:=bm w b 0 _ _ v0 I;have D:=bm _ b 1 _ _ v1 h;have F:=bm _ b 2 _ _ v2 D;have G:=bm _ b 3 _ _ v3 F;have H:=bm _ b 4 _ _ v4 G;simpa[st5]using H
theorem zew(h:k≠b):(st5 w b v0 v1 v2 v3 v4).heap[k]?=w.heap[k]?:=(aZ _ _ _ _ R9).trans ((aZ _ _ _ _ R9).trans ((aZ _ _ _ _ R9).trans ((aZ _ _ _ _ R9).trans (aZ _ _ _ _ R9))))
theorem zex:(st5 w b v0 v1 v2 v3 v4).heap.size=w.heap.size:=by simp[st5]
theorem zc4(D:Below B w w')(h:B<=b)(v0 v1 v2 v3 v4:ax):Below B w (st5 w' b v0 v1 v2 v3 v4):=((((D.setCell h _).setCell h _).setCell h _).setCell h _).setCell h _
theorem zbd{h:Type}{xs:List h}{z:h}(D:r<k)(F:k<=xs.length):(fS xs z k)[r]?=xs[r]?:=by unfold fS;rw[df Sr,gm,ay D]
theorem Eh{xs:bU}(h:w.ownsRow B Rk s v n xs)(I:B'<=B):w.ownsRow B' Rk s v n xs:=⟨h.1,h.2.imp id fun⟨g,cap,G,D,H,F⟩=>⟨g,cap,G,D,Rr,F⟩⟩
theorem zck(H:g.i.length<=65536)(I:g.o.length<=65536)(D:∀e∈g.es,e.i.length<=65536/\e.o.length<=65536):∀l∈dE g,l.length<=65536:=fun l G=>by
 unfold dE at G;rcases eh.1 G with h|h
 .simp at h;rcases h with rfl|rfl
  .exact H
  .exact I
 .obtain⟨e,F,h⟩:=ld.1 h;simp at h;rcases h with rfl|rfl
  .exact(D e F).1
  .exact(D e F).2
theorem tq(n:Nat):(madeCells (Value.bool false).cells (n*1)).toList=(List.replicate n false).map Value.bool:=YR
structure G1R(n B bc cp:Nat)(Ac:aq)(ps:nU)(k:Nat)(P:bO)(V:aa):Prop where
 up:yn n P (iH n (ps.take k))
 hc:aW V bc (cg Ac n cp) 258
 ci:aD V B (.slice Ac n cp) (bt P)
theorem zey(g:Gr)(ps:nU)(A1 ab ac d4:aq)(c1 c2 a1 hn:Nat)(w:aa)(bc:j6 w A1 ab ac g)(fa:bF 2 EPr w d4 ps)(c0:g.In)(c8:∀q∈ps,q.1<g.w/\q.2<g.w)(gi:g.w<=65536)(fx:g.es.length<=65536)(hi:g.i.length<=65536)(gc:g.o.length<=65536)(fz:∀e∈g.es,e.i.length<=65536/\e.o.length<=65536)(hU:ps.length<=1048576):aw 165 #[.agg (bl g A1 c1 ab c2 ac a1),.slice d4 ps.length hn] w (zif g ps w):=by
 have g4:=zH (vy c0 c8);obtain⟨n,br⟩:=aM g.w;obtain⟨bv,c4⟩:=aM g.es.length;obtain⟨bz,c5⟩:=aM g.i.length;obtain⟨b0,c6⟩:=aM g.o.length;have gb:n<=65536:=by rw[br];exact gi
 rw[<-br,<-c4,<-c5,<-c6];obtain⟨N,ei,ej,ek,es,bo,ea,em,d9,bb⟩:=zhJ br c4 c5 c6 (show ∀q∈ps,q.1<n/\q.2<n by rw[br];exact c8) c0 bc fa fz (show g.es.length<=65536/\g.i.length<=65536/\g.o.length<=65536 from⟨fx,hi,gc⟩);have ap:=(bJ (w.alloc (.cells (kW n A1 bv c1 ab bz c2 ac b0 a1) 54)) (.cells DM 204) (k:=w.heap.size) Rq).trans (aC w _ rfl);have a0:=aC (w.alloc (.cells (kW n A1 bv c1 ab bz c2 ac b0 a1) 54)) (.cells DM 204) (n:=w.heap.size+1) Rq;have cB:=((aj w.heap.size w).alloc (af _) (.cells (kW n A1 bv c1 ab bz c2 ac b0 a1) 54)).alloc Rq (.cells DM 204);clear br c4 c5 c6 c0 c8 bc fa fz fx hi gc gi;have hT:∀(e7:Fn) (first cap:eU) (w:aa),(Instr.makeFunc e7 first cap).run prog w=.ok (.func e7 first cap) w:=fun _ _ _ _=>rfl
 go_enter func165,ntmps165
 go_upto_region 1 with(fail)
 generalize (w.alloc _).alloc _=W at ap a0 cB ⊢;have gf:w.heap.size+2<=W.heap.size:=(aT.1 a0).1;obtain⟨a7,a8,a9,ba⟩:=aA ap;obtain⟨b4,g9,hc,Fb⟩:=fU cB ap a0 gf;clear ap a0 cB gf;go_upto_region 2 with(go_at_call 62;refine(pr n _ Rr).mono ?_;rintro e G ⟨u,rfl,V,D⟩;obtain⟨J,U,rfl,-⟩:=V.view;rw[ee]at V ⊢;rw[zdg]at V;have ct:=zH V;have bi:=zH D;clear V D)
 obtain⟨F,cb⟩:=bA G (.cells (cg J n U) 258);have cu:=zH (ct.o.ext F);have eo:=zH (show ∀b,(Value.slice J n U).ownBlock=some b->W.heap.size<=b/\b<G.heap.size from fun b D=>by have:=ct.o.lt b (by simpa[Value.ownBlock]using D);exact this)
 obtain⟨co,cq,b5,hj⟩:=fU (ah (ah g9.o bi.o) F) (ah (ah hc.o bi.o) F) ((b4.o.trans (bi.o.mono b4.o.size)).trans (F.mono (b4.o.trans (bi.o.mono b4.o.size)).size)) bi.o.size;generalize G.alloc _=cA at F cb cu co cq b5 ⊢;have eb:=zH (show G1R n W.heap.size G.heap.size U J ps 0 (List.range n) cA from⟨zeI n,cb,cu.o⟩);have ch:G.heap.size<cA.heap.size:=(aT.1 cb).1;have hl:=zH ch;clear F cb a7 a8 a9 ba ct cu ch;go_wp2;go_loopw [18] (fun i wr=>∃(k:Nat) (P:bO),k<=ps.length/\i=.int .i64 k/\G1R n W.heap.size G.heap.size U J ps k P wr/\bn W.heap.size G.heap.size cA wr) (fun i _=>ps.length-(intOf i).toNat)
 case atStart=>exact⟨0,_,aX _,rfl,eb.o,bn.refl _ _ _⟩
 case round=>
  obtain⟨k,P,c3,rfl,ao,a5⟩:=hrel;have cc:ag w wr:=b5.o.trans (a5.below TC b5.o.size);have hW:=a5.size;by_cases bd:k<ps.length
  .obtain⟨q,ap⟩:=aB bd;obtain⟨b,o,rfl,dT,d0⟩:=zbY (zdV em.o cc) ap;obtain⟨dc,dl⟩:=es.o q (aY ap);have ey:=zH (by rw[dH,ap];exact Et n _ q:iH n (ps.take (k+1))=rC (iH n (ps.take k)) q.1 q.2);obtain⟨gw,gA⟩:=q;dsimp only at dT d0 dc dl ey;obtain⟨F,c7⟩:=bA wr (.cells (bf gw gA) 202);obtain⟨b8,cj,a2,e2⟩:=fU (ao.ci.ext F) (ah ao.hc F) ao.up (a5.trans (bn.eu F));clear ap ao a5 cc;go_upto_region 5 with(fail)
   generalize wr.alloc _=hE at F c7 b8 cj e2 ⊢;obtain⟨hB,hC,-,-⟩:=dd c7;have e5:=aI cj.o 0 rfl;clear dT d0 c7 F;go_wp2_with (go_at_call 207;refine(zev n W.heap.size P (iH n (ps.take k)) J U gw gA _ a2.o b8.o dc dl Rr).mono ?_;rintro e hF ⟨rfl,f8,f9,ht⟩;have g5:=zH f8;have bp:=zH f9;clear f8 f9 ht)
   have e1:=zH (show bn W.heap.size G.heap.size hE hF from⟨bp.o.os,bp.o.tape,bp.o.output,bp.o.size,fun k c3 a0=>bp.o.block k c3 fun e=>by have:=eo.o k e.symm;omega⟩);obtain⟨gL,hg⟩:=bD (iY cj.o e1.o (an (af _))) (show yn n _ _ from zfX a2.o dc dl);clear hB hC e5;go_roundw
   case rel=>exact⟨k+1,_,Rr,Rt,⟨by rw[ey.o];exact hg.o,gL.o,g5.o⟩,e2.o.trans e1.o⟩
   case measure=>simp[intOf];omega
  .obtain rfl:k=ps.length:=Rr;obtain⟨C,cF⟩:=aM (iH n ps);have db:=ao.up;rw[cY (af _),<-cF]at db;obtain⟨g1,a2,d7,g0,b8,b7⟩:=kE cF db (show W.heap.size<=wr.heap.size from aR hj.o (by have:=hl.o;omega)) ao.hc ao.ci cc;have bg:=iY co.o a5 (au TC);have bu:=iY cq.o a5 (au TC);obtain⟨ha,hd⟩:=bD bg bu;obtain⟨a7,a8,a9,ba⟩:=aA bg;have fn:G.heap.size<wr.heap.size:=(aT.1 ao.hc).1;have hH:=zH fn;obtain⟨hA,hs,hz,ch,EK⟩:=de zt;clear cF ao a5 cc bg bu db fn es em eo eb cq co b5;go_upto_region 8 with((at_make;refine jb _ rfl _ _ 209 rfl wr.heap.size 4 hA (.bool false) 1 underlying209 hs hz ch .i64 .i64 n n n rfl rfl rfl rfl SA TD (af _) ?_;intro R gd f7;have g7:=zH gd;have ck:=zH (cD f7);clear gd f7))
   obtain⟨F,cO⟩:=bA R (.cells (cg (some ⟨wr.heap.size,0,none⟩) n n) 209);have a4:=ck.o.trans (F.mono ck.o.size);obtain⟨cp,ev⟩:=bD (ah ha.o a4) (ah hd.o a4);have Y:UI n W.heap.size R.heap.size G.heap.size wr.heap.size n U J P C [] (R.alloc (.cells (cg (some ⟨wr.heap.size,0,none⟩) n n) 209)):=by refine⟨cO,ah g0.o a4,b8.o.ext a4,?_⟩;have:=g7.o;rw[tq,<-wT n C]at this;exact km (Eh this d7.o) _
   obtain⟨e0,b6⟩:=bD Y (b7.o.trans (a4.mono b7.o.size));have gs:wr.heap.size+1<=(R.alloc (.cells (cg (some ⟨wr.heap.size,0,none⟩) n n) 209)).heap.size:=by obtain⟨cs,h⟩:=Y.ug;exact(aT.1 h).1
   have e3:=zH gs;have fl:wr.heap.size<=R.heap.size:=ck.o.size;have hG:=zH fl;clear a7 a8 a9 ba Y gs fl;generalize R.alloc _=dq at F cO a4 cp ev e0 b6 e3 ⊢;obtain⟨a7,a8,a9,ba⟩:=aA cp.o;have g6:=zH (show aw 169 #[.agg (kW n A1 bv c1 ab bz c2 ac b0 a1),.func (.func 208) #[] #[.pointer (some ⟨R.heap.size,0,none⟩),.pointer (some ⟨G.heap.size,0,none⟩)]] dq fun e w'=>e=.returned (.tuple #[])/\UI n W.heap.size R.heap.size G.heap.size wr.heap.size n U J P C (dE g) w'/\bn wr.heap.size (wr.heap.size+1) dq w' from by
    have:=zb7 g A1 ab ac c1 c2 a1 (.pointer (some ⟨R.heap.size,0,none⟩)) (.pointer (some ⟨G.heap.size,0,none⟩)) wr.heap.size (wr.heap.size+1) w dq (fun d a3=>UI n W.heap.size R.heap.size G.heap.size wr.heap.size n U J P C d a3) ea.o (by have:=bb.o.1;omega) (zck bb.o.2.1 bb.o.2.2 d9.o) (fun d a3 hm h D=>h.ext D) b6.o b7.o.size e3.o e0.o (fun d l A cap a3 ca e9 am hu hS=>by
     refine(zc2 n W.heap.size R.heap.size G.heap.size wr.heap.size n U J P C d l A cap a3 a2.o ca (e9.ext am) (fun x hx=>by rw[N.o];exact bo.o x (hu x hx)) Rr Rr ?_).mono ?_
     .intro b o e e8;subst e;obtain⟨hJ,hX,ho,hq⟩:=e9.here (k:=0) (by rw[aQ];exact e8);cases ho
      obtain⟨y,hy⟩:=aB e8;have:=jA _ _ (hq 0 _ (dJ hy));have b9:=b7.o.size;have:b<w.heap.size:=this;omega
     .rintro e hm ⟨bq,b9,hp⟩;exact⟨bq,b9,hp⟩)
    rw[<-N.o,<-ei.o,<-ej.o,<-ek.o]at this;exact this)
   clear F cO a4;go_upto_region 9 with(go_at_call 169;refine g6.o.mono ?_;rintro e a6 ⟨rfl,gg,gn⟩;have hh:=zH gg;have cz:=zH gn;clear gg gn)
   have GD:=zH (show w.heap.size+2<=wr.heap.size from aR Fb.o d7.o);have c9:=iY cp.o cz.o (au TB);obtain⟨he,hb⟩:=bD (iY ev.o cz.o (au TB)) c9;have fd:ag w a6:=b6.o.trans (cz.o.below TB b6.o.size);have d5:=zH fd;clear a7 a8 a9 ba fd;obtain⟨a7,a8,a9,ba⟩:=aA c9;clear c9;go_upto_region 10 with(go_at_call 98;refine(kx n _ Rr).mono ?_;rintro e h7 ⟨u,rfl,V,D⟩;obtain⟨T,ad,rfl,-⟩:=V.view;rw[iF]at V ⊢;have e4:=zH V;have gC:=zH D;clear V D)
   have H:=e4.o;unfold aD at H;rw[iF,show List.replicate n (0:Int)=fS (Eb g C) 0 0 by rw[iW,yS,N.o]]at H;obtain⟨hf,EW,g2⟩:=dO H (by rw[yS,N.o]:(Eb g C).length=n) (show mB g.w C by have:=a2.o.cls;rw[N.o]at this;exact this);clear H e4;obtain⟨dr,rfl⟩:∃dr,dr=wr:=⟨wr,rfl⟩;go_wp2;go_loopw [10,40] (fun u i a3=>∃k:Nat,k<=n/\i=.int .i64 k/\u=.int .i64 ((lD g C k:Nat))/\a3.ownsRow a6.heap.size 3 1 (.slice T n ad) n ((fS (Eb g C) 0 k).map (Value.int .i64))/\ag a6 a3) (fun _ i _=>n-(intOf i).toNat)
   case atStart=>exact⟨0,aX _,rfl,rfl,hf.o,gC.o⟩
   case round=>
    obtain⟨k,c3,rfl,rfl,H,am⟩:=hrel;have Y:=hh.o.ext am;by_cases bd:k<n
    .obtain⟨O,rfl⟩:∃O,T=some ⟨O,0,none⟩:=by
      rcases H.2 with⟨_,bq⟩|⟨O,e6,hO,e,_⟩
      .omega
      .cases e;exact⟨O,rfl⟩
     have f6:=bL H O rfl;have ca:aJ wr J (bt P):=by obtain⟨gB,e6,e,h,-⟩:=Y.ci.view;exact WB
     have Lw:=zH (zp n P C J U k wr a2.o ca bd Rr);have ga:k<g.w:=by rw[<-N.o];exact bd
     have hv:C.getD k 0<=k:=a2.o.lt bd;obtain⟨r,a0⟩:=aM (C.getD k 0);obtain⟨b,D⟩:=aM (mH C (dE g) r);obtain⟨Gj,Fc⟩:=bD a0 D;rw[<-a0]at Lw hv;have e5:=aI Y.hu 0 rfl;have hL:=aI Y.hc 0 rfl;have hV:ae wr dr.heap.size r (.bool b):=by rw[Y.us.cellAt _ Rr,cC,lp _ _ Rr,D];rfl
     have hQ:ae wr O k (.int .i64 0):=by rw[H.cellAt _ Rr,cC,lu _ _ _ (by rw[EW.o];exact bd)];rfl
     have hR:=H.frozenAt k;have cr:=zH (show ∀z,toN g C k=z->(wr.setCell ⟨O,k,none⟩ (.int .i64 z)).ownsRow a6.heap.size 3 1 (.slice (some ⟨O,0,none⟩) n ad) n ((fS (Eb g C) 0 (k+1)).map (Value.int .i64))/\Below a6.heap.size a6 (wr.setCell ⟨O,k,none⟩ (.int .i64 z)) from fun z Z=>by have bq:=(H.stored k (.int .i64 z)).1;rw[<-fh,jK _ _ _ _ (by rw[sl C ga,Z])]at bq;exact⟨bq,am.setCell (p:=⟨O,k,none⟩) f6.1 _⟩)
     have g8:=zH (show r<k->ae wr O r (.int .i64 (toN g C r)) from fun h=>by rw[H.cellAt _ Rr,cC,zbd h SQ,sl C Rr];rfl)
     have d8:=zH (sm g C k);clear H am Y f6 ca a0 D;cases b
     .obtain⟨HS,Lv⟩:=bD (cr.o (-1) (zcD UD)) (vx bo.o (k:=k) (au UD));exact Y4
     .by_cases hw:r<k
      .obtain⟨HS,Lv⟩:=bD (cr.o (toN g C r) (by rw[zcE g2.o ga,<-Gj.o])) (vx bo.o (k:=k) (an (by rw[<-Gj.o];omega)));have hr:=g8.o hw;generalize toN g C r=z at HS hr;exact Y4
      .have ce:r=k:=Rr;obtain⟨HS,Lv,hI⟩:=dO (cr.o (lD g C k:Nat) (zcF UD (by rw[<-Gj.o];exact ce))) (zcG bo.o (k:=k) UD (by rw[<-Gj.o];exact ce)) ce;obtain⟨hN,fs⟩:=aM (lD g C k);rw[<-fs]at HS Lv d8 ⊢;have hP:=d8.o;clear fs ce;go_wp2_with (go_at_call 209;refine Lw.o.mono ?_;rintro e w' ⟨rfl,rfl⟩)
       go_roundw
       case rel=>exact⟨k+1,Rr,Rt,by rw[Lv.o];rfl,HS.o.1,HS.o.2⟩
       case measure=>simp[intOf];omega
    .obtain rfl:k=n:=Rr;have fb:aJ wr T (Eb g C):=by
      have:=H;rw[jJ _ _ _ (by rw[EW.o];exact af _)]at this;have b9:aD wr a6.heap.size (.slice T k ad) (Eb g C):=by unfold aD;rw[EW.o];exact this
      obtain⟨gB,e6,e,h,-⟩:=b9.view;exact WB
     have cI:=d5.o.trans (am.mono d5.o.size);have cn:=zH (show aw 205 (oJ (kW k A1 bv c1 ab bz c2 ac b0 a1) (lD g C k:Nat) T k ad) wr (sL (iA g ps) wr) from by have:=wU g (lD g C g.w) (Eb g C) (zG g C) A1 ab ac T c1 c2 a1 ad wr (ea.o.ext cI) fb (CI bo.o) (by rw[EW.o];exact gb) (by rw[<-N.o];exact gb) (by have:=sm g C g.w;rw[<-N.o]at this ⊢;omega) bb.o.1 bb.o.2.1 bb.o.2.2 d9.o;rw[EW.o,<-N.o,<-ei.o,<-ej.o,<-ek.o]at this;rw[show iA g ps=g.map (lD g C k) (zG g C) by rw[g4.o,g1.o,N.o]];exact this.mono fun e w' h=>h.gr)
     have bg:=ah hb.o am;have bu:=ah he.o am;obtain⟨a7,a8,a9,ba⟩:=aA bg;obtain⟨Gj,ci⟩:=bD bu cI;clear fb H am Y bg bu cI;obtain⟨I,bc⟩:=aM (iA g ps);have eg:=zH bc;rw[<-bc]at cn;clear bc;obtain⟨hM,fo⟩:=aM (lD g C k);rw[<-fo]at cn ⊢;clear fo;go_wp2_with (go_at_call 205;refine cn.o.mono ?_;rintro e hD ⟨b1,d1,b2,d2,b3,d3,rfl,f5,D⟩;have Z:=ah Gj.o D;obtain⟨hY,hZ,h0,h1,h2⟩:=ez Z;have f0:=aK Z 0;have f1:=aK Z 1;have f2:=aK Z 2;have f3:=aK Z 3;have f4:=aK Z 4;have hk:=zH Z;have g3:=zH f5;have d6:=zH D;clear Z f5 D)
     have y:=zc3 (v0:=.int .i64 (I.w:Nat)) (v1:=.slice b1 I.es.length d1) (v2:=.slice b2 I.i.length d2) (v3:=.slice b3 I.o.length d3) (v4:=.slice T k ad) hk.o;obtain⟨dT,d0,h8,h9,ia⟩:=ez y;clear y;have h3:=GD.o;have h4:=d6.o.size;have h5:=ci.o.size;have h6:=(aT.1 Gj.o).1;refine aE (v:=.agg #[(I.w:Nat),.slice b1 I.es.length d1,.slice b2 I.i.length d2,.slice b3 I.o.length d3,.slice T k ad]) (by simp[results,results165,go_sem, *]) rfl ⟨b1,d1,b2,d2,b3,d3,T,ad,by rw[<-eg.o,<-N.o],?_,zc4 (ci.o.trans (d6.o.mono ci.o.size)) (b:=w.heap.size+1) Rr _ _ _ _ _⟩;rw[<-eg.o,zex];exact(g3.o.same (w':=st5 hD (w.heap.size+1) (.int .i64 (I.w:Nat)) (.slice b1 I.es.length d1) (.slice b2 I.i.length d2) (.slice b3 I.o.length d3) (.slice T k ad)) fun q a _=>zew Rr).to Rr (af _)
theorem kz{s:Nat}:∀{cs:List (List Value)},(∀c∈cs,c.length=s)->cs.flatten.length=cs.length*s
 |[],_=>Rq
 |c::cs,h=>by rw[qy,bx,h c (lh ..),kz fun c D=>h c (lg _ D),jc,wH,Nat.add_comm]
theorem rY{R:Type}{bytes:Nat}{E:World->R->List Value->Prop}(hT:RT prog t Rk s z bytes)(T:o.guard=none)(O x:jk)(V:o.op=.call {callee:=.builtin .append,args:=#[O,x],argTypes:=#[t,t]})(B G:Nat)(W:aa)(v v2:ax)(xs ys:List R)(D:aV Rk s E W B v xs)(h2:aV Rk s E W G v2 ys)(hd:∀g,v.ownBlock=some g->g<G)(bb:B<=G)(bc:G<=W.heap.size)(ES:xs.length+ys.length<=1048576)(Y:a.eval O=v)(hx:a.eval x=v2)(h:∀F w',aV Rk s E w' B F (xs++ys)->Below B W w'->wpList prog ops Q rest (a.put o.dst F) w'):wpList prog ops Q (o::rest) a W:=by
 obtain⟨Z,hi,a7,a8,a9⟩:=de hT.info;obtain⟨cs,D⟩:=D;obtain⟨ds,h2⟩:=h2;have ad:∀(k:Nat) (x:R) (c:bU),ys[k]?=some x->ds[k]?=some c->c.length=s/\(∀u∈c,u.oneCell'=true)/\iV E W B v x c:=fun k x c hx hc=>YJ
 rcases h2.outer.2 with⟨rfl,ab⟩|⟨g,cap,ba,rfl,bo,bi,bp,bd,bg,bq⟩
 .have N:ys=[]:=fC ab;subst N;refine lj T fun K hK=>?_
  have ap:=iw (P:=prog) (w:=W) B t o.type Rk Z s hT.und hi v _ 0 _ D.outer;unfold Oper.wp;simp[execOp,V,resolve,invoke,builtin,Y,hx,ap,Result.andThen];exact hK _ _ (h v W ⟨cs,by simpa using D⟩ (aj _ _))
 .have ac:=lL h2.outer (g:=g) rfl;refine zl W T O x t V B Rk Z z s bytes hT.und hi a7 a8 a9 hT.zs hT.pos v _ _ Y D.outer ⟨g,0,none⟩ ys.length cap ds.flatten hx (by rw[kz h2.cl,h2.len]) (fun j u am=>ac j u am) ?_ ?_ ?_ Rr ?_
  .intro u J;obtain⟨c,hc,J⟩:=qp.1 J;obtain⟨k,I⟩:=fk.1 hc;obtain⟨y,N⟩:=aB (by rw[<-h2.len];exact(bG.1 I).1:k<ys.length);exact(h2.each k y c N I).2.1 u J
  .unfold maxLen;omega
  .exact XO
  .intro F w' ao U _ FA;have a0:∀H,F.ownBlock=some H->v.ownBlock=some H∨W.heap.size<=H:=fun H e=>XB
   exact h F w' ⟨cs++ds,D.nm h2.len ad ao U a0⟩ ((aj _ _).grown U Rr fun k I=>(bL D.outer k I).1)
def tV(h:aa)(B G:Nat)(g:Gr):Prop:=∃A1 c1 D c2 F H,aW h G (bl g A1 c1 D c2 F H) 54/\aV 155 4 yp h B (.slice A1 g.es.length c1) g.es
theorem Bc(h:g.In):Ei (iota g.w) (fun x=>x) g:=fun x D=>rn (h x D)
theorem nT(h:g.In)(a:Nat):Ei (bt (eC a g.w)) (fun x=>x+a) g:=fun x D=>dJ (xd (h x D))
def ziB(a b:Gr)(w:aa)(e:Ending)(w':aa):Prop:=∃A1 c1,e=.returned (.agg (yW ((a.w+b.w:Nat)) A1 (ff a b).length c1))/\Fr w' w.heap.size w'.heap.size (fun W=>bF 4 yp W A1 (ff a b))/\ag w w'
structure mL(g:Gr):Prop where
 inr:g.In
 w:g.w<=4096
 es:g.es.length<=4096
 i:g.i.length<=4096
 o:g.o.length<=4096
 el:∀e∈g.es,e.i.length<=4096/\e.o.length<=4096
theorem zhF(h:mL g)(A1 D F G:aq)(c1 c2 H I:Nat)(w:aa)(J:j6 w A1 D F g)(N:aJ w G (iota g.w)):aw 205 #[.agg (bl g A1 c1 D c2 F H),(g.w:Nat),.slice G g.w I] w (zez g w):=by have:=wU g g.w (iota g.w) (fun x=>x) A1 D F G c1 c2 H I w J N (Bc h.inr) (by rw[ee];have:=h.w;omega) SV SV Tb SU SS (fun e he=>T6);rw[ee]at this;rw[show g.map g.w (fun x=>x)=g by unfold Gr.map;simp[show(Ed.map fun x=>x)=id from funext fun e=>by simp[Ed.map]]]at this;exact this
theorem zhG(h:mL g)(a:Nat)(O:a<=4096)(A1 D F G:aq)(c1 c2 H I:Nat)(w:aa)(J:j6 w A1 D F g)(N:aJ w G (bt (eC a g.w))):aw 205 #[.agg (bl g A1 c1 D c2 F H),(g.w:Nat),.slice G g.w I] w (zez (g.map g.w (· +a)) w):=by have:=wU g g.w (bt (eC a g.w)) (fun x=>x+a) A1 D F G c1 c2 H I w J N (nT h.inr a) (by rw[aQ,dw];have:=h.w;omega) SV SV Tb SU SS (fun e he=>T6);rw[aQ,dw]at this;exact this
end Go.Proofs.YtpieilkmmiopfaaGreatDoor
