/- Parts of the walks. Conditions: as stated with each. -/
import Derived.Test.YtpieilkmmiopfaaGreatDoorPk3
namespace Go.Proofs.YtpieilkmmiopfaaGreatDoor
open Go.RowKit Tryz
set_option linter.all false
set_option maxHeartbeats 4000000
set_option maxRecDepth 20000
variable{A:ax}{B B' J b c hi hi' lo lo' n:Nat}{K:pt}{P:jk}{Q:gZ}{T v v0 v1 v2 z z2:aG}{a:Act}{o:h_}{ops:iI}{rest:List Oper}{rows:aP}{us:cL}{w w':aa}{xs:aL}
structure b_(lo hi:Nat)(w w':aa):Prop where
 os:w'.os=w.os
 tape:w'.tape=w.tape
 output:w'.output=w.output
 size:(w:Nat)<=w'
 block:∀k,k < (w:Nat)->(k<lo∨hi<=k)->w'.heap[k]?=w.heap[k]?
def b_.refl lo hi w:b_ lo hi w w:=⟨rfl,rfl,rfl,ae _,fun _ _ _=>rfl⟩
def b_.t{lo hi}{a b c}(h:b_ lo hi a b)(k:b_ lo hi b c):b_ lo hi a c:=⟨k.os.t h.os,k.tape.t h.tape,k.output.t h.output,aZ h.size k.size,fun i D F=>(k.block i (gm D h.size) F).t (h.block i D F)⟩
def b_.gy(h:ag w w'):b_ lo hi w w':=⟨h.os,h.tape,h.output,h.size,fun k D _=>h.block k D⟩
def b_.EN(h:w.grownBy w' (some b))(F:lo<=b)(G:b<hi):b_ lo hi w w':=⟨h.os,h.tape,h.output,h.size,fun k D H=>h.block k D (fun e=>by cases e;omega)⟩
def b_.x(h:b_ lo hi w w')(F:lo'<=lo)(G:hi<=hi'):b_ lo' hi' w w':=⟨h.os,h.tape,h.output,h.size,fun k D H=>h.block k D Qu⟩
def b_.L(h:b_ lo hi w w')(D:B<=lo)(G:B<=(w:Nat)):Below B w w':=⟨h.os,h.tape,h.output,h.size,fun k F=>h.block k Qu Qu⟩
def b_.cell(D:b_ lo hi w w'){p}(h:w.cell? p=some v)(F:p.block<lo∨hi<=p.block):w'.cell? p=some v:=by rw[<-h];exact l6 (w:=w) (D.block _ (jB w p h) F)
structure vK(w:aa)(lo hi:Nat)(v:aG)(xs:aL):Prop where
 μ:aE w lo v xs
 up:∀b,v.ownBlock=some b->b<hi
structure tc(w:aa)(lo hi:Nat)(v:aG)(rows:aP)(us:cL):Prop where
 μ:bL w lo v rows us
 up:∀b,v.ownBlock=some b->b<hi
 Í:∀u∈us,∀b,u.ownBlock=some b->b<hi
def Κ(w:aa)(lo hi:Nat)(v:aG)(rows:aP):Prop:=∃us,tc w lo hi v rows us
def vK.of(h:aE w B v xs):vK w B w v xs:=⟨h,fun b D=>(h.lt b D).2⟩
def Κ.of(h:aY w B v rows):Κ w B w v rows:=by obtain⟨us,h⟩:=h;refine⟨us,h,fun b hb=>(bS h.η b hb).2,fun u hu b hb=>?_⟩;exact Xl
def vK.x(h:vK w lo hi v xs)(D:lo'<=lo)(G:hi<=hi'):vK w lo' hi' v xs:=⟨h.μ.x D,fun b F=>by have:=h.up b F;omega⟩
def aE.u(D:aE w B v xs)(O:∀b,v.ownBlock=some b->b<J)(I:b_ lo hi w w')(T:J<=lo∨hi<=B):aE w' B v xs:=by refine⟨D.1,D.2.E id fun⟨g,ε,H,a1,F,h,G⟩=>⟨g,ε,H,a1,F,?_,G⟩⟩;have:=O g Q6;exact(I.block g (bk.1 h).1 Qu).t h
def vK.u(h:vK w lo hi v xs)(F:b_ lo' hi' w w')(D:hi<=lo'∨hi'<=lo):vK w' lo hi v xs:=⟨h.μ.u h.up F D,h.up⟩
def tc.u(h:tc w lo hi v rows us)(hw:b_ lo' hi' w w')(hd:hi<=lo'∨hi'<=lo):tc w' lo hi v rows us:=by refine⟨⟨⟨h.μ.η.1,h.μ.η.2.E id fun⟨g,ε,H,a1,F,D,G⟩=>⟨g,ε,H,a1,F,(hw.block g (bk.1 D).1 UL).t D,G⟩⟩,fun k u r hu hr=>?_,h.μ.apart⟩,h.up,h.Í⟩;exact WI
def Κ.u(h:Κ w lo hi v rows)(F:b_ lo' hi' w w')(D:hi<=lo'∨hi'<=lo):Κ w' lo hi v rows:=by obtain⟨us,h⟩:=h;exact⟨us,h.u F D⟩
def vK.ext(h:vK w lo hi v xs)(D:ag w w'):vK w' lo hi v xs:=⟨h.μ.ext D,h.up⟩
def tc.ext(h:tc w lo hi v rows us)(D:ag w w'):tc w' lo hi v rows us:=⟨h.μ.ext D,h.up,h.Í⟩
def Κ.ext(h:Κ w lo hi v rows)(D:ag w w'):Κ w' lo hi v rows:=by obtain⟨us,h⟩:=h;exact⟨us,h.ext D⟩
def Κ.μ(h:Κ w lo hi v rows):aY w lo v rows:=by obtain⟨us,h⟩:=h;exact⟨us,h.μ⟩
def Κ.nil w lo hi:Κ w lo hi (.slice none 0 0) []:=⟨[],⟨rT _ _ _ _,fun k u r h=>by simp at h,fun i j u F b h=>by simp at h⟩,fun b D=>by simp[Value.ownBlock]at D,fun u h=>by cases h⟩


section
variable{t:dL}{u:aG}
def oe(h:n<=1048576):n<=maxLen:=SL
def CG(h:aY w B (.slice A n c) rows):bt w A rows:=XM
def ai{o}(h:w.heap[b]?=some o)(D:ag w w'):w'.heap[b]?=some o:=(D.block b (bk.1 h).1).t h
def nL{o}(h:w.heap[b]?=some o)(F:b_ lo hi w w')(D:b<lo∨hi<=b):w'.heap[b]?=some o:=(F.block b (bk.1 h).1 D).t h
def aD{x y}(h:bA w b #[x,y,z] t):af w b 0 x/\af w b 1 y/\af w b 2 z:=by have⟨D,F,G,_⟩:=zkC (al _ _) h;exact⟨D,F,G⟩
def fg{x y}(h:bA w b #[x,y,z,u,v] t):af w b 0 x/\af w b 1 y/\af w b 2 z/\af w b 3 u/\af w b 4 v:=by have⟨D,_⟩:=zkD (al _ _) h;exact D
section
variable{w2:aa}{E8 E10 E11 E12:gg}{v8 v10 v11 v12:aG}{r8:aL}{R10:aP}{r11 r12:aL}{l8 h8 b8 l10 h10 b10 l11 h11 b11 l12 h12 b12:Nat}{W W':aa}
end
end
def lv{E}(H:o.guard=none)s x(I:o.op=.call {callee:=.builtin .append,args:=#[s,x],argTypes:=#[55,55]})B h W v u rows r(FT:aY h B v rows)(D:ag h W)(hu:aE W h u r)(ad:rows.length+1<=1073741824)(G:B<=(h:Nat))(T:a.eval s=v)(U:a.eval x=.slice (bH W) 1 1)(F:∀g ε w',aY w' B (.slice (bH g) (rows.length+1) ε) (rows++[r])->Below B h w'->(W:Nat)<=w'.heap.size->(∀k,k < (W:Nat)->some k≠v.ownBlock->w'.heap[k]?=W.heap[k]?)->K (a.put o.dst (.slice (bH g) (rows.length+1) ε)) w'):if Region.wanted o (yielded ops a.tmps)=true then Oper.wp prog o a (W.alloc (.cells #[u] 26)) K Q else E:=by
 have⟨ac,hi,Y,Z,ab⟩:=dp kX;obtain⟨us,FT⟩:=FT;have hW:=FT.ext D;have J:=nm hW.η (.cells #[u] 26);have ah:=D.size;refine step_append_lies _ H s x 55 I B 26 ac (.slice none 0 0) 1 24 iA hi Y Z ab rfl Qw v _ _ T J ⟨W,0,none⟩ 1 1 [u] U rfl ?_ ?_ Qw ?_ ?_ ?_ _ rfl ?_
 .exact X9
 .exact Xo
 .unfold maxLen;omega
 .omega
 .simp;omega
 .intro g ε w' O Gx _ _;refine Pc fun hg=>?_
  refine F g ε w' ⟨us++[u],?_,?_,?_⟩ (D.x G |>.t ((al _ _).grown hg Qu fun k hk=>(bS hW.η k hk).1)) hg.size (fun k hk F0=>hg.block k hk F0)
  .simpa using O
  .exact Zt
  .exact ZL
def StO(v h:Int)(rows:aP)(w:aa)(k:Nat)(wr:aa):Prop:=
 ag w wr/\∃u,bA wr ((w:Nat)+1+1) (en v h u) 57/\bA wr ((w:Nat)+1) bx 57/\
  aY wr ((w:Nat)+3) u (rows.take k)/\(w:Nat)+3<=wr
def kL v h A ε rows w(a0:bt w A rows)(b6:rows.length<=1048576)(a5:∀r∈rows,r.length<=1048576):az 94 (cY (aA v h A rows ε)) w fun e w'=>∃u,e=.returned (.agg (en v h u))/\aY w' w u rows/\ag w w':=by
 have bb:=zH a5;go_enter func94,ntmps94
 go_wp2;go_loopw [14] (fun i wr=>∃k:Nat,k<=rows.length/\i=.int .i64 k/\StO v h rows w k wr) (fun i _=>rows.length-(intOf i).toNat)
 case atStart=>
  have⟨b9,F,G⟩:=cD w (.cells (aA v h A rows ε) 57) (.cells bx 57) (.cells #[v,h,dE] 57);exact⟨0,aW _,rfl,ζ w _ _ _,.slice none 0 0,G,F,(Κ.nil _ _ 0).μ,Qt⟩
 case round=>
  obtain⟨k,b5,rfl,J,u,G,F,D,Z⟩:=hrel;by_cases a4:k<rows.length
  .have⟨r,Y⟩:=aq a4;obtain⟨b3,o,rfl,a2⟩:=(a0.ext J).θ a4;obtain⟨a8,bo,b4,a3⟩:=a2 _ r Y;have⟨ba,Im,bi,ac,HO,bg,bd,ad⟩:=zH8 a3 (bb r (aU Y)) Y J D G F Z;obtain⟨H,I,a6⟩:∃H I,u=.slice H (rows.take k) I:=by obtain⟨A1,c1,e,_⟩:=D.p;exact⟨A1,c1,e⟩
   have⟨bz,b0,ao⟩:=aD G;rw[show(rows.take k).length=k by simp;omega]at a6;subst a6;go_upto_region 5 with(fail)
   refine cU (S:=fun W=>af W ((w:Nat)+1+1) 2 (.slice H k I)) 7 QT QD (fun hHeld=>?_);refine aM 0 ?_;refine aM 1 ?_;refine aM 2 ?_;refine cm 3 fun K hK=>?_
   go_simp;refine(iR a8 bo r _ (ba.ext (al _ _).drew) SK).x ?_;rintro e bv ⟨u2,rfl,am,a1⟩;obtain⟨a9,c2,rfl,_⟩:=am.p;have⟨O,bn⟩:=bJ ((al wr wr).drew.t a1) am;go_simp;refine hK.out _ _ (fun _=>ar O ao) (fun hHeld=>?_);refine Mr fun hHeld=>?_
   refine cm 4 fun K hK=>?_
   go_simp;refine hK.out _ _ (fun _=>ar (O.alloc O.size _) ao) (fun hHeld=>?_);refine Mr fun hHeld=>?_
   refine cm 5 fun K hK=>?_
   refine lv rfl (.tmp 19) (.tmp 22) rfl ((w:Nat)+3) wr bv (.slice H k I) (.slice a9 r c2) (rows.take k) r HO.o O.o bn.o QW ad.o rfl rfl ?_;intro g T ab ah U _ _;rw[show(rows.take k).length+1=k+1 by simp;omega]at ah ⊢;have an:ab.heap[(w:Nat)+1+1]?=_:=(U.block _ Qu).t bg;have a7:ab.heap[(w:Nat)+1]?=_:=(U.block _ Qu).t bd;have⟨b1,b2,ap,f0,f1,f2⟩:=zkC (al _ _) an;have⟨bh,be,bc,av⟩:=gG an a7 ah U;refine hK.out _ _ (fun _=>ap) (fun hHeld=>?_);refine Mr fun hHeld=>?_
   refine cm 6 fun K hK=>?_
   go_simp;refine hK.out _ _ (fun _=>ap) (fun hHeld=>?_);refine Mr fun hHeld=>?_
   refine Ny fun K hK=>?_
   refine Qn ?_;refine gM QT ?_ _;go_wp2;go_roundw
   case rel=>
    have bq:=bE ab ((w:Nat)+1+1) 2 _ _ (.slice (bH g) (k+1) T) bh;have bp:=(eX ab ⟨(w:Nat)+1+1,2,none⟩ ((w:Nat)+1) (.slice (bH g) (k+1) T) Rs).t be;have b8:=av.size;have b7:=ad.o;refine⟨k+1,Qu,Qx,?_,.slice (bH g) (k+1) T,by simpa using bq,bp,?_,?_⟩
    .exact(ac.t (av.x Qu)).setCell Rs _
    .have br:=bc.setCell (a:=⟨(w:Nat)+1+1,2,none⟩) Rs (.slice (bH g) (k+1) T);rw[du,bi.o];exact br
    .simp;omega
   case measure=>simp[intOf];omega
  .have bu:k=rows.length:=Qu;subst bu;have⟨bz,b0,ao⟩:=aD G;have⟨b1,b2,ap⟩:=aD F;have⟨_,_,_,f0,f1,f2⟩:=zkC (al _ _) F;rw[uA]at D;obtain⟨H,I,rfl,_⟩:=D.p;have⟨HO,ac,ad⟩:=er D J Z;go_wp2;refine aI (v:=.agg (aA v h H rows I)) (by simp[results,results94,go_sem, *]) rfl ⟨_,rfl,?_,?_⟩
   .exact Ym
   .exact((ac.setCell Rs _).setCell Rs _).setCell Rs _
def oh(J:o.guard=none)s x(U:o.op=.call {callee:=.builtin .append,args:=#[s,x],argTypes:=#[55,55]})B(W:aa)v n m us ys A c(Z:a.eval s=v)(ab:a.eval x=.slice (some A) m c)(ao:ys.length=m)(F:W.ownsRow B 26 1 v n us)(I:∀j y,ys[j]?=some y->W.cell? (A.add j)=some y)(H:∀u∈ys,u.oneCell'=true)(an:n+m<=1073741824)(D:B<=(W:Nat))(G:∀h w',w'.ownsRow B 26 1 h (n+m) (us++ys)->Below B W w'->wpList prog ops Q rest (a.put o.dst h) w'):wpList prog ops Q (o::rest) a W:=by
 have⟨am,hi,ac,ad,ah⟩:=dp kX;refine C6 _ J s x 55 U B 26 am (.slice none 0 0) 1 24 iA hi ac ad ah rfl Qw v _ _ Z F A m c ys ab Qu I H ?_ ?_ D ?_
 .unfold maxLen;omega
 .omega
 .intro h w' Y O _;exact G h w' Y ((al _ _).grown O D fun k T=>(bS F k T).1)
def xO(D:o.guard=none)s x(F:o.op=.call {callee:=.builtin .append,args:=#[s,x],argTypes:=#[55,55]})B W v n c us(I:a.eval s=v)(J:a.eval x=.slice none 0 c)(G:W.ownsRow B 26 1 v n us)(h:wpList prog ops Q rest (a.put o.dst v) W):wpList prog ops Q (o::rest) a W:=by
 have⟨O,hi,T,U,Y⟩:=dp kX;refine l7 D fun K hK=>?_
 have H:=iZ (P:=prog) (w:=W) B 55 o.type 26 O 1 iA hi v _ c _ G;unfold Oper.wp;simp[execOp,F,resolve,invoke,builtin,I,J,H,Result.andThen];exact hK _ _ h
def EV(W:aa)B(h:B<=(W:Nat)):(W.alloc (.cells #[] 26)).ownsRow B 26 1 (.slice (bH W) 0 0) 0 []:=Db W #[] 0 h Qw rfl
def zgk(w:aa)u:∀(j:Nat) (y:aG),[u][j]?=some y->(w.alloc (.cells #[u] 26)).cell? ((⟨w,0,none⟩:dM).add j)=some y:=by
 intro j y h
 match j,h with
 |0,h=>simp at h;subst h;simp[Addr.add]
 |j+1,h=>simp at h
def zjI(w:aa)o u:∀(j:Nat) (y:aG),[u][j]?=some y->((w.alloc o).alloc (.cells #[u] 26)).cell? ((⟨(w:Nat)+1,0,none⟩:dM).add j)=some y:=by intro j y h;have:=zgk (w.alloc o) u j y h;simpa only[dV]using this
def zgl A n c:∀u∈[Value.slice A n c],u.oneCell'=true:=by intro u h;simp at h;subst h;rfl
def xP B g n ε k us F H G w(a5:w.ownsRow B 26 1 (.slice (bH g) n ε) n us)(Z:∀u∈us,u.oneCell'=true)(bi:k<=n)(bo:n<=1048576):az 141 #[.slice (bH g) n ε,k,.slice F H G] w fun e w'=>∃a0,e=.returned a0/\w'.ownsRow w 26 1 a0 (n+1) (cT us k (.slice F H G))/\ag w w':=by
 obtain⟨T,a9⟩:=a5;rcases a9 with⟨bc,_⟩|⟨bg,be,F9,bb,a6,O,bp,a7,am,G9⟩
 .cases bc
 cases bb
 simp only[fk]at T am G9;refine Ou fun Gk=>?_
 have an:=(bk.1 O).1;have cell:∀W,ag w W->∀t u,us[t]?=some u->af W g t u:=fun W D t u h=>by
  have ht:t<n:=by have:=(bG.1 h).1;omega
  rw[bB ((D.block g an).t O),Gk t ht,h]
 obtain⟨A,bh,ba⟩:∃A:dM,(if ε=k then some (⟨g,0,none⟩:dM) else some ⟨g,k,none⟩)=some A/\Hd (∀W,ag w W->∀t u,(us.drop k)[t]?=some u->W.cell? (A.add t)=some u):=by
  by_cases ah:ε=k
  .refine⟨⟨g,0,none⟩,by simp[ah],fun W D t u h=>?_⟩;rw[jR Qu]at h;simp at h
  .refine⟨⟨g,k,none⟩,by simp[ah],fun W D t u h=>?_⟩;rw[fQ]at h;rw[dF];exact cell W D _ _ h
 have a8:Hd (∀W,ag w W->∀t u,(us.take k)[t]?=some u->W.cell? ((⟨g,0,none⟩:dM).add t)=some u):=by
  intro W D t u h;rw[dF,jU];rw[iM]at h;split at h
  .exact cell W D _ _ h
  .cases h
 have⟨Y,U⟩:=bJ T Z;have bn:k<=ε:=Qu;unfold maxLen at a7;go_enter func141,ntmps141
 go_wp2_with (first|(at_builtin;refine oh rfl (.tmp 8) (.tmp 11) rfl w _ _ 0 k [] (us.take k) ⟨g,0,none⟩ ε rfl rfl (by rw[cQ,Y.o];omega) (EV _ _ (ae _)) (a8.o _ ((al _ _).alloc (ae _) _)) (fun u h=>U u (AG h)) Qu Qt ?_;intro v1 bd ao ab;have I:=zH (((al w w).alloc (ae _) (.cells #[] 26)).t ab);have a2:=zH ao)|(at_builtin;refine oh rfl (.tmp 13) (.tmp 15) rfl w _ v1 (0+k) 1 ([]++us.take k) [.slice F H G] ⟨bd,0,none⟩ 1 rfl rfl rfl (nm a2 _) (zgk _ _) (zgl _ _ _) Qu (by have:=I.size;simp;omega) ?_;intro v2 bq ap ac;have J:=zH ((I.alloc I.size _).t ac);have a3:=zH ap)|(at_builtin;refine oh rfl (.tmp 17) (.tmp 20) rfl w _ v2 (0+k+1) (n-k) ([]++us.take k++[.slice F H G]) (us.drop k) A (ε-k) rfl rfl (by rw[fS,Y.o]) a3.o (ba.o _ J.o) (fun u h=>U u (mx h)) Qu J.o.size ?_;intro v3 br av ad;have a1:=zH (J.o.t ad);have a4:=zH av))
 go_ret
 refine⟨_,rfl,?_,a1⟩;have:=a4.o;rw[show 0+k+1+(n-k)=n+1 by omega,rP,fJ]at this;exact this
def zbT h F D w:az 141 #[dE,(),.slice h F D] w fun e w'=>∃J,e=.returned J/\w'.ownsRow w 26 1 J (0+1) (cT [] 0 (.slice h F D))/\ag w w':=by
 go_enter func141,ntmps141
 go_wp2_with (first|(at_builtin;refine xO rfl (.tmp 8) (.tmp 11) rfl w _ _ 0 _ [] rfl rfl (EV _ _ (ae _)) ?_)|(at_builtin;refine oh rfl (.tmp 13) (.tmp 15) rfl w _ _ 0 1 [] [.slice h F D] ⟨(w:Nat)+1,0,none⟩ 1 rfl rfl rfl (nm (EV w _ (ae _)) _) (zjI _ _ _) (zgl _ _ _) Qu Rs ?_;intro v2 T I H;have O:=zH ((((al w w).alloc (ae _) _).alloc Qt _).t H);have G:=zH I)|(at_builtin;refine xO rfl (.tmp 17) (.tmp 20) rfl w _ v2 (0+1) _ _ rfl rfl G.o ?_))
 go_ret
 exact⟨_,rfl,G,O⟩
def zP B v(k:Int)us n h G D(w:aa)(F:w.ownsRow B 26 1 v n us)(H:∀u∈us,u.oneCell'=true)(O:0<=k)(Y:k<=n)(T:n<=1048576):az 141 #[v,k,.slice h G D] w fun e w'=>∃I,e=.returned I/\w'.ownsRow w 26 1 I (n+1) (cT us k.toNat (.slice h G D))/\ag w w':=by
 obtain⟨j,rfl⟩:=iz O;by_cases J:n=0
 .subst J;obtain rfl:j=0:=Qu;obtain rfl:us=[]:=iq (by have:=F.1;omega);rcases F.2 with⟨rfl,_⟩|⟨g,ε,U,rfl,_⟩
  .exact zbT h G D w
  .exact xP B g 0 ε 0 [] h G D w F H (ae _) (aW _)
 .obtain⟨g,ε,rfl,_⟩:=pW F Qu;exact xP B g n ε j us h G D w F H Qu T
def za3(w:aa){E}(ac:o.guard=none)l c t(ah:o.op=Op.makeSlice t l c)h e i z size(J:P.underlying t=some (.slice e))(O:P.info? e=some i)(T:i.zero=some z)(U:i.size=size)F D L C(n:Nat)(ad:a.eval l=.int F L)(ab:a.eval c=.int D C)(Z:L=(n:Int))(Y:C=(n:Int))(G:i.bytes*n<=281474976710656)(H:n<=maxLen)(I:h<=(w:Nat))(hK:∀w',w'.ownsRow h e size (.slice (bH w) n n) n (madeCells z.cells (n*size)).toList->w.grownBy w' none->K (a.put o.dst (.slice (bH w) n n)) w'):if Region.wanted o (yielded ops a.tmps)=true then Oper.wp P o a w K Q else E:=by rw[ak (by simp[Region.wanted,ac]:Region.wanted o (yielded ops a.tmps)=true)];have⟨w',am,an,ao⟩:=run_make_full (P:=P) w h t e i z size J O T U F D n G H I;subst Z;subst Y;unfold Oper.wp;simp[execOp,ah,ad,ab,am,Result.andThen];exact hK w' an ao
def zQ{e}(h:w.ownsRow B e 1 v n us)(I:B'<=B):w.ownsRow B' e 1 v n us:=⟨h.1,h.2.E id fun⟨g,ε,G,D,H,F⟩=>⟨g,ε,G,D,Qu,F⟩⟩
def gz{r}(h:ag w w'):w.grownBy w' r:=⟨h.os,h.tape,h.output,h.size,fun k D _=>h.block k D⟩
def wO p x y w(H:1<=p)(I:p<=1000)(D:0<=x)(F:x<=1000)(h:0<=y)(G:y<=1000):az 139 (gT p x y) w fun e w'=>e=.returned (zI (x*y%p))/\w=w':=by
 have J:0<=x*y:=rS D h;have O:x*y<=1000000:=by have:=uB F G h Qu;omega
 go_enter func139,ntmps139
 exact We
def za4 p x y w(h:1<=p)(D:p<=1000)(F:0<=x)(G:x<=1000)(H:0<=y)(I:y<=1000):az 140 (gT p x y) w fun e w'=>e=.returned (zI ((x+y)%p))/\w=w':=by
 go_enter func140,ntmps140
 exact We
def bL.form(h:bL w B v rows us)(D:0<rows.length):∃g ε,v=.slice (bH g) rows ε/\B<=g/\g < (w:Nat):=h.η.form D
def zes(a b p v h:Int)A ε rows w(U:bt w A rows)(bc:rows.length<=160)(F6:∀r∈rows,r.length<=1000)(a6:0<=a)(a7:a<rows.length)(a9:0<=b)(ba:b<rows.length)(a8:a≠b):az 245 (je (bC a b) p (aA v h A rows ε)) w fun e w'=>∃u,e=.returned (.agg (en v h u))/\aY w' w u ((rows.set a.toNat (rows.getD b.toNat [])).set b.toNat (rows.getD a.toNat []))/\ag w w':=by
 refine OE fun ra GZ rb Hm=>?_
 have⟨HA,HB,ad,ah⟩:=gG (SX:rows.getD a.toNat []=ra) (SW:rows.getD b.toNat []=rb) (Qu:rows.length<=1048576) (show ∀r∈rows,r.length<=1048576 from fun r hr=>Ti);clear F6;go_enter func245,ntmps245
 go_wp2_with fail
 refine(mQ _ _ _ _ _ _ (U.ext (((al _ _).alloc Qt _ |>.alloc Qt _).alloc Rs _)) ad ah).x ?_;rintro e G ⟨u,rfl,⟨us,H⟩,I⟩;obtain⟨g,Ga,rfl,a0,bb⟩:=H.form Qu;simp only[dV]at a0;have⟨T,a3,F⟩:=cD w (.cells (bC a b) 229) (.cells (aA v h A rows ε) 57) (.cells bx 57);have a2:=I.size;simp only[dV]at a2;obtain⟨bd,Hp,Z⟩:=H.F GZ;obtain⟨be,O,ab⟩:=H.F Hm;obtain⟨Aa,ca,rfl,_⟩:=Z.p;obtain⟨Ab,cb,rfl,_⟩:=ab.p;go_wp2;have⟨W2,FY⟩:=aR (G.alloc (.cells (aA v h (bH g) rows Ga) 57));rw[<-FY];have J:ag G W2:=UP;have D:=aT I J;have Y:bA W2 G (aA v h (bH g) rows Ga) 57:=TK;have Gf:=H.ext J;have y0:=zjj D T 0;have y1:=zjj D T 1;have⟨a4,a5,x2⟩:=cC Y;have r0:=zjj D F 0;have r1:=zjj D F 1;have r2:=zjj D F 2;have s0:=zlK D F 0;have s1:=zlK D F 1;have s2:=zlK D F 2;simp only[dA,dm]at y0 y1 a4 a5 x2 r0 r1 r2;have z0:af W2 g a.toNat (.slice Aa ra ca):=UM;have z1:af W2 g b.toNat (.slice Ab rb cb):=by rw[Gf.η.C _ Qu,O]
 have f0:=Gf.η.g a.toNat;have f1:=Gf.η.g b.toNat;have⟨ao,ac,am,an,ap,av⟩:=ny Gf D GZ Hm Hp O;clear H I GZ Hm Hp O Z ab U Gf D J Y T a3 F FY;have END:∀W5,W5=((W2.setCell ⟨g,a.toNat,none⟩ (.slice Ab rb cb)).setCell ⟨g,b.toNat,none⟩ (.slice Aa ra ca)).drew->
   af W5 G 0 (zI v)/\af W5 G 1 (zI h)/\af W5 G 2 (.slice (bH g) rows Ga)/\
   af W5 ((w:Nat)+1+1) 0 (zI 0)/\af W5 ((w:Nat)+1+1) 1 (zI 0)/\af W5 ((w:Nat)+1+1) 2 (.slice none 0 0)/\
   W5.frozen? ⟨(w:Nat)+1+1,0,none⟩=false/\W5.frozen? ⟨(w:Nat)+1+1,1,none⟩=false/\W5.frozen? ⟨(w:Nat)+1+1,2,none⟩=false/\
   aY W5 ((w:Nat)+3) (.slice (bH g) rows Ga) ((rows.set a.toNat rb).set b.toNat ra)/\ag w W5:=by
  rintro W5 rfl;have a1:=ao.J rfl ap.o av.o am.o an.o;refine⟨?_,?_,?_,?_,?_,?_,by simpa using s0,by simpa using s1,by simpa using s2,⟨_,bL.x (a1.ext (al _ _).drew) Rs⟩,((lj ((ζ w _ _ _).t (ac.x (B':=w.heap.size) Rs)) Rs _).setCell Rs _).drew⟩
  all_goals refine(cE (w:=W2.setCell _ _) Rs).t ((cE Rs).t ?_)
  all_goals assumption
 refine C8 (S:=fun w'=>af w' w 0 (zI a)/\af w' w 1 (zI b)/\af w' G 2 (.slice (bH g) rows Ga)) QT QD (fun hHeld=>?_);refine eZ 0 ?_;refine eZ 1 ?_;refine eZ 2 ?_;refine eZ 3 ?_;refine eZ 4 ?_;refine eZ 5 ?_;refine eZ 6 ?_;refine eZ 7 ?_;refine eZ 8 ?_;refine eZ 9 ?_;refine eZ 10 ?_;refine eZ 11 ?_;refine eZ 12 ?_;refine eZ 14 ?_;refine eZ 15 ?_;refine eZ 16 ?_;refine eZ 17 ?_;refine eZ 18 ?_;refine lk (rs:=[13,19]) QT Qt ?_;refine pF rfl (fun K hK=>?_) (pF rfl (fun K hK=>?_) ll)
 .go_simp;refine hK.out _ _ QR (fun hHeld=>?_);refine Qm ?_;clear K hK;refine lk (rs:=[19]) QT Qt ?_;exact Z0
 .go_simp;refine hK.out _ _ QR (fun hHeld=>?_);refine Qm ?_;clear K hK;refine lk (rs:=[13]) QT Qt ?_;exact Z0
def df{E}(Jf:o.guard=none)s x(I:o.op=.call {callee:=.builtin .append,args:=#[s,x],argTypes:=#[26,26]})B W v xs ys A m c(ab:m=ys.length)(J:a.eval s=v)(hx:a.eval x=.slice A m c)(FT:aE W B v xs)(Ha:aO W A ys)(av:xs.length+m<=1099511627776)(G:B<=(W:Nat))(h:∀F w',aE w' B F (xs++ys)->Below B W w'->K (a.put o.dst F) w'):if Region.wanted o (yielded ops a.tmps)=true then Oper.wp prog o a W K Q else E:=by
 rw[ak (Tz:Region.wanted o (yielded ops a.tmps)=true)];subst ab;have⟨i0,hi,ah,am,an⟩:=dp gD;cases A with
 |none=>
  have D:ys=[]:=Wq;subst D;refine MZ fun J9 hx=>?_
  simp[execOp,I,resolve,invoke,builtin,J,hx,J9,Result.andThen];exact h v W RJ (al _ _)
 |some O=>
  have⟨F,w',ac,T,U,ao,ap⟩:=run_append_own_at (P:=prog) W B 26 o.type 3 i0 (zI 0) 1 8 dR hi ah am an rfl Qw v _ _ FT O ys c (ys.map (Value.int .i64)) Qt (by
   intro j u H;rw[bI]at H;obtain⟨y,D,rfl⟩:=oF.1 H;rcases Ha with h|⟨b,o,h,Y⟩
   .simp[h]at D
   .cases h;rw[dF];exact Y j y D) (by
   intro u ad;obtain⟨y,_,rfl⟩:=cH.1 ad;rfl) SL Qu G
  unfold Oper.wp execOp;simp only[I,resolve,invoke,builtin,Sem.run_bind,Sem.run_pure,Dc,List.map_toArray,se,rU,J,hx,ac];exact h F w' (by simpa[aE]using T) ((al _ _).grown U G fun k Z=>(bS FT k Z).1)
section
variable{t:dL}
section
variable{w2:aa}{E8 E10 E11 E12:gg}{v8 v10 v11 v12:aG}{R8 R10:aP}{r11:aL}{R12:aP}{l8 h8 b8 l10 h10 b10 l11 h11 b11 l12 h12 b12:Nat}{W W':aa}
end
def e_(D:Below B w w')(h:B<=b)v0 v1 v2:Below B w (((w'.setCell ⟨b,0,none⟩ v0).setCell ⟨b,1,none⟩ v1).setCell ⟨b,2,none⟩ v2):=((D.setCell h _).setCell h _).setCell h _
def ja{D}(h:bA w b #[T,D,z2] t):(((w.setCell ⟨b,0,none⟩ v0).setCell ⟨b,1,none⟩ v1).setCell ⟨b,2,none⟩ v2).heap[b]?=some (.cells #[v0,v1,v2] t (0,0)):=by
 refine NL fun e1 e2 e3=>?_
 simpa using e3
end
end Go.Proofs.YtpieilkmmiopfaaGreatDoor
