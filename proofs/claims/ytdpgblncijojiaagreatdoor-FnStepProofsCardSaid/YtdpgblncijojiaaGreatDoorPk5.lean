/- Parts of the walks. Conditions: as stated with each. -/
import Derived.Test.YtdpgblncijojiaaGreatDoorPk3
namespace Go.Proofs.YtdpgblncijojiaaGreatDoor
open Go.RowKit Tryz
set_option linter.all false
set_option maxHeartbeats 4000000
set_option maxRecDepth 20000
variable{A:aq}{B' D J b c hi hi' lo lo' n:Nat}{H u v v0 v1 v2 v3 v4 y:av}{Q:iF}{R:ir}{a:Act}{o:ie}{rest:List Oper}{t:dE}{us:bN}{w w':aa}{xs:aH}
structure dd(lo hi:Nat)(w w':aa):Prop where
 os:w'.os=w.os
 tape:w'.tape=w.tape
 output:w'.output=w.output
 size:(w:Nat)<=w'
 block:∀k,k < (w:Nat)->(k<lo∨hi<=k)->w'.heap[k]?=w.heap[k]?
def dd.refl(lo hi:Nat)(w:aa):dd lo hi w w:=⟨rfl,rfl,rfl,ah _,fun _ _ _=>rfl⟩
def dd.trans{lo hi:Nat}{a b c:aa}(h:dd lo hi a b)(k:dd lo hi b c):dd lo hi a c:=⟨k.os.trans h.os,k.tape.trans h.tape,k.output.trans h.output,bE h.size k.size,fun i z B=>(k.block i (gz z h.size) B).trans (h.block i z B)⟩
def dd.iD(h:aj w w'):dd lo hi w w':=⟨h.os,h.tape,h.output,h.size,fun k z _=>h.block k z⟩
def dd.AE(h:w.grownBy w' (some b))(B:lo<=b)(D:b<hi):dd lo hi w w':=⟨h.os,h.tape,h.output,h.size,fun k z E=>h.block k z (fun e=>by cases e;omega)⟩
def dd.mono(h:dd lo hi w w')(B:lo'<=lo)(D:hi<=hi'):dd lo' hi' w w':=⟨h.os,h.tape,h.output,h.size,fun k z E=>h.block k z Ry⟩
def dd.below(h:dd lo hi w w')(z:D<=lo)(E:D<=(w:Nat)):Below D w w':=⟨h.os,h.tape,h.output,h.size,fun k B=>h.block k Ry Ry⟩
def dd.cell(h:dd lo hi w w'){p:dw}(z:w.cell? p=some v)(B:p.block<lo∨hi<=p.block):w'.cell? p=some v:=by rw[<-z];exact zl (w:=w) (h.block _ (iK w p z) B)
structure pI(w:aa)(lo hi:Nat)(v:av)(rows:aC)(us:bN):Prop where
 own:a_ w lo v rows us
 up:∀b,v.ownBlock=some b->b<hi
 ups:∀u∈us,∀b,u.ownBlock=some b->b<hi
def Has(w:aa)(lo hi:Nat)(v:av)(rows:aC):Prop:=∃us,pI w lo hi v rows us
def Has.of{rows:aC}(h:aI w D v rows):Has w D w v rows:=by obtain⟨us,h⟩:=h;refine⟨us,h,fun b z=>(b_ h.outer b z).2,fun u F b z=>?_⟩;obtain⟨k,B⟩:=eN.1 F;obtain⟨r,_,E⟩:=h.lp B;exact(E.lt b z).2
def au.within(h:au w D v xs)(up:∀b,v.ownBlock=some b->b<J)(H:dd lo hi w w')(I:J<=lo∨hi<=D):au w' D v xs:=by refine⟨h.1,h.2.imp id fun⟨g,cap,cur,z,E,B,F⟩=>⟨g,cap,cur,z,E,?_,F⟩⟩;have:=up g (by rw[z];rfl);exact(H.block g (aP.1 B).1 Ry).trans B
def pI.within{w w':aa}{lo hi lo' hi':Nat}{v:av}{rows:aC}{us:bN}(h:pI w lo hi v rows us)(E:dd lo' hi' w w')(I:hi<=lo'∨hi'<=lo):pI w' lo hi v rows us:=by refine⟨⟨⟨h.own.outer.1,h.own.outer.2.imp id fun⟨g,cap,cur,z,F,B,H⟩=>⟨g,cap,cur,z,F,(E.block g (aP.1 B).1 (by have:=h.up g (by rw[z];rfl);omega)).trans B,H⟩⟩,fun k u r D J=>?_,h.own.apart⟩,h.up,h.ups⟩;exact(h.own.each k u r D J).within (h.ups u (aR D)) E I
def Has.within{rows:aC}(h:Has w lo hi v rows)(B:dd lo' hi' w w')(z:hi<=lo'∨hi'<=lo):Has w' lo hi v rows:=by obtain⟨us,h⟩:=h;exact⟨us,h.within B z⟩
def pI.ext{rows:aC}(h:pI w lo hi v rows us)(z:aj w w'):pI w' lo hi v rows us:=⟨h.own.ext z,h.up,h.ups⟩
def Has.ext{rows:aC}(h:Has w lo hi v rows)(z:aj w w'):Has w' lo hi v rows:=by obtain⟨us,h⟩:=h;exact⟨us,h.ext z⟩
def Has.own{rows:aC}(h:Has w lo hi v rows):aI w lo v rows:=by obtain⟨us,h⟩:=h;exact⟨us,h.own⟩
def Has.nil(w:aa)(lo hi:Nat):Has w lo hi (.slice none 0 0) []:=⟨[],⟨kX _ _ _ _,fun k u r hu=>RS,fun i j u B b hu=>RS⟩,fun b z=>by simp[Value.ownBlock]at z,fun u hu=>by cases hu⟩
def AJ(w:aa)(r:Option Nat):w.grownBy w r:=⟨rfl,rfl,rfl,ah _,fun _ _ _=>rfl⟩

def dM(h:n<=1048576):n<=maxLen:=TB
def uZ{rows:aC}(h:aI w D (.slice A n c) rows):aL w A rows:=by obtain⟨E,F,z,B,_⟩:=h.view;simp only[ez]at z;obtain⟨rfl,_,_⟩:=z;exact B
def aA{o:Obj}(h:w.heap[b]?=some o)(z:aj w w'):w'.heap[b]?=some o:=(z.block b (aP.1 h).1).trans h
def zhV{o:Obj}(h:w.heap[b]?=some o)(B:dd lo hi w w')(z:b<lo∨hi<=b):w'.heap[b]?=some o:=(B.block b (aP.1 h).1 z).trans h
def al{x:av}(h:aW w b #[x,y,H] t):af w b 0 x/\af w b 1 y/\af w b 2 H:=by obtain⟨z,B,D,_⟩:=xf (ai _ _) h;exact⟨z,B,D⟩
def bO{x:av}(h:aW w b #[x,y,H,u,v] t):af w b 0 x/\af w b 1 y/\af w b 2 H/\af w b 3 u/\af w b 4 v:=by obtain⟨z,_⟩:=m6 (ai _ _) h;exact z
section
variable{w2:aa}{E8 E10 E11 E12:gq}{v8 v10 v11 v12:av}{r8:aH}{R10:aC}{r11 r12:aH}{l8 h8 b8 l10 h10 b10 l11 h11 b11 l12 h12 b12:Nat}{W W':aa}
end
def gN(h:Below D w w')(z:D<=b)(v0 v1 v2 v3 v4:av):Below D w (((((w'.setCell ⟨b,0,none⟩ v0).setCell ⟨b,1,none⟩ v1).setCell ⟨b,2,none⟩ v2).setCell ⟨b,3,none⟩ v3).setCell ⟨b,4,none⟩ v4):=((((h.setCell z _).setCell z _).setCell z _).setCell z _).setCell z _
def lg{p:dw}(h:p.block≠b):(((((w'.setCell ⟨b,0,none⟩ v0).setCell ⟨b,1,none⟩ v1).setCell ⟨b,2,none⟩ v2).setCell ⟨b,3,none⟩ v3).setCell ⟨b,4,none⟩ v4).cell? p=w'.cell? p:=by rw[cD h,cD h,cD h,cD h,cD h]
def lI{K:oS}{F:Prop}(I:o.guard=none)(s x:kE)(J:o.op=.call {callee:=.builtin .append,args:=#[s,x],argTypes:=#[24,24]})(z:Nat)(B W:aa)(v u:av)(rows:aC)(r:aH)(Es:aI B z v rows)(D:aj B W)(hu:au W B u r)(ao:rows.length+1<=1073741824)(H:z<=(B:Nat))(U:a.eval s=v)(Z:a.eval x=.slice (aX W) 1 1)(h:∀g cap w',aI w' z (.slice (aX g) (rows.length+1) cap) (rows++[r])->Below z B w'->(W:Nat)<=w'.heap.size->(∀k,k < (W:Nat)->some k≠v.ownBlock->w'.heap[k]?=W.heap[k]?)->K (a.put o.dst (.slice (aX g) (rows.length+1) cap)) w'):if Region.wanted o (yielded Q a.tmps)=true then Oper.wp prog o a (W.alloc (.cells #[u] 27)) K R else F:=by
 obtain⟨am,hi,ab,ac,ad⟩:=cM jf;obtain⟨us,Es⟩:=Es;have hW:=Es.ext D;have O:=mq hW.outer (.cells #[u] 27);have ap:=D.size;refine zg _ I s x 24 J z 27 am (.slice none 0 0) 1 24 gE hi ab ac ad rfl RC v _ _ U O ⟨W,0,none⟩ 1 1 [u] Z rfl ?_ ?_ RC ?_ ?_ ?_ _ rfl ?_
 .exact Yi
 .exact XE
 .unfold maxLen;omega
 .omega
 .simp;omega
 .intro g cap w' T EJ _ _;have hg:W.grownBy w' v.ownBlock:=⟨EJ.os,EJ.tape,EJ.output,VF,fun k hk E=>(EJ.block k RX E).trans (qE W _ hk)⟩;refine h g cap w' ⟨us++[u],?_,?_,?_⟩ (D.mono H |>.trans ((ai _ _).grown hg Ry fun k hk=>(b_ hW.outer k hk).1)) hg.size (fun k hk E=>hg.block k hk E)
  .simpa using T
  .exact Zx
  .exact ZR
def StO(v h:Int)(rows:aC)(w:aa)(k:Nat)(wr:aa):Prop:=
 aj w wr/\∃u,aW wr ((w:Nat)+1+1) (dz v h u) 26/\aW wr ((w:Nat)+1) aQ 26/\
  aI wr ((w:Nat)+3) u (rows.take k)/\(w:Nat)+3<=wr
def ix(v h:Int)(A:aq)(cap:Nat)(rows:aC)(w:aa)(a0:aL w A rows)(ca:rows.length<=1048576)(a5:∀r∈rows,r.length<=1048576):ax 76 (cB (ae v h A rows cap)) w fun e w'=>∃u,e=.returned (.agg (dz v h u))/\aI w' w u rows/\aj w w':=by
 have ba:=zH a5;clear a5;go_enter func76,ntmps76
 go_wp2;go_loopw [14] (fun i wr=>∃k:Nat,k<=rows.length/\i=.int .i64 k/\StO v h rows w k wr) (fun i _=>rows.length-(intOf i).toNat)
 case atStart=>
  obtain⟨ce,B,D⟩:=cv w (.cells (ae v h A rows cap) 26) (.cells aQ 26) (.cells #[v,h,fA] 26);exact⟨0,aT _,rfl,below_alloc3 w _ _ _,.slice none 0 0,D,B,(Has.nil _ _ 0).own,Rx⟩
 case round=>
  obtain⟨k,b9,rfl,H,u,D,B,z,R⟩:=hrel;by_cases a4:k<rows.length
  .obtain⟨r,Q⟩:=aw a4;obtain⟨b7,o,rfl,a2⟩:=(a0.ext H).here a4;obtain⟨a8,br,b8,a3⟩:=a2 _ r Q;obtain⟨a9,Fu,bo,U,HO,bi,bd,Z⟩:=zH8 a3 (ba r (aR Q)) Q H z D B R;obtain⟨E,F,a6⟩:∃E F,u=.slice E (rows.take k) F:=by obtain⟨A1,c1,e,_⟩:=z.view;exact⟨A1,c1,e⟩
   obtain⟨b3,b4,am⟩:=al D;clear a0 a2 a3 Q H z D B R;rw[show(rows.take k).length=k by simp;omega]at a6;subst a6;go_upto_region 5 with(fail)
   refine bk (S:=fun W=>af W ((w:Nat)+1+1) 2 (.slice E k F)) 7 RU RI (fun hHeld=>?_);refine ay 0 ?_;refine ay 1 ?_;refine ay 2 ?_;refine bu 3 fun K hK=>?_
   go_simp;refine(ig a8 br r _ (a9.ext (ai _ _).drew) Tq).mono ?_;rintro e b2 ⟨u2,rfl,ac,a1⟩;obtain⟨A2,c2,rfl,_⟩:=ac.view;obtain⟨I,bp⟩:=bL ((ai wr wr).drew.trans a1) ac;clear ac a1;go_simp;refine hK.out _ _ (fun _=>ag I am) (fun hHeld=>?_);clear hK K;try simp only[Act.put,zA]
   have hHeld:=hHeld RC;refine bu 4 fun K hK=>?_
   go_simp;refine hK.out _ _ (fun _=>ag (I.alloc I.size _) am) (fun hHeld=>?_);clear hK K;try simp only[Act.put,zA]
   have hHeld:=hHeld RC;refine bu 5 fun K hK=>?_
   refine lI rfl (.tmp 19) (.tmp 22) rfl ((w:Nat)+3) wr b2 (.slice E k F) (.slice A2 r c2) (rows.take k) r HO.o I.o bp.o RX Z.o rfl rfl ?_;intro g J T ab O _ _;rw[show(rows.take k).length+1=k+1 by simp;omega]at ab ⊢;have ad:T.heap[(w:Nat)+1+1]?=_:=(O.block _ Ry).trans bi;have a7:T.heap[(w:Nat)+1]?=_:=(O.block _ Ry).trans bd;obtain⟨b5,b6,ao,f0,f1,f2⟩:=xf (ai _ _) ad;obtain⟨bm,be,bb,ap⟩:=fS ad a7 ab O;clear ad a7 ab O;refine hK.out _ _ (fun _=>ao) (fun hHeld=>?_);clear hK K;try simp only[Act.put,zA]
   have hHeld:=hHeld RC;refine bu 6 fun K hK=>?_
   go_simp;refine hK.out _ _ (fun _=>ao) (fun hHeld=>?_);clear hK K;try simp only[Act.put,zA]
   have hHeld:=hHeld RC;refine bu 7 fun K hK=>?_
   go_simp;refine hK.out _ _ (fun h=>absurd h RC) (fun _=>?_);clear hK K;try simp only[Act.put,zA]
   refine dS RU ?_ _;go_wp2;go_roundw
   case rel=>
    have bz:=bw T ((w:Nat)+1+1) 2 _ _ (.slice (aX g) (k+1) J) bm;have bv:=(dh T ⟨(w:Nat)+1+1,2,none⟩ ((w:Nat)+1) (.slice (aX g) (k+1) J) Sn).trans be;have cc:=ap.size;have cb:=Z.o;refine⟨k+1,Ry,RB,?_,.slice (aX g) (k+1) J,by simpa using bz,bv,?_,?_⟩
    .exact(U.o.trans (ap.mono Ry)).setCell Sn _
    .have b0:=bb.setCell (a:=⟨(w:Nat)+1+1,2,none⟩) Sn (.slice (aX g) (k+1) J);rw[fZ,bo.o];exact b0
    .simp;omega
   case measure=>simp[intOf];omega
  .have b1:k=rows.length:=Ry;subst b1;obtain⟨b3,b4,am⟩:=al D;obtain⟨b5,b6,ao⟩:=al B;obtain⟨_,_,_,f0,f1,f2⟩:=xf (ai _ _) B;rw[pf]at z;obtain⟨E,F,rfl,_⟩:=z.view;obtain⟨HO,U,Z⟩:=dD z H R;clear z H B D R;go_wp2;refine az (v:=.agg (ae v h E rows F)) (by simp[results,results76,go_sem, *]) rfl ⟨_,rfl,?_,?_⟩
   .exact Yr
   .exact((U.o.setCell Sn _).setCell Sn _).setCell Sn _
def kM(H:o.guard=none)(s x:kE)(O:o.op=.call {callee:=.builtin .append,args:=#[s,x],argTypes:=#[24,24]})(z:Nat)(W:aa)(v:av)(n m:Nat)(us ys:bN)(A:dw)(c:Nat)(U:a.eval s=v)(Z:a.eval x=.slice (some A) m c)(ap:ys.length=m)(D:W.ownsRow z 27 1 v n us)(F:∀j y,ys[j]?=some y->W.cell? (A.add j)=some y)(E:∀u∈ys,u.oneCell'=true)(ao:n+m<=1073741824)(B:z<=(W:Nat))(h:∀v' w',w'.ownsRow z 27 1 v' (n+m) (us++ys)->Below z W w'->wpList prog Q R rest (a.put o.dst v') w'):wpList prog Q R (o::rest) a W:=by
 obtain⟨am,hi,ab,ac,ad⟩:=cM jf;refine wH _ H s x 24 O z 27 am (.slice none 0 0) 1 24 gE hi ab ac ad rfl RC v _ _ U D A m c ys Z Ry F E ?_ ?_ B ?_
 .unfold maxLen;omega
 .omega
 .intro v' w' T I _;exact h v' w' T ((ai _ _).grown I B fun k J=>(b_ D k J).1)
def tN(B:o.guard=none)(s x:kE)(D:o.op=.call {callee:=.builtin .append,args:=#[s,x],argTypes:=#[24,24]})(z:Nat)(W:aa)(v:av)(n c:Nat)(us:bN)(H:a.eval s=v)(I:a.eval x=.slice none 0 c)(E:W.ownsRow z 27 1 v n us)(h:wpList prog Q R rest (a.put o.dst v) W):wpList prog Q R (o::rest) a W:=by
 obtain⟨J,hi,O,T,U⟩:=cM jf;refine qH B fun K hK=>?_
 have F:=jx (P:=prog) (w:=W) z 24 o.type 27 J 1 gE hi v _ c _ E;unfold Oper.wp;simp[execOp,D,resolve,invoke,builtin,H,I,F,Result.andThen];exact hK _ _ h
def Ac(W:aa)(z:Nat)(B:z<=(W:Nat)):(W.alloc (.cells #[] 27)).ownsRow z 27 1 (.slice (aX W) 0 0) 0 []:=tg W #[] 0 B RC rfl
def CZ(w:aa)(u:av):∀(j:Nat) (y:av),[u][j]?=some y->(w.alloc (.cells #[u] 27)).cell? ((⟨w,0,none⟩:dw).add j)=some y:=by
 intro j y z
 match j,z with
 |0,z=>simp at z;subst z;simp[Addr.add]
 |j+1,z=>simp at z
def zfF(w:aa)(o:Obj)(u:av):∀(j:Nat) (y:av),[u][j]?=some y->((w.alloc o).alloc (.cells #[u] 27)).cell? ((⟨(w:Nat)+1,0,none⟩:dw).add j)=some y:=by intro j y z;have:=CZ (w.alloc o) u j y z;simpa only[cx]using this
def C0(A:aq)(n c:Nat):∀u∈[Value.slice A n c],u.oneCell'=true:=by intro u z;simp at z;subst z;rfl
def tO(a2 g n cap k:Nat)(us:bN)(D:aq)(F E:Nat)(w:aa)(h:w.ownsRow a2 27 1 (.slice (aX g) n cap) n us)(T:∀u∈us,u.oneCell'=true)(br:k<=n)(bz:n<=1048576):ax 79 #[.slice (aX g) n cap,k,.slice D F E] w fun e w'=>∃v',e=.returned v'/\w'.ownsRow w 27 1 v' (n+1) (bK us k (.slice D F E))/\aj w w':=by
 obtain⟨O,ba⟩:=h;rcases ba with⟨be,_⟩|⟨bo,bm,cur,bd,a7,J,b0,a8,am,E0⟩
 .cases be
 cases bd
 simp only[eP]at O am E0;have ad:∀t,t<n->cur.toList[t]?=us[t]?:=fun t ht=>TX
 have ao:=(aP.1 J).1;have cell:∀W,aj w W->∀t u,us[t]?=some u->af W g t u:=fun W B t u z=>by
  have ht:t<n:=by have:=(bs.1 z).1;omega
  rw[aV ((B.block g ao).trans J),ad t ht,z]
 obtain⟨A,bp,bb⟩:∃A:dw,(if cap=k then some (⟨g,0,none⟩:dw) else some ⟨g,k,none⟩)=some A/\Hd (∀W,aj w W->∀t u,(us.drop k)[t]?=some u->W.cell? (A.add t)=some u):=by
  by_cases ac:cap=k
  .refine⟨⟨g,0,none⟩,by simp[ac],fun W B t u z=>?_⟩;rw[nx Ry]at z;simp at z
  .refine⟨⟨g,k,none⟩,by simp[ac],fun W B t u z=>?_⟩;rw[fI]at z;rw[dy];exact cell W B _ _ z
 have a9:Hd (∀W,aj w W->∀t u,(us.take k)[t]?=some u->W.cell? ((⟨g,0,none⟩:dw).add t)=some u):=by
  intro W B t u z;rw[dy,fY];rw[fP]at z;split at z
  .exact cell W B _ _ z
  .cases z
 obtain⟨R,Q⟩:=bL O T;have bv:k<=cap:=Ry;unfold maxLen at a8;clear ad cell E0 am J ao O a7 T;go_enter func79,ntmps79
 go_wp2_with (first|(at_builtin;refine kM rfl (.tmp 8) (.tmp 11) rfl w _ _ 0 k [] (us.take k) ⟨g,0,none⟩ cap rfl rfl (by rw[dX,R.o];omega) (Ac _ _ (ah _)) (a9.o _ ((ai _ _).alloc (ah _) _)) (fun u z=>Q.o u (qG z)) Ry Rx ?_;intro v1 bi ap U;have H:=zH (((ai w w).alloc (ah _) (.cells #[] 27)).trans U);have a4:=zH ap;clear U ap)|(at_builtin;refine kM rfl (.tmp 13) (.tmp 15) rfl w _ v1 (0+k) 1 ([]++us.take k) [.slice D F E] ⟨bi,0,none⟩ 1 rfl rfl rfl (mq a4 _) (CZ _ _) (C0 _ _ _) Ry (by have:=H.o.size;simp;omega) ?_;intro v2 b1 a0 Z;have I:=zH ((H.o.alloc H.o.size _).trans Z);have a5:=zH a0;clear Z a0)|(at_builtin;refine kM rfl (.tmp 17) (.tmp 20) rfl w _ v2 (0+k+1) (n-k) ([]++us.take k++[.slice D F E]) (us.drop k) A (cap-k) rfl rfl (by rw[mh,R.o]) a5.o (bb.o _ I.o) (fun u z=>Q.o u (ky z)) Ry I.o.size ?_;intro v3 b2 a1 ab;have a3:=zH (I.trans ab);have a6:=zH a1;clear ab a1))
 go_ret
 refine⟨_,rfl,?_,a3⟩;have:=a6.o;rw[show 0+k+1+(n-k)=n+1 by omega,tc,kW]at this;exact this
def C3(z:aq)(D B:Nat)(w:aa):ax 79 #[fA,(),.slice z D B] w fun e w'=>∃v',e=.returned v'/\w'.ownsRow w 27 1 v' (0+1) (bK [] 0 (.slice z D B))/\aj w w':=by
 go_enter func79,ntmps79
 go_wp2_with (first|(at_builtin;refine tN rfl (.tmp 8) (.tmp 11) rfl w _ _ 0 _ [] rfl rfl (Ac _ _ (ah _)) ?_)|(at_builtin;refine kM rfl (.tmp 13) (.tmp 15) rfl w _ _ 0 1 [] [.slice z D B] ⟨(w:Nat)+1,0,none⟩ 1 rfl rfl rfl (mq (Ac w _ (ah _)) _) (zfF _ _ _) (C0 _ _ _) Ry Sn ?_;intro v2 J H F;have I:=zH ((((ai w w).alloc (ah _) _).alloc Rx _).trans F);have E:=zH H;clear F H)|(at_builtin;refine tN rfl (.tmp 17) (.tmp 20) rfl w _ v2 (0+1) _ _ rfl rfl E.o ?_))
 go_ret
 exact⟨_,rfl,E.o,I⟩
def vr(E:Nat)(v:av)(k:Int)(us:bN)(n:Nat)(z:aq)(D B:Nat)(w:aa)(h:w.ownsRow E 27 1 v n us)(F:∀u∈us,u.oneCell'=true)(I:0<=k)(O:k<=n)(J:n<=1048576):ax 79 #[v,k,.slice z D B] w fun e w'=>∃v',e=.returned v'/\w'.ownsRow w 27 1 v' (n+1) (bK us k.toNat (.slice z D B))/\aj w w':=by
 obtain⟨j,rfl⟩:=fW I;by_cases H:n=0
 .subst H;obtain rfl:j=0:=Ry;obtain rfl:us=[]:=fw (by have:=h.1;omega);rcases h.2 with⟨rfl,_⟩|⟨g,cap,cur,rfl,_⟩
  .exact C3 z D B w
  .exact tO E g 0 cap 0 [] z D B w h F (ah _) (aT _)
 .obtain⟨g,cap,rfl,_⟩:=lR h Ry;exact tO E g n cap j us z D B w h F Ry J
def sF{P:lk}(w:aa){K:oS}{F:Prop}(am:o.guard=none)(l c:kE)(t:dE)(ap:o.op=Op.makeSlice t l c)(z:Nat)(e:dE)(i:TypeInfo)(B:av)(size:Nat)(O:P.underlying t=some (.slice e))(T:P.info? e=some i)(U:i.zero=some B)(Z:i.size=size)(E D:IntKind)(L C:Int)(n:Nat)(ao:a.eval l=.int E L)(ad:a.eval c=.int D C)(ac:L=(n:Int))(ab:C=(n:Int))(H:i.bytes*n<=281474976710656)(I:n<=maxLen)(J:z<=(w:Nat))(hK:∀w',w'.ownsRow z e size (.slice (aX w) n n) n (madeCells B.cells (n*size)).toList->w.grownBy w' none->K (a.put o.dst (.slice (aX w) n n)) w'):if Region.wanted o (yielded Q a.tmps)=true then Oper.wp P o a w K R else F:=by rw[ar (by simp[Region.wanted,am]:Region.wanted o (yielded Q a.tmps)=true)];obtain⟨w',a0,a1,a2⟩:=run_make_full (P:=P) w z t e i B size O T U Z E D n H I J;subst ac;subst ab;unfold Oper.wp;simp[execOp,ap,ao,ad,a0,Result.andThen];exact hK w' a1 a2
def vt{e:dE}(h:w.ownsRow D e 1 v n us)(F:B'<=D):w.ownsRow B' e 1 v n us:=⟨h.1,h.2.imp id fun⟨g,cap,cur,z,E,B⟩=>⟨g,cap,cur,z,Ry,B⟩⟩
def fm{r:Option Nat}(h:aj w w'):w.grownBy w' r:=⟨h.os,h.tape,h.output,h.size,fun k z _=>h.block k z⟩
def nJ(p x y:Int)(w:aa)(F:1<=p)(H:p<=1000)(B:0<=x)(D:x<=1000)(z:0<=y)(E:y<=1000):ax 77 (fe p x y) w fun e w'=>e=.returned (zI (x*y%p))/\w=w':=by
 have I:0<=x*y:=za B z;have J:x*y<=1000000:=by have:=Int.mul_le_mul D E z Ry;omega
 go_enter func77,ntmps77
 exact WE
def BX(p x y:Int)(w:aa)(z:1<=p)(B:p<=1000)(D:0<=x)(E:x<=1000)(F:0<=y)(H:y<=1000):ax 78 (fe p x y) w fun e w'=>e=.returned (zI ((x+y)%p))/\w=w':=by
 go_enter func78,ntmps78
 exact WE
def zU(a b:Int)(w:aa):ax 130 (bI a b) w fun e w'=>e=.returned (zI (max a b))/\w=w':=by
 by_cases h:b<=a
 .rw[Int.max_eq_left h];rcases Int.lt_or_eq_of_le h with z|rfl
  all_goals
   go_enter func130,ntmps130
   go_wp2;go_ret
   exact⟨rfl,rfl⟩
 .have z:a<b:=Ry;rw[Int.max_eq_right Ry];go_enter func130,ntmps130
  exact WE
def xZ(a b:Int)(w:aa):ax 151 (bI a b) w fun e w'=>e=.returned (zI (min a b))/\w=w':=by
 by_cases h:a<=b
 .rw[Int.min_eq_left h];rcases Int.lt_or_eq_of_le h with z|rfl
  all_goals
   go_enter func151,ntmps151
   go_wp2;go_ret
   exact⟨rfl,rfl⟩
 .have z:b<a:=Ry;rw[Int.min_eq_right Ry];go_enter func151,ntmps151
  exact WE
end Go.Proofs.YtdpgblncijojiaaGreatDoor
