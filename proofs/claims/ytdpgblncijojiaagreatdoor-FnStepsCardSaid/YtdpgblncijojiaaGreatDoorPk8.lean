/- Parts of the walks. Conditions: as stated with each. -/
import Derived.Test.YtdpgblncijojiaaGreatDoorPk3
import Derived.Test.YtdpgblncijojiaaGreatDoorPk4
namespace Go.Proofs.YtdpgblncijojiaaGreatDoor
open Go.RowKit Tryz
set_option linter.all false
set_option maxHeartbeats 4000000
set_option maxRecDepth 100000
variable{B B' n x:Nat}{J:iq}{Q:gU}{a:Act}{o:gI}{rest:List Oper}{us:bG}{v:au}{w w':aa}
def lj{K:mK}{F:Prop}(I:o.guard=none)(s x:js)(O:o.op=.call {callee:=.builtin .append,args:=#[s,x],argTypes:=#[24,24]})(B:Nat)(z W:aa)(v u:au)(rows:aE)(r:aG)(Eo:aJ z B v rows)(D:ai z W)(hu:ar W z u r)(ao:rows.length+1<=1073741824)(H:B<=(z:Nat))(Y:a.eval s=v)(Z:a.eval x=.slice (aY W) 1 1)(h:∀g cap w',aJ w' B (.slice (aY g) (rows.length+1) cap) (rows++[r])->Below B z w'->(W:Nat)<=w'.heap.size->(∀k,k < (W:Nat)->some k≠v.ownBlock->w'.heap[k]?=W.heap[k]?)->K (a.put o.dst (.slice (aY g) (rows.length+1) cap)) w'):if Region.wanted o (yielded J a.tmps)=true then Oper.wp prog o a (W.alloc (.cells #[u] 27)) K Q else F:=by
 obtain⟨am,hi,ab,ac,ad⟩:=cU i_;obtain⟨us,Eo⟩:=Eo;have hW:=Eo.ext D;have R:=m5 hW.outer (.cells #[u] 27);have ap:=D.size;refine sm _ I s x 24 O B 27 am (.slice none 0 0) 1 24 gx hi ab ac ad rfl RX v _ _ Y R ⟨W,0,none⟩ 1 1 [u] Z rfl ?_ ?_ RX ?_ ?_ ?_ _ rfl ?_
 .exact Yt
 .exact XT
 .unfold maxLen;omega
 .omega
 .simp;omega
 .intro g cap w' U EE _ _;have hg:W.grownBy w' v.ownBlock:=⟨EE.os,EE.tape,EE.output,V_,fun k hk E=>(EE.block k Sk E).trans (pY W _ hk)⟩;refine h g cap w' ⟨us++[u],?_,?_,?_⟩ (D.mono H |>.trans ((aj _ _).grown hg RU fun k hk=>(bZ hW.outer k hk).1)) hg.size (fun k hk E=>hg.block k hk E)
  .simpa using U
  .exact Zz
  .exact ZQ
def StO(v h:Int)(rows:aE)(w:aa)(k:Nat)(wr:aa):Prop:=
 ai w wr/\∃u,aU wr ((w:Nat)+1+1) (dE v h u) 26/\aU wr ((w:Nat)+1) aQ 26/\
  aJ wr ((w:Nat)+3) u (rows.take k)/\(w:Nat)+3<=wr
def iF(v h:Int)(A:an)(cap:Nat)(rows:aE)(w:aa)(a1:aX w A rows)(cb:rows.length<=1048576)(a6:∀r∈rows,r.length<=1048576):aw 76 (cJ (ae v h A rows cap)) w fun e w'=>∃u,e=.returned (.agg (dE v h u))/\aJ w' w u rows/\ai w w':=by
 have bb:=zH a6;clear a6;go_enter func76,ntmps76
 go_wp2;go_loopw [14] (fun i wr=>∃k:Nat,k<=rows.length/\i=.int .i64 k/\StO v h rows w k wr) (fun i _=>rows.length-(intOf i).toNat)
 case atStart=>
  obtain⟨ch,D,E⟩:=cA w (.cells (ae v h A rows cap) 26) (.cells aQ 26) (.cells #[v,h,fe] 26);exact⟨0,bf _,rfl,below_alloc3 w _ _ _,.slice none 0 0,E,D,(Has.nil _ _ 0).own,RS⟩
 case round=>
  obtain⟨k,ca,rfl,I,u,E,D,z,U⟩:=hrel;by_cases a5:k<rows.length
  .obtain⟨r,R⟩:=aB a5;obtain⟨b8,o,rfl,a3⟩:=(a1.ext I).here a5;obtain⟨a9,bv,b9,a4⟩:=a3 _ r R;obtain⟨ba,Fk,bp,Z,HO,bm,be,ab⟩:=zH8 a4 (bb r (a_ R)) R I z E D U;obtain⟨F,H,a7⟩:∃F H,u=.slice F (rows.take k) H:=by obtain⟨A1,c1,e,_⟩:=z.view;exact⟨A1,c1,e⟩
   obtain⟨b4,b5,ao⟩:=aq E;clear a1 a3 a4 R I z E D U;rw[show(rows.take k).length=k by simp;omega]at a7;subst a7;go_upto_region 5 with(fail)
   refine bJ (S:=fun W=>ah W ((w:Nat)+1+1) 2 (.slice F k H)) 7 Si R4 (fun hHeld=>?_);refine aC 0 ?_;refine aC 1 ?_;refine aC 2 ?_;refine bM 3 fun K hK=>?_
   go_simp;refine(iH a9 bv r _ (ba.ext (aj _ _).drew) TH).mono ?_;rintro e b3 ⟨u2,rfl,ad,a2⟩;obtain⟨A2,c2,rfl,_⟩:=ad.view;obtain⟨J,br⟩:=bS ((aj wr wr).drew.trans a2) ad;clear ad a2;go_simp;refine hK.out _ _ (fun _=>av J.o ao) (fun hHeld=>?_);clear hK K;try simp only[Act.put,zA]
   have hHeld:=hHeld RX;refine bM 4 fun K hK=>?_
   go_simp;refine hK.out _ _ (fun _=>av (J.o.alloc J.o.size _) ao) (fun hHeld=>?_);clear hK K;try simp only[Act.put,zA]
   have hHeld:=hHeld RX;refine bM 5 fun K hK=>?_
   refine lj rfl (.tmp 19) (.tmp 22) rfl ((w:Nat)+3) wr b3 (.slice F k H) (.slice A2 r c2) (rows.take k) r HO.o J.o br.o Sk ab.o rfl rfl ?_;intro g O Y ac Q _ _;rw[show(rows.take k).length+1=k+1 by simp;omega]at ac ⊢;have am:Y.heap[(w:Nat)+1+1]?=_:=(Q.block _ RU).trans bm;have a8:Y.heap[(w:Nat)+1]?=_:=(Q.block _ RU).trans be;obtain⟨b6,b7,ap,f0,f1,f2⟩:=kV (aj _ _) am;obtain⟨bo,bi,bd,a0⟩:=fU am a8 ac Q;clear am a8 ac Q;refine hK.out _ _ (fun _=>ap) (fun hHeld=>?_);clear hK K;try simp only[Act.put,zA]
   have hHeld:=hHeld RX;refine bM 6 fun K hK=>?_
   go_simp;refine hK.out _ _ (fun _=>ap) (fun hHeld=>?_);clear hK K;try simp only[Act.put,zA]
   have hHeld:=hHeld RX;refine bM 7 fun K hK=>?_
   go_simp;refine hK.out _ _ (fun h=>absurd h RX) (fun _=>?_);clear hK K;try simp only[Act.put,zA]
   refine eC Si ?_ _;go_wp2;go_roundw
   case rel=>
    have b0:=bs Y ((w:Nat)+1+1) 2 _ _ (.slice (aY g) (k+1) O) bo;have bz:=(cm Y ⟨(w:Nat)+1+1,2,none⟩ ((w:Nat)+1) (.slice (aY g) (k+1) O) SJ).trans bi;have ce:=a0.size;have cc:=ab.o;refine⟨k+1,RU,RW,?_,.slice (aY g) (k+1) O,by simpa using b0,bz,?_,?_⟩
    .exact(Z.o.trans (a0.mono RU)).setCell SJ _
    .have b1:=bd.setCell (a:=⟨(w:Nat)+1+1,2,none⟩) SJ (.slice (aY g) (k+1) O);rw[gK,bp.o];exact b1
    .simp;omega
   case measure=>simp[intOf];omega
  .have b2:k=rows.length:=RU;subst b2;obtain⟨b4,b5,ao⟩:=aq E;obtain⟨b6,b7,ap⟩:=aq D;obtain⟨_,_,_,f0,f1,f2⟩:=kV (aj _ _) D;rw[qg]at z;obtain⟨F,H,rfl,_⟩:=z.view;obtain⟨HO,Z,ab⟩:=d_ z I U;clear z I D E U;go_wp2;refine ax (v:=.agg (ae v h F rows H)) (by simp[results,results76,go_sem, *]) rfl ⟨_,rfl,?_,?_⟩
   .exact YD
   .exact((Z.o.setCell SJ _).setCell SJ _).setCell SJ _
def lK(H:o.guard=none)(s x:js)(R:o.op=.call {callee:=.builtin .append,args:=#[s,x],argTypes:=#[24,24]})(B:Nat)(W:aa)(v:au)(n m:Nat)(us ys:bG)(A:dD)(c:Nat)(Y:a.eval s=v)(Z:a.eval x=.slice (some A) m c)(ap:ys.length=m)(D:W.ownsRow B 27 1 v n us)(F:∀j y,ys[j]?=some y->W.cell? (A.add j)=some y)(E:∀u∈ys,u.oneCell'=true)(ao:n+m<=1073741824)(z:B<=(W:Nat))(h:∀v' w',w'.ownsRow B 27 1 v' (n+m) (us++ys)->Below B W w'->wpList prog J Q rest (a.put o.dst v') w'):wpList prog J Q (o::rest) a W:=by
 obtain⟨am,hi,ab,ac,ad⟩:=cU i_;refine vC _ H s x 24 R B 27 am (.slice none 0 0) 1 24 gx hi ab ac ad rfl RX v _ _ Y D A m c ys Z RU F E ?_ ?_ z ?_
 .unfold maxLen;omega
 .omega
 .intro v' w' U I _;exact h v' w' U ((aj _ _).grown I z fun k O=>(bZ D k O).1)
def sP(z:o.guard=none)(s x:js)(D:o.op=.call {callee:=.builtin .append,args:=#[s,x],argTypes:=#[24,24]})(B:Nat)(W:aa)(v:au)(n c:Nat)(us:bG)(H:a.eval s=v)(I:a.eval x=.slice none 0 c)(E:W.ownsRow B 27 1 v n us)(h:wpList prog J Q rest (a.put o.dst v) W):wpList prog J Q (o::rest) a W:=by
 obtain⟨O,hi,R,U,Y⟩:=cU i_;refine qd z fun K hK=>?_
 have F:=jm (P:=prog) (w:=W) B 24 o.type 27 O 1 gx hi v _ c _ E;unfold Oper.wp;simp[execOp,D,resolve,invoke,builtin,H,I,F,Result.andThen];exact hK _ _ h
def yQ(W:aa)(B:Nat)(z:B<=(W:Nat)):(W.alloc (.cells #[] 27)).ownsRow B 27 1 (.slice (aY W) 0 0) 0 []:=qe W #[] 0 z RX rfl
def zcf(w:aa)(u:au):∀(j:Nat) (y:au),[u][j]?=some y->(w.alloc (.cells #[u] 27)).cell? ((⟨w,0,none⟩:dD).add j)=some y:=by
 intro j y z
 match j,z with
 |0,z=>simp at z;subst z;simp[Addr.add]
 |j+1,z=>simp at z
def zfb(w:aa)(o:Obj)(u:au):∀(j:Nat) (y:au),[u][j]?=some y->((w.alloc o).alloc (.cells #[u] 27)).cell? ((⟨(w:Nat)+1,0,none⟩:dD).add j)=some y:=by intro j y z;have:=zcf (w.alloc o) u j y z;simpa only[cg]using this
def zcg(A:an)(n c:Nat):∀u∈[Value.slice A n c],u.oneCell'=true:=by intro u z;simp at z;subst z;rfl
def sQ(B g n cap k:Nat)(us:bG)(E:an)(H F:Nat)(w:aa)(h:w.ownsRow B 27 1 (.slice (aY g) n cap) n us)(Y:∀u∈us,u.oneCell'=true)(bp:k<=n)(bv:n<=1048576):aw 79 #[.slice (aY g) n cap,k,.slice E H F] w fun e w'=>∃v',e=.returned v'/\w'.ownsRow w 27 1 v' (n+1) (bK us k (.slice E H F))/\ai w w':=by
 obtain⟨Q,a9⟩:=h;rcases a9 with⟨bd,_⟩|⟨bm,bi,cur,bb,a6,O,bz,a7,am,EW⟩
 .cases bd
 cases bb
 simp only[eT]at Q am EW;have ad:∀t,t<n->cur.toList[t]?=us[t]?:=fun t ht=>Ud
 have ao:=(aM.1 O).1;have cell:∀W,ai w W->∀t u,us[t]?=some u->ah W g t u:=fun W D t u z=>by
  have ht:t<n:=by have:=(bA.1 z).1;omega
  rw[aW ((D.block g ao).trans O),ad t ht,z]
 obtain⟨A,bo,ba⟩:∃A:dD,(if cap=k then some (⟨g,0,none⟩:dD) else some ⟨g,k,none⟩)=some A/\Hd (∀W,ai w W->∀t u,(us.drop k)[t]?=some u->W.cell? (A.add t)=some u):=by
  by_cases hc:cap=k
  .refine⟨⟨g,0,none⟩,Sc,fun W D t u z=>?_⟩;rw[nc RU]at z;simp at z
  .refine⟨⟨g,k,none⟩,Sc,fun W D t u z=>?_⟩;rw[fL]at z;rw[dM];exact cell W D _ _ z
 have a8:Hd (∀W,ai w W->∀t u,(us.take k)[t]?=some u->W.cell? ((⟨g,0,none⟩:dD).add t)=some u):=by
  intro W D t u z;rw[dM,iw];rw[fY]at z;split at z
  .exact cell W D _ _ z
  .cases z
 obtain⟨U,R⟩:=bS Q Y;have br:k<=cap:=RU;unfold maxLen at a7;clear ad cell EW am O ao Q a6 Y;go_enter func79,ntmps79
 go_wp2_with (first|(at_builtin;refine lK rfl (.tmp 8) (.tmp 11) rfl w _ _ 0 k [] (us.take k) ⟨g,0,none⟩ cap rfl rfl (by rw[dH,U.o];omega) (yQ _ _ (ag _)) (a8.o _ ((aj _ _).alloc (ag _) _)) (fun u z=>R.o u (p_ z)) RU RS ?_;intro v1 be ap Z;have I:=zH (((aj w w).alloc (ag _) (.cells #[] 27)).trans Z);have a3:=zH ap;clear Z ap)|(at_builtin;refine lK rfl (.tmp 13) (.tmp 15) rfl w _ v1 (0+k) 1 ([]++us.take k) [.slice E H F] ⟨be,0,none⟩ 1 rfl rfl rfl (m5 a3 _) (zcf _ _) (zcg _ _ _) RU (by have:=I.size;simp;omega) ?_;intro v2 b0 a0 ab;have J:=zH ((I.alloc I.size _).trans ab);have a4:=zH a0;clear ab a0)|(at_builtin;refine lK rfl (.tmp 17) (.tmp 20) rfl w _ v2 (0+k+1) (n-k) ([]++us.take k++[.slice E H F]) (us.drop k) A (cap-k) rfl rfl (by rw[lR,U.o]) a4.o (ba.o _ J.o) (fun u z=>R.o u (km z)) RU J.o.size ?_;intro v3 b1 a1 ac;have a2:=zH (J.o.trans ac);have a5:=zH a1;clear ac a1))
 go_ret
 refine⟨_,rfl,?_,a2⟩;have:=a5.o;rw[show 0+k+1+(n-k)=n+1 by omega,r_,kI]at this;exact this
def Cl(z:an)(E D:Nat)(w:aa):aw 79 #[fe,(),.slice z E D] w fun e w'=>∃v',e=.returned v'/\w'.ownsRow w 27 1 v' (0+1) (bK [] 0 (.slice z E D))/\ai w w':=by
 go_enter func79,ntmps79
 go_wp2_with (first|(at_builtin;refine sP rfl (.tmp 8) (.tmp 11) rfl w _ _ 0 _ [] rfl rfl (yQ _ _ (ag _)) ?_)|(at_builtin;refine lK rfl (.tmp 13) (.tmp 15) rfl w _ _ 0 1 [] [.slice z E D] ⟨(w:Nat)+1,0,none⟩ 1 rfl rfl rfl (m5 (yQ w _ (ag _)) _) (zfb _ _ _) (zcg _ _ _) RU SJ ?_;intro v2 O I H;have J:=zH ((((aj w w).alloc (ag _) _).alloc RS _).trans H);have F:=zH I;clear H I)|(at_builtin;refine sP rfl (.tmp 17) (.tmp 20) rfl w _ v2 (0+1) _ _ rfl rfl F.o ?_))
 go_ret
 exact⟨_,rfl,F,J.o⟩
def ug(B:Nat)(v:au)(k:Int)(us:bG)(n:Nat)(z:an)(E D:Nat)(w:aa)(h:w.ownsRow B 27 1 v n us)(F:∀u∈us,u.oneCell'=true)(I:0<=k)(O:k<=n)(J:n<=1048576):aw 79 #[v,k,.slice z E D] w fun e w'=>∃v',e=.returned v'/\w'.ownsRow w 27 1 v' (n+1) (bK us k.toNat (.slice z E D))/\ai w w':=by
 obtain⟨j,rfl⟩:=fX I;by_cases H:n=0
 .subst H;obtain rfl:j=0:=RU;obtain rfl:us=[]:=eS (by have:=h.1;omega);rcases h.2 with⟨rfl,_⟩|⟨g,cap,cur,rfl,_⟩
  .exact Cl z E D w
  .exact sQ B g 0 cap 0 [] z E D w h F (ag _) (bf _)
 .obtain⟨g,cap,rfl,_⟩:=kG h RU;exact sQ B g n cap j us z E D w h F RU J
def rG{P:kR}(w:aa){K:mK}{H:Prop}(ao:o.guard=none)(l c:js)(t:dG)(a0:o.op=Op.makeSlice t l c)(z:Nat)(e:dG)(i:TypeInfo)(D:au)(size:Nat)(U:P.underlying t=some (.slice e))(Y:P.info? e=some i)(Z:i.zero=some D)(ab:i.size=size)(F E:IntKind)(L C:Int)(n:Nat)(ap:a.eval l=.int F L)(am:a.eval c=.int E C)(ad:L=(n:Int))(ac:C=(n:Int))(I:i.bytes*n<=281474976710656)(O:n<=maxLen)(R:z<=(w:Nat))(hK:∀w',w'.ownsRow z e size (.slice (aY w) n n) n (madeCells D.cells (n*size)).toList->w.grownBy w' none->K (a.put o.dst (.slice (aY w) n n)) w'):if Region.wanted o (yielded J a.tmps)=true then Oper.wp P o a w K Q else H:=by rw[ay (by simp[Region.wanted,ao]:Region.wanted o (yielded J a.tmps)=true)];obtain⟨w',a1,a2,a3⟩:=run_make_full (P:=P) w z t e i D size U Y Z ab F E n I O R;subst ad;subst ac;unfold Oper.wp;simp[execOp,a0,ap,am,a1,Result.andThen];exact hK w' a2 a3
def uh{e:dG}(h:w.ownsRow B e 1 v n us)(F:B'<=B):w.ownsRow B' e 1 v n us:=⟨h.1,h.2.imp id fun⟨g,cap,cur,z,E,D⟩=>⟨g,cap,cur,z,RU,D⟩⟩
def fw{r:Option Nat}(h:ai w w'):w.grownBy w' r:=⟨h.os,h.tape,h.output,h.size,fun k z _=>h.block k z⟩
def rH(p x y:Int)(w:aa)(H:1<=p)(I:p<=1000)(D:0<=x)(E:x<=1000)(z:0<=y)(F:y<=1000):aw 77 (fB p x y) w fun e w'=>e=.returned (zI (x*y%p))/\w=w':=by
 have J:0<=x*y:=xT D z;have O:x*y<=1000000:=by have:=Int.mul_le_mul E F z RU;omega
 go_enter func77,ntmps77
 exact WY
def Bf(p x y:Int)(w:aa)(z:1<=p)(D:p<=1000)(E:0<=x)(F:x<=1000)(H:0<=y)(I:y<=1000):aw 78 (fB p x y) w fun e w'=>e=.returned (zI ((x+y)%p))/\w=w':=by
 go_enter func78,ntmps78
 exact WY
def cX{K:mK}{R:Prop}(ac:o.guard=none)(s x:js)(H:o.op=.call {callee:=.builtin .append,args:=#[s,x],argTypes:=#[27,27]})(B:Nat)(W:aa)(v:au)(xs ys:aG)(A:an)(m c:Nat)(am:m=ys.length)(I:a.eval s=v)(D:a.eval x=.slice A m c)(Eo:ar W B v xs)(Fi:aT W A ys)(a6:xs.length+m<=1099511627776)(E:B<=(W:Nat))(h:∀v' w',ar w' B v' (xs++ys)->Below B W w'->K (a.put o.dst v') w'):if Region.wanted o (yielded J a.tmps)=true then Oper.wp prog o a W K Q else R:=by
 rw[ay (by simp[Region.wanted,ac]:Region.wanted o (yielded J a.tmps)=true)];subst am;obtain⟨O,hi,a1,a2,a3⟩:=cU fI;cases A with
 |none=>
  have z:ys=[]:=Xh;subst z;have ap:=jm (P:=prog) (w:=W) B 27 o.type 3 O 1 dS hi v _ c _ Eo;unfold Oper.wp;simp only[ix]at D;simp[execOp,H,resolve,invoke,builtin,I,D,ap,Result.andThen];exact h v W S7 (aj _ _)
 |some U=>
  obtain⟨v',w',ao,Y,Z,a4,a5⟩:=run_append_own_at (P:=prog) W B 27 o.type 3 O (zI 0) 1 8 dS hi a1 a2 a3 rfl RX v _ _ Eo U ys c (ys.map (Value.int .i64)) RS (by
   intro j u F;rw[cp]at F;obtain⟨y,z,rfl⟩:=pV.1 F;rcases Fi with h|⟨b,o,h,ab⟩
   .simp[h]at z
   .cases h;rw[dM];exact ab j y z) (by
   intro u a0;obtain⟨y,_,rfl⟩:=cf.1 a0;rfl) TS RU E
  unfold Oper.wp execOp;simp only[H,resolve,invoke,builtin,Sem.run_bind,Sem.run_pure,Result.andThen_ok,List.map_toArray,List.map_cons,List.map_nil,I,D,ao];exact h v' w' (by simpa[ar]using Y) ((aj _ _).grown Z E fun k ad=>(bZ Eo k ad).1)
def zcL{n:Int}(h:1<n):∃r:Nat,(x:Int)%n=r/\(r:Int)<n/\r<=x:=by obtain⟨k,rfl⟩:∃k:Nat,n=k:=⟨n.toNat,RU⟩;have z:=Nat.mod_lt x (RU:0<k);exact⟨x%k,by push_cast;rfl,RU,Nat.mod_le _ _⟩
def zjo(n:Int)(_:aa)(v:au):Prop:=∃r:Nat,v=.int .i64 r/\((r:Int)<n∨r=0)/\r<65536
def dg(C:Code)(b m:Nat)(w:aa)(n:Int)(R:cH C b m w)(a4:m<=549755813888):aw 88 (lO (aY b) n) w (kM C b (m+2) (zjo n) w):=by
 obtain⟨J,F⟩:=bS (fun V k (h:cH C b k V) (ap:k<=1099511627776)=>zfy C b k V h ap) R;clear R;by_cases ad:n<=1
 .go_enter func88,ntmps88
  go_wp2;go_ret
  exact⟨_,rfl,⟨0,rfl,aA rfl,RX⟩,F.mono RU,uE _ _⟩
 have Q:1<n:=RU;clear ad;by_cases am:n<=200
 .go_enter func88,ntmps88
  go_wp2_with (go_at_call 118;(with_reducible refine(J.o _ _ F.o RU).mono ?_);rintro e a2 ⟨v,rfl,⟨x,rfl,a1⟩,z,D⟩;have H:=zH z;have I:=zH D;clear z D)
  go_ret
  obtain⟨r,E,O,ao⟩:=zcL (x:=x) Q;exact⟨_,rfl,⟨r,by rw[<-E];rfl,aF O,RU⟩,H.o.mono RU,I⟩
 .have a3:200<n:=RU;clear am;go_enter func88,ntmps88
  go_upto_region 4 with(go_at_call 118;(with_reducible refine(J.o _ _ F.o RU).mono ?_);rintro e a2 ⟨v,rfl,⟨x,rfl,a1⟩,z,D⟩;have H:=zH z;have I:=zH D;clear z D)
  have a5:IntKind.i64.wrap ((x:Int)*256)=(x:Int)*256:=SQ;have a0:∀y:Nat,y<256->IntKind.i64.wrap ((x:Int)*256+(y:Int))=(x:Int)*256+(y:Int):=fun y Z=>SQ
  go_wp2_with (go_at_call 118;(with_reducible refine(J.o _ _ H.o RU).mono ?_);rintro e a7 ⟨v,rfl,⟨y,rfl,Z⟩,U,Y⟩;have ab:=zH U;have ac:=zH Y;have a6:=a0 y Z;clear U Y)
  go_ret
  obtain⟨r,E,O,ao⟩:=zcL (x:=x*256+y) Q;have E:((x:Int)*256+(y:Int))%n=r:=by rw[<-E];push_cast;rfl
  exact⟨_,rfl,⟨r,by rw[<-E];rfl,aF O,RU⟩,ab.mono RU,I.trans ac⟩
def gX(C:Code)(b m:Nat)(w:aa)(n:Int)(z:cH C b m w)(J:m<=549755813888):aw 46 (lO (aY b) n) w (kM C b (m+2) (fun _ v=>∃y:Bool,v=.bool y) w):=by
 have I:=zH (dg C b m w n z J);clear z;go_enter func46,ntmps46
 go_wp2_with (go_at_call 88;(with_reducible refine I.o.mono ?_);rintro e O ⟨v,rfl,⟨r,rfl,-,-⟩,D,E⟩;have F:=zH D;have H:=zH E;clear D E)
 go_ret
 exact⟨_,rfl,⟨_,rfl⟩,F,H.o⟩
def zed(C:Code)(b m:Nat)(w:aa)(xs:aG)(A:an)(cap:Nat)(H:cH C b m w)(Z:m<=549755813888)(E:aT w A xs)(Y:0<xs.length)(ap:xs.length<=65536)(F:∀a,A=some a->b<a.block):aw 85 #[.pointer (aY b),.slice A xs cap] w (kM C b (m+2) (fun _ v=>∃x∈xs,v=.int .i64 x) w):=by
 have R:=zH (dg C b m w xs H Z);obtain⟨a,o,rfl,J⟩:=E.here Y;have am:b<a:=F _ rfl;clear H E F;go_enter func85,ntmps85
 go_upto_region 1 with(fail)
 go_wp2_with (go_at_call 88;(with_reducible refine R.o.mono ?_);rintro e ad ⟨v,rfl,⟨r,rfl,ab,-⟩,I,D⟩;have ac:r<xs.length:=RU;obtain⟨x,z⟩:=aB ac;have ao:ah ad a (o+r) (zI x):=ik (D.block a (iN _ _ (J r x z)) (fun e=>T5)) (J r x z);have U:=zH z;have O:=zH I;have Q:=zH D;clear I D z ab)
 go_ret
 exact⟨_,rfl,⟨x,a_ U.o,rfl⟩,O,Q.o⟩
end Go.Proofs.YtdpgblncijojiaaGreatDoor
