/- Parts of the walks. Conditions: as stated with each. -/
import Derived.Test.YtpieilkmmiopfaaGreatDoorPk14
import Derived.Test.YtpieilkmmiopfaaGreatDoorPk15
import Derived.Test.YtpieilkmmiopfaaGreatDoorPk16
namespace Go.Proofs.YtpieilkmmiopfaaGreatDoor
open Go.RowKit Tryz
set_option linter.all false
set_option maxHeartbeats 16000000
set_option maxRecDepth 100000
variable{A1:ax}{B J b d hi hi' i k lo lo' m n r s:Nat}{L:List eE}{P:jk}{Q:gZ}{R:Rl}{T u0 u1 v v0 v1 v10 v2 v3 v4 v5 v6 v7 v8 v9 z2:aG}{V w w':aa}{a:Act}{cs:gg}{g:Gr}{o:h_}{ops:iI}{p:Int}{rest:List Oper}{rows:aP}{t:dL}
def zcL x w:az 56 (iV (re x) (re x)) w (dt w true):=by
 have h:=zH (((al w w).alloc Qt (.cells (re x) 95)).alloc Qt (.cells (re x) 95));obtain⟨k,v,s⟩:=x;dsimp only at h ⊢;go_enter func56,ntmps56
 go_wp2;go_ret
 exact⟨rfl,h⟩
def zbm A G ε O L w(I:bR 3 jK w A L)(J:bR 3 jK w G L)(ac:L.length<=1048576):az 31 (mv A L ε G L O) w (dt w true):=by
 go_enter func31,ntmps31
 go_wp2;go_loopw [5] (fun i wr=>∃k:Nat,k<=L.length/\i=.int .i64 k/\ag w wr) (fun i _=>L.length-(intOf i).toNat)
 case atStart=>exact⟨0,aW _,rfl,al _ _⟩
 case round=>
  obtain⟨k,ab,rfl,FW⟩:=hrel;by_cases T:k<L.length
  .have⟨x,D⟩:=aq T;obtain⟨b,o,rfl,H,c1,c2⟩:=iF (bQ I FW) D;obtain⟨h,F,rfl,d0,d1,d2⟩:=iF (bQ J FW) D;have U:∀W:κ wr,af W.W b (o+k*3) (zI x.k):=fun W=>W.cell H
   have Y:∀W:κ wr,af W.W b (o+k*3+1) (zI x.v):=fun W=>W.cell c1
   have Z:∀W:κ wr,af W.W b (o+k*3+2) (.string x.s):=fun W=>W.cell c2
   have f0:∀W:κ wr,af W.W h (F+k*3) (zI x.k):=fun W=>W.cell d0
   have f1:∀W:κ wr,af W.W h (F+k*3+1) (zI x.v):=fun W=>W.cell d1
   have f2:∀W:κ wr,af W.W h (F+k*3+2) (.string x.s):=fun W=>W.cell d2
   clear D I J H c1 c2 d0 d1 d2;go_wp2;refine bU QT QT ?_
   repeat (go_big_quiet_step ((go_at_call 56;exact Calls.fh (zcL _ _))))
   exact YI
  .go_wp2;go_ret
   exact⟨rfl,FW⟩
def qT A D ε F L w(G:bR 3 jK w A L)(H:bR 3 jK w D L)(Y:L.length<=1048576):az 12 (iV (aV A L ε) (aV D L F)) w (dt w true):=by
 have h:=((al w w).alloc Qt (.cells (aV A L ε) 35)).alloc Qt (.cells (aV D L F) 35);have J:=zH h;have T:=bQ G h;have U:=bQ H h;clear h G H;go_enter func12,ntmps12
 go_wp2_with ((go_at_call 31;refine(zbm _ _ _ _ _ _ T U Y).x ?_;rintro e w' ⟨rfl,I⟩;have O:=zH I;clear I))
 go_ret
 exact⟨rfl,J.o.t (O.x Rs)⟩
def c1(n:Int):ByteArray:=ByteArray.empty.push (UInt8.ofNat n.toNat)
structure AY(w:aa)(lo hi:Nat)(v:aG)(L:List eE):Prop where
 μ:ed w lo v L
 up:∀b,v.ownBlock=some b->b<hi
def AY.of(h:ed w B v L):AY w B w v L:=⟨h,fun b D=>(bS h b D).2⟩
def AY.ext(h:AY w lo hi v L)(D:ag w w'):AY w' lo hi v L:=⟨h.μ.ext D,h.up⟩
def AY.u(h:AY w lo hi v L)(I:b_ lo' hi' w w')(J:hi<=lo'∨hi'<=lo):AY w' lo hi v L:=⟨⟨h.μ.1,h.μ.2.E id fun⟨g,ε,H,a1,F,D,G⟩=>⟨g,ε,H,a1,F,(I.block g (bk.1 D).1 UL).t D,G⟩⟩,h.up⟩
def zi4(w:aa)(h:List Obj):World:=h.foldl World.alloc w
def pJ:∀(h:List Obj) (w:aa),Below w w (zi4 w h)
 |[],_=>al _ _
 |o::h,w=>aJ (aw w o) (pJ h (w.alloc o))
def nM:∀(D:List Obj) (w:aa) (k:Nat) {o:Obj},D[k]?=some o->(zi4 w D).heap[(w:Nat)+k]?=some o
 |[],_,_,_,h=>QO
 |o::D,w,0,F,h=>by simp only[dA,dW]at h;subst h;exact ai (aH w o rfl) (pJ D (w.alloc o))
 |o::D,w,k+1,F,h=>by have:=nM D (w.alloc o) k (o:=F) Q_;rw[dV]at this;rw[show(w:Nat)+(k+1)=w+1+k by omega];exact this
structure It where
 s:Nat
 e:Nat
 lo:Nat
 hi:Nat
 b:Nat
 cs:Array Value
 T:TypeId
 P:World->Prop
structure It.Ok(B:Nat)(i:It)(W:aa):Prop where
 Β:bA W i.b i.cs i.T
 θ:i.P W
 ext:∀{V V':aa},i.P V->ag V V'->i.P V'
 far:∀{V V':aa} {lo hi:Nat},i.P V->b_ lo hi V V'->(i.hi<=lo∨hi<=i.lo)->i.P V'
 ord:B<=i.s/\i.s<=i.lo/\i.lo<=i.hi/\i.hi<=i.e/\i.s<=i.b/\i.b<i.e/\(i.b<i.lo∨i.hi<=i.b)
structure BY(Z:aa)(its:List It)(W:aa):Prop where
 π:ag Z W
 ok:∀i∈its,It.Ok Z i W
 Ë:∀i∈its,i.e<=(W:Nat)
 pw:its.Pairwise fun i j=>i.e<=j.s
section
variable{Z W W' V:aa}{its l r:List It}{i:It}{lo hi c k:Nat}{A:ax}{L:List eE}{a:Va}{x:zS}
def BY.nil(h:ag Z W):BY Z [] W:=⟨h,(fun i hi=>by cases hi),(fun i hi=>by cases hi),List.Pairwise.nil⟩
def BY.ext(h:BY Z its W)(D:ag W W'):BY Z its W':=⟨aJ h.π D,fun i hi=>have o:=h.ok i hi;⟨ai o.Β D,o.ext o.θ D,o.ext,o.far,o.ord⟩,fun i hi=>aZ (h.Ë i hi) D.size,h.pw⟩
def BY.F(h:BY Z its W){k:Nat}(e:its[k]?=some i):It.Ok Z i W:=h.ok i (aU e)
def BY.snoc(D:BY Z its V)(I:ag V W)(hi:It.Ok Z i W)(O:(V:Nat)<=i.s)(J:i.e<=(W:Nat)):BY Z (its++[i]) W:=by
 have F:=D.ext I;refine⟨F.π,fun j h=>?_,fun j h=>?_,List.pairwise_append.2 ⟨D.pw,List.pairwise_singleton _ _,fun a H b G=>?_⟩⟩
 .rcases dP.1 h with h|h
  .exact F.ok j h
  .rw[kD]at h;subst h;exact hi
 .rcases dP.1 h with h|h
  .exact F.Ë j h
  .rw[kD]at h;subst h;exact J
 .rw[kD]at G;subst G;exact aZ (D.Ë a H) O
def It.tm(lo hi:Nat)(A:ax)(c:Nat)(L:List eE):It:=⟨lo,hi+1,lo,hi,hi,#[.slice A L c],35,fun W=>AY W lo hi (.slice A L c) L⟩
def It.vd(s e lo hi b:Nat)(a:Va)(x:zS):It:=⟨s,e,lo,hi,b,#[.bool x.e,.slice a.A x.xs a.c,.int .i64 x.sd,.slice a.A3 x.x3 a.c3,.slice a.A4 x.x4 a.c4,.slice a.A5 x.x5 a.c5],39,fun W=>yC W lo hi a x⟩
def BY.zku(h:BY Z its V)(H:ed W V (.slice A L c) L)(D:ag V W):BY Z (its++[It.tm V W A c L]) (W.alloc (.cells (aV A L c) 35)):=by have F:=D.size;have J:=h.π.size;refine h.snoc (aJ D (aw _ _)) ⟨aH _ _ rfl,(AY.of H).ext (aw _ _),fun h D=>AY.ext h D,fun h I G=>AY.u h I G,?_⟩ (ae _) (by simp[It.tm]);exact⟨J,ae _,F,qe _,F,iX _,au (ae _)⟩
def BY.zmy(h:BY Z its V)(H:yC W V W a x)(D:ag V W):BY Z (its++[It.vd V ((W:Nat)+1) V W W a x]) (W.alloc (.cells (dy x a) 39)):=by have F:=D.size;have J:=h.π.size;refine h.snoc (aJ D (aw _ _)) ⟨aH _ _ rfl,yC.ext H (aw _ _),fun h D=>yC.ext h D,fun h I G=>yC.u h I G,?_⟩ (ae _) (by simp[It.vd]);exact⟨J,ae _,F,qe _,F,iX _,au (ae _)⟩
def BY.zdi{k:Nat}(h:BY Z its W)(e:its[k]?=some (It.tm lo hi A c L)):bA W hi (aV A L c) 35:=(h.F e).Β
def BY.fp{k:Nat}(h:BY Z its W)(e:its[k]?=some (It.tm lo hi A c L)):bR 3 jK W A L:=by obtain⟨D,c2,e2,h2,-⟩:=(show AY W lo hi (.slice A L c) L from(h.F e).θ).μ.p (aZ (h.F e).ord.2.2.1 (aZ (h.F e).ord.2.2.2.1 (h.Ë _ (aU e))));exact Ww
def BY.zd{k e:Nat}(h:BY Z its W)(q:its[k]?=some (It.vd s e lo hi b a x)):bA W b (dy x a) 39:=(h.F q).Β
def BY.zkv{k e:Nat}(h:BY Z its W)(q:its[k]?=some (It.vd s e lo hi b a x)):yC W lo hi a x:=(h.F q).θ
end
def oZ{c}{A}{L}(h:ed w B (.slice A n c) L)(D:B<=(w:Nat)):bR 3 jK w A L:=by obtain⟨F,c2,e2,h2,-⟩:=h.p D;exact Ww
abbrev zW(w:aa)(b:Nat)(v0 v1 v2 v3 v4 v5 v6 v7 v8 v9 v10 v11 v12 v13:aG):World:=(((((((((((((w.setCell ⟨b,0,none⟩ v0).setCell ⟨b,1,none⟩ v1).setCell ⟨b,2,none⟩ v2).setCell ⟨b,3,none⟩ v3).setCell ⟨b,4,none⟩ v4).setCell ⟨b,5,none⟩ v5).setCell ⟨b,6,none⟩ v6).setCell ⟨b,7,none⟩ v7).setCell ⟨b,8,none⟩ v8).setCell ⟨b,9,none⟩ v9).setCell ⟨b,10,none⟩ v10).setCell ⟨b,11,none⟩ v11).setCell ⟨b,12,none⟩ v12).setCell ⟨b,13,none⟩ v13
def pn{I Z ab ac ad ah am an J O U Y v11 v12 v13}(H:bA w b #[T,I,z2,Z,ab,ac,ad,ah,am,an,J,O,U,Y] t):(zW w b v0 v1 v2 v3 v4 v5 v6 v7 v8 v9 v10 v11 v12 v13).heap[b]?=some (.cells #[v0,v1,v2,v3,v4,v5,v6,v7,v8,v9,v10,v11,v12,v13] t (0,0)):=by
 have e0:=bE _ b 0 _ _ v0 H;refine MF fun e1 e2 e3 e4 e5 e6 e7 e8 e9=>?_
 have h:=bE _ b 10 _ _ v10 e9;have D:=bE _ b 11 _ _ v11 h;have F:=bE _ b 12 _ _ v12 D;have G:=bE _ b 13 _ _ v13 F;simpa[zW]using G
def pq(D:Below B w w')(h:B<=b)v0 v1 v2 v3 v4 v5 v6 v7 v8 v9 v10 v11 v12 v13:Below B w (zW w' b v0 v1 v2 v3 v4 v5 v6 v7 v8 v9 v10 v11 v12 v13):=((((((((((((((D.setCell h _).setCell h _).setCell h _).setCell h _).setCell h _).setCell h _).setCell h _).setCell h _).setCell h _).setCell h _).setCell h _).setCell h _).setCell h _).setCell h _)
def tS{v11 v12 v13}(h:k≠b):(zW w b v0 v1 v2 v3 v4 v5 v6 v7 v8 v9 v10 v11 v12 v13).heap[k]?=w.heap[k]?:=(a_ _ _ _ _ h).t ((a_ _ _ _ _ h).t ((a_ _ _ _ _ h).t ((a_ _ _ _ _ h).t ((a_ _ _ _ _ h).t ((a_ _ _ _ _ h).t ((a_ _ _ _ _ h).t ((a_ _ _ _ _ h).t ((a_ _ _ _ _ h).t ((a_ _ _ _ _ h).t ((a_ _ _ _ _ h).t ((a_ _ _ _ _ h).t ((a_ _ _ _ _ h).t (a_ _ _ _ _ h)))))))))))))
def nc{D J O U Y Z ab ac F G H I}(h:bA w b #[T,D,z2,J,O,U,Y,Z,ab,ac,F,G,H,I] t):(af w b 0 T/\af w b 1 D/\af w b 2 z2/\af w b 3 J/\af w b 4 O/\af w b 5 U/\af w b 6 Y/\af w b 7 Z/\af w b 8 ab/\af w b 9 ac/\af w b 10 F/\af w b 11 G/\af w b 12 H/\af w b 13 I)/\w.frozen? ⟨b,0,none⟩=false/\w.frozen? ⟨b,1,none⟩=false/\w.frozen? ⟨b,2,none⟩=false/\w.frozen? ⟨b,3,none⟩=false/\w.frozen? ⟨b,4,none⟩=false/\w.frozen? ⟨b,5,none⟩=false/\w.frozen? ⟨b,6,none⟩=false/\w.frozen? ⟨b,7,none⟩=false/\w.frozen? ⟨b,8,none⟩=false/\w.frozen? ⟨b,9,none⟩=false/\w.frozen? ⟨b,10,none⟩=false/\w.frozen? ⟨b,11,none⟩=false/\w.frozen? ⟨b,12,none⟩=false/\w.frozen? ⟨b,13,none⟩=false:=⟨⟨aF h 0 rfl,aF h 1 rfl,aF h 2 rfl,aF h 3 rfl,aF h 4 rfl,aF h 5 rfl,aF h 6 rfl,aF h 7 rfl,aF h 8 rfl,aF h 9 rfl,aF h 10 rfl,aF h 11 rfl,aF h 12 rfl,aF h 13 rfl⟩,aK h 0,aK h 1,aK h 2,aK h 3,aK h 4,aK h 5,aK h 6,aK h 7,aK h 8,aK h 9,aK h 10,aK h 11,aK h 12,aK h 13⟩
def PwG(I J:List eE)(O ab ac ad T U Y Z:Nat)(G1 h D F G H:ax)(w:aa):Prop:=∃t u,jE (cJ I)=some t/\jE (cJ J)=some u/\(O=t.gr.w/\ab=t.gr.es.length/\ac=t.gr.i.length/\ad=t.gr.o.length)/\(T=u.gr.w/\U=u.gr.es.length/\Y=u.gr.i.length/\Z=u.gr.o.length)/\jV w G1 h D t.gr/\jV w F G H u.gr
def Ϭ(p:Int)(h D:List eE)(w:aa)(e:Ending)(w':aa):Prop:=∃v:aG,e=.returned (.tuple #[v,.bool (mN p h D)])/\ag w w'/\
 (mN p h D=true->∃(T ac ad ah d1 d2 d3 U Y Z ab f1 f2 f3 am an:Nat) (G1 G H I J O F E:ax),v=.agg #[(T:Nat),.slice G1 ac d1,.slice G ad d2,.slice H ah d3,(U:Nat),.slice I Y f1,.slice J Z f2,.slice O ab f3,.int .i64 (jM p h).v,.int .i64 (jM p h).h,.slice F (jM p h).rows am,.int .i64 (jM p D).v,.int .i64 (jM p D).h,.slice E (jM p D).rows an]/\cS w' F (jM p h).rows/\cS w' E (jM p D).rows/\PwG h D T ac ad ah U Y Z ab G1 G H I J O w')/\(mN p h D=false->v=.agg tV)
def zba p La Lb A B ba bb w(b9:bR 3 jK w A La)(hB:bR 3 jK w B Lb)(cc:La.length<=1048576)(ce:Lb.length<=1048576)(ca:La.length<=ba)(cb:Lb.length<=bb):az 24 (j9 p (aV A La ba) (aV B Lb bb)) w (Ϭ p La Lb w):=by
 have⟨b5,b6⟩:=bJ (fun V (bp:ag w V)=>DR p La A ba V (bQ b9 bp) cc ca) (fun V (bp:ag w V)=>DR p Lb B bb V (bQ hB bp) ce cb);refine Mg fun la Hq lb Hs=>?_
 rw[<-Hq]at b5 ⊢;rw[<-Hs]at b6 ⊢;clear b9 hB cc ce ca cb Hq Hs;have hB:=ζ w (.cells (bZ A la ba) 35) (.cells (bZ B lb bb) 35) (.cells tV 59);have⟨q0,q1,q2⟩:=cD w (.cells (bZ A la ba) 35) (.cells (bZ B lb bb) 35) (.cells tV 59);go_enter func24,ntmps24
 go_upto_region 1 with(fail)
 generalize (((w.alloc _).alloc _).alloc _)=W at hB q0 q1 q2 ⊢;have x0:=aF q0 0 rfl
 obtain⟨bq,ci,cj,b4⟩:=gG hB q1 q2 (show(w:Nat)+1+1<W from(bk.1 q2).1);clear hB q0 q1 q2;go_upto_region 2 with(go_at_call 49;(with_reducible refine(b5.o W bq.o).x ?_);intro e a4 h;unfold ğ at h;obtain⟨ad,av,D,F,G1,O,T,d1,d2,d3,S,J,ab,bn,bd,bc,hb⟩:=h;subst bn;have bh:=zH bd;have cp:=zH bc;have cn:=zH hb;clear hb bc bd)
 clear x0;have H:=(aw a4 (.cells (um ad G1 av d1 O D d2 T F d3) 54)).alloc Qt (.cells (da S J ab) 57);have an:=(bO (a4.alloc (.cells (um ad G1 av d1 O D d2 T F d3) 54)) (.cells (da S J ab) 57) (k:=a4.heap.size) Qt).t (aH a4 _ rfl);have ao:=aH (a4.alloc (.cells (um ad G1 av d1 O D d2 T F d3) 54)) (.cells (da S J ab) 57) (n:=(a4:Nat)+1) Qt;generalize (a4.alloc _).alloc _=b8 at H an ao ⊢;have⟨Mu,be⟩:=bJ H (aT cn H);have⟨b7,cq,cz,cA⟩:=gG (aT bq be) (cp.ext H (ae _)) an ao;have c9:=aF (ai ci be) 0 rfl;clear H an ao;go_upto_region 3 with(go_at_call 49;(with_reducible refine(b6.o b8 b7.o).x ?_);intro e a5 h;unfold ğ at h;obtain⟨am,ap,a7,a8,U,Y,Z,f1,f2,f3,G,E,ac,bn,bd,bc,hb⟩:=h;subst bn;have bi:=zH bd;have cr:=zH bc;have co:=zH hb;clear hb bc bd)
 clear c9;have H:=(aw a5 (.cells (um am U ap f1 Y a7 f2 Z a8 f3) 54)).alloc Qt (.cells (da G E ac) 57);have an:=(bO (a5.alloc (.cells (um am U ap f1 Y a7 f2 Z a8 f3) 54)) (.cells (da G E ac) 57) (k:=a5.heap.size) Qt).t (aH a5 _ rfl);have ao:=aH (a5.alloc (.cells (um am U ap f1 Y a7 f2 Z a8 f3) 54)) (.cells (da G E ac) 57) (n:=(a5:Nat)+1) Qt;generalize (a5.alloc _).alloc _=db at H an ao ⊢;have⟨a6,ck⟩:=bJ (aT co H) H;have⟨HYF,cu,ct,HAK⟩:=gG (aT b7 a6) (cr.ext H (ae _)) (cq.ext a6 TA) (ai (ai cj be) a6);have⟨a0,a1,a2,a3⟩:=aB (ai cz a6);obtain⟨c0,c1,c2⟩:=aD (ai cA a6);have⟨b0,b1,b2,b3⟩:=aB an;have⟨e0,e1,e2⟩:=aD ao;have⟨⟨r0,r1,r2,r3,r4,r5,r6,r7,r8,r9,r10,r11,r12,r13⟩,dc,dl,d0,d4,d5,d6,d7,d8,d9,ea,dq,dr,dO,dT⟩:=nc HAK;have a9:=zH (show mN p La Lb=(qf p La&&(qf p Lb&&(decide (D=a7)&&decide (F=a8)))) from by
  unfold mN;cases ha:qf p La
  .rfl
  cases hb:qf p Lb
  .rfl
  obtain⟨t,ah,cV,cW,-⟩:=bh ha;obtain⟨ee,c7,c3,c4,-⟩:=bi hb;unfold tyB;rw[ah,c7,cV,cW,c3,c4])
 obtain⟨cB,cF,bv⟩:=er (fun(h:qf p La=true)=>(show S=jM p La from by obtain⟨t,ah,-,-,g,-⟩:=bh h;rw[g,sG ah])) (fun(h:qf p Lb=true)=>(show G=jM p Lb from by obtain⟨t,ah,-,-,g,-⟩:=bi h;rw[g,sG ah])) (show(w:Nat)+1+1<W from b4.o);have ch:=be.size;have bz:=zH (show(w:Nat)+1+1<b8 from gm b4 ch);clear H an ao ch;cases ha:qf p La
 .have HT:=zH (by rw[a9.o,ha];rfl:mN p La Lb=false);clear ha;exact ZP
 cases hb:qf p Lb
 .have HT:=zH (by rw[a9.o,ha,hb];rfl:mN p La Lb=false);exact ZR
 have⟨br,bu⟩:=bJ ha hb;by_cases I:D=a7
 rotate_left
 .have HT:=zH (by rw[a9.o,ha,hb];simp[I]:mN p La Lb=false);have bg:¬(D:Int)=(a7:Int):=Qu;exact ZR
 by_cases bg:F=a8
 rotate_left
 .have HT:=zH (by rw[a9.o,ha,hb];simp[bg]:mN p La Lb=false);have eb:¬(F:Int)=(a8:Int):=Qu;clear ha hb;subst I;exact ZP
 .have HT:=zH (by rw[a9.o,ha,hb];simp[I,bg]:mN p La Lb=true);clear ha hb;subst I bg;go_wp2;have y:=pn (v0:=.int .i64 (ad:Nat)) (v1:=.slice G1 av d1) (v2:=.slice O D d2) (v3:=.slice T F d3) (v4:=.int .i64 (am:Nat)) (v5:=.slice U ap f1) (v6:=.slice Y D f2) (v7:=.slice Z F f3) (v8:=.int .i64 S.v) (v9:=.int .i64 S.h) (v10:=.slice J S.rows ab) (v11:=.int .i64 G.v) (v12:=.int .i64 G.h) (v13:=.slice E G.rows ac) HAK;obtain⟨⟨u0,u1,u2,u3,u4,u5,u6,u7,u8,u9,u10,u11,u12,u13⟩,-⟩:=nc y;unfold zW at u0 u1 u2 u3 u4 u5 u6 u7 u8 u9 u10 u11 u12 u13;clear y r0 r1 r2 r3 r4 r5 r6 r7 r8 r9 r10 r11 r12 r13 a0 a1 a2 a3 b0 b1 b2 b3 c0 c1 c2 e0 e1 e2;refine aI (v:=.tuple (fH (lS ad G1 av d1 O D d2 T F d3 am U ap f1 Y D f2 Z F f3 S.v S.h J S.rows ab G.v G.h E G.rows ac))) (by simp[results,results24,go_sem, *]) rfl ⟨_,by rw[HT.o],pq HYF (b:=(w:Nat)+1+1) Qu (zI (ad:Nat)) (.slice G1 av d1) (.slice O D d2) (.slice T F d3) (zI (am:Nat)) (.slice U ap f1) (.slice Y D f2) (.slice Z F f3) (zI S.v) (zI S.h) (.slice J S.rows ab) (zI G.v) (zI G.h) (.slice E G.rows ac),fun h=>?_,fun h=>by rw[HT.o]at h;cases h⟩;rw[<-cB.o br,<-cF.o bu];refine⟨ad,av,D,F,d1,d2,d3,am,ap,D,F,f1,f2,f3,ab,ac,G1,O,T,U,Y,Z,J,E,rfl,?_,?_,?_⟩
  .exact ct _ fun k bo I=>tS (by have:=bv.o;omega)
  .exact cu _ fun k bo I=>tS (by have:=bz.o;omega)
  .obtain⟨t,ah,e2,cI,-,e0,e1,c5⟩:=bh br;obtain⟨u,c8,cO,cR,-,f0,cK,c6⟩:=bi bu;exact⟨t,u,ah,c8,⟨e0,e1,e2,cI⟩,⟨f0,cK,cO,cR⟩,((c5.ext Mu (ae _)).ext a6 TA) _ fun k bo I=>tS (by have:=bv.o;omega),(c6.ext ck (ae _)) _ fun k bo I=>tS (by have:=bz.o;omega)⟩
def ϋ(p:Int)(g D:Gr)(n:Nat)(F:Int)(X h W:aL):Bool:=decide (n=0)&&(if F=1 then â p g (D.qw p) X h W else if F=2 then â p D (g.qw p) X h W else false)
def zbx p g h H X D W G d1 d2 d3 f1 f2 f3 cs ah am an a4 a5 av a2 a0 ap a3 a1 G1 T U Y Z ab A B ad I J O w(b2:bV p=true)(ba:jV w G1 T U g)(bb:jV w Y Z ab h)(bg:g.B=true)(bh:h.B=true)(bi:∀e∈g.es,0<=e.v/\e.v<p)(bn:∀e∈h.es,0<=e.v/\e.v<p)(bv:Ð p g=true)(bz:Ð p h=true)(a7:g.i.length=h.i/\g.o.length=h.o)(bd:aO w I X)(be:aO w J D)(bc:aO w O W)(bp:X.length<=1048576)(bq:D.length<=1048576)(bo:W.length<=1048576):az 25 #[p,.agg (lS g.w G1 g.es d1 T g.i d2 U g.o d3 h.w Y h.es f1 Z h.i f2 ab h.o f3 a0 ap A av a4 a3 a1 B a2 a5),.agg (CT ad G cs H I X ah J D am O W an)] w (dt w (ϋ p g h G H X D W)):=by
 have⟨a8,a9⟩:=bJ (fun V (F:ag w V)=>Fe p g h false H X D W G d1 d2 d3 f1 f2 f3 cs ah am an G1 T U Y Z ab ad I J O V b2 (ba.ext F) (bb.ext F) bg bh bi bn bz a7 (bd.ext F) (be.ext F) (bc.ext F) bp bq bo) (fun V (F:ag w V)=>Fe p h g false H X D W G f1 f2 f3 d1 d2 d3 cs ah am an Y Z ab G1 T U ad I J O V b2 (bb.ext F) (ba.ext F) bh bg bn bi bv ⟨a7.1.q,a7.2.q⟩ (bd.ext F) (be.ext F) (bc.ext F) bp bq bo);unfold ϋ;have a6:=((al w w).alloc (ae _) (.cells (lS g.w G1 g.es d1 T g.i d2 U g.o d3 h.w Y h.es f1 Z h.i f2 ab h.o f3 a0 ap A av a4 a3 a1 B a2 a5) 59)).alloc Qt (.cells (CT ad G cs H I X ah J D am O W an) 39);have hq:=(bO (w.alloc (.cells (lS g.w G1 g.es d1 T g.i d2 U g.o d3 h.w Y h.es f1 Z h.i f2 ab h.o f3 a0 ap A av a4 a3 a1 B a2 a5) 59)) (.cells (CT ad G cs H I X ah J D am O W an) 39) (k:=w.heap.size) Qt).t (aH w _ rfl);have hr:=aH (w.alloc (.cells (lS g.w G1 g.es d1 T g.i d2 U g.o d3 h.w Y h.es f1 Z h.i f2 ab h.o f3 a0 ap A av a4 a3 a1 B a2 a5) 59)) (.cells (CT ad G cs H I X ah J D am O W an) 39) (n:=(w:Nat)+1) Qt;clear ba bb bg bh bi bn bv bz a7 bd be bc bp bq bo;have⟨cc,b4⟩:=aR X.length;have⟨ce,b5⟩:=aR D.length;have⟨cb,b3⟩:=aR W.length;rw[<-b4,<-b5,<-b3]at a8 a9 a6 hq hr ⊢;have⟨b8,b0⟩:=aR (â p g (h.qw p) X D W);have⟨b9,b1⟩:=aR (â p h (g.qw p) X D W);rw[<-b0]at a8 ⊢;rw[<-b1]at a9 ⊢;clear b4 b5 b3 b0 b1;go_enter func25,ntmps25
 go_upto_region 1 with(fail)
 generalize (w.alloc _).alloc _=b7 at a6 hq hr ⊢;refine Oa fun x0 x1 x2 x3 x4 x5=>?_
 refine OQ fun y0 y1 y2 y3 y4 y5=>?_
 have ch:=aF hq 6 rfl;have ci:=aF hq 7 rfl;have ac:=zH a6;clear a6 hq hr;by_cases h1:G=0
 rotate_left
 .have ca:(0:Int)<G:=Qu;go_wp2_with (fail)
  all_goals go_ret
  all_goals exact⟨aN QP,ac⟩
 subst h1;by_cases br:H=1
 .subst br;go_wp2_with (go_at_call 50;(with_reducible refine(a8.o _ ac.o).x ?_);rintro e b6 ⟨rfl,ao⟩;have FV:=zH (aT ac ao);clear ao)
  exact Wf
 by_cases bu:H=2
 .subst bu;go_wp2_with (go_at_call 50;(with_reducible refine(a9.o _ ac.o).x ?_);rintro e b6 ⟨rfl,ao⟩;have FV:=zH (aT ac ao);clear ao)
  exact Wf
 go_wp2_with (fail)
 go_ret
 exact⟨aN (by simp[br,bu]),ac⟩
def grT(L:List eE):Gr:=match jE (cJ L)with|some t=>t.gr|none=>⟨0,[],[],[]⟩
def yV{t}(h:jE (cJ L)=some t):grT L=t.gr:=by unfold grT;rw[h]
def î(p:Int)(h D:List eE)(x:zS):Bool:=if x.e=true then rgB p (jM p h) (jM p D) x.xs x.sd x.x3 x.x4 x.x5 else ϋ p (grT h) (grT D) x.xs x.sd x.x3 x.x4 x.x5
def kW{D F}(h:mN p D F=true):(jM p D).Ok p/\(jM p F).Ok p:=by unfold mN at h;simp only[bN]at h;exact⟨ziE h.1,ziE h.2.1⟩
def sN{s:Sy}(D:s.Ok p):s.rows.length<=1048576/\∀r∈s.rows,r.length<=1048576:=by have h:=mY.2 D;unfold ic eU vH jX at h;simp only[bN,cf,eD]at h;exact⟨Qu,fun r F=>by have:=(h.2.2.2.2 r F).1;omega⟩
def Ŷ{t}(h:qf p L=true)(F:jE (cJ L)=some t):Ð p t.gr=true:=by
 cases D:tgB p L
 .rw[ziD D]at h;cases h
 .have:=ŭ F D;rw[h]at this;exact(by simpa using this.q:t.pM=true/\Ð p t.gr=true).2
def yW p h D x a(Y:mN p h D=true)ao a6 a7 a8 d1 d2 d3 a2 a3 a4 a5 f1 f2 f3 ad ah G1 G H I J O F E w(a9:bt w F (jM p h).rows)(ba:bt w E (jM p D).rows)(bb:PwG h D ao a6 a7 a8 a2 a3 a4 a5 G1 G H I J O w)(ac:pO w a x)(T:vR 1048576 x):az 25 #[p,.agg #[(ao:Nat),.slice G1 a6 d1,.slice G a7 d2,.slice H a8 d3,(a2:Nat),.slice I a3 f1,.slice J a4 f2,.slice O a5 f3,.int .i64 (jM p h).v,.int .i64 (jM p h).h,.slice F (jM p h).rows ad,.int .i64 (jM p D).v,.int .i64 (jM p D).h,.slice E (jM p D).rows ah],.agg (dy x a)] w (dt w (î p h D x)):=by
 obtain⟨t,u,U,ab,⟨rfl,rfl,rfl,rfl⟩,⟨rfl,rfl,rfl,rfl⟩,bc,bd⟩:=bb;have am:=Y;unfold mN at am;simp only[bN]at am;obtain⟨ap,av,Z⟩:=am;unfold î;cases be:x.e
 .rw[aj Qt];have⟨bg,a0,g⟩:=oc ap;rw[U]at a0;cases a0
  have⟨bh,a1,an⟩:=oc av;rw[ab]at a1;cases a1
  unfold tyB at Z;rw[U,ab]at Z;simp only[bN,cf]at Z;rw[yV U,yV ab];exact zbx p t.gr u.gr x.sd x.x3 x.x4 x.x5 x.xs d1 d2 d3 f1 f2 f3 a.c a.c3 a.c4 a.c5 ad ah _ _ _ _ _ _ G1 G H I J O F E a.A a.A3 a.A4 a.A5 w g.f bc bd g.ok an.ok g.val an.val (Ŷ ap U) (Ŷ av ab) Z ac.i3 ac.i4 ac.i5 T.i3 T.i4 T.i5
 .rw[ak rfl];exact zc6 p (jM p h) (jM p D) x.xs x.sd t.gr.w u.gr.w t.gr.es t.gr.i t.gr.o d1 d2 d3 u.gr.es u.gr.i u.gr.o f1 f2 f3 ad ah x.x3 x.x4 x.x5 a.c a.c3 a.c4 a.c5 G1 G H I J O F E a.A a.A3 a.A4 a.A5 w a9 ac.s ba (kW Y).1 T.ss (sN (kW Y).2).1 (sN (kW Y).2).2
def PwG.ext{I O}{ac ad ah U Y Z ab}{G1 h D F G H}(am:PwG I O J ac ad ah U Y Z ab G1 h D F G H w)(T:ag w w'):PwG I O J ac ad ah U Y Z ab G1 h D F G H w':=by obtain⟨t,u,a,b,c,d,e,f⟩:=am;exact⟨t,u,a,b,c,d,e.ext T,f.ext T⟩
abbrev Ω(p:Int)(h D:List eE):Sy:=kK (jM p h) (jM p D)
def miB(p:Int)(h D:List eE):Bool:=mN p h D&&msB p (jM p h) (jM p D)
def ciV(p:Int)(h D:List eE)(x:zS):Bool:=if x.e=true then Û x.sd x.x3 x.x4 x.x5&&(decide (x.xs.length<=3000)&&Ó p (jM p h) x.xs (Ω p h D)) else decide (x.sd=1)&&î p h D x
def ciB(p:Int)(h D:List eE)(x:zS):Bool:=miB p h D&&ciV p h D x
def Ŧ{h D}(F:mN p h D=true):(jM p D).v=(jM p h).v/\msB p (jM p h) (jM p D)=ic p (Ω p h D).v (Ω p h D).h (Ω p h D).rows:=by
 have⟨O,T⟩:=kW F;have J:(jM p h).v=(jM p D).v:=by unfold mN tyB at F;simp only[bN]at F;obtain⟨t,H,-⟩:=oc F.1;obtain⟨u,I,-⟩:=oc F.2.1;have G:=F.2.2;rw[H,I]at G;simp only[bN,cf]at G;rw[sG H,sG I];unfold Gr.N Gr.f_;dsimp only;rw[G.1,G.2]
 refine⟨J.q,?_⟩;unfold msB Ω;rw[mY.2 O,mY.2 T,fT J];rfl
def CR{h D}(F:mN p h D=true):(Ω p h D).rows.length<=1048576/\∀r∈(Ω p h D).rows,r.length<=1048576:=by have⟨H,I⟩:=kW F;have:=ŕ H I;exact⟨by unfold Ω;omega,fun r G=>by have:=this.2 r G;omega⟩
def Ϭ.zlS{D F}{e}(h:Ϭ p D F w e w'):∃(Y am an ao d1 d2 d3 ab ac ad ah f1 f2 f3 ap av:Nat) (G1 I J O T U H E:ax) (S G:Sy),e=.returned (.tuple (ka (lS Y G1 am d1 I an d2 J ao d3 ab O ac f1 T ad f2 U ah f3 S.v S.h H S.rows ap G.v G.h E G.rows av) (mN p D F)))/\ag w w'/\(cS w' H S.rows/\cS w' E G.rows)/\((S.rows.length<=1048576/\∀r∈S.rows,r.length<=1048576)/\G.rows.length<=1048576/\∀r∈G.rows,r.length<=1048576)/\(mN p D F=true->S=jM p D/\G=jM p F/\PwG D F Y am an ao ab ac ad ah G1 I J O T U w'):=by
 obtain⟨v,rfl,a0,a4,a5⟩:=h;cases Z:mN p D F
 .rw[a5 Z];exact⟨0,0,0,0,0,0,0,0,0,0,0,0,0,0,0,0,none,none,none,none,none,none,none,none,⟨0,0,[]⟩,⟨0,0,[]⟩,rfl,a0,⟨ay rfl,ay rfl⟩,⟨⟨Qt,fun r h=>Qy⟩,Qt,fun r h=>Qy⟩,fun h=>Qy⟩
 .obtain⟨Y,am,an,ao,d1,d2,d3,ab,ac,ad,ah,f1,f2,f3,ap,av,G1,I,J,O,T,U,H,E,rfl,a1,a2,a3⟩:=a4 Z;exact⟨Y,am,an,ao,d1,d2,d3,ab,ac,ad,ah,f1,f2,f3,ap,av,G1,I,J,O,T,U,H,E,jM p D,jM p F,rfl,a0,⟨a1,a2⟩,⟨sN (kW Z).1,sN (kW Z).2⟩,fun _=>⟨rfl,rfl,a3⟩⟩
def zbM p La Lb A B ca cb x a w(bg:bR 3 jK w A La)(hB:bR 3 jK w B Lb)(bp:La.length<=1048576)(bq:Lb.length<=1048576)(bh:La.length<=ca)(bi:Lb.length<=cb)(a2:pO w a x)(a0:vR 1048576 x):az 14 (kz p (aV A La ca) (aV B Lb cb) (dy x a)) w fun e w'=>e=.returned (.tuple (mw (ciB p La Lb x) (miB p La Lb)))/\ag w w':=by
 have⟨H5,Jk,Pm,Pb⟩:=gG (fun V (G:ag w V)=>zba p La Lb A B ca cb V (bQ bg G) (bQ hB G) bp bq bh bi) (fun(D:mN p La Lb=true) cK c7 c8 c9 d1 d2 d3 c3 c4 c5 c6 f1 f2 f3 cB cF G1 cc ce ch ci cj ad E V (G:ag w V) cV cW c0=>yW p La Lb x a D cK c7 c8 c9 d1 d2 d3 c3 c4 c5 c6 f1 f2 f3 cB cF G1 cc ce ch ci cj ad E V cV cW c0 (a2.ext G) a0) (fun V=>BS x.e x.sd x.xs x.x3 x.x4 x.x5 a.c a.c3 a.c4 a.c5 a.A a.A3 a.A4 a.A5 V) (fun(D:mN p La Lb=true) (a1:x.xs.length<=3000) ad c a9 d V (G:ag w V) (h1:bt V ad (jM p La).rows) (cO:bt V a9 (Ω p La Lb).rows)=>zO p (jM p La) ad c x.xs a.A a.c (Ω p La Lb) a9 d V h1 (a2.ext G).s cO (kW D).1 a1 a0.ss (CR D).1 (CR D).2);refine PB fun la Hq lb H5 Hs ve Jh lx Jn sd Ph n3 Jm n4 Jg n5 Pm Ji vr Jk Jl ld Pj Pb Pn=>?_
 clear bg hB bp bq bh bi a2 a0 Hq Hs Jh Jn Ph Jm Jg Ji Jl Pn;refine N_ fun hB q0 q1 q2=>?_
 go_enter func14,ntmps14
 go_upto_region 1 with(fail)
 generalize ((w.alloc _).alloc _).alloc _=W at hB q0 q1 q2 ⊢;have x0:=aF q0 0 rfl;have x1:=aF q1 0 rfl;have⟨HB,Q2⟩:=bJ hB q2;clear hB q0 q1 q2
 go_upto_region 2 with(go_at_call 24;(with_reducible refine(H5.o W HB.o).x ?_);intro e w2 Z;have⟨PU,PC,Pt,PY,d11,Ρ,Ο,Gq,Px,PV,PD,f11,f12,f13,Pq,Pv,PE,PO,PH,Po,PM,PW,D1,E1,S1,T1,ap,h,br,bn,T⟩:=Ϭ.zlS Z;subst ap;have Y:=zH br;have U:=zH bn;have ba:=zH T;have FV:=zH h;clear h br bn T Z)
 have⟨Gm,G4⟩:=bM w2 (.cells (lS PU PE PC d11 PO Pt Ρ PH PY Ο Gq Po Px f11 PM PV f12 PW PD f13 S1.v S1.h D1 S1.rows Pq T1.v T1.h E1 T1.rows Pv) 59);generalize w2.alloc _=V2 at Gm G4 ⊢;have Hk:=zH (aT FV.o Gm);clear x0 x1
 have⟨cu,an,cz,bb⟩:=gG (aT HB Hk) Gm G4 (zde p S1 T1 D1 E1 Pq Pv V2 (Y.1.at.ext Gm) (Y.2.ext Gm) U.1.1 U.1.2 U.2.1 U.2.2);obtain⟨⟨b0,b1,z2,b5,b6,b7,b8,b9,a6,a7,a5,b2,b3,b4⟩,-⟩:=nc G4;clear Gm G4 U;go_upto_region 3 with(go_at_call 34;(with_reducible refine bb.o.x ?_);intro e bz Z;unfold Ė at Z;obtain⟨v5,cR,a8,d5,db,ap,bo,h⟩:=Z;subst ap;have bc:=zH bo;have cn:=zH h;clear h bo)
 clear b0 b1 z2 b5 b6 b7 b8 b9 a6 a7 a5 b2 b3 b4;have⟨Gm,a3⟩:=bM bz (.cells (eO v5 cR a8 db d5) 57);generalize bz.alloc _=O at Gm a3 ⊢;have J:=zH (aT cn Gm);have⟨F,ck,cA⟩:=er (aT cu J.o) Gm a3;have bv:=ai cz J.o;obtain⟨be,ao⟩:=bJ bv (show bt O D1 S1.rows/\bt O E1 T1.rows from⟨(Y.1.at.ext an).ext J.o,(Y.2.at.ext an).ext J.o⟩);clear Gm a3 bv;cases D:mN p La Lb
 .have Jj:=zH D;clear D;go_wp2_with (fail)
  exact aI (v:=.tuple wX) TF rfl ⟨(by rw[Jj.o];rfl),F⟩
 have Jj:=zH D;obtain⟨rfl,rfl,T⟩:=ba D;have bd:=zH (T.ext an);have cr:=zH (bd.ext J.o);cases ab:msB p (jM p La) (jM p Lb)
 .have I:=zH ab;clear D T ab;go_wp2_with (fail)
  exact aI (v:=.tuple wX) TF rfl ⟨by rw[Jj.o,I.o];rfl,F⟩
 have I:=zH ab;obtain⟨rfl,rfl,rfl,bu⟩:=bc ab;have⟨cq,cp⟩:=bJ (Jk D PU PC Pt PY d11 Ρ Ο Gq Px PV PD f11 f12 f13 Pq Pv PE PO PH Po PM PW D1 E1 O F ao.1 ao.2 cr) (fun a1 V G=>Pb D a1 D1 Pq a8 d5 V (F.t ((G:ag O V).x F.size)) (ao.1.ext G) ((bu.ext ck).ext G));have hq:=ai (ai Q2 Hk) J.o;have dc:=zH hq;refine OQ fun y0 y1 y2 y3 y4 y5=>?_
 clear hq D T ab bu Jk Pb bc ba bb Y bd;cases ve
 .by_cases h1:sd=1
  rotate_left
  .have cI:decide (sd=1)=false:=QP;have dl:(sd==1)=false:=QP;go_wp2_with (fail)
   exact aI (v:=.tuple uo) TF rfl ⟨by rw[Jj.o,I.o,Pj.o,cI];rfl,F⟩
  subst h1;obtain⟨⟨b0,b1,z2,b5,b6,b7,b8,b9,a6,a7,a5,b2,b3,b4⟩,-⟩:=nc be;go_wp2_with (go_at_call 25;(with_reducible refine cq.o.x ?_);rintro e a4 ⟨rfl,h⟩;have H:=zH (aT F h);clear h)
  exact aI (v:=.tuple (rM vr)) TF rfl ⟨by rw[Jj.o,I.o,Pj.o];rfl,H⟩
 cases ac:Û sd n3 n4 n5
 .have ah:=zH (Calls.bl (Pm O) ac);go_wp2_with (go_at_call 35;(with_reducible refine ah.o.x ?_);rintro e a4 ⟨rfl,h⟩;have H:=zH (aT F h);clear h)
  exact aI (v:=.tuple uo) TF rfl ⟨by rw[Jj.o,I.o,Pj.o,ac];rfl,H⟩
 have ah:=zH (Calls.bl (Pm O) ac);by_cases av:lx<=3000
 rotate_left
 .go_wp2_with (go_at_call 35;(with_reducible refine ah.o.x ?_);rintro e a4 ⟨rfl,h⟩;have y1:=ar h y1;have H:=zH (aT F h);clear h)
  exact aI (v:=.tuple uo) TF rfl ⟨by rw[Jj.o,I.o,Pj.o,ac,fR av];rfl,H⟩
 go_wp2_with (first|(go_at_call 35;(with_reducible refine ah.o.x ?_);rintro e a4 ⟨rfl,h⟩;have y1:=ar h y1;have⟨dq,dr,dO⟩:=aD (ai cA h);have am:=ai be h;have a6:=aF am 8 rfl;have a7:=aF am 9 rfl;have a5:=aF am 10 rfl;have ct:=zH h;have H:=zH (aT F h);clear h am)|(go_at_call 36;(with_reducible refine(cp.o av _ ct.o).x ?_);rintro e dT ⟨rfl,h⟩;have co:=zH (aT H h);clear h))
 exact aI (v:=.tuple (rM ld)) TF rfl ⟨by rw[Jj.o,I.o,Pj.o,ac,fT av];rfl,co⟩
attribute [local go_sem] Oper.semAt_some
def Fs(p:Int)h D F z2 G w(H:h=.agg #[D,F,z2,G]):az 134 #[h,p] w fun e w'=>e=.returned (.func (.func 188) #[] #[.pointer (bH w),.pointer (some ⟨(w:Nat)+1,0,none⟩)])/\w'=(w.alloc (.cells #[D,F,z2,G] 54)).alloc (.cells (bK p) 3):=by
 subst H;go_enter func134,ntmps134
 go_wp2;go_ret
 exact⟨rfl,rfl⟩
def ziV(w:aa)h D F G H:Below w w (((((w.alloc h).alloc D).alloc F).alloc G).alloc H)/\(((((w.alloc h).alloc D).alloc F).alloc G).alloc H).heap[w.heap.size]?=some h/\(((((w.alloc h).alloc D).alloc F).alloc G).alloc H).heap[(w:Nat)+1]?=some D/\(((((w.alloc h).alloc D).alloc F).alloc G).alloc H).heap[(w:Nat)+1+1]?=some F/\(((((w.alloc h).alloc D).alloc F).alloc G).alloc H).heap[(w:Nat)+1+1+1]?=some G/\(((((w.alloc h).alloc D).alloc F).alloc G).alloc H).heap[(w:Nat)+1+1+1+1]?=some H:=by have ab:=ζ w h D F;have⟨O,T,U⟩:=cD w h D F;have Y:=aH ((((w.alloc h).alloc D).alloc F).alloc G) H (n:=(w:Nat)+1+1+1+1) Qt;have Z:=aH (((w.alloc h).alloc D).alloc F) G (n:=(w:Nat)+1+1+1) Qt;have J:=aw (((w.alloc h).alloc D).alloc F) G;have I:=aw ((((w.alloc h).alloc D).alloc F).alloc G) H;exact⟨aJ ab (aJ J I),ai O (aJ J I),ai T (aJ J I),ai U (aJ J I),ai Z I,Y⟩
def ziW{g}{ps}{assign body}{gf:Nat}{lb}(H:a.eval g=.func (.func gf) #[] lb)(G:∀args w,(callFunc gf args).run P w=.ok (.enter gf args) w)(h:∀fn,Calls P gf (#[.func (.yield ((w:Nat)+1)) #[] #[]]++lb) ((w.alloc (.deferred (some []))).alloc (.loop {state:=.ready,pending:=none,fn:=fn,tmps:=a.tmps,params:=ps,assign:=assign,body:=body,defers:=w.heap.size})) (rangePost Fence.wide 3 P ((w:Nat)+1) Q {a with defers:={target:=.collected w,args:=#[]}::a.defers})):(Code.rangeFunc g ps assign body).wp P Q a w:=by
 refine(wpIn_wide (n:=3)).1 (wpIn_rangeFunc fun fn _=>?_);obtain⟨D,F⟩:∃D,D=(w.alloc (.deferred (some []))).alloc (.loop {state:=.ready,pending:=none,fn:=fn,tmps:=a.tmps,params:=ps,assign:=assign,body:=body,defers:=w.heap.size}):=⟨_,rfl⟩;have h:=h fn;rw[<-F]at h;refine⟨(w:Nat)+1,[{target:=.collected w,args:=#[]}],D,{target:=.fn (.func gf) lb,args:=#[.func (.yield ((w:Nat)+1)) #[] #[]]},D,gf,#[.func (.yield ((w:Nat)+1)) #[] #[]]++lb,D,?_,?_,fun _ _=>trivial,?_,?_,?_⟩
 .rw[F];exact run_enterLoop_outer _ _ _ _ _
 .simp only[resolve,H];simp[go_sem]
 .simp[invoke,go_sem,G]
 .intro h;cases h
 .exact callsIn_wide.2 h
def zg9 p g V A1 J O ac c1 c2 c3 ap w(cF:bV p=true)(ct:dZ w)(b2:jV w A1 J O g)(bg:g.B=true)(cV:g.pf p)(c5:stG p g=true)(b3:aO w ac V)(an:jX p V (g.w:Nat)=true):az 90 #[p,.agg (bj g A1 c1 J c2 O c3),.slice ac g.w ap] w fun e w'=>e=.returned (.tuple (rM (ç p g V)))/\ag w w':=by
 have⟨eo,es⟩:=cv cF;have cW:=Gr.iT.1 bg;have e9:g.w<=100:=cW.1;have b7:V.length=g.w:=by unfold jX at an;simp at an;omega
 obtain⟨d0,cn,co,ck⟩:=gG (show ∀x∈V,0<=x/\x<p from fun x av=>by unfold jX at an;rw[bN]at an;have:=eD.1 an.2 x av;unfold jY at this;simpa using this) (fun T (bc:ag w T)=>Calls.bl (Fo p g A1 J O c1 c2 c3 T (ct.ext bc) (b2.ext bc) bg) c5) (fun T (bc:ag w T)=>(by have:=Calls.cg (jO p (g.w:Nat) ac ap V T (b3.ext bc) SL) an;rw[b7]at this;exact this:az 88 #[p,.slice ac g.w ap,(g.w:Nat)] T fun e w'=>e=.returned (.bool true)/\T=w')) (fun T=>Fs p (.agg (bj g A1 c1 J c2 O c3)) _ _ _ _ T rfl);refine(callsIn_wide (n:=3)).1 ?_;refine callsIn_of_wp_marks func90 rfl trivial ?_ rfl;simp only[ntmps90,l5,jT,iN,Nat.reduceAdd,Nat.reduceSub,Array.replicate_succ,Array.replicate_zero,List.push_toArray,List.append_toArray,rP,wZ];refine(wpIn_wide (n:=3)).2 ?_;have⟨bz,bi,bn,bo,Z,ab⟩:=ziV w (.cells (bK p) 3) (.cells (bj g A1 c1 J c2 O c3) 54) (.cells #[.slice ac g.w ap] 26) (.cells #[.bool false] 4) (.cells #[.bool false] 4);go_upto_region 1 with(fail)
 generalize ((((w.alloc _).alloc _).alloc _).alloc _).alloc _=W at bz bi bn bo Z ab ⊢;have ce:=aF bi 0 rfl;have ch:=aF bo 0 rfl;have⟨e1,e2,e3,e4⟩:=aB bn;have⟨ci,d3,d4,d5,ba,a1,d1,dr,dT,dq,bu⟩:=ũ bz bi bn bo Z ab b3 b2 cV bg b7;go_wp2_with (first|(go_at_call 133;(with_reducible refine(cn.o W ci.o).x ?_);rintro e I ⟨rfl,G⟩;have e5:=ar G ce;have z2:=ar G ch;have⟨ev,ey,ez,eA⟩:=aB (ai d4 G);have d2:=zH G;have a0:=zH (aT ci G))|(go_at_call 88;(with_reducible refine(co.o _ a0.o).x ?_);rintro e fb ⟨rfl,rfl⟩)|(go_at_call 134;(with_reducible refine(ck.o _).x ?_);rintro e fc ⟨rfl,rfl⟩))
 have bd:=(aw I (.cells (bj g A1 c1 J c2 O c3) 54)).alloc Qt (.cells (bK p) 3);have b8:=(bO (I.alloc (.cells (bj g A1 c1 J c2 O c3) 54)) (.cells (bK p) 3) (k:=I.heap.size) Qt).t (aH I _ rfl);have b9:=aH (I.alloc (.cells (bj g A1 c1 J c2 O c3) 54)) (.cells (bK p) 3) (n:=(I:Nat)+1) Qt;generalize (I.alloc _).alloc _=h at bd b8 b9 ⊢;have⟨ea,eb,ao,H⟩:=gG b8 b9 (aT a0 bd) (aT d2 bd);have Gn:=zH (show(w:Nat)+1+1+1+1<h from gm (bk.1 a1).1 H.size);generalize b0:Code.region 4 _ _=e6;generalize b1:Code.block 1 _=e7;refine ziW (gf:=188) (lb:=#[.pointer (bH I),.pointer (some ⟨(I:Nat)+1,0,none⟩)]) rfl (enters_of func188 QT rfl) (fun fn=>?_);generalize a7:(Loop.mk _ _ _ _ _ _ _ _)=a8;have cp:=zH (show Below h h ((h.alloc (.deferred (some []))).alloc (.loop a8)) from(((al _ h).alloc (ae _) _).alloc Qt _));refine(zeT p g (fun row=>decide (Bz p row V g.w=0)) A1 J O c1 c2 c3 h _ ((h:Nat)+1) I ((I:Nat)+1) (fun W=>W.heap[(h:Nat)+1]?=some (.loop a8)/\W.heap[h.heap.size]?=some (.deferred (some []))/\ag h W)
  (fun W=>W.heap[(h:Nat)+1]?=some (.loop {a8 with state:=.done,pending:=some .ret})/\W.heap[h.heap.size]?=some (.deferred (some []))/\ag w W/\af W ((w:Nat)+1+1+1) 0 (.bool false)/\af W ((w:Nat)+1+1+1+1) 0 (.bool true))
  cF (dr.ext ao) dq dT ea eb (qe _) Qt cp ?_ ?_ ?_).x ?_
 .rintro X e8 ⟨bv,cr,eg⟩ G;exact⟨ai bv G,ai cr G,aT eg G⟩
 .exact⟨aH _ _ Qt,(bO _ _ Qt).t (aH _ _ rfl),cp⟩
 .rintro row A ε ad ⟨a6,cA,cu⟩ G Gb cB cR em;have c7:=run_yield (P:=prog) (args:=#[.slice A g.w ε]) a6 (by rw[<-a7];rfl);obtain⟨D,ah⟩:∃D,D=ad.putObj ((h:Nat)+1) (.loop {a8 with state:=.busy}):=⟨_,rfl⟩;have cI:ad.grownBy D (some ((h:Nat)+1)):=by rw[ah];exact grownBy_putObj' _ _ _
  have c0:∀r,some ((h:Nat)+1)=some r->∃o:Obj,ad.heap[r]?=some o/\o.isCells=false:=fun r e=>by cases e;exact⟨_,a6,rfl⟩
  have b4:Below h ad D:=by rw[ah];exact uJ (w:=h) (ae _) ad _ _ _ (qe _) a6 rfl rfl
  have F:=cu.t b4;have cO:aO D A row:=cR.E id fun⟨b,o,e,ei⟩=>⟨b,o,e,fun k x a5=>cell_kept (ei k x a5) cI c0⟩
  have U:D.heap[(h:Nat)+1]?=some (.loop {a8 with state:=.busy}):=by rw[ah];exact Ē em
  have am:D.heap[h.heap.size]?=some (.deferred (some [])):=by rw[ah];exact(kF Qu).t cA
  have cK:∀k,(h:Nat)+1<k->D.heap[k]?=ad.heap[k]?:=fun k a5=>by rw[ah];exact kF Qu
  have dc:=zH (by rw[ah];exact run_beginRound a6 (by rw[<-a7]):(Instr.beginRound ((h:Nat)+1)).run prog ad=.ok () D);have bp:=zH (by
   have:=zkl p A ac ε ap row V D cO ((d1.ext ao).ext F) eo es RN (by rw[Gb,bu.o];exact ae _) (by rw[bu.o];omega) cB d0;rw[Gb,bu.o]at this;exact this:az 135 (wY p A g.w ε ac g.w ap) D fun e w'=>e=.returned (zI (Ξ row V g.w%p))/\D=w')
  have bq:=zH (show Bz p row V g.w=Ξ row V g.w%p from rfl);have ce:=aF (ai (ai d3 H) F) 0 rfl;have ch:=aF (ai (ai d5 H) F) 0 rfl;have eB:=aF (ai (ai ba H) F) 0 rfl;have e0:=aF (ai (ai a1 H) F) 0 rfl;have f3:=aK (ai (ai ba H) F) 0;have f4:=aK (ai (ai a1 H) F) 0;have⟨d6,d8,a0,a9,cj,dO,c9⟩:=ß (ai (ai ba H) F) (ai (ai a1 H) F) F U am cK b4;clear ah;subst a7;refine⟨_,_,_,_,c7,roundIn_of_wpIn trivial ?_⟩;dsimp only;rw[<-b0]
  gi_wp2
  refine⟨D,dc,?_⟩;rw[<-b1];have⟨d,cz⟩:=aR (Ξ row V g.w%p);rw[<-cz]at bp bq;by_cases h0:d=0
  .subst h0
   gi_wp2_with fail
   refine⟨trivial,(CallsIn.inRound _ (callsIn_wide.2 bp)).x ?_⟩;rintro e w' ⟨rfl,rfl⟩
   gi_wp2
   have a5:=fun o=>uJ (n₀:=h.heap.size) (w:=h) (ae _) D _ _ o (qe _) a9.o rfl rfl
   exact⟨_,_,run_endRound none a9,ay ⟨rfl,bq,⟨(Ē (bk.1 a9).1).t (by simp[b0,b1]),(kF Qu).t cj,a0.t (a5 _)⟩,⟨c9.t (a5 _),fun k bv cr=>(kF Qu).t (dO k bv)⟩⟩⟩
  .have fa:(d !=0)=true:=QL;have c8:=zH h0
   gi_wp2_with fail
   refine⟨trivial,(CallsIn.inRound _ (callsIn_wide.2 bp)).x ?_⟩;rintro e w' ⟨rfl,rfl⟩
   gi_wp2
   have c6:=Gn.o;have ca:=bE D ((w:Nat)+1+1+1) 0 _ _ (.bool false) d6;have cb:=(a_ (D.setCell ⟨(w:Nat)+1+1+1,0,none⟩ (.bool false)) ⟨(w:Nat)+1+1+1+1,0,none⟩ (.bool true) ((w:Nat)+1+1+1) (by show(w:Nat)+1+1+1≠(w:Nat)+1+1+1+1;omega)).t ca;have cc:=bE (D.setCell ⟨(w:Nat)+1+1+1,0,none⟩ (.bool false)) ((w:Nat)+1+1+1+1) 0 _ _ (.bool true) ((a_ _ _ _ _ (by show(w:Nat)+1+1+1+1≠(w:Nat)+1+1+1;omega)).t d8);have b6:((D.setCell ⟨(w:Nat)+1+1+1,0,none⟩ (.bool false)).setCell ⟨(w:Nat)+1+1+1+1,0,none⟩ (.bool true)).heap[(h:Nat)+1]?=_:=((a_ _ _ _ _ (by show(h:Nat)+1≠(w:Nat)+1+1+1+1;omega)).t (a_ _ _ _ _ (by show(h:Nat)+1≠(w:Nat)+1+1+1;omega))).t a9;have a3:((D.setCell ⟨(w:Nat)+1+1+1,0,none⟩ (.bool false)).setCell ⟨(w:Nat)+1+1+1+1,0,none⟩ (.bool true)).heap[h.heap.size]?=_:=((a_ _ _ _ _ (by show h.heap.size≠(w:Nat)+1+1+1+1;omega)).t (a_ _ _ _ _ (by show h.heap.size≠(w:Nat)+1+1+1;omega))).t cj;have b5:=((aT ao a0).setCell (p:=⟨(w:Nat)+1+1+1,0,none⟩) (by show(w:Nat)<=w+1+1+1;omega) (.bool false)).setCell (p:=⟨(w:Nat)+1+1+1+1,0,none⟩) (by show(w:Nat)<=w+1+1+1+1;omega) (.bool true);exact⟨_,_,run_endRound (some .ret) b6,au ⟨rfl,by rw[bq.o];exact c8,(Ē (bk.1 b6).1).t (by simp[b0,b1]),(kF Qu).t a3,b5.t (uJ (n₀:=w.heap.size) (w:=w) (ae _) _ _ _ _ Qu b6 rfl rfl),aF ((kF Qu).t cb) 0 rfl,aF ((kF Qu).t cc) 0 rfl⟩⟩
 .rintro e D ⟨⟨v,rfl⟩,(⟨be,U,am,F⟩|⟨be,U,am,F,ej,ek⟩)⟩
  .have av:=fun o=>uJ (n₀:=h.heap.size) (w:=h) (ae _) D _ _ o (qe _) U rfl rfl
   have bh:ç p g V=true:=be;subst a7;refine⟨none,_,run_endLoop U Qt,?_⟩;generalize Obj.loop _=Y;have a2:=F.t (av Y);have a3:(D.putObj ((h:Nat)+1) Y).heap[h.heap.size]?=some (.deferred (some [])):=(kF Qu).t am;generalize D.putObj _ Y=bb at a2 a3 ⊢;have Z:=ai (ai ba H) a2;have ab:=ai (ai a1 H) a2;have eB:=aF Z 0 rfl;have e0:=aF ab 0 rfl;have f3:=aK Z 0;have f4:=aK ab 0;have⟨br,db,dl,d7,d9⟩:=pD bh a2 a3 Z ab;clear bh;dsimp only;go_wp2;have c6:=Gn.o;have ca:=bE bb ((w:Nat)+1+1+1) 0 _ _ (.bool true) d7;have cb:=(a_ (bb.setCell ⟨(w:Nat)+1+1+1,0,none⟩ (.bool true)) ⟨(w:Nat)+1+1+1+1,0,none⟩ (.bool true) ((w:Nat)+1+1+1) (by show(w:Nat)+1+1+1≠(w:Nat)+1+1+1+1;omega)).t ca;have cc:=bE (bb.setCell ⟨(w:Nat)+1+1+1,0,none⟩ (.bool true)) ((w:Nat)+1+1+1+1) 0 _ _ (.bool true) ((a_ _ _ _ _ (by show(w:Nat)+1+1+1+1≠(w:Nat)+1+1+1;omega)).t d9);have a4:((bb.setCell ⟨(w:Nat)+1+1+1,0,none⟩ (.bool true)).setCell ⟨(w:Nat)+1+1+1+1,0,none⟩ (.bool true)).heap[h.heap.size]?=_:=((a_ _ _ _ _ (by show h.heap.size≠(w:Nat)+1+1+1+1;omega)).t (a_ _ _ _ _ (by show h.heap.size≠(w:Nat)+1+1+1;omega))).t dl;have b5:=((aT ao db).setCell (p:=⟨(w:Nat)+1+1+1,0,none⟩) (by show(w:Nat)<=w+1+1+1;omega) (.bool true)).setCell (p:=⟨(w:Nat)+1+1+1+1,0,none⟩) (by show(w:Nat)<=w+1+1+1+1;omega) (.bool true);have c3:=aF ((kF (o:=.deferred none) (Qu:(w:Nat)+1+1+1≠h.heap.size)).t cb) 0 rfl;have c4:=aF ((kF (o:=.deferred none) (Qu:(w:Nat)+1+1+1+1≠h.heap.size)).t cc) 0 rfl;refine⟨Qt,.inl ⟨_,_,rfl,run_takeDeferred a4,?_⟩⟩;exact⟨.tuple #[.bool true,.bool true],UZ,by rw[br.o],b5.t (uJ (n₀:=w.heap.size) (w:=w) (ae _) _ _ _ _ ao.size a4 rfl rfl)⟩
  .have av:=fun o=>uJ (n₀:=w.heap.size) (w:=w) (ae _) D _ _ o Sx U rfl rfl
   have bh:ç p g V=false:=be;have br:=zH bh;subst a7;refine⟨some .ret,_,run_endLoop U Qt,?_⟩;generalize Obj.loop _=Y;dsimp only;refine(wpIn_wide (n:=3)).2 ?_;go_wp2;have c6:=Gn.o;have a4:(D.putObj ((h:Nat)+1) Y).heap[h.heap.size]?=_:=(kF Qu).t am;have c3:(D.putObj ((h:Nat)+1) Y).cell? ⟨(w:Nat)+1+1+1,0,none⟩=_:=(l6 (kF (by show(w:Nat)+1+1+1≠(h:Nat)+1;omega))).t ej;have c4:(D.putObj ((h:Nat)+1) Y).cell? ⟨(w:Nat)+1+1+1+1,0,none⟩=_:=(l6 (kF (by show(w:Nat)+1+1+1+1≠(h:Nat)+1;omega))).t ek;have c3:=(l6 (kF (o:=.deferred none) (r:=h.heap.size) (by show(w:Nat)+1+1+1≠h.heap.size;omega))).t c3;have c4:=(l6 (kF (o:=.deferred none) (r:=h.heap.size) (by show(w:Nat)+1+1+1+1≠h.heap.size;omega))).t c4;refine⟨Qt,.inl ⟨_,_,rfl,run_takeDeferred a4,?_⟩⟩;exact⟨.tuple uo,UZ,(by first|rfl|rw[br.o]),(F.t (av Y)).t (uJ (n₀:=w.heap.size) (w:=w) (ae _) _ _ _ _ ao.size a4 rfl rfl)⟩
def zl0(J:bV p=true)(F:g.pf p):stG p g=true:=by
 unfold stG ovG;rw[J];simp only[xm,bN,eD];refine⟨fun e h=>?_,fun e h=>?_⟩
 .have I:=(F e h).2.2.2.2;dsimp only at I;unfold ovE Õ;by_cases D:e.k=7∨e.k=13
  .simp[I D]
  .simp only[not_or]at D;simp[D.1,D.2]
 .have G:=(F e h).2.2.1;have H:=(F e h).2.2.2.1;dsimp only at G H;unfold ntE dlB;simp[G,H]
def zjQ{v}(H:2<=p)(D:R.Ok p)(O:v.length=R.l+R.r)(I:∀x∈v,0<=x/\x<p):∀k,k<=R.b.length->(xC p R.b v k).length=R.l+R.r/\∀x∈xC p R.b v k,0<=x/\x<p:=fun k J=>by have⟨F,G⟩:=Ĉ H D.Η D.red O (fun d h=>zF I Qu) k J;refine⟨F,fun x T=>?_⟩;obtain⟨d,h⟩:=eH.1 T;have U:=(bG.1 h).1;have:=(G d Qu).1;rw[bf,h]at this;exact this
def znc(w F:aa)(c1 c2:gg)(G H:aG)(V:aa):Prop:=∃h D,G=.pointer (bH h)/\H=.pointer (bH D)/\bA V h c1 54/\bA V D c2 67/\ag F V
def zld{h}(D:h.heap[b]?=V.heap[b]?)(s:af V b 1 v1/\af V b 2 v2/\af V b 3 v3/\af V b 4 v4/\af V b 8 v8/\af V b 9 v9/\af V b 10 v10):af h b 1 v1/\af h b 2 v2/\af h b 3 v3/\af h b 4 v4/\af h b 8 v8/\af h b 9 v9/\af h b 10 v10:=by
 have k:∀j,h.cell? ⟨b,j,none⟩=V.cell? ⟨b,j,none⟩:=fun j=>l6 D
 simp only[k];exact s
def xS p g R Q X F V cn cO cc ca ci ce d1 d2 d3 cu cz cA cB f1 f2 f3 cb ch cj ck a2 bb cF cs O T ao G1 ab ac bz b0 b1 bv E an a6 b9 a4 a5 ap w(am:bV p=true)(fl:dZ w)(co:jV w G1 ab ac g)(cr:g.B=true)(eg:g.pf p)(fs:bt w an R.b)(cK:R.Ok p)(fo:bt w a6 Q.b)(cI:Q.Ok p)(g6:R.l=g.i.length/\R.r=g.o.length)(eb:Q.l=R.l/\Q.r=R.r)(d6:aO w a4 X)(d7:aO w a5 F)(cp:aO w ap V)(ha:X.length<=1048576)(hb:F.length<=1048576)(bp:V.length<=1048576):az 54 (iV (lR p g.w G1 g.es d1 ab g.i d2 ac g.o d3 cc ca bv cb cj R.l R.r an R.b a2 cu bz cz f1 b0 cA f2 b1 cB f3 ci ce E ch ck Q.l Q.r a6 Q.b bb) (iK cn b9 cF cs cO a4 X O a5 F T ap V ao)) w (dt w (EH p g R Q X F V)):=by
 have⟨bn,ei⟩:=cv am;have g7:=Gr.iT.1 cr;have fy:=Gr.mE cr;have g5:=Rl.Ok.ι cK;have g4:=Rl.Ok.ι cI;have⟨dc,dl,db⟩:=er (fun h (D:ag w h)=>jO p (R.l:Nat) a4 O X h (d6.ext D) SL) (fun h (D:ag w h)=>jO p (R.r:Nat) a5 T F h (d7.ext D) SL) (fun h (D:ag w h)=>jO p (g.w:Nat) ap ao V h (cp.ext D) SL);have e3:=zH (fun(bo:jX p V (g.w:Nat)=true) h (D:ag w h)=>(by
  have g8:V.length=g.w:=by unfold jX at bo;simp at bo;omega
  rw[g8];exact zg9 p g V G1 ab ac ap d1 d2 d3 ao h am (fl.ext D) (co.ext D) cr eg (zl0 am eg) (cp.ext D) bo:az 90 #[p,.agg (bj g G1 d1 ab d2 ac d3),.slice ap V ao] h fun e w'=>e=.returned (.tuple (rM (ç p g V)))/\ag h w'))
 have c7:=zH (fun(hx:jX p X (R.l:Nat)=true) (I:jX p F (R.r:Nat)=true) h (D:ag w h) A c (d4:aO h A (X++F))=>(by
  rw[il]at hx I;have H:(X++F).length=R.l+R.r:=Ra;have h2:∀x∈X++F,0<=x/\x<p:=fun x ev=>(dP.1 ev).elim (hx.2 x) (I.2 x)
  exact BZ p (R.l:Nat) (R.r:Nat) (R.l+R.r) R.b (X++F) an A a2 c h bn ei (fs.ext D) d4 Qu Qu H (yE cK) (zjQ bn cK H h2):az 89 #[p,.agg (dh R.l R.r an R.b a2),.slice A (R.l+R.r) c] h (dt h (BN p R.b (X++F)))))
 have c5:=zH (fun(hx:jX p X (R.l:Nat)=true) (I:jX p F (R.r:Nat)=true) h (D:ag w h) A c (d4:aO h A (X++F))=>(by
  rw[il]at hx I;have H:(X++F).length=Q.l+Q.r:=Ra;have h2:∀x∈X++F,0<=x/\x<p:=fun x ev=>(dP.1 ev).elim (hx.2 x) (I.2 x)
  rw[<-eb.1,<-eb.2];exact BZ p (Q.l:Nat) (Q.r:Nat) (Q.l+Q.r) Q.b (X++F) a6 A bb c h bn ei (fo.ext D) d4 Qu Qu H (yE cI) (zjQ bn cI H h2):az 89 #[p,.agg (dh Q.l Q.r a6 Q.b bb),.slice A (R.l+R.r) c] h (dt h (BN p Q.b (X++F)))))
 obtain⟨e4,c3,g0,gB,b4,dT,fb,e6⟩:=ð (fun(hx:jX p X (R.l:Nat)=true) (I:jX p F (R.r:Nat)=true) h (D:ag w h)=>mS X F a4 a5 O T X F (R.l+R.r) h (d6.ext D) (d7.ext D) rfl rfl (by rw[il]at hx I;rw[bm];omega) (by rw[il]at hx I;omega)) (fun h (D:ag w h)=>mS (bD g.i) (bD g.o) ab ac d2 d3 g.i g.o (R.l+R.r) h (co.ext D).i (co.ext D).o (aS _).q (aS _).q (by rw[bm,aS,aS];omega) Qu) (fun h (D:ag w h)=>cp.ext D) (show ∀x∈g.i++g.o,x<g.w from Į fy) (Ra:(g.i++g.o).length=R.l+R.r) (fun(hx:jX p X (R.l:Nat)=true) (I:jX p F (R.r:Nat)=true)=>(by rw[il]at hx I;rw[bm];omega:(X++F).length=R.l+R.r)) (fun(bo:jX p V (g.w:Nat)=true)=>(by rw[il]at bo;omega:V.length=g.w)) (Qu:R.l+R.r<=24);have d5:=((al w w).alloc (ae _) (.cells (lR p g.w G1 g.es d1 ab g.i d2 ac g.o d3 cc ca bv cb cj R.l R.r an R.b a2 cu bz cz f1 b0 cA f2 b1 cB f3 ci ce E ch ck Q.l Q.r a6 Q.b bb) 71)).alloc Qt (.cells (iK cn b9 cF cs cO a4 X O a5 F T ap V ao) 39);have Y:=(bO (w.alloc (.cells (lR p g.w G1 g.es d1 ab g.i d2 ac g.o d3 cc ca bv cb cj R.l R.r an R.b a2 cu bz cz f1 b0 cA f2 b1 cB f3 ci ce E ch ck Q.l Q.r a6 Q.b bb) 71)) (.cells (iK cn b9 cF cs cO a4 X O a5 F T ap V ao) 39) (k:=w.heap.size) Qt).t (aH w _ rfl);have em:=aH (w.alloc (.cells (lR p g.w G1 g.es d1 ab g.i d2 ac g.o d3 cc ca bv cb cj R.l R.r an R.b a2 cu bz cz f1 b0 cA f2 b1 cB f3 ci ce E ch ck Q.l Q.r a6 Q.b bb) 71)) (.cells (iK cn b9 cF cs cO a4 X O a5 F T ap V ao) 39) (n:=(w:Nat)+1) Qt;have⟨hk,d8⟩:=aR (EH p g R Q X F V);have a8:=zH d8;rw[<-d8];clear d8 fl co cr eg fs cK fo cI g6 eb d6 d7 cp ha hb bp g7 fy g5 g4 am bn ei;go_enter func54,ntmps54
 go_upto_region 1 with(fail)
 generalize ((w.alloc _).alloc _)=ah at d5 Y em ⊢;have⟨eB,e7,e8⟩:=er d5 Y em;have av:=aQ (aF Y 1 rfl) (aQ (aF Y 2 rfl) (aQ (aF Y 3 rfl) (aQ (aF Y 4 rfl) (aQ (aF Y 8 rfl) (aQ (aF Y 9 rfl) (aF Y 10 rfl))))));have b7:=zH (show(w:Nat)<ah from(bk.1 Y).1);clear d5 Y em;go_cut [5,6] from 12 (fun hg hh h=>znc w ah #[.int .i64 (g.w:Nat),.slice G1 g.es d1,.slice ab g.i d2,.slice ac g.o d3] #[.int .i64 (R.l:Nat),.int .i64 (R.r:Nat),.slice an R.b a2] hg hh h)
 case first=>
  go_region_held3 (fun h=>af h w 1 (zI (g.w:Nat))/\af h w 2 (.slice G1 g.es d1)/\af h w 3 (.slice ab g.i d2)/\af h w 4 (.slice ac g.o d3)/\af h w 8 (zI (R.l:Nat))/\af h w 9 (zI (R.r:Nat))/\af h w 10 (.slice an R.b a2)) (first|exact av|exact zld (V:=ah) (bO ah _ b7.o) av|exact zld (V:=ah) ((bO _ _ (by simp;have:=b7.o;omega)).t (bO ah _ b7.o)) av) ((fail))
  all_goals go_wp2_with fail
  all_goals
   go_meet
   first
    |exact⟨_,_,rfl,rfl,(bO _ _ Qt).t (aH ah _ rfl),aH _ _ Qt,((aw ah _).alloc Qt _).drew⟩
    |exact⟨_,_,rfl,rfl,aH _ _ Qt,(bO _ _ Qt).t (aH ah _ rfl),((aw ah _).alloc Qt _).drew⟩
 case rest=>
  obtain⟨hn,hr,rfl,rfl,ea,eo,cq⟩:=hcut;have ek:=ai e7 cq;have a1:=ai e8 cq;have J:=zH (aT eB cq);have bc:=aF ek 0 rfl;have he:=aF a1 3 rfl;have hf:=aF a1 4 rfl;have eA:=aF a1 5 rfl;have⟨bq,br,z2,bu⟩:=aB ea;have⟨u0,u1,u2⟩:=aD eo;have⟨b6,e9,e2,gL⟩:=gG ek a1 ea eo;clear ek a1 ea eo cq av e7 e8 eB b7;cases H:jX p X (R.l:Nat)
  .have ba:=zH (fun h D=>Calls.cg (dc h D) H);go_wp2_with (go_at_call 88;(with_reducible refine(ba.o _ J.o).x ?_);rintro e a3 ⟨rfl,rfl⟩)
   go_ret
   exact⟨aN (by rw[a8.o];unfold EH;simp[H]),J.o⟩
  have ba:=zH (fun h D=>Calls.cg (dc h D) H);cases h2:jX p F (R.r:Nat)
  .have bg:=zH (fun h D=>Calls.cg (dl h D) h2);go_wp2_with (first|(go_at_call 88;(with_reducible refine(ba.o _ J.o).x ?_);rintro e a3 ⟨rfl,rfl⟩)|(go_at_call 88;(with_reducible refine(bg.o _ J.o).x ?_);rintro e a3 ⟨rfl,rfl⟩))
   go_ret
   exact⟨aN (by rw[a8.o];unfold EH;simp[H,h2]),J.o⟩
  have bg:=zH (fun h D=>Calls.cg (dl h D) h2);cases U:jX p V (g.w:Nat)
  .have b8:=zH (fun h D=>Calls.cg (db h D) U);go_wp2_with (first|(go_at_call 88;(with_reducible refine(ba.o _ J.o).x ?_);rintro e a3 ⟨rfl,rfl⟩)|(go_at_call 88;(with_reducible refine(bg.o _ J.o).x ?_);rintro e a3 ⟨rfl,rfl⟩)|(go_at_call 88;(with_reducible refine(b8.o _ J.o).x ?_);rintro e a3 ⟨rfl,rfl⟩))
   go_ret
   exact⟨aN (by rw[a8.o];unfold EH;simp[H,h2,U]),J.o⟩
  have b8:=zH (fun h D=>Calls.cg (db h D) U);go_upto_region 4 with(first|(go_at_call 88;(with_reducible refine(ba.o _ J.o).x ?_);rintro e a3 ⟨rfl,rfl⟩)|(go_at_call 88;(with_reducible refine(bg.o _ J.o).x ?_);rintro e a3 ⟨rfl,rfl⟩)|(go_at_call 88;(with_reducible refine(b8.o _ J.o).x ?_);rintro e a3 ⟨rfl,rfl⟩))
  have b3:=zH (e4 H h2 _ J.o);go_upto_region 5 with(go_at_call 65;(with_reducible refine b3.o.x ?_);rintro e gb ⟨fd,f7,rfl,-,am,G⟩;have c4:=zH am.D;have ad:=zH G;clear am G)
  have a9:=zH (aT J.o ad);clear bc he hf eA bq br z2 bu u0 u1 u2 dc dl db ba bg b8 e4 b3;have⟨n,fz⟩:=aR (R.l+R.r);rw[<-fz]at c7 c5 c3 b4 dT e6 ⊢;have⟨c8,c6⟩:=bJ (c7 H h2 gb a9 fd f7 c4) (fun h (D:ag gb h)=>c5 H h2 h (aT a9 D) fd f7 (c4.ext D));clear fz;have ej:=ai b6 ad;have bc:=aF ej 0 rfl;have⟨u0,u1,u2⟩:=aD (ai gL ad);cases a0:BN p R.b (X++F)
  .have be:=zH (Calls.bl c8 a0);clear ej;go_wp2_with (go_at_call 89;(with_reducible refine be.o.x ?_);rintro e gc ⟨rfl,G⟩;have gv:=zH (aT a9 G);clear G)
   go_ret
   exact⟨aN (by rw[a8.o];unfold EH;simp[H,h2,U,a0]),gv⟩
  have be:=zH (Calls.bl c8 a0);clear ej;cases a7:BN p Q.b (X++F)
  rotate_left
  .have b5:=zH (fun h D=>Calls.bl (c6 h D) a7);go_wp2_with (first|(go_at_call 89;(with_reducible refine be.o.x ?_);rintro e gc ⟨rfl,G⟩;have Z:=ai (ai b6 ad) G;have bc:=aF Z 0 rfl;have gi:=aF Z 18 rfl;have gn:=aF Z 19 rfl;have gs:=aF Z 20 rfl;have bh:=zH G;clear G Z)|(go_at_call 89;(with_reducible refine(b5.o _ bh.o).x ?_);rintro e hc ⟨rfl,G⟩;have b2:=zH (a9.t ((aT bh G).x a9.size));clear G))
   go_ret
   exact⟨aN (by rw[a8.o];unfold EH;simp[H,h2,U,a0,a7]),b2⟩
  have⟨b5,c0⟩:=bJ (fun h D=>Calls.bl (c6 h D) a7) (e3 U);have⟨ga,es⟩:=aR (ç p g V);rw[<-es]at c0;have g1:=zH es;clear es;go_upto_region 8 with(first|(go_at_call 90;(with_reducible refine(c0.o _ b2.o).x ?_);rintro e hd ⟨rfl,G⟩;have dq:=zH (aT bi G);have e0:=zH (aT b2 G);clear G)|(go_at_call 89;(with_reducible refine be.o.x ?_);rintro e gc ⟨rfl,G⟩;have Z:=ai (ai b6 ad) G;have bc:=aF Z 0 rfl;have gi:=aF Z 18 rfl;have gn:=aF Z 19 rfl;have gs:=aF Z 20 rfl;have bh:=zH G;clear G Z)|(go_at_call 89;(with_reducible refine(b5.o _ bh.o).x ?_);rintro e hc ⟨rfl,G⟩;have bi:=zH (aT bh G);have b2:=zH (aT a9 bi);have f4:=ai (ai b6 ad) bi;have bc:=aF f4 0 rfl;have eA:=aF (ai (ai e9 ad) bi) 5 rfl;have⟨bq,br,z2,bu⟩:=aB (ai (ai e2 ad) bi);clear G f4))
  clear bc gi gn gs u0 u1 u2 eA bq br z2 bu;have⟨bq,br,z2,bu⟩:=aB (ai (ai e2 ad) dq);have⟨b3,gC,gR,fc,dO,gA⟩:=ny (c3 hd e0) (c4.ext dq) (ai (ai e9 ad) dq) (fb U) (dT H h2) (aQ H (aQ h2 (aQ U (aQ a0 a7))));clear c7 c5 c8 c6 be b5 e3 c0 c3 H h2 U a0 a7 dT fb;go_wp2_with (go_at_call 65;(with_reducible refine b3.o.x ?_);rintro e gd ⟨hj,hq,rfl,-,am,G⟩;have gw:=zH am.D;have dr:=zH G;clear am G)
  have⟨e1,fa,gK⟩:=er (aT e0 dr) (ai gR dr) (gC.ext dr);have gu:=zH (g0 gd e1);clear bq br z2 bu;have⟨bp,ee⟩:=aR V.length;rw[<-ee]at fa fc ⊢;have e5:=zH ee;clear ee;go_loopw [8,83] (fun u i wr=>∃k:Nat,k<=n/\i=.int .i64 k/\u=.bool (ga&&decide ((eC (g.i++g.o) V).take k=(X++F).take k))/\ag gd wr) (fun _ i _=>n-(intOf i).toNat)
  case atStart=>exact⟨0,aW _,rfl,Qt,al _ _⟩
  case round=>
   obtain⟨k,ho,rfl,rfl,G⟩:=hrel;have bd:=zH G;have hp:n<=24:=e6.o;by_cases ct:k<n
   .obtain⟨x,hx⟩:=aq (by rw[b4.o];exact ct:k < (g.i++g.o).length);obtain⟨y,I⟩:=aq (by rw[dO.o];exact ct:k < (X++F).length);have g9:=gB x (aU hx);have f6:x<bp:=by have:=fc.o;omega
    obtain⟨z,ey⟩:=aq (by rw[<-e5.o];exact f6:x<V.length);obtain⟨hm,hl,rfl,fx⟩:=(gw.ext G).θ (k:=k) (by rw[bm,aS,aS,<-bm,b4.o];exact ct);have c1:=fx k (x:Int) S9;obtain⟨cR,cV,rfl,a1⟩:=(gu.ext G).θ (k:=x) (by rw[<-e5.o];exact f6);have c2:=a1 x z ey;obtain⟨f8,f9,rfl,f0⟩:=(gK.ext G).θ (k:=k) (by rw[dO.o];exact ct);have O:=f0 k y I;have T:=aF (ai fa G) 5 rfl;have c9:=zH (show decide ((eC (g.i++g.o) V).take (k+1)=(X++F).take (k+1))=(decide ((eC (g.i++g.o) V).take k=(X++F).take k)&&decide (z=y)) from by
     have d0:(eC (g.i++g.o) V)[k]?=some z:=by unfold eC;rw[bI,hx];simp[bf,ey]
     rw[jl d0,jl I,jQ,bN,cf,cf,cf];constructor
     .intro g3;obtain⟨H,h2⟩:=List.append_inj g3 (by have:=(bG.1 d0).1;have:=(bG.1 I).1;rw[cQ,cQ];omega);exact⟨H,Rk⟩
     .rintro⟨H,rfl⟩;rw[H])
    have⟨b,d9⟩:=aR (ga&&decide ((eC (g.i++g.o) V).take k=(X++F).take k));have cW:=zH d9;rw[<-d9];clear d9 fx a1 f0 hx I ey G g9;have⟨hs,f5⟩:=aR wr;rw[<-f5]at bd c1 c2 O T ⊢;clear f5;cases b
    .go_upto_region 11 with(fail)
     clear c1 c2 O T;refine bU QT QT ?_
     repeat (go_big_quiet_step (fail))
     refine dJ ?_;rintro _ ⟨h,rfl⟩;go_wp2;go_roundw
     case rel=>exact⟨k+1,Qu,Qx,by rw[c9.o,<-xi,<-cW.o];rfl,aJ bd h.ok⟩
     case measure=>simp[intOf];omega
    .by_cases ez:z=y
     .subst ez;go_upto_region 11 with(fail)
      have av:=aQ T (aQ c2 O);go_region_held3 (fun h=>af h ((w:Nat)+1) 5 (.slice (some ⟨cR,cV,none⟩) bp ao)/\af h cR (cV+x) (zI z)/\af h f8 (f9+k) (zI z)) (exact av) ((fail))
      go_wp2;go_roundw
      case rel=>exact⟨k+1,Qu,Qx,by rw[c9.o,<-xi,<-cW.o];simp,bd.drew⟩
      case measure=>simp[intOf];omega
     .have d0:(z==y)=false:=by simp[ez]
      have g2:decide (z=y)=false:=by simp[ez]
      go_upto_region 11 with(fail)
      have av:=aQ T (aQ c2 O);go_region_held3 (fun h=>af h ((w:Nat)+1) 5 (.slice (some ⟨cR,cV,none⟩) bp ao)/\af h cR (cV+x) (zI z)/\af h f8 (f9+k) (zI y)) (exact av) ((fail))
      go_wp2;go_roundw
      case rel=>exact⟨k+1,Qu,Qx,by rw[c9.o,<-xi,<-cW.o,g2];rfl,bd.drew⟩
      case measure=>simp[intOf];omega
   .obtain rfl:k=n:=Qu;clear G;go_wp2;go_ret
    obtain⟨H,h2,U,a0,a7⟩:=gA.o;refine⟨aN ?_,aT e1 bd⟩;rw[a8.o];unfold EH;rw[H,h2,U,a0,a7,<-g1.o,cZ (by unfold eC;rw[bs,b4.o];exact ae _),cZ (by rw[dO.o];exact ae _)];rfl
section
variable{u:aG}
abbrev xD(w:aa)(b:Nat)(v0 v1 v2 v3 v4 v5 v6 v7 v8 v9:aG):World:=(((((((((w.setCell ⟨b,0,none⟩ v0).setCell ⟨b,1,none⟩ v1).setCell ⟨b,2,none⟩ v2).setCell ⟨b,3,none⟩ v3).setCell ⟨b,4,none⟩ v4).setCell ⟨b,5,none⟩ v5).setCell ⟨b,6,none⟩ v6).setCell ⟨b,7,none⟩ v7).setCell ⟨b,8,none⟩ v8).setCell ⟨b,9,none⟩ v9
def vm{D F G H I J O U}(h:bA w b #[T,D,z2,F,G,H,I,J,O,U] t):(xD w b v0 v1 v2 v3 v4 v5 v6 v7 v8 v9).heap[b]?=some (.cells #[v0,v1,v2,v3,v4,v5,v6,v7,v8,v9] t (0,0)):=by
 have e0:=bE w b 0 _ _ v0 h;refine MF fun e1 e2 e3 e4 e5 e6 e7 e8 e9=>?_
 simpa[xD]using e9
def vn(D:Below B w w')(h:B<=b)v0 v1 v2 v3 v4 v5 v6 v7 v8 v9:Below B w (xD w' b v0 v1 v2 v3 v4 v5 v6 v7 v8 v9):=((((((((((D.setCell h _).setCell h _).setCell h _).setCell h _).setCell h _).setCell h _).setCell h _).setCell h _).setCell h _).setCell h _)
def tl(h:k≠b):(xD w b v0 v1 v2 v3 v4 v5 v6 v7 v8 v9).heap[k]?=w.heap[k]?:=(a_ _ _ _ _ h).t ((a_ _ _ _ _ h).t ((a_ _ _ _ _ h).t ((a_ _ _ _ _ h).t ((a_ _ _ _ _ h).t ((a_ _ _ _ _ h).t ((a_ _ _ _ _ h).t ((a_ _ _ _ _ h).t ((a_ _ _ _ _ h).t (a_ _ _ _ _ h)))))))))
def qn{p}(h:p.block≠b)(D:w.cell? p=some u):(xD w b v0 v1 v2 v3 v4 v5 v6 v7 v8 v9).cell? p=some u:=by rw[<-D];exact l6 (w:=w) (tl h)
def sF{D F G H I J O U}(h:bA w b #[T,D,z2,F,G,H,I,J,O,U] t):(af w b 0 T/\af w b 1 D/\af w b 2 z2/\af w b 3 F/\af w b 4 G/\af w b 5 H/\af w b 6 I/\af w b 7 J/\af w b 8 O/\af w b 9 U)/\w.frozen? ⟨b,0,none⟩=false/\w.frozen? ⟨b,1,none⟩=false/\w.frozen? ⟨b,2,none⟩=false/\w.frozen? ⟨b,3,none⟩=false/\w.frozen? ⟨b,4,none⟩=false/\w.frozen? ⟨b,5,none⟩=false/\w.frozen? ⟨b,6,none⟩=false/\w.frozen? ⟨b,7,none⟩=false/\w.frozen? ⟨b,8,none⟩=false/\w.frozen? ⟨b,9,none⟩=false:=⟨⟨aF h 0 rfl,aF h 1 rfl,aF h 2 rfl,aF h 3 rfl,aF h 4 rfl,aF h 5 rfl,aF h 6 rfl,aF h 7 rfl,aF h 8 rfl,aF h 9 rfl⟩,aK h 0,aK h 1,aK h 2,aK h 3,aK h 4,aK h 5,aK h 6,aK h 7,aK h 8,aK h 9⟩
def StG(p:Int)(L:List eE)(H ne I no l r m:Nat)(A1 D F G:ax)(h:aa):Prop:=∃t,jE (cJ L)=some t/\H=t.gr.w/\ne=t.gr.es.length/\I=t.gr.i.length/\no=t.gr.o.length/\l=(t.rel p).l/\r=(t.rel p).r/\m=(t.rel p).b.length/\jV h A1 D F t.gr/\bt h G (t.rel p).b
def Ď(p:Int)(L:List eE)(w:aa)(e:Ending)(w':aa):Prop:=∃(H ne I no:Nat) (A1 h D:ax) (c1 c2 J:Nat) (S:Sy) (F:ax) (d l r:Nat) (R:ax) (m O:Nat),
 e=.returned (.tuple (ka (pN H A1 ne c1 h I c2 D no J S F d l r R m O) (qf p L)))/\
 (qf p L=true->∃t,jE (cJ L)=some t/\l=t.gr.i.length/\r=t.gr.o.length/\S=t.gr.N p)/\Fr w' w w' (fun G=>bt G F S.rows/\(qf p L=true->StG p L H ne I no l r m A1 h D R G))/\ag w w'
def Ϥ.ψ{t}{e}(F:Ϥ t w e w'):∃(H:Gr) (A1 h D:ax) (c1 c2 I:Nat),e=.returned (.tuple #[.agg (bj H A1 c1 h c2 D I),.bool t.pM])/\(t.pM=true->H=t.gr/\Fr w' w w' (fun O=>jV O A1 h D H))/\ag w w':=by
 rcases F with⟨G,rfl,J⟩|⟨G,A1,c1,h,c2,D,I,rfl,T,J⟩
 .exact⟨⟨0,[],[],[]⟩,none,none,none,0,0,0,by rw[G];rfl,fun F=>(by rw[G]at F;cases F),J⟩
 .exact⟨t.gr,A1,h,D,c1,c2,I,by rw[G],fun _=>⟨rfl,T⟩,J⟩
def StB(w:aa)(b:Nat)(v0 v1 v2 v3 u0 u1:aG)(l r:Nat)(rows F:aP)(P:j4)(V:aa):Prop:=∃(D:ax) (d:Nat) (R:ax) (G:Nat),bA V b #[v0,v1,v2,v3,u0,u1,.slice D rows d,.int .i64 (l:Nat),.int .i64 (r:Nat),.slice R F G] 69/\Fr V w V (fun h=>bt h D rows/\bt h R F/\P h)/\ag w V
def zmn{Y F h}{l U}{av a0 a1 a2 a3 a4 a5 a6}{G R}{I}{P}(ap:bA h b #[T,av,z2,a0,a1,a2,a3,a4,a5,a6] 69)(ah:Fr F lo F (fun D=>bt D G rows))(ac:ag F h)(a9:b<lo)(ao:(w:Nat)<=b)(ad:ag w h)(am:Fr Y J Y P)(ab:ag Y h)(ba:b<J)(an:Fr h F h (fun D=>cS D R I))(bb:b < (F:Nat)):StB w b v0 v1 v2 v3 u0 u1 l r rows I P (xD h b v0 v1 v2 v3 u0 u1 (.slice G rows d) (zI (l:Nat)) (zI (r:Nat)) (.slice R I U)):=by
 have bc:(xD h b v0 v1 v2 v3 u0 u1 (.slice G rows d) (zI (l:Nat)) (zI (r:Nat)) (.slice R I U):Nat)=h:=by simp[xD]
 have a8:=ac.size;have a7:=ab.size;exact⟨G,d,R,U,vm ap,fun D O=>⟨ah D fun k Z H=>(O k Qu Qu).t ((tl Qu).t (ac.block k H)),(an D fun k Z H=>(O k Qu Qu).t (tl Qu)).at,am D fun k Z H=>(O k Qu Qu).t ((tl Qu).t (ab.block k H))⟩,vn ad ao ..⟩
def Ľ p L A ε w(ck:dZ w)(bn:bR 3 jK w A L)(cp:L.length<=1048576):az 53 (gj p (aV A L ε)) w (Ď p L w):=by
 have a8:=((al w w).alloc (ae _) (.cells (aV A L ε) 35)).alloc Qt (.cells Ae 69);have O:=(bO (w.alloc (.cells (aV A L ε) 35)) (.cells Ae 69) (k:=w.heap.size) Qt).t (aH w _ rfl);have ab:=aH (w.alloc (.cells (aV A L ε) 35)) (.cells Ae 69) (n:=(w:Nat)+1) Qt;have⟨a5,bd⟩:=bJ (fun V (G:ag w V)=>FN p L A ε V (ck.ext G) (bQ bn G) cp) (fun V (G:ag w V)=>bQ bn G);have⟨l,bv⟩:=aR L.length;have ce:=zH bv;rw[<-bv]at a8 O ab a5 ⊢;clear bn bv cp;go_enter func53,ntmps53
 go_upto_region 1 with(fail)
 generalize ((w.alloc _).alloc _)=W at a8 O ab ⊢;have a1:=aF O 0 rfl;have⟨a3,cR,b5⟩:=er a8 O ab;cases Z:Cg p L
 .obtain⟨HT,dr⟩:=bJ (by unfold qf;rw[Z];rfl:qf p L=false) (Calls.bl (a5 W a3) Z);go_upto_region 2 with(go_at_call 84;(with_reducible refine dr.o.x ?_);rintro e cK ⟨rfl,D⟩;have HZ:=zH (ai b5 D);have FV:=zH (aT a3 D))
  exact ZS
 have dO:=zH (fun V (G:ag w V)=>Calls.bl (a5 V G) Z);have b1:=Z;unfold Cg zU at b1;simp only[bN]at b1;obtain⟨⟨bu,cB,cq⟩,cz⟩:=b1;have⟨t,c,ba,b0,br,d9,bz⟩:=v_ cB;obtain⟨cj,ci,dl,b9⟩:=gG ba (by unfold qf;rw[Z,DB ba];rfl:qf p L=t.pM) (fun V (G:ag w V)=>(by have:=zcZ L t c A ε V (bd V G) bz b0 br;rw[<-ce.o]at this;exact this:az 85 (cY (bZ A l ε)) V (Ϥ t V))) (fun V (G:ag w V)=>(by have:=ze9 p L t c A ε V bu (bd V G) bz b0 br cz cq;rw[<-ce.o]at this;exact this:az 87 (gj p (bZ A l ε)) V (lJ (t.rel p) V)));have dq:=zH (fun(ea:qf p L=true)=>by
  obtain⟨eg,cA,g⟩:=oc ea;rw[ba]at cA;cases cA
  exact g)
 have cb:=zH (cv bu);go_upto_region 4 with(first|(go_at_call 84;(with_reducible refine(dO.o W a3.o).x ?_);rintro e cK ⟨rfl,D⟩;have eb:=ar D a1;have cV:=zH (ai cR D);have b6:=zH (ai b5 D);have FV:=zH (aT a3 D))|(go_at_call 85;(with_reducible refine(dl.o _ FV.o).x ?_);intro e ac h;have⟨F,H,I,J,T,U,Y,d8,co,D⟩:=Ϥ.ψ h;subst d8;have cW:=zH (ai cV D);have b7:=zH (ai b6 D);have c5:=zH (aT FV D);have cc:=zH co))
 have⟨am,b2⟩:=bM ac (.cells (bj F H T I U J Y) 54);generalize ac.alloc _=ao at am b2 ⊢;have⟨c0,bb,bc,b8,d0⟩:=pD (ai cW am) (ai b7 am) (aT c5 am) am b2;clear b2;cases a0:t.pM
 .have⟨HT,HZ,FV⟩:=er (ci.t a0) bb.o bc.o;clear a0;exact ZS
 have HT:=zH (ci.t a0);obtain⟨a9,bi⟩:=cc a0;obtain⟨a4,db,dc,d4⟩:=gG (dq HT) (bi.D.ext b8) bi (show(w:Nat)+1<cK from(bk.1 b6).1);have⟨S,bp⟩:=aR (F.N p);obtain⟨d5,Mt,d3,ca⟩:=gG (fun V (G:ag ao V)=>(by have:=yJ p F H I J T U Y V cb.1 cb.2 (db.ext G) (by rw[a9];exact a4.ok) (by rw[a9];exact a4.val);rw[<-bp]at this;exact this:az 86 (gj p (bj F H T I U J Y)) V (Cx S V))) a9 bp (fun V (G:ag ao V)=>b9 V (aT bc G));have⟨R,bo⟩:=aR (t.rel p);rw[<-bo]at ca;have ad:=zH bo;clear a0 a9 bi bp bo b9 cc;have a1:=aF c0.o 0 rfl;have⟨O,ab,cF,cI⟩:=aB d0;have bg:=aQ a1 (aQ O (aQ ab (aQ cF cI)));obtain⟨ch,d6⟩:=bJ (show(w:Nat)+1<ao from(bk.1 bb).1) (Qu:(w:Nat)<=w+1);go_upto_region 6 with(fail)
 obtain⟨dT,a6⟩:=bJ (Qu:w.heap.size≠(w:Nat)+1) (show ac.heap.size≠(w:Nat)+1 by have:=(bk.1 b7).1;omega);clear a1;go_cut [5] from 8 (fun ee V=>ee=.bool true/\StB w ((w:Nat)+1) (zI (F.w:Nat)) (.slice H F.es T) (.slice I F.i U) (.slice J F.o Y) (zI S.v) (zI S.h) R.l R.r S.rows R.b (fun av=>jV av H I J F) V)
 case first=>
  go_region_held3 (fun V=>af V w 0 (.slice A l ε)/\af V ac 0 (zI (F.w:Nat))/\af V ac 1 (.slice H F.es T)/\af V ac 2 (.slice I F.i U)/\af V ac 3 (.slice J F.o Y))
   ((first|((with_reducible refine kU (w:=ao) ?_ bg);first|with_reducible exact aC _|with_reducible exact a7.o|with_reducible exact ap.o)|with_reducible exact⟨qn dT.o ah.1,qn a6.o ah.2.1,qn a6.o ah.2.2.1,qn a6.o ah.2.2.2.1,qn a6.o ah.2.2.2.2⟩))
   ((first
    |(go_at_call 87;(with_reducible refine(ca.o _ a7.o).x ?_);intro e cO h;unfold lJ at h;obtain⟨be,b3,bh,cu,D⟩:=h;subst bh;have d2:=zH (show Fr cO b4 cO _ from cu);have c4:=zH D;have ap:=zH (aT a7 D);have ah:=kU ap bg;have an:=ai bb ap;have d7:=zH an;have⟨⟨r0,r1,r2,r3,r4,r5,r6,r7,r8,r9⟩,f0,f1,f2,f3,f4,f5,f6,f7,f8,f9⟩:=sF an;have c8:=zH (aT bc ap))
    |(go_at_call 86;(with_reducible refine(d5.o _ (aC _)).x ?_);intro e b4 h;unfold Cx at h;obtain⟨a2,d,bh,cn,D⟩:=h;subst bh;have a7:=zH ((aC ao).t D);have c9:=zH (show Fr b4 ao b4 (fun av=>bt av a2 S.rows) from cn.E fun av h=>h.at))))
  all_goals clear ah
  all_goals go_wp2_with fail
  all_goals
   go_meet
   have⟨c3,c6⟩:=bJ (aT b8 ap) (gm ch a7.size);with_reducible exact⟨rfl,zmn d7.o c9.o c4.o ch.o d6.o c8.o dc.o c3.o d4.o d2.o c6.o⟩
 case rest=>
  obtain⟨rfl,cr⟩:=hcut;unfold StB at cr;obtain⟨a2,d,be,b3,an,ct,D⟩:=cr;obtain⟨⟨u0,u1,u2,u3,u4,u5,u6,u7,u8,u9⟩,-⟩:=sF an;have⟨d1,c7⟩:=bJ ct D;go_wp2;refine aI (v:=.tuple #[.agg #[(F.w:Nat),.slice H F.es T,.slice I F.i U,.slice J F.o Y,S.v,S.h,.slice a2 S.rows d,(R.l:Nat),(R.r:Nat),.slice be R.b b3],.bool true]) (by simp[results,results53,go_sem, *]) rfl ?_;refine⟨F.w,_,_,_,H,I,J,T,U,Y,S,a2,d,R.l,R.r,be,R.b,b3,by rw[HT.o],fun _=>⟨t,cj,by rw[ad.o];exact a4.Z.1,by rw[ad.o];exact a4.Z.2,by rw[d3.o,Mt.o]⟩,d1.E fun av bq=>⟨bq.1,fun _=>⟨t,cj,QS,QS,QS,QS,by rw[ad.o],by rw[ad.o],by rw[ad.o],by rw[<-Mt.o];exact bq.2.2,by rw[<-ad.o];exact bq.2.1⟩⟩,c7⟩
end
def zlB(p:Int)(D F:List eE)(w:aa)(e:Ending)(w':aa):Prop:=∃(Z ab ap av a0 d1 d2 d3 ac ad ah f1 f2 f3 am an a1 a2 ao a3 a6 a7 a4 a5:Nat) (G1 H I J O T U Y G E:ax) (S h:Sy),
 e=.returned (.tuple (ka (lR p Z G1 ap d1 H av d2 I a0 d3 S.v S.h G S.rows a4 am a1 U ao a6 ab J ac f1 O ad f2 T ah f3 h.v h.h E h.rows a5 an a2 Y a3 a7) (mN p D F)))/\ag w w'/\(mN p D F=true->S=jM p D/\h=jM p F/\bt w' G S.rows/\bt w' E h.rows/\StG p D Z ap av a0 am a1 ao G1 H I U w'/\StG p F ab ac ad ah an a2 a3 J O T Y w')
def ź{D F}(h:mN p D F=true):qf p D=true:=by unfold mN at h;simp only[bN]at h;exact h.1
def zk5{F D}(h:mN p F D=true):qf p D=true:=by unfold mN at h;simp only[bN]at h;exact h.2.1
def su{h}ty x(G:o.op=.load ty x)g(I:h x=.pointer (bH g))t cs fr d(F:w.heap[g]?=some (.cells cs t fr))(H:P.underlying ty=some d)(D:(match d with|.struct _|.array _ _=>true|_=>false)=true)(hi:(P.info? ty).map (·.size)=some cs.size):(execOp h o).run P w=.ok (.value (.agg cs)) w:=by unfold execOp;simp only[G,I,Instr.loadAt,Instr.sureAddr,Sem.run_bind,Sem.run_pure,Dc,run_loadVar_row w g t ty cs fr d F H D hi]
def Θ{fn:Func}{p q:Tmp}{ty:dL}(h:fn.results=#[.cell p ty,.tmp q])(tmps:gg)(w:aa)(g:Nat)(t:dL)(cs:gg)(fr:g_)(d:TypeDesc)(v:aG)(G:tmps.getD p undef=.pointer (bH g))(I:tmps.getD q undef=v)(F:w.heap[g]?=some (.cells cs t fr))(O:P.underlying ty=some d)(D:(match d with|.struct _|.array _ _=>true|_=>false)=true)(hi:(P.info? ty).map (·.size)=some cs.size):(results fn tmps).run P w=.ok (.tuple #[.agg cs,v]) w:=by
 have H:tmps[p]?.getD undef=.pointer (bH g):=by simpa using G
 have J:tmps[q]?.getD undef=v:=by simpa using I
 simp[results,h,H,J,asAddr,run_loadVar_row w g t ty cs fr d F O D hi]
def ω{g}(h:Below B w V)(F:B<=g):Below B w (V.setRow g cs):=⟨h.os,h.tape,h.output,by have:=h.size;simpa[World.setRow]using this,fun k D=>(uM _ _ _ _ Qu).t (h.block k D)⟩
def ö{G}{S}{F}(hr:Region.ready G ops F=[i])(ho:ops.toList[i]?=some o)(I:∀h:pt,Shut (∀a w,S w->(S w->wpAnyH P G ops Q S J (F.setIfInBounds i true) a w)->h a w)->if Region.wanted o (yielded ops a.tmps)=true then Oper.wp P o a w h Q else h (a.put o.dst undef) w):wpAnyH P G ops Q S (J+1) F a w:=by refine⟨fun h0=>Tc,fun j D=>?_⟩;rw[hr]at D;simp only[et,gJ,gX]at D;subst D;exact wpOp_step Sk (fun h hK=>I h (fun a w H O=>hK a w ⟨H,O H⟩))
def ł{G}{S}{F}(D:Region.ready G ops F=[])(h:Q .normal a w):∀H,wpAnyH P G ops Q S H F a w
 |0=>⟨D,h⟩
 |_+1=>⟨fun _=>h,by rw[D];simp⟩
def zfW p La Lb A B b1 b2 w(b9:dZ w)(cK:bR 3 jK w A La)(hB:bR 3 jK w B Lb)(cO:La.length<=1048576)(cR:Lb.length<=1048576):az 29 (j9 p (aV A La b1) (aV B Lb b2)) w (zlB p La Lb w):=by
 have⟨cz,cA⟩:=bJ (fun V (br:ag w V)=>Ľ p La A b1 V (b9.ext br) (bQ cK br) cO) (fun V (br:ag w V)=>Ľ p Lb B b2 V (b9.ext br) (bQ hB br) cR);refine Mg fun la Hq lb Hs=>?_
 rw[<-Hq]at cz ⊢;rw[<-Hs]at cA ⊢;clear cK hB cO cR Hq Hs b9;have hB:=ζ w (.cells (bZ A la b1) 35) (.cells (bZ B lb b2) 35) (.cells rF 71);have⟨q0,q1,q2⟩:=cD w (.cells (bZ A la b1) 35) (.cells (bZ B lb b2) 35) (.cells rF 71);go_enter func29,ntmps29
 go_upto_region 1 with(fail)
 generalize (((w.alloc _).alloc _).alloc _)=W at hB q0 q1 q2 ⊢;have x0:=aF q0 0 rfl
 obtain⟨ci,c0,bz,cu⟩:=gG hB q1 q2 (show(w:Nat)+1+1<W from(bk.1 q2).1);clear hB q0 q1 q2;go_upto_region 2 with(go_at_call 53;(with_reducible refine(cz.o W ci.o).x ?_);intro e bo a2;unfold Ď at a2;obtain⟨a1,a8,a9,ba,G1,Z,ab,d1,d2,d3,S,Y,ao,I,O,am,a7,av,b7,bv,bu,bd⟩:=a2;subst b7;have b3:=zH bv;have c9:=zH bu;have cj:=zH bd;clear bd bu bv)
 clear x0;have⟨bc,ca⟩:=bM bo (.cells (pN a1 G1 a8 d1 Z a9 d2 ab ba d3 S Y ao I O am a7 av) 69);generalize bo.alloc _=cI at bc ca ⊢;have bi:=zH (aT cj bc);have⟨cB,db,Mu,cn⟩:=gG (aT ci bi) (c9.ext bc (ae _)) bc ca;have em:=aF (ai c0 bi) 0 rfl;clear bc ca;go_upto_region 3 with(go_at_call 53;(with_reducible refine(cA.o cI cB.o).x ?_);intro e bp a2;unfold Ď at a2;obtain⟨a3,a4,a5,a6,ac,ad,ah,f1,f2,f3,G,E,ap,J,T,an,bb,a0,b7,bv,bu,bd⟩:=a2;subst b7;have b4:=zH bv;have dc:=zH bu;have ck:=zH bd;clear bd bu bv)
 clear em;have⟨bc,cb⟩:=bM bp (.cells (pN a3 ac a4 f1 ad a5 f2 ah a6 f3 G E ap J T an bb a0) 69);generalize bp.alloc _=be at bc cb ⊢;have⟨b5,c3,ct⟩:=er (aT ck bc) bc cb;clear bc cb;go_upto_region 3 with(fail)
 refine wp_region_lit ?_;refine l7 rfl (fun K hK=>?_);go_simp;refine hK _ _ ?_;clear hK K;refine Df rfl 69 _ rfl bo rfl 69 (pN a1 G1 a8 d1 Z a9 d2 ab ba d3 S Y ao I O am a7 av) (0,0) _ (ai cn b5) underlying69 rfl QT ?_;refine Df rfl 69 _ rfl bp rfl 69 (pN a3 ac a4 f1 ad a5 f2 ah a6 f3 G E ap J T an bb a0) (0,0) _ ct underlying69 rfl QT ?_;refine wpList_buildTo rfl 71 _ rfl _ rfl #[.int .i64 p,.int .i64 (a1:Nat),.slice G1 a8 d1,.slice Z a9 d2,.slice ab ba d3,.int .i64 S.v,.int .i64 S.h,.slice Y S.rows ao,.int .i64 (I:Nat),.int .i64 (O:Nat),.slice am a7 av,.int .i64 (a3:Nat),.slice ac a4 f1,.slice ad a5 f2,.slice ah a6 f3,.int .i64 G.v,.int .i64 G.h,.slice E G.rows ap,.int .i64 (J:Nat),.int .i64 (T:Nat),.slice an bb a0] QT ?_;refine l7 rfl (fun K hK=>?_);go_simp;refine hK _ _ ?_;clear hK K;refine wpList_store_rowTo rfl 71 _ _ rfl rfl be #[.int .i64 p,.int .i64 (a1:Nat),.slice G1 a8 d1,.slice Z a9 d2,.slice ab ba d3,.int .i64 S.v,.int .i64 S.h,.slice Y S.rows ao,.int .i64 (I:Nat),.int .i64 (O:Nat),.slice am a7 av,.int .i64 (a3:Nat),.slice ac a4 f1,.slice ad a5 f2,.slice ah a6 f3,.int .i64 G.v,.int .i64 G.h,.slice E G.rows ap,.int .i64 (J:Nat),.int .i64 (T:Nat),.slice an bb a0] rfl rfl 71 rF (aH be _ rfl) QT rfl QT ?_;have bc:=ω (g:=be.heap.size) (cs:=#[.int .i64 p,.int .i64 (a1:Nat),.slice G1 a8 d1,.slice Z a9 d2,.slice ab ba d3,.int .i64 S.v,.int .i64 S.h,.slice Y S.rows ao,.int .i64 (I:Nat),.int .i64 (O:Nat),.slice am a7 av,.int .i64 (a3:Nat),.slice ac a4 f1,.slice ad a5 f2,.slice ah a6 f3,.int .i64 G.v,.int .i64 G.h,.slice E G.rows ap,.int .i64 (J:Nat),.int .i64 (T:Nat),.slice an bb a0]) (aw be (.cells rF 71)) (ae _);have cc:=AI (be.alloc (.cells rF 71)) be _ #[.int .i64 p,.int .i64 (a1:Nat),.slice G1 a8 d1,.slice Z a9 d2,.slice ab ba d3,.int .i64 S.v,.int .i64 S.h,.slice Y S.rows ao,.int .i64 (I:Nat),.int .i64 (O:Nat),.slice am a7 av,.int .i64 (a3:Nat),.slice ac a4 f1,.slice ad a5 f2,.slice ah a6 f3,.int .i64 G.v,.int .i64 G.h,.slice E G.rows ap,.int .i64 (J:Nat),.int .i64 (T:Nat),.slice an bb a0] _ _ (aH be _ rfl);generalize (be.alloc _).setRow be _=bn at bc cc ⊢;go_upto_region 4 with(fail)
 have b0:=zH (aT b5 bc);have⟨d7,dl,dq,c4⟩:=gG (aT cB b0) ((db.ext b0 TA).x (ae _) (ae _)) (dc.ext (aT c3 bc) (ae _)) (ai (ai bz bi) b0);have co:=ai cn b0;have cp:=ai ct bc;obtain⟨dr,dO,dT⟩:=er (show bo.heap.size≠(w:Nat)+1+1 by have:=(bk.1 (ai bz cj)).1;omega) (show bp.heap.size≠(w:Nat)+1+1 by have:=(bk.1 (ai bz (aT bi ck))).1;omega) (show be.heap.size≠(w:Nat)+1+1 by have:=(bk.1 (ai bz (aT bi b5))).1;omega);have d6:=zH (show mN p La Lb=(qf p La&&(qf p Lb&&(decide (I=J)&&decide (O=T)))) from by
  unfold mN;cases bh:qf p La
  .rfl
  cases bd:qf p Lb
  .rfl
  obtain⟨t,bg,eb,ee,-⟩:=b3 bh;obtain⟨ez,ek,eg,ei,-⟩:=b4 bd;unfold tyB;rw[bg,ek,eb,ee,eg,ei])
 obtain⟨d0,d4,c5,c6,c7⟩:=pD (fun(a2:mN p La Lb=true)=>(show S=jM p La from by unfold mN at a2;simp only[bN]at a2;obtain⟨t,bg,-,-,g⟩:=b3 a2.1;rw[g,sG bg])) (fun(a2:mN p La Lb=true)=>(show G=jM p Lb from by unfold mN at a2;simp only[bN]at a2;obtain⟨t,bg,-,-,g⟩:=b4 a2.2.1;rw[g,sG bg])) (show(w:Nat)+1+1<W from cu.o) (show(w:Nat)+1+1<cI from gm cu bi.size) (Qu:(w:Nat)<=w+1+1);have cF:=aQ cc (aQ co cp);obtain⟨ch,d8⟩:=bJ (show bn.drew.heap[(w:Nat)+1+1]?=_ from c4.o) d7.drew;clear bc cc b3 b4 co cp;obtain⟨x,eo,es,cV⟩:∃x:Bool,decide ((I:Int)=(J:Int))=x/\((I:Int)==(J:Int))=x/\decide (I=J)=x:=⟨decide (I=J),AJ.2 Qu,(by rw[jQ,pT,cf];omega),rfl⟩;obtain⟨y,ev,ey,cW⟩:∃x:Bool,decide ((O:Int)=(T:Int))=x/\((O:Int)==(T:Int))=x/\decide (O=T)=x:=⟨decide (O=T),AJ.2 Qu,(by rw[jQ,pT,cf];omega),rfl⟩;have ej:(qf p La=false/\mN p La Lb=false)∨(qf p La=true/\qf p Lb=false/\mN p La Lb=false)∨(qf p La=true/\qf p Lb=true/\x=false/\mN p La Lb=false)∨(qf p La=true/\qf p Lb=true/\x=true/\y=false/\mN p La Lb=false)∨(qf p La=true/\qf p Lb=true/\x=true/\y=true/\mN p La Lb=true):=by rw[d6.o,cV,cW];cases qf p La<;>cases qf p Lb<;>cases x<;>cases y<;>simp
 rcases ej with⟨bh,bg⟩|⟨bh,bd,bg⟩|⟨bh,bd,rfl,bg⟩|⟨bh,bd,rfl,rfl,bg⟩|⟨bh,bd,rfl,rfl,bg⟩
 all_goals
  have d5:=zH bg
  (try rw[bh]);(try rw[bd])
  clear bg;have bq:(fun V:World=>bA V be (lR p a1 G1 a8 d1 Z a9 d2 ab ba d3 S.v S.h Y S.rows ao I O am a7 av a3 ac a4 f1 ad a5 f2 ah a6 f3 G.v G.h E G.rows ap J T an bb a0) 71/\bA V bo (pN a1 G1 a8 d1 Z a9 d2 ab ba d3 S Y ao I O am a7 av) 69/\bA V bp (pN a3 ac a4 f1 ad a5 f2 ah a6 f3 G E ap J T an bb a0) 69) bn.drew:=cF;refine C8 (S:=fun V=>bA V be (lR p a1 G1 a8 d1 Z a9 d2 ab ba d3 S.v S.h Y S.rows ao I O am a7 av a3 ac a4 f1 ad a5 f2 ah a6 f3 G.v G.h E G.rows ap J T an bb a0) 71/\bA V bo (pN a1 G1 a8 d1 Z a9 d2 ab ba d3 S Y ao I O am a7 av) 69/\bA V bp (pN a3 ac a4 f1 ad a5 f2 ah a6 f3 G E ap J T an bb a0) 69) QT bq (fun hHeld=>?_);first
   |(refine ef 0 (v:=undef) rfl (au ⟨Qs,rfl⟩) ?_)
   |(refine ef 0 rfl (ay ⟨Qs,fun U H=>su 71 _ rfl be rfl 71 (lR p a1 G1 a8 d1 Z a9 d2 ab ba d3 S.v S.h Y S.rows ao I O am a7 av a3 ac a4 f1 ad a5 f2 ah a6 f3 G.v G.h E G.rows ap J T an bb a0) (0,0) _ H.1 uL rfl QT⟩) ?_)
  simp only[Act.put,zA];first
   |(refine ef 1 (v:=undef) rfl (au ⟨Qs,rfl⟩) ?_)
   |(refine ef 1 (v:=?_) rfl (ay ⟨Qs,?_⟩) ?_;rotate_left;(focus (intro U H;obtain⟨D,h,F⟩:=H;(try dsimp only at D h F);go_simp;(try with_reducible rfl))))
  simp only[Act.put,zA];first
   |(refine ef 2 (v:=undef) rfl (au ⟨Qs,rfl⟩) ?_)
   |(refine ef 2 (v:=?_) rfl (ay ⟨Qs,?_⟩) ?_;rotate_left;(focus (intro U H;obtain⟨D,h,F⟩:=H;(try dsimp only at D h F);go_simp;(try with_reducible rfl))))
  simp only[Act.put,zA];first
   |(refine ef 3 (v:=undef) rfl (au ⟨Qs,rfl⟩) ?_)
   |(refine ef 3 (v:=?_) rfl (ay ⟨Qs,?_⟩) ?_;rotate_left;(focus (intro U H;obtain⟨D,h,F⟩:=H;(try dsimp only at D h F);go_simp;(try with_reducible rfl))))
  simp only[Act.put,zA];first
   |(refine ef 4 (v:=undef) rfl (au ⟨Qs,rfl⟩) ?_)
   |(refine ef 4 (v:=?_) rfl (ay ⟨Qs,?_⟩) ?_;rotate_left;(focus (intro U H;obtain⟨D,h,F⟩:=H;(try dsimp only at D h F);go_simp;(try with_reducible rfl))))
  simp only[Act.put,zA];first
   |(refine ef 5 (v:=undef) rfl (au ⟨Qs,rfl⟩) ?_)
   |(refine ef 5 (v:=?_) rfl (ay ⟨Qs,?_⟩) ?_;rotate_left;(focus (intro U H;obtain⟨D,h,F⟩:=H;(try dsimp only at D h F);go_simp;(try with_reducible rfl))))
  simp only[Act.put,zA];first
   |(refine ef 6 (v:=undef) rfl (au ⟨Qs,rfl⟩) ?_)
   |(refine ef 6 (v:=?_) rfl (ay ⟨Qs,?_⟩) ?_;rotate_left;(focus (intro U H;obtain⟨D,h,F⟩:=H;(try dsimp only at D h F);go_simp;(try with_reducible rfl))))
  simp only[Act.put,zA];first
   |(refine ef 7 (v:=undef) rfl (au ⟨Qs,rfl⟩) ?_)
   |(refine ef 7 (v:=?_) rfl (ay ⟨Qs,?_⟩) ?_;rotate_left;(focus (intro U H;obtain⟨D,h,F⟩:=H;(try dsimp only at D h F);go_simp;(try with_reducible rfl))))
  simp only[Act.put,zA];first
   |(refine ef 8 (v:=undef) rfl (au ⟨Qs,rfl⟩) ?_)
   |(refine ef 8 (v:=?_) rfl (ay ⟨Qs,?_⟩) ?_;rotate_left;(focus (intro U H;obtain⟨D,h,F⟩:=H;(try dsimp only at D h F);have b8:=aF h 7 rfl;go_simp;(try with_reducible rfl))))
  simp only[Act.put,zA];first
   |(refine ef 9 (v:=undef) rfl (au ⟨Qs,rfl⟩) ?_)
   |(refine ef 9 (v:=?_) rfl (ay ⟨Qs,?_⟩) ?_;rotate_left;(focus (intro U H;obtain⟨D,h,F⟩:=H;(try dsimp only at D h F);go_simp;(try with_reducible rfl))))
  simp only[Act.put,zA];first
   |(refine ef 10 (v:=undef) rfl (au ⟨Qs,rfl⟩) ?_)
   |(refine ef 10 (v:=?_) rfl (ay ⟨Qs,?_⟩) ?_;rotate_left;(focus (intro U H;obtain⟨D,h,F⟩:=H;(try dsimp only at D h F);go_simp;(try with_reducible rfl))))
  simp only[Act.put,zA];first
   |(refine ef 11 (v:=undef) rfl (au ⟨Qs,rfl⟩) ?_)
   |(refine ef 11 (v:=?_) rfl (ay ⟨Qs,?_⟩) ?_;rotate_left;(focus (intro U H;obtain⟨D,h,F⟩:=H;(try dsimp only at D h F);have b8:=aF F 7 rfl;go_simp;(try with_reducible rfl))))
  simp only[Act.put,zA];first
   |(refine ef 12 (v:=undef) rfl (au ⟨Qs,rfl⟩) ?_)
   |(refine ef 12 (v:=?_) rfl (ay ⟨Qs,?_⟩) ?_;rotate_left;(focus (intro U H;obtain⟨D,h,F⟩:=H;(try dsimp only at D h F);clear D h F;go_simp;(try with_reducible rfl))))
  simp only[Act.put,zA];first
   |(refine ef 13 (v:=undef) rfl (au ⟨Qs,rfl⟩) ?_)
   |(refine ef 13 (v:=?_) rfl (ay ⟨Qs,?_⟩) ?_;rotate_left;(focus (intro U H;obtain⟨D,h,F⟩:=H;(try dsimp only at D h F);go_simp;(try with_reducible rfl))))
  simp only[Act.put,zA];first
   |(refine ef 14 (v:=undef) rfl (au ⟨Qs,rfl⟩) ?_)
   |(refine ef 14 (v:=?_) rfl (ay ⟨Qs,?_⟩) ?_;rotate_left;(focus (intro U H;obtain⟨D,h,F⟩:=H;(try dsimp only at D h F);go_simp;(try with_reducible rfl))))
  simp only[Act.put,zA];first
   |(refine ef 15 (v:=undef) rfl (au ⟨Qs,rfl⟩) ?_)
   |(refine ef 15 (v:=?_) rfl (ay ⟨Qs,?_⟩) ?_;rotate_left;(focus (intro U H;obtain⟨D,h,F⟩:=H;(try dsimp only at D h F);go_simp;(try with_reducible rfl))))
  simp only[Act.put,zA];first
   |(refine ef 16 (v:=undef) rfl (au ⟨Qs,rfl⟩) ?_)
   |(refine ef 16 (v:=?_) rfl (ay ⟨Qs,?_⟩) ?_;rotate_left;(focus (intro U H;obtain⟨D,h,F⟩:=H;(try dsimp only at D h F);go_simp;(try with_reducible rfl))))
  simp only[Act.put,zA];first
   |(refine ef 17 (v:=undef) rfl (au ⟨Qs,rfl⟩) ?_)
   |(refine ef 17 (v:=?_) rfl (ay ⟨Qs,?_⟩) ?_;rotate_left;(focus (intro U H;obtain⟨D,h,F⟩:=H;(try dsimp only at D h F);have b8:=aF h 8 rfl;go_simp;(try with_reducible rfl))))
  simp only[Act.put,zA];first
   |(refine ef 18 (v:=undef) rfl (au ⟨Qs,rfl⟩) ?_)
   |(refine ef 18 (v:=?_) rfl (ay ⟨Qs,?_⟩) ?_;rotate_left;(focus (intro U H;obtain⟨D,h,F⟩:=H;(try dsimp only at D h F);go_simp;(try with_reducible rfl))))
  simp only[Act.put,zA];first
   |(refine ef 19 (v:=undef) rfl (au ⟨Qs,rfl⟩) ?_)
   |(refine ef 19 (v:=?_) rfl (ay ⟨Qs,?_⟩) ?_;rotate_left;(focus (intro U H;obtain⟨D,h,F⟩:=H;(try dsimp only at D h F);go_simp;(try with_reducible rfl))))
  simp only[Act.put,zA];first
   |(refine ef 20 (v:=undef) rfl (au ⟨Qs,rfl⟩) ?_)
   |(refine ef 20 (v:=?_) rfl (ay ⟨Qs,?_⟩) ?_;rotate_left;(focus (intro U H;obtain⟨D,h,F⟩:=H;(try dsimp only at D h F);have b8:=aF F 8 rfl;go_simp;(try with_reducible rfl))))
  simp only[Act.put,zA];first
   |(refine ef 21 (v:=undef) rfl (au ⟨Qs,rfl⟩) ?_)
   |(refine ef 21 (v:=?_) rfl (ay ⟨Qs,?_⟩) ?_;rotate_left;(focus (intro U H;obtain⟨D,h,F⟩:=H;(try dsimp only at D h F);clear D h F;go_simp;(try with_reducible rfl))))
  simp only[Act.put,zA];first
   |(refine ef 22 (v:=undef) rfl (au ⟨Qs,rfl⟩) ?_)
   |(refine ef 22 (v:=?_) rfl (ay ⟨Qs,?_⟩) ?_;rotate_left;(focus (intro U H;obtain⟨D,h,F⟩:=H;(try dsimp only at D h F);go_simp;(try with_reducible rfl))))
  simp only[Act.put,zA];refine ö (i:=23) QT rfl (fun K hK=>?_);rw[ak Qs];refine wp_store_row 71 _ _ rfl ((w:Nat)+1+1) #[.int .i64 p,.int .i64 (a1:Nat),.slice G1 a8 d1,.slice Z a9 d2,.slice ab ba d3,.int .i64 S.v,.int .i64 S.h,.slice Y S.rows ao,.int .i64 (I:Nat),.int .i64 (O:Nat),.slice am a7 av,.int .i64 (a3:Nat),.slice ac a4 f1,.slice ad a5 f2,.slice ah a6 f3,.int .i64 G.v,.int .i64 G.h,.slice E G.rows ap,.int .i64 (J:Nat),.int .i64 (T:Nat),.slice an bb a0] rfl rfl 71 rF ch.o QT rfl QT ?_;refine hK.out _ _ ⟨(uM _ _ _ _ dT.o).t bq.1,(uM _ _ _ _ dr.o).t bq.2.1,(uM _ _ _ _ dO.o).t bq.2.2⟩ (fun b6=>?_);clear hK K;refine ö (i:=24) QT rfl (fun K hK=>?_);go_simp;refine hK.out _ _ b6 (fun _=>?_);clear hK K;refine ł QT ?_ _;have ce:=AI bn.drew ((w:Nat)+1+1) _ #[.int .i64 p,.int .i64 (a1:Nat),.slice G1 a8 d1,.slice Z a9 d2,.slice ab ba d3,.int .i64 S.v,.int .i64 S.h,.slice Y S.rows ao,.int .i64 (I:Nat),.int .i64 (O:Nat),.slice am a7 av,.int .i64 (a3:Nat),.slice ac a4 f1,.slice ad a5 f2,.slice ah a6 f3,.int .i64 G.v,.int .i64 G.h,.slice E G.rows ap,.int .i64 (J:Nat),.int .i64 (T:Nat),.slice an bb a0] _ _ ch.o;have D:=dl (bn.drew.setRow ((w:Nat)+1+1) #[.int .i64 p,.int .i64 (a1:Nat),.slice G1 a8 d1,.slice Z a9 d2,.slice ab ba d3,.int .i64 S.v,.int .i64 S.h,.slice Y S.rows ao,.int .i64 (I:Nat),.int .i64 (O:Nat),.slice am a7 av,.int .i64 (a3:Nat),.slice ac a4 f1,.slice ad a5 f2,.slice ah a6 f3,.int .i64 G.v,.int .i64 G.h,.slice E G.rows ap,.int .i64 (J:Nat),.int .i64 (T:Nat),.slice an bb a0]) fun k a b=>uM _ _ _ _ (by have:=c5.o;omega)
  have h:=dq (bn.drew.setRow ((w:Nat)+1+1) #[.int .i64 p,.int .i64 (a1:Nat),.slice G1 a8 d1,.slice Z a9 d2,.slice ab ba d3,.int .i64 S.v,.int .i64 S.h,.slice Y S.rows ao,.int .i64 (I:Nat),.int .i64 (O:Nat),.slice am a7 av,.int .i64 (a3:Nat),.slice ac a4 f1,.slice ad a5 f2,.slice ah a6 f3,.int .i64 G.v,.int .i64 G.h,.slice E G.rows ap,.int .i64 (J:Nat),.int .i64 (T:Nat),.slice an bb a0]) fun k a b=>uM _ _ _ _ (by have:=c6.o;omega)
  have bd:=ω (g:=(w:Nat)+1+1) (cs:=#[.int .i64 p,.int .i64 (a1:Nat),.slice G1 a8 d1,.slice Z a9 d2,.slice ab ba d3,.int .i64 S.v,.int .i64 S.h,.slice Y S.rows ao,.int .i64 (I:Nat),.int .i64 (O:Nat),.slice am a7 av,.int .i64 (a3:Nat),.slice ac a4 f1,.slice ad a5 f2,.slice ah a6 f3,.int .i64 G.v,.int .i64 G.h,.slice E G.rows ap,.int .i64 (J:Nat),.int .i64 (T:Nat),.slice an bb a0]) d8 c7;generalize bn.drew.setRow ((w:Nat)+1+1) _=ea at ce D h bd b6 ⊢;have⟨d9,cq,cr,c8⟩:=gG ce D h bd;clear ce D h bd b6 bq cF;go_wp2;refine aI (Θ results29 _ ea ((w:Nat)+1+1) 71 (lR p a1 G1 a8 d1 Z a9 d2 ab ba d3 S.v S.h Y S.rows ao I O am a7 av a3 ac a4 f1 ad a5 f2 ah a6 f3 G.v G.h E G.rows ap J T an bb a0) (0,0) _ _ rfl rfl d9.o uL rfl QT) rfl ⟨a1,a3,a8,a9,ba,d1,d2,d3,a4,a5,a6,f1,f2,f3,I,J,O,T,a7,bb,av,a0,ao,ap,G1,Z,ab,ac,ad,ah,am,an,Y,E,S,G,by rw[d5.o];rfl,c8,fun a2=>⟨d0 a2,d4 a2,cq.1,cr.1,cq.2 (ź a2),cr.2 (zk5 a2)⟩⟩
def zbX{fn}{p}{ty}(h:fn.results=#[.cell p ty])tmps w g t cs fr d(G:tmps.getD p undef=.pointer (bH g))(F:w.heap[g]?=some (.cells cs t fr))(I:P.underlying ty=some d)(D:(match d with|.struct _|.array _ _=>true|_=>false)=true)(hi:(P.info? ty).map (·.size)=some cs.size):(results fn tmps).run P w=.ok (.agg cs) w:=by
 have H:tmps[p]?.getD undef=.pointer (bH g):=by simpa using G
 simp[results,h,H,asAddr,run_loadVar_row w g t ty cs fr d F I D hi]
def ű(w:aa)h D:Below w w ((w.alloc h).alloc D)/\((w.alloc h).alloc D).heap[w.heap.size]?=some h/\((w.alloc h).alloc D).heap[(w:Nat)+1]?=some D:=⟨((al w w).alloc (ae _) _).alloc Qt _,(bO _ _ Qt).t (aH w _ rfl),aH _ _ Qt⟩
def zd9 p D F G H I a0 a1 a2 a3 a4 J O T U Y a5 a6 a7 a8 a9 am Z an ab ao ac ap ad av ah bg ba bh bb bi bc bn bd bo be w:az 55 (cY (Ā p D J am Z O an ab T ao ac F G U ap ad H I Y av ah a0 a5 bg ba a6 bh bb a7 bi bc a1 a2 a8 bn bd a3 a4 a9 bo be)) w fun e w'=>e=.returned (.agg (Ā p a0 a5 bg ba a6 bh bb a7 bi bc a1 a2 a8 bn bd a3 a4 a9 bo be D J am Z O an ab T ao ac F G U ap ad H I Y av ah))/\ag w w':=by
 have⟨bp,h,bq⟩:=ű w (.cells (Ā p D J am Z O an ab T ao ac F G U ap ad H I Y av ah a0 a5 bg ba a6 bh bb a7 bi bc a1 a2 a8 bn bd a3 a4 a9 bo be) 71) (.cells rF 71);go_enter func55,ntmps55
 go_upto_region 1 with(fail)
 generalize ((w.alloc _).alloc _)=W at bp h bq ⊢;have bv:=aF h 0 rfl;have c1:=aF h 1 rfl;have c2:=aF h 2 rfl;have bz:=aF h 3 rfl;have b0:=aF h 4 rfl;have b1:=aF h 5 rfl;have b2:=aF h 6 rfl;have b3:=aF h 7 rfl;have b4:=aF h 8 rfl;have b5:=aF h 9 rfl;have b6:=aF h 10 rfl;have b7:=aF h 11 rfl;have b8:=aF h 12 rfl;have b9:=aF h 13 rfl;have ca:=aF h 14 rfl;have cb:=aF h 15 rfl;have cc:=aF h 16 rfl;have ce:=aF h 17 rfl;have ch:=aF h 18 rfl;have ci:=aF h 19 rfl;have cj:=aF h 20 rfl;have⟨bu,br⟩:=bJ bp bq;clear bp h bq;refine wp_region_lit ?_;iterate 6 (refine l7 rfl (fun K hK=>?_);go_simp;refine hK _ _ ?_;clear hK K)
 refine wpList_buildTo rfl 71 _ rfl _ rfl #[.int .i64 p,.int .i64 a0,.slice a5 bg ba,.slice a6 bh bb,.slice a7 bi bc,.int .i64 a1,.int .i64 a2,.slice a8 bn bd,.int .i64 a3,.int .i64 a4,.slice a9 bo be,.int .i64 D,.slice J am Z,.slice O an ab,.slice T ao ac,.int .i64 F,.int .i64 G,.slice U ap ad,.int .i64 H,.int .i64 I,.slice Y av ah] QT ?_;refine wpList_store_rowTo rfl 71 _ _ rfl rfl ((w:Nat)+1) #[.int .i64 p,.int .i64 a0,.slice a5 bg ba,.slice a6 bh bb,.slice a7 bi bc,.int .i64 a1,.int .i64 a2,.slice a8 bn bd,.int .i64 a3,.int .i64 a4,.slice a9 bo be,.int .i64 D,.slice J am Z,.slice O an ab,.slice T ao ac,.int .i64 F,.int .i64 G,.slice U ap ad,.int .i64 H,.int .i64 I,.slice Y av ah] rfl rfl 71 rF br.o QT rfl QT ?_;clear bv c1 c2 bz b0 b1 b2 b3 b4 b5 b6 b7 b8 b9 ca cb cc ce ch ci cj;go_wp2;have ck:=AI W ((w:Nat)+1) _ #[.int .i64 p,.int .i64 a0,.slice a5 bg ba,.slice a6 bh bb,.slice a7 bi bc,.int .i64 a1,.int .i64 a2,.slice a8 bn bd,.int .i64 a3,.int .i64 a4,.slice a9 bo be,.int .i64 D,.slice J am Z,.slice O an ab,.slice T ao ac,.int .i64 F,.int .i64 G,.slice U ap ad,.int .i64 H,.int .i64 I,.slice Y av ah] _ _ br.o;exact aI (zbX results55 _ _ ((w:Nat)+1) 71 _ (0,0) _ rfl ck uL rfl QT) rfl ⟨rfl,ω bu (qe _)⟩
def zbY G an ah am(D:Int)I cs H v3 v4 v5 w(a0:(prog.info? 71).map (·.size)=some G.size)(ap:∀h,ag w h->az 54 #[.agg G,.agg #[.bool false,.slice H I cs,D,v3,v4,v5]] h (dt h ah))(ao:∀h,az 55 #[.agg G] h fun e w'=>e=.returned (.agg an)/\ag h w')(av:∀h,ag w h->az 54 #[.agg an,.agg #[.bool false,.slice H I cs,D,v3,v4,v5]] h (dt h am)):az 30 #[.agg G,.agg #[.bool false,.slice H I cs,D,v3,v4,v5]] w (dt w (decide (I=0)&&(if D=1 then ah else if D=2 then am else false))):=by
 have⟨U,Z,hr⟩:=ű w (.cells G 71) (.cells #[.bool false,.slice H I cs,D,v3,v4,v5] 39);have⟨a4,a2,a5,ac⟩:=gG ap ao av a0;clear ap ao av a0;go_enter func30,ntmps30
 go_upto_region 1 with(fail)
 generalize ((w.alloc _).alloc _)=W at U Z hr ⊢;refine Oa fun x0 x1 x2 x3 x4 x5=>?_
 have⟨J,ab,a3⟩:=er U Z hr;clear U Z hr;by_cases hn:I=0
 rotate_left
 .have a7:decide (0 < (I:Int))=true:=QW;go_wp2_with (fail)
  all_goals
   go_ret
   exact⟨aN QJ,J.o⟩
 subst hn;by_cases h1:D=1
 .subst h1;go_wp2_with (first|(go_at_call 54;(with_reducible refine(a4.o _ J.o).x ?_);rintro e a8 ⟨rfl,F⟩;have FV:=zH (aT J.o F);clear F)|(refine Df rfl 71 (.tmp 2) rfl w rfl 71 G (0,0) _ ab uL rfl ac.o ?_))
  exact Wf
 have a7:decide (D=1)=false:=QP;have a9:(D==1)=false:=QP;by_cases h2:D=2
 rotate_left
 .have ba:decide (D=2)=false:=QQ;have bb:(D==2)=false:=QQ;go_wp2_with (fail)
  go_ret
  exact⟨aN Q9,J.o⟩
 subst h2;go_upto_region 8 with(fail)
 have T:bA W w G 71/\bA W ((w:Nat)+1) #[.bool false,.slice H 0 cs,.int .i64 2,v3,v4,v5] 39:=⟨ab,a3⟩;refine C8 (S:=fun h=>bA h w G 71/\bA h ((w:Nat)+1) #[.bool false,.slice H 0 cs,.int .i64 2,v3,v4,v5] 39) QT T (fun hHeld=>?_);refine ef 0 rfl (ay ⟨Qs,fun h Y=>su 71 _ rfl w rfl 71 G (0,0) _ Y.1 uL rfl ac.o⟩) ?_;simp only[Act.put,zA];refine ef 2 rfl (ay ⟨Qs,fun h Y=>su 39 _ rfl ((w:Nat)+1) rfl 39 #[.bool false,.slice H 0 cs,.int .i64 2,v3,v4,v5] (0,0) _ Y.2 underlying39 rfl QT⟩) ?_;simp only[Act.put,zA];refine ö (i:=1) QT rfl (fun K hK=>?_);go_simp;refine(a2.o _).x ?_;rintro e a8 ⟨rfl,F⟩;have O:=(aC W).t F;have FV:=zH (aT J.o O);go_simp;refine hK.out _ _ ⟨ai T.1 O,ai T.2 O⟩ (fun ad=>?_);clear hK K F O;refine P9 ?_;refine ö (i:=3) QT rfl (fun K hK=>?_);go_simp;refine(a5.o _ FV.o).x ?_;rintro e bc ⟨rfl,F⟩;have a1:=zH (aT FV F);go_simp;refine hK.out _ _ ⟨ai ad.1 F,ai ad.2 F⟩ (fun a6=>?_);clear hK K F;refine P9 ?_;refine ö (i:=4) QT rfl (fun K hK=>?_);go_simp;refine hK.out _ _ a6 (fun _=>?_);clear hK K;refine ł QT ?_ _;go_wp2;go_ret
 exact⟨aN Qt,a1⟩
def zX p h D x a(G:mN p h D=true)a4 a8 bg bh bi d1 d2 d3 a9 ba bb f1 f2 f3 bc bd bp bq be br ap av an ao G1 T U Y Z ab ac ad O E w(a5:dZ w)(b6:bt w O (jM p h).rows)(b7:bt w E (jM p D).rows)(b8:StG p h a4 bg bh bi bc bp be G1 T U ac w)(b9:StG p D a8 a9 ba bb bd bq br Y Z ab ad w)(J:pO w a x)(I:vR 1048576 x):az 30 #[.agg #[p,(a4:Nat),.slice G1 bg d1,.slice T bh d2,.slice U bi d3,.int .i64 (jM p h).v,.int .i64 (jM p h).h,.slice O (jM p h).rows an,(bc:Nat),(bp:Nat),.slice ac be ap,(a8:Nat),.slice Y a9 f1,.slice Z ba f2,.slice ab bb f3,.int .i64 (jM p D).v,.int .i64 (jM p D).h,.slice E (jM p D).rows ao,(bd:Nat),(bq:Nat),.slice ad br av],.agg (dy x a)] w (dt w (î p h D x)):=by
 unfold î;cases ce:x.e
 .rw[aj Qt];obtain⟨t,a6,rfl,rfl,rfl,rfl,rfl,rfl,rfl,cb,bz⟩:=b8;obtain⟨u,a7,rfl,rfl,rfl,rfl,rfl,rfl,rfl,cc,b0⟩:=b9;have⟨ch,b1,gt⟩:=oc (ź G);rw[a6]at b1;cases b1
  have⟨ci,b2,H⟩:=oc (zk5 G);rw[a7]at b2;cases b2
  have ah:t.gr.i.length=u.gr.i/\t.gr.o.length=u.gr.o:=by unfold mN tyB at G;rw[a6,a7]at G;simp only[bN,cf]at G;exact G.2.2
  rw[yV a6,yV a7];have a0:=gt.Z;have a1:=H.Z;obtain⟨c,a2⟩:=gt.ty;obtain⟨b5,a3⟩:=H.ty;have ca:b5=c:=by have bu:=Tm.qF a2;have bv:=Tm.qF a3;exact Prod.ext (by rw[<-bu.2.1,<-bv.2.1];exact ah.1.q) (by rw[<-bu.2.2,<-bv.2.2];exact ah.2.q)
  subst ca;have bn:=Tm.zbn gt.Q gt.gb;have bo:=Tm.zbn H.Q H.gb;have b3:=(Tm.tN gt.f a2 gt.Q).2.2.1;have b4:=(Tm.tN gt.f a3 H.Q).2.2.1;unfold ϋ;rw[<-zdK gt.f a2 a3 gt.Q H.Q bn bo,<-zdK gt.f a3 a2 H.Q gt.Q bo bn];exact zbY _ #[.int .i64 p,.int .i64 (u.gr.w:Nat),.slice Y u.gr.es f1,.slice Z u.gr.i f2,.slice ab u.gr.o f3,.int .i64 (jM p D).v,.int .i64 (jM p D).h,.slice E (jM p D).rows ao,.int .i64 ((u.rel p).l:Nat),.int .i64 ((u.rel p).r:Nat),.slice ad (u.rel p).b av,.int .i64 (t.gr.w:Nat),.slice G1 t.gr.es d1,.slice T t.gr.i d2,.slice U t.gr.o d3,.int .i64 (jM p h).v,.int .i64 (jM p h).h,.slice O (jM p h).rows an,.int .i64 ((t.rel p).l:Nat),.int .i64 ((t.rel p).r:Nat),.slice ac (t.rel p).b ap] _ _ x.sd x.xs a.c a.A _ _ _ w QT
   (fun am F=>xS p t.gr (t.rel p) (u.rel p) x.x3 x.x4 x.x5 false x.sd (jM p h).v (jM p h).h (jM p D).v (jM p D).h d1 d2 d3 _ _ _ _ f1 f2 f3 _ _ an ao ap av _ a.c a.c3 a.c4 a.c5 G1 T U Y Z ab O E ac ad a.A a.A3 a.A4 a.A5 am gt.f (a5.ext F) (cb.ext F) gt.ok bn (bz.ext F) b3 (b0.ext F) b4 a0 ⟨by rw[a0.1,a1.1];exact ah.1.q,by rw[a0.2,a1.2];exact ah.2.q⟩ (J.ext F).i3 (J.ext F).i4 (J.ext F).i5 I.i3 I.i4 I.i5)
   (fun am=>zd9 p _ _ _ _ _ _ _ _ _ _ _ _ _ _ _ _ _ _ _ _ _ _ _ _ _ _ _ _ _ _ _ _ _ _ _ _ _ _ _ _ am)
   (fun am F=>xS p u.gr (u.rel p) (t.rel p) x.x3 x.x4 x.x5 false x.sd (jM p D).v (jM p D).h (jM p h).v (jM p h).h f1 f2 f3 _ _ _ _ d1 d2 d3 _ _ ao an av ap _ a.c a.c3 a.c4 a.c5 Y Z ab G1 T U E O ad ac a.A a.A3 a.A4 a.A5 am gt.f (a5.ext F) (cc.ext F) H.ok bo (b0.ext F) b4 (bz.ext F) b3 a1 ⟨by rw[a0.1,a1.1];exact ah.1,by rw[a0.2,a1.2];exact ah.2⟩ (J.ext F).i3 (J.ext F).i4 (J.ext F).i5 I.i3 I.i4 I.i5)
 .rw[ak rfl];exact zc5 p (jM p h) (jM p D) x.xs x.sd a4 a8 bg bh bi d1 d2 d3 a9 ba bb f1 f2 f3 bc bd bp bq be br ap av an ao x.x3 x.x4 x.x5 a.c a.c3 a.c4 a.c5 G1 T U Y Z ab ac ad O E a.A a.A3 a.A4 a.A5 w a5 b6 J.s b7 (kW G).1 I.ss (sN (kW G).2).1 (sN (kW G).2).2
def zga{D}{h}(F:(w.alloc (.cells D h)).setRow w cs=V):ag w V/\bA V w cs h:=by subst F;exact⟨ω (aw _ _) (ae _),AI _ _ D cs h _ (aH w _ rfl)⟩
def StG.ext{ne I no l}{h D F}{G}(O:StG p L J ne I no l r m A1 h D F G)(H:ag G V):StG p L J ne I no l r m A1 h D F V:=by obtain⟨t,T,U,Y,Z,ab,ac,ad,ah,am,an⟩:=O;exact⟨t,T,U,Y,Z,ab,ac,ad,ah,am.ext H,an.ext H⟩
def Fu(I:Region.wanted o (yielded ops a.tmps)=true)ty x(G:o.op=.load ty x)g(J:a.eval x=.pointer (bH g))t cs fr d(F:w.heap[g]?=some (.cells cs t fr))(H:P.underlying ty=some d)(D:(match d with|.struct _|.array _ _=>true|_=>false)=true)(hi:(P.info? ty).map (·.size)=some cs.size)(h:wpList P ops Q rest (a.put o.dst (.agg cs)) w):wpList P ops Q (o::rest) a w:=wpList_step fun _ hK=>by rw[ak I];exact wp_load_row ty x G g J t cs fr d F H D hi (hK _ _ h)
def zbp p La Lb A B ca cb x a w(ab:dZ w)(bv:bR 3 jK w A La)(hB:bR 3 jK w B Lb)(b0:La.length<=1048576)(b1:Lb.length<=1048576)(bb:pO w a x)(a9:vR 1048576 x):az 15 (kz p (aV A La ca) (aV B Lb cb) (dy x a)) w fun e w'=>e=.returned (.tuple (mw (ciB p La Lb x) (miB p La Lb)))/\ag w w':=by
 have⟨H5,Jk,Pm,Pb,bn⟩:=pD (fun V (F:ag w V)=>zfW p La Lb A B ca cb V (ab.ext F) (bQ bv F) (bQ hB F) b0 b1) (fun(D:mN p La Lb=true) dq d7 ey e0 e1 d1 d2 d3 d9 eg ei f1 f2 f3 ej eo ah am es e5 c8 db c6 c7 G1 ci cj ck cq cr cW c3 O E V (F:ag w V) dT d0 d4 d6=>zX p La Lb x a D dq d7 ey e0 e1 d1 d2 d3 d9 eg ei f1 f2 f3 ej eo ah am es e5 c8 db c6 c7 G1 ci cj ck cq cr cW c3 O E V (ab.ext F) dT d0 d4 d6 (bb.ext F) a9) (fun V=>xF x.e x.sd x.xs x.x3 x.x4 x.x5 a.c a.c3 a.c4 a.c5 a.A a.A3 a.A4 a.A5 V) (fun(D:mN p La Lb=true) (ba:x.xs.length<=3000) O c Y d V (F:ag w V) (h1:bt V O (jM p La).rows) (a7:bt V Y (Ω p La Lb).rows)=>Ń p (jM p La) O c x.xs a.A a.c (Ω p La Lb) Y d V (ab.ext F) h1 (bb.ext F).s a7 (kW D).1 ba a9.ss (CR D).1 (CR D).2) (fun(D:mN p La Lb=true) O c Y d V (F:ag w V) (h1:bt V O (jM p La).rows) (a7:bt V Y (jM p Lb).rows)=>zjR p (jM p La) (jM p Lb) O Y c d V (ab.ext F) h1 a7 (kW D).1 (kW D).2 (Ŧ D).1);refine PB fun la Hq lb H5 Hs ve Jh lx Jn sd Ph n3 Jm n4 Jg n5 Pm Ji vr Jk Jl ld Pj Pb Pn=>?_
 clear ab bv hB b0 b1 bb a9 Hq Hs Jh Jn Ph Jm Jg Ji Jl Pn;refine N_ fun hB q0 q1 q2=>?_
 go_enter func15,ntmps15
 go_upto_region 1 with(fail)
 generalize ((w.alloc _).alloc _).alloc _=W at hB q0 q1 q2 ⊢;have x0:=aF q0 0 rfl;have x1:=aF q1 0 rfl;have⟨HB,Q2⟩:=bJ hB q2;clear hB q0 q1 q2
 go_upto_region 2 with(first|(refine wpList_store_row rfl 71 (.tmp 10) (.tmp 18) rfl a0 _ rfl rfl 71 _ (aH a0 _ rfl) QT rfl QT ?_)|(go_at_call 29;(with_reducible refine(H5.o W HB.o).x ?_);intro e a0 Z;unfold zlB at Z;obtain⟨dr,d8,ez,eA,eB,d11,Ρ,Ο,ea,eb,ee,f11,f12,f13,ek,em,e3,e4,ev,e6,c9,dc,a5,bu,cc,ce,ch,cn,co,cp,c0,c4,a1,bg,fa,fb,a6,h,b2⟩:=Z;subst a6;have bo:=zH b2;have cu:=zH h;clear h b2))
 clear x0 x1;generalize F:World.setRow (World.alloc a0 _) _ _=c5;have⟨H,I⟩:=zga F;clear F;have bq:=zH (aT cu H);have⟨a4,an⟩:=bJ (aT HB bq) H;cases D:mN p La Lb
 .have Jj:=zH D;clear I H D;go_wp2_with (fail)
  exact aI (v:=.tuple wX) TI rfl ⟨(by rw[Jj.o];rfl),a4⟩
 have Jj:=zH D;obtain⟨rfl,rfl,ah,am,b4,b5⟩:=bo D;have⟨cR,a3,bp,cI,cK⟩:=pD I (ah.ext an) (am.ext an) (b4.ext an) (b5.ext an);have bh:=zH (bn D a1 a5 bg bu c5 a4 a3 bp);have a2:=zH (Ŧ D).2;have b7:=aF I 5 rfl;have b8:=aF I 6 rfl;have b9:=aF I 7 rfl;have e7:=aF I 15 rfl;have e8:=aF I 16 rfl;have e9:=aF I 17 rfl;clear I H ah am b4 b5 bn;go_upto_region 5 with(go_at_call 37;(with_reducible refine bh.o.x ?_);intro e b6 Z;unfold zmK at Z;obtain⟨v5,dO,be,d5,e2,a6,bz,h⟩:=Z;subst a6;have bi:=zH bz;have cz:=zH h;clear h bz)
 clear b7 b8 b9 e7 e8 e9;have⟨H,bc⟩:=bM b6 (.cells (eO v5 dO be e2 d5) 57);generalize b6.alloc _=ap at H bc ⊢;have J:=zH (aT cz H);have⟨G,ct,cV,br⟩:=gG (aT a4 J.o) H bc (ai cR J.o);clear H bc;cases ac:ic p (Ω p La Lb).v (Ω p La Lb).h (Ω p La Lb).rows
 .have U:=zH (a2.t ac);clear D ac;go_wp2_with (fail)
  exact aI (v:=.tuple wX) TI rfl ⟨by rw[Jj.o,U.o];rfl,G⟩
 have U:=zH (a2.t ac);obtain⟨rfl,rfl,rfl,b3⟩:=bi ac;have⟨cF,cB⟩:=bJ (Jk D dr d8 ez eA eB d11 Ρ Ο ea eb ee f11 f12 f13 ek em e3 e4 ev e6 c9 dc a5 bu cc ce ch cn co cp c0 c4 a1 bg ap G (a3.ext J.o) (bp.ext J.o) (cI.ext J.o) (cK.ext J.o)) (fun ba V F=>Pb D ba a1 a5 be d5 V (G.t ((F:ag ap V).x G.size)) ((a3.ext J.o).ext F) ((b3.ext ct).ext F));have hq:=ai (ai Q2 bq) J.o;refine OQ fun y0 y1 y2 y3 y4 y5=>?_
 clear hq D ac b3 Jk Pb bi bh bo a2;cases ve
 .by_cases h1:sd=1
  rotate_left
  .have dl:decide (sd=1)=false:=QP;have fc:(sd==1)=false:=QP;go_wp2_with (fail)
   exact aI (v:=.tuple uo) TI rfl ⟨by rw[Jj.o,U.o,Pj.o,dl];rfl,G⟩
  subst h1;go_wp2_with (first|(go_at_call 30;(with_reducible refine cF.o.x ?_);rintro e bd ⟨rfl,h⟩;have T:=zH (aT G h);clear h)|(refine Fu rfl 71 (.tmp 10) rfl a0 rfl 71 _ (0,0) _ br uL rfl QT ?_))
  exact aI (v:=.tuple (rM vr)) TI rfl ⟨by rw[Jj.o,U.o,Pj.o];rfl,T.o⟩
 cases ad:Û sd n3 n4 n5
 .have ao:=zH (Calls.bl (Pm ap) ad);go_wp2_with (go_at_call 38;(with_reducible refine ao.o.x ?_);rintro e bd ⟨rfl,h⟩;have T:=zH (aT G h);clear h)
  exact aI (v:=.tuple uo) TI rfl ⟨by rw[Jj.o,U.o,Pj.o,ad];rfl,T.o⟩
 have ao:=zH (Calls.bl (Pm ap) ad);by_cases a8:lx<=3000
 rotate_left
 .go_wp2_with (go_at_call 38;(with_reducible refine ao.o.x ?_);rintro e bd ⟨rfl,h⟩;have y1:=ar h y1;have T:=zH (aT G h);clear h)
  exact aI (v:=.tuple uo) TI rfl ⟨by rw[Jj.o,U.o,Pj.o,ad,fR a8];rfl,T.o⟩
 go_wp2_with (first|(go_at_call 38;(with_reducible refine ao.o.x ?_);rintro e bd ⟨rfl,h⟩;have y1:=ar h y1;have⟨fd,ah,am⟩:=aD (ai cV h);have av:=ai br h;have b7:=aF av 5 rfl;have b8:=aF av 6 rfl;have b9:=aF av 7 rfl;have cO:=zH h;have T:=zH (aT G h);clear h av)|(go_at_call 39;(with_reducible refine(cB.o a8 _ cO.o).x ?_);rintro e fl ⟨rfl,h⟩;have cA:=zH (aT T.o h);clear h))
 exact aI (v:=.tuple (rM ld)) TI rfl ⟨by rw[Jj.o,U.o,Pj.o,ad,fT a8];rfl,cA⟩
def zeo p h G d1 D H d2 F I W(J:bR 3 jK W G h)(U:h.length<=1048576)(ab:h.length<=d1)(O:bR 3 jK W H D)(Y:D.length<=1048576)(ac:D.length<=d2)(T:pO W I F)(Z:vR 1048576 F):az 14 (kz p (aV G h d1) (aV H D d2) (dy F I)) W fun e w'=>e=.returned (.tuple (mw (ciB p h D F) (miB p h D)))/\ag W w':=zbM p h D G H d1 d2 F I W J O U Y ab ac T Z
def zep p h G d1 D H d2 F I W(U:dZ W)(J:bR 3 jK W G h)(Y:h.length<=1048576)(_:h.length<=d1)(O:bR 3 jK W H D)(Z:D.length<=1048576)(_:D.length<=d2)(T:pO W I F)(ab:vR 1048576 F):az 15 (kz p (aV G h d1) (aV H D d2) (dy F I)) W fun e w'=>e=.returned (.tuple (mw (ciB p h D F) (miB p h D)))/\ag W w':=zbp p h D G H d1 d2 F I W U J O Y Z T ab
def zcB p L1 A1 c1 L2 A2 c2 x3 a3 w(ck:dZ w)(cn:bR 3 jK w A1 L1)(cq:L1.length<=maxLen)(cu:∀x∈L1,x.s.size<=maxLen)(co:bR 3 jK w A2 L2)(cr:L2.length<=maxLen)(cz:∀x∈L2,x.s.size<=maxLen)(cp:pO w a3 x3)(ct:vR maxLen x3):az 4 (kz p (aV A1 L1 c1) (aV A2 L2 c2) (dy x3 a3)) w (dt w true):=by
 have hB:Below w w (((w.alloc (.cells (aV A1 L1 c1) 24)).alloc (.cells (aV A2 L2 c2) 24)).alloc (.cells (dy x3 a3) 28)):=pJ [.cells (aV A1 L1 c1) 24,.cells (aV A2 L2 c2) 24,.cells (dy x3 a3) 28] w;have q1:(((w.alloc (.cells (aV A1 L1 c1) 24)).alloc (.cells (aV A2 L2 c2) 24)).alloc (.cells (dy x3 a3) 28)).heap[w.heap.size]?=some (.cells (aV A1 L1 c1) 24 (0,0)):=nM [.cells (aV A1 L1 c1) 24,.cells (aV A2 L2 c2) 24,.cells (dy x3 a3) 28] w 0 rfl;have q2:(((w.alloc (.cells (aV A1 L1 c1) 24)).alloc (.cells (aV A2 L2 c2) 24)).alloc (.cells (dy x3 a3) 28)).heap[(w:Nat)+1]?=some (.cells (aV A2 L2 c2) 24 (0,0)):=nM [.cells (aV A1 L1 c1) 24,.cells (aV A2 L2 c2) 24,.cells (dy x3 a3) 28] w 1 rfl;have q3:(((w.alloc (.cells (aV A1 L1 c1) 24)).alloc (.cells (aV A2 L2 c2) 24)).alloc (.cells (dy x3 a3) 28)).heap[(w:Nat)+1+1]?=some (.cells (dy x3 a3) 28 (0,0)):=nM [.cells (aV A1 L1 c1) 24,.cells (aV A2 L2 c2) 24,.cells (dy x3 a3) 28] w 2 rfl
 go_enter func4,ntmps4
 go_upto_region 1 with(fail)
 generalize (((w.alloc _).alloc _).alloc _)=b4 at hB q1 q2 q3 ⊢;have⟨G5,ca,ce,Oz,IX,cb,ch,IZ,Oh,cc,N6,HP⟩:=zl9 (bQ cn hB) cq cu q1 (bQ co hB) cr cz q2 (cp.ext hB) ct q3 (ck.ext hB);obtain⟨Ih,HS,br⟩:=er hB (show ∀V,ag b4 V->af V w 0 (.slice A1 L1 c1)/\af V ((w:Nat)+1) 0 (.slice A2 L2 c2)/\af V ((w:Nat)+1+1) 0 (.bool x3.e)/\af V ((w:Nat)+1+1) 1 (.slice a3.A x3.xs a3.c)/\af V ((w:Nat)+1+1) 2 (zI x3.sd)/\af V ((w:Nat)+1+1) 3 (.slice a3.A3 x3.x3 a3.c3)/\af V ((w:Nat)+1+1) 4 (.slice a3.A4 x3.x4 a3.c4)/\af V ((w:Nat)+1+1) 5 (.slice a3.A5 x3.x5 a3.c5) from fun V hV=>⟨aF (ai Oz hV) 0 rfl,aF (ai IZ hV) 0 rfl,aF (ai N6 hV) 0 rfl,aF (ai N6 hV) 1 rfl,aF (ai N6 hV) 2 rfl,aF (ai N6 hV) 3 rfl,aF (ai N6 hV) 4 rfl,aF (ai N6 hV) 5 rfl⟩) (al b4 b4);clear hB ck q1 cn cq cu q2 co cr cz q3 cp ct;obtain⟨I,J,O,T,U,Y,Z,ab⟩:=HS.o _ br.o;go_wp2_with (first|(go_at_call 7;refine(xR x3 a3 _ _ (Oh.ext bb) cc Qu Qu).x ?_;rintro e w3 ⟨q3,rfl,hq,D⟩;have FZ:=zH (aJ bb D);have d6:q3<=1048576:=TZ;have N4:=zH hq;clear D hq I J O T U Y Z ab;obtain⟨I,J,O,T,U,Y,Z,ab⟩:=HS.o _ FZ.o)|(go_at_call 6;refine(tw A2 c2 L2 _ _ (bQ IX ba) cb ch Qu Qu).x ?_;rintro e d8 ⟨q2,rfl,hq,D⟩;have bb:=zH (aJ ba D);have d5:q2<=1048576:=TZ;have Ol:=zH hq;clear D hq I J O T U Y Z ab;obtain⟨I,J,O,T,U,Y,Z,ab⟩:=HS.o _ bb.o)|(go_at_call 6;refine(tw A1 c1 L1 1048576 _ (bQ G5 br) ca ce Qu Qu).x ?_;rintro e d7 ⟨q1,rfl,hq,D⟩;have ba:=zH (aJ br D);have d4:q1<=1048576:=TZ;have OA:=zH hq;clear D hq I J O T U Y Z ab;obtain⟨I,J,O,T,U,Y,Z,ab⟩:=HS.o _ ba.o))
 .go_ret
  exact⟨rfl,aJ Ih ba⟩
 .go_ret
  exact⟨rfl,aJ Ih bb⟩
 .go_ret
  exact⟨rfl,aJ Ih FZ⟩
 refine Pu fun IQ Ii OD IU JQ Ov Oy JS OB Ob Gn Oo Oe Og J8 H5 Jd OG=>?_
 have⟨cK,b6⟩:=aR (ciB p L1 L2 x3);have⟨cO,b7⟩:=aR (miB p L1 L2);obtain⟨c7,c6⟩:=bJ (show ∀(ac:ax) (d1:Nat) (ad:ax) (d2:Nat) (F:Va) (W:aa) (bi:bR 3 jK W ac L1) (bp:L1.length<=d1) (bn:bR 3 jK W ad L2) (bq:L2.length<=d2) (bo:pO W F x3),az 14 (kz p (aV ac L1 d1) (aV ad L2 d2) (dy x3 F)) W (fun e w'=>e=.returned (.tuple (mw cK cO))/\ag W w') from fun ac d1 ad d2 F W bi bp bn bq bo=>by rw[b6,b7];exact zeo p L1 ac d1 L2 ad d2 x3 F W bi IQ bp bn IU bq bo Oy) (show ∀(ac:ax) (d1:Nat) (ad:ax) (d2:Nat) (F:Va) (W:aa) (cj:ag w3 W) (bi:bR 3 jK W ac L1) (bp:L1.length<=d1) (bn:bR 3 jK W ad L2) (bq:L2.length<=d2) (bo:pO W F x3),az 15 (kz p (aV ac L1 d1) (aV ad L2 d2) (dy x3 F)) W (fun e w'=>e=.returned (.tuple (mw cK cO))/\ag W w') from fun ac d1 ad d2 F W cj bi bp bn bq bo=>by rw[b6,b7];exact zep p L1 ac d1 L2 ad d2 x3 F W (Ob.ext cj) bi IQ bp bn IU bq bo Oy);clear b6 b7 HP Ob Ih HS IQ G5 ca OA Oz br ce IU IX cb Ol IZ ba ch Oy Oh cc N4 N6 bb FZ;clear I J O T U Y Z ab;have b0:=zH ((al w3 w3).drew)
 skip
 go_region_held3 (fun W=>af W w 0 (.slice A1 L1 c1)/\af W ((w:Nat)+1) 0 (.slice A2 L2 c2)/\af W ((w:Nat)+1+1) 0 (.bool x3.e)/\af W ((w:Nat)+1+1) 1 (.slice a3.A x3.xs a3.c)/\af W ((w:Nat)+1+1) 2 (zI x3.sd)/\af W ((w:Nat)+1+1) 3 (.slice a3.A3 x3.x3 a3.c3)/\af W ((w:Nat)+1+1) 4 (.slice a3.A4 x3.x4 a3.c4)/\af W ((w:Nat)+1+1) 5 (.slice a3.A5 x3.x5 a3.c5)) (first|with_reducible exact Gn.o _ (b0.o)|with_reducible exact Gn.o _ (bv.o)|with_reducible exact Gn.o _ (bz.o)|with_reducible exact Gn.o _ (b3.o)|with_reducible exact Gn.o _ (ci.o))
  (first|(go_at_call 14;first|((with_reducible refine(c7.o cR dT cV d0 dO cI (dc.o _ (al _ _)) c3.o (dl.o _ (al _ _)) c4.o (dq.o _ (al _ _))).x ?_);rintro e ee ⟨rfl,D⟩;have ci:=zH (aJ b3 D);clear D))|(go_at_call 10;first|((with_reducible refine(OG.o cF bz.o).x ?_);rintro e cI ⟨dO,rfl,G,D⟩;have dq:=zH (fun ao (ap:ag cI ao)=>(G.at).ext ap);have b3:=zH (aJ bz D);have dc:=zH (fun ao ap=>c9 ao (aJ (aJ (al _ _) D) ap));have dl:=zH (fun ao ap=>db ao (aJ (aJ (al _ _) D) ap));(try have bh:=zH (ai bh D));(try have a7:=zH (aQ a7.1 (gm a7.2 D.size)));clear G D))|(go_at_call 9;first|((with_reducible refine(Jd.o cB bv.o).x ?_);rintro e cF ⟨cV,d0,rfl,av,G,D⟩;have c4:=zH av;have db:=zH (fun ao (ap:ag cF ao)=>bQ (oZ G D.size) ap);clear av;have bz:=zH (aJ bv D);have c9:=zH (fun ao ap=>c8 ao (aJ (aJ (al _ _) D) ap));(try have bh:=zH (ai bh D));(try have a7:=zH (aQ a7.1 (gm a7.2 D.size)));clear G D))|(go_at_call 9;first|((with_reducible refine(H5.o (World.drew w3) b0.o).x ?_);rintro e cB ⟨cR,dT,rfl,av,G,D⟩;have c3:=zH av;have c8:=zH (fun ao (ap:ag cB ao)=>bQ (oZ G D.size) ap);clear av;have bv:=zH (aJ b0 D);(try have bh:=zH (ai bh D));(try have a7:=zH (aQ a7.1 (gm a7.2 D.size)));clear G D)))
 clear b0 bv bz b3;have bu:=zH (BY.nil ci);obtain⟨I,J,O,T,U,Y,Z,ab⟩:=Gn.o _ bu.π;go_upto_region 13 with(go_at_call 9;(with_reducible refine(H5.o _ bu.o.π).x ?_);rintro e b8 ⟨ac,d1,rfl,av,G,D⟩;have cW:=zH av;have be:=zH (bu.zku G D);clear av G D)
 clear I J O T U Y Z ab bu;generalize b8.alloc _=d9 at be ⊢;obtain⟨I,J,O,T,U,Y,Z,ab⟩:=Gn.o _ be.π;go_upto_region 14 with(go_at_call 9;(with_reducible refine(Jd.o _ be.o.π).x ?_);rintro e b9 ⟨ad,d2,rfl,av,G,D⟩;have c0:=zH av;have bg:=zH (be.zku G D);clear av G D)
 clear I J O T U Y Z ab be;generalize b9.alloc _=ea at bg ⊢;obtain⟨I,J,O,T,U,Y,Z,ab⟩:=Gn.o _ bg.π;go_upto_region 15 with(go_at_call 10;(with_reducible refine(OG.o _ bg.o.π).x ?_);rintro e an ⟨F,rfl,G,D⟩;have a6:=zH (bg.zmy G D);clear G D)
 clear I J O T U Y Z ab bg;generalize an.alloc _=eb at a6 ⊢;have I:=aF (a6.zdi (k:=0) rfl) 0 rfl;have J:=aF (a6.zdi (k:=1) rfl) 0 rfl;obtain⟨⟨O,T,U,Y,Z,ab⟩,-⟩:=gE (a6.zd (k:=2) rfl);go_upto_region 18 with(go_at_call 15;(with_reducible refine(c6.o ac d1 ad d2 F _ a6.o.π (a6.o.fp (k:=0) rfl) cW.o (a6.o.fp (k:=1) rfl) c0.o ((a6.o.zkv (k:=2) rfl).at)).x ?_);rintro e d3 ⟨rfl,D⟩;have bd:=zH (a6.ext D);clear D)
 clear I J O T U Y Z ab a6;have⟨a1,a0⟩:=aR d3;rw[<-a0];rw[<-a0]at bd;clear a0;obtain⟨a2,am⟩:=bJ (bd.ext (al _ _).drew) (show ∀W,ag a1 W->af W w 0 (.slice A1 L1 c1)/\af W b8 0 (.slice ac L1 d1) from fun W H=>⟨aF (ai Oo (aJ bd.π H)) 0 rfl,aF (ai (bd.zdi (k:=0) rfl) H) 0 rfl⟩);go_region_held3 (fun W=>af W w 0 (.slice A1 L1 c1)/\af W b8 0 (.slice ac L1 d1)) (first|with_reducible exact am.o _ (al _ _).drew|with_reducible exact am.o _ a5.o|with_reducible exact am.o _ a8.o)
  (first|(go_at_call 12;(with_reducible refine(qT ac b2 d1 b5 L1 _ (a4.o.fp (k:=0) rfl) a9.o Ii.o).x ?_);rintro e b1 ⟨rfl,D⟩;have a8:=zH (aJ a5 D);have bc:=zH (a4.ext D);clear D)|(go_at_call 9;(with_reducible refine(H5.o _ a2.o.π).x ?_);rintro e cA ⟨b2,b5,rfl,-,G,D⟩;have a9:=zH (oZ G D.size);have a4:=zH (a2.ext D);have a5:=zH ((al a1 a1).drew.t D);clear G D))
 go_upto_region 20 with(fail)
 have⟨a1,a0⟩:=aR b1;rw[<-a0];rw[<-a0]at bc;clear a0 a2 a4 a5 a8 a9 am bd;obtain⟨a2,am⟩:=bJ (bc.ext (al _ _).drew) (show ∀W,ag a1 W->af W ((w:Nat)+1) 0 (.slice A2 L2 c2)/\af W b9 0 (.slice ad L2 d2) from fun W H=>⟨aF (ai Oe (aJ bc.π H)) 0 rfl,aF (ai (bc.zdi (k:=1) rfl) H) 0 rfl⟩);go_region_held3 (fun W=>af W ((w:Nat)+1) 0 (.slice A2 L2 c2)/\af W b9 0 (.slice ad L2 d2)) (first|with_reducible exact am.o _ (al _ _).drew|with_reducible exact am.o _ a5.o|with_reducible exact am.o _ a8.o)
  (first|(go_at_call 12;(with_reducible refine(qT ad b2 d2 b5 L2 _ (a4.o.fp (k:=1) rfl) a9.o JQ.o).x ?_);rintro e b1 ⟨rfl,D⟩;have a8:=zH (aJ a5 D);have ah:=zH (a4.ext D);clear D)|(go_at_call 9;(with_reducible refine(Jd.o _ a2.o.π).x ?_);rintro e cA ⟨b2,b5,rfl,-,G,D⟩;have a9:=zH (oZ G D.size);have a4:=zH (a2.ext D);have a5:=zH ((al a1 a1).drew.t D);clear G D))
 go_upto_region 22 with(fail)
 have⟨a1,a0⟩:=aR b1;rw[<-a0];rw[<-a0]at ah;clear a0 a2 a4 a5 a8 a9 am bc;obtain⟨a2,am⟩:=bJ (ah.ext (al _ _).drew) (show ∀W,ag a1 W->af W ((w:Nat)+1+1) 0 (.bool x3.e)/\af W ((w:Nat)+1+1) 1 (.slice a3.A x3.xs a3.c)/\af W ((w:Nat)+1+1) 2 (zI x3.sd)/\af W ((w:Nat)+1+1) 3 (.slice a3.A3 x3.x3 a3.c3)/\af W ((w:Nat)+1+1) 4 (.slice a3.A4 x3.x4 a3.c4)/\af W ((w:Nat)+1+1) 5 (.slice a3.A5 x3.x5 a3.c5)/\af W an 0 (.bool x3.e)/\af W an 1 (.slice F.A x3.xs F.c)/\af W an 2 (zI x3.sd)/\af W an 3 (.slice F.A3 x3.x3 F.c3)/\af W an 4 (.slice F.A4 x3.x4 F.c4)/\af W an 5 (.slice F.A5 x3.x5 F.c5) from fun W H=>⟨aF (ai Og (aJ ah.π H)) 0 rfl,aF (ai Og (aJ ah.π H)) 1 rfl,aF (ai Og (aJ ah.π H)) 2 rfl,aF (ai Og (aJ ah.π H)) 3 rfl,aF (ai Og (aJ ah.π H)) 4 rfl,aF (ai Og (aJ ah.π H)) 5 rfl,aF (ai (ah.zd (k:=2) rfl) H) 0 rfl,aF (ai (ah.zd (k:=2) rfl) H) 1 rfl,aF (ai (ah.zd (k:=2) rfl) H) 2 rfl,aF (ai (ah.zd (k:=2) rfl) H) 3 rfl,aF (ai (ah.zd (k:=2) rfl) H) 4 rfl,aF (ai (ah.zd (k:=2) rfl) H) 5 rfl⟩);go_region_held3 (fun W=>af W ((w:Nat)+1+1) 0 (.bool x3.e)/\af W ((w:Nat)+1+1) 1 (.slice a3.A x3.xs a3.c)/\af W ((w:Nat)+1+1) 2 (zI x3.sd)/\af W ((w:Nat)+1+1) 3 (.slice a3.A3 x3.x3 a3.c3)/\af W ((w:Nat)+1+1) 4 (.slice a3.A4 x3.x4 a3.c4)/\af W ((w:Nat)+1+1) 5 (.slice a3.A5 x3.x5 a3.c5)/\af W an 0 (.bool x3.e)/\af W an 1 (.slice F.A x3.xs F.c)/\af W an 2 (zI x3.sd)/\af W an 3 (.slice F.A3 x3.x3 F.c3)/\af W an 4 (.slice F.A4 x3.x4 F.c4)/\af W an 5 (.slice F.A5 x3.x5 F.c5)) (first|with_reducible exact am.o _ (al _ _).drew|with_reducible exact am.o _ a5.o|with_reducible exact am.o _ a8.o)
  (first|(go_at_call 13;(with_reducible refine(vq x3 F dr _ (a4.o.zkv (k:=2) rfl).at a9.o JS.o).x ?_);rintro e b1 ⟨rfl,D⟩;have a8:=zH (aJ a5 D);have c5:=zH (a4.ext D);clear D)|(go_at_call 10;(with_reducible refine(OG.o _ a2.o.π).x ?_);rintro e cA ⟨dr,rfl,G,D⟩;have a9:=zH (G.at);have a4:=zH (a2.ext D);have a5:=zH ((al a1 a1).drew.t D);clear G D))
 go_wp2;go_ret
 exact⟨rfl,aJ J8 c5.π⟩
end Go.Proofs.YtpieilkmmiopfaaGreatDoor
