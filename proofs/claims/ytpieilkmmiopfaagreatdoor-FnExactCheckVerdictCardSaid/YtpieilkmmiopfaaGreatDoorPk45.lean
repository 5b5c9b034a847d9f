/- Parts of the walks. Conditions: as stated with each. -/
import Derived.Test.YtpieilkmmiopfaaGreatDoorPk42
import Derived.Test.YtpieilkmmiopfaaGreatDoorPk44
namespace Go.Proofs.YtpieilkmmiopfaaGreatDoor
open Go.RowKit Tryz
set_option linter.all false
set_option maxHeartbeats 8000000
set_option maxRecDepth 100000
variable{B J b k n s:Nat}{L:List eE}{T v0 v1 v10 v2 v3 v4 v5 v6 v7 v8 v9 z2:aG}{p:Int}{t:dL}{w w':aa}
def zi4(w:aa)(h:List Obj):World:=h.foldl World.alloc w
def pJ:∀(h:List Obj) (w:aa),Below w w (zi4 w h)
 |[],_=>al _ _
 |o::h,w=>aJ (aw w o) (pJ h (w.alloc o))
def nM:∀(D:List Obj) (w:aa) (k:Nat) {o:Obj},D[k]?=some o->(zi4 w D).heap[(w:Nat)+k]?=some o
 |[],_,_,_,h=>QO
 |o::D,w,0,F,h=>by simp only[dA,dW]at h;subst h;exact ai (aH w o rfl) (pJ D (w.alloc o))
 |o::D,w,k+1,F,h=>by have:=nM D (w.alloc o) k (o:=F) Q_;rw[dV]at this;rw[show(w:Nat)+(k+1)=w+1+k by omega];exact this
structure It where
 s:Nat
 e:Nat
 lo:Nat
 hi:Nat
 b:Nat
 cs:Array Value
 T:TypeId
 P:World->Prop
structure It.Ok(B:Nat)(i:It)(W:aa):Prop where
 Β:bA W i.b i.cs i.T
 θ:i.P W
 ext:∀{V V':aa},i.P V->ag V V'->i.P V'
 far:∀{V V':aa} {lo hi:Nat},i.P V->b_ lo hi V V'->(i.hi<=lo∨hi<=i.lo)->i.P V'
 ord:B<=i.s/\i.s<=i.lo/\i.lo<=i.hi/\i.hi<=i.e/\i.s<=i.b/\i.b<i.e/\(i.b<i.lo∨i.hi<=i.b)
structure BY(Z:aa)(its:List It)(W:aa):Prop where
 π:ag Z W
 ok:∀i∈its,It.Ok Z i W
 Ë:∀i∈its,i.e<=(W:Nat)
 pw:its.Pairwise fun i j=>i.e<=j.s
section
variable{Z W W' V:aa}{its l r:List It}{i:It}{lo hi c k:Nat}{A:ax}{L:List eE}{a:Va}{x:zS}
def BY.nil(h:ag Z W):BY Z [] W:=⟨h,(fun i hi=>by cases hi),(fun i hi=>by cases hi),List.Pairwise.nil⟩
def BY.ext(h:BY Z its W)(D:ag W W'):BY Z its W':=⟨aJ h.π D,fun i hi=>have o:=h.ok i hi;⟨ai o.Β D,o.ext o.θ D,o.ext,o.far,o.ord⟩,fun i hi=>aZ (h.Ë i hi) D.size,h.pw⟩
def BY.F(h:BY Z its W){k:Nat}(e:its[k]?=some i):It.Ok Z i W:=h.ok i (aU e)
def BY.snoc(D:BY Z its V)(I:ag V W)(hi:It.Ok Z i W)(O:(V:Nat)<=i.s)(J:i.e<=(W:Nat)):BY Z (its++[i]) W:=by
 have F:=D.ext I;refine⟨F.π,fun j h=>?_,fun j h=>?_,List.pairwise_append.2 ⟨D.pw,List.pairwise_singleton _ _,fun a H b G=>?_⟩⟩
 .rcases dP.1 h with h|h
  .exact F.ok j h
  .rw[kD]at h;subst h;exact hi
 .rcases dP.1 h with h|h
  .exact F.Ë j h
  .rw[kD]at h;subst h;exact J
 .rw[kD]at G;subst G;exact aZ (D.Ë a H) O
def It.tm(lo hi:Nat)(A:ax)(c:Nat)(L:List eE):It:=⟨lo,hi+1,lo,hi,hi,#[.slice A L c],35,fun W=>AY W lo hi (.slice A L c) L⟩
def It.vd(s e lo hi b:Nat)(a:Va)(x:zS):It:=⟨s,e,lo,hi,b,#[.bool x.e,.slice a.A x.xs a.c,.int .i64 x.sd,.slice a.A3 x.x3 a.c3,.slice a.A4 x.x4 a.c4,.slice a.A5 x.x5 a.c5],39,fun W=>yC W lo hi a x⟩
def BY.zku(h:BY Z its V)(H:ed W V (.slice A L c) L)(D:ag V W):BY Z (its++[It.tm V W A c L]) (W.alloc (.cells (aV A L c) 35)):=by have F:=D.size;have J:=h.π.size;refine h.snoc (aJ D (aw _ _)) ⟨aH _ _ rfl,(AY.of H).ext (aw _ _),fun h D=>AY.ext h D,fun h I G=>AY.u h I G,?_⟩ (ae _) (by simp[It.tm]);exact⟨J,ae _,F,qe _,F,iX _,au (ae _)⟩
def BY.zmy(h:BY Z its V)(H:yC W V W a x)(D:ag V W):BY Z (its++[It.vd V ((W:Nat)+1) V W W a x]) (W.alloc (.cells (dy x a) 39)):=by have F:=D.size;have J:=h.π.size;refine h.snoc (aJ D (aw _ _)) ⟨aH _ _ rfl,yC.ext H (aw _ _),fun h D=>yC.ext h D,fun h I G=>yC.u h I G,?_⟩ (ae _) (by simp[It.vd]);exact⟨J,ae _,F,qe _,F,iX _,au (ae _)⟩
def BY.zdi{k:Nat}(h:BY Z its W)(e:its[k]?=some (It.tm lo hi A c L)):bA W hi (aV A L c) 35:=(h.F e).Β
def BY.fp{k:Nat}(h:BY Z its W)(e:its[k]?=some (It.tm lo hi A c L)):bR 3 jK W A L:=by obtain⟨D,c2,e2,h2,-⟩:=(show AY W lo hi (.slice A L c) L from(h.F e).θ).μ.p (aZ (h.F e).ord.2.2.1 (aZ (h.F e).ord.2.2.2.1 (h.Ë _ (aU e))));exact Ww
def BY.zd{k e:Nat}(h:BY Z its W)(q:its[k]?=some (It.vd s e lo hi b a x)):bA W b (dy x a) 39:=(h.F q).Β
def BY.zkv{k e:Nat}(h:BY Z its W)(q:its[k]?=some (It.vd s e lo hi b a x)):yC W lo hi a x:=(h.F q).θ
end
def oZ{c}{A}{L}(h:ed w B (.slice A n c) L)(D:B<=(w:Nat)):bR 3 jK w A L:=by obtain⟨F,c2,e2,h2,-⟩:=h.p D;exact Ww
def Û(G:Int)(h D F:Nat):Bool:=decide (G=0)&&(decide (h=0)&&(decide (D=0)&&decide (F=0)))
def É(h:¬n=0):((n:Int)==0)=false:=QW
def xF b(sd:Int)J n3 n4 n5 c1 G H I A1 h D F w:az 38 #[.agg #[.bool b,.slice A1 J c1,sd,.slice h n3 G,.slice D n4 H,.slice F n5 I]] w (dt w (Û sd n3 n4 n5)):=by
 have⟨hB,hq⟩:=bM w (.cells #[.bool b,.slice A1 J c1,sd,.slice h n3 G,.slice D n4 H,.slice F n5 I] 39);unfold Û;go_enter func38,ntmps38
 exact ZK
def BS b(sd:Int)J n3 n4 n5 c1 G H I A1 h D F w:az 35 #[.agg #[.bool b,.slice A1 J c1,sd,.slice h n3 G,.slice D n4 H,.slice F n5 I]] w (dt w (Û sd n3 n4 n5)):=by
 have⟨hB,hq⟩:=bM w (.cells #[.bool b,.slice A1 J c1,sd,.slice h n3 G,.slice D n4 H,.slice F n5 I] 39);unfold Û;go_enter func35,ntmps35
 exact ZK
def rgB(p:Int)(a b:Sy)(xs:List j8)(G:Int)(h D F:Nat):Bool:=Û G h D F&&(decide (xs.length<=3000)&&Ó p a xs b)
def zc5 p a b xs J a6 ba bi bn bo d1 d2 d3 bb bc bd f1 f2 f3 be bg bp bq bh br a4 a5 ah am G H I T ab ac ad G1 an ao ap av a0 a2 a3 A B F U Y Z w(b0:dZ w)(b1:bt w A a.rows)(b3:iS w F xs)(b2:bt w B b.rows)(b8:a.Ok p)(b6:∀x∈xs,x.row.length<=1048576)(b4:b.rows.length<=1048576)(b5:∀r∈b.rows,r.length<=1048576):az 30 (iV (lR p a6 G1 bi d1 an bn d2 ao bo d3 a.v a.h A a.rows ah be bp a2 bh a4 ba ap bb f1 av bc f2 a0 bd f3 b.v b.h B b.rows am bg bq a3 br a5) (rH F xs T J U G ab Y H ac Z I ad)) w (dt w (rgB p a b xs J G H I)):=by
 unfold rgB;have bz:=zH (fun(cc:xs.length<=3000) V (a8:ag w V)=>za2 p a A ah xs F T b B am V (b0.ext a8) (b1.ext a8) (b3.ext a8) (b2.ext a8) b8 cc b6 b4 b5);have a7:=((al w w).alloc (ae _) (.cells (lR p a6 G1 bi d1 an bn d2 ao bo d3 a.v a.h A a.rows ah be bp a2 bh a4 ba ap bb f1 av bc f2 a0 bd f3 b.v b.h B b.rows am bg bq a3 br a5) 71)).alloc Qt (.cells (rH F xs T J U G ab Y H ac Z I ad) 39);have a9:=(bO (w.alloc (.cells (lR p a6 G1 bi d1 an bn d2 ao bo d3 a.v a.h A a.rows ah be bp a2 bh a4 ba ap bb f1 av bc f2 a0 bd f3 b.v b.h B b.rows am bg bq a3 br a5) 71)) (.cells (rH F xs T J U G ab Y H ac Z I ad) 39) (k:=w.heap.size) Qt).t (aH w _ rfl);have hr:=aH (w.alloc (.cells (lR p a6 G1 bi d1 an bn d2 ao bo d3 a.v a.h A a.rows ah be bp a2 bh a4 ba ap bb f1 av bc f2 a0 bd f3 b.v b.h B b.rows am bg bq a3 br a5) 71)) (.cells (rH F xs T J U G ab Y H ac Z I ad) 39) (n:=(w:Nat)+1) Qt;have bv:=zH (fun V=>xF true J xs G H I T ab ac ad F U Y Z V);clear b0 b1 b3 b2 b8 b6 b4 b5;have⟨ce,b7⟩:=aR xs.length;rw[<-b7]at bv bz a7 a9 hr ⊢;clear b7;go_enter func30,ntmps30
 go_upto_region 1 with(fail)
 generalize (w.alloc _).alloc _=W at a7 a9 hr ⊢;refine Oa fun x0 x1 x2 x3 x4 x5=>?_
 have⟨bu,cb⟩:=bJ a7 a9;clear a7 a9 hr;cases P5:Û J G H I
 .have a1:=zH (fun V=>Calls.bl (bv V) P5);go_wp2_with (go_at_call 38;(with_reducible refine(a1.o _).x ?_);rintro e b9 ⟨rfl,h⟩;have O:=zH (aT bu h);clear h)
  go_ret
  exact⟨aN (by simp[P5]),O⟩
 have a1:=zH (fun V=>Calls.bl (bv V) P5);by_cases PZ:ce<=3000
 rotate_left
 .go_wp2_with (go_at_call 38;(with_reducible refine(a1.o _).x ?_);rintro e b9 ⟨rfl,h⟩;have ch:=ar h x1;have O:=zH (aT bu h);clear h)
  go_ret
  exact⟨aN Rz,O⟩
 go_wp2_with (first|(go_at_call 38;(with_reducible refine(a1.o _).x ?_);rintro e b9 ⟨rfl,h⟩;have ch:=ar h x1;have D:=ai cb h;have cj:=aF D 0 rfl;have ck:=aF D 5 rfl;have cn:=aF D 6 rfl;have co:=aF D 7 rfl;have cp:=aF D 15 rfl;have cq:=aF D 16 rfl;have cr:=aF D 17 rfl;have O:=zH (aT bu h);clear h D)|(go_at_call 39;(with_reducible refine(bz.o PZ _ O.o).x ?_);rintro e ci ⟨rfl,h⟩;have ca:=zH (aT O h);clear h))
 go_ret
 exact⟨aN Rz,ca⟩
def zc6 p a b xs J a2 a5 a9 ba bb d1 d2 d3 a6 a7 a8 f1 f2 f3 ah am G H I T ab ac ad G1 an ao ap av a0 A B D U Y Z w(bh:bt w A a.rows)(bn:iS w D xs)(bi:bt w B b.rows)(bu:a.Ok p)(bq:∀x∈xs,x.row.length<=1048576)(bo:b.rows.length<=1048576)(bp:∀r∈b.rows,r.length<=1048576):az 25 (j9 p (lS a2 G1 a9 d1 an ba d2 ao bb d3 a5 ap a6 f1 av a7 f2 a0 a8 f3 a.v a.h A a.rows ah b.v b.h B b.rows am) (rH D xs T J U G ab Y H ac Z I ad)) w (dt w (rgB p a b xs J G H I)):=by
 unfold rgB;have bg:=zH (fun(b1:xs.length<=3000) V (be:ag w V)=>zO p a A ah xs D T b B am V (bh.ext be) (bn.ext be) (bi.ext be) bu b1 bq bo bp);have a3:=((al w w).alloc (ae _) (.cells (lS a2 G1 a9 d1 an ba d2 ao bb d3 a5 ap a6 f1 av a7 f2 a0 a8 f3 a.v a.h A a.rows ah b.v b.h B b.rows am) 59)).alloc Qt (.cells (rH D xs T J U G ab Y H ac Z I ad) 39);have a4:=(bO (w.alloc (.cells (lS a2 G1 a9 d1 an ba d2 ao bb d3 a5 ap a6 f1 av a7 f2 a0 a8 f3 a.v a.h A a.rows ah b.v b.h B b.rows am) 59)) (.cells (rH D xs T J U G ab Y H ac Z I ad) 39) (k:=w.heap.size) Qt).t (aH w _ rfl);have hr:=aH (w.alloc (.cells (lS a2 G1 a9 d1 an ba d2 ao bb d3 a5 ap a6 f1 av a7 f2 a0 a8 f3 a.v a.h A a.rows ah b.v b.h B b.rows am) 59)) (.cells (rH D xs T J U G ab Y H ac Z I ad) 39) (n:=(w:Nat)+1) Qt;have bd:=zH (fun V=>BS true J xs G H I T ab ac ad D U Y Z V);clear bh bn bi bu bq bo bp;have⟨b2,br⟩:=aR xs.length;rw[<-br]at bd bg a3 a4 hr ⊢;clear br;go_enter func25,ntmps25
 go_upto_region 1 with(fail)
 generalize (w.alloc _).alloc _=W at a3 a4 hr ⊢;refine Oa fun x0 x1 x2 x3 x4 x5=>?_
 have⟨bc,b0⟩:=bJ a3 a4;clear a3 a4 hr;cases P5:Û J G H I
 .have a1:=zH (fun V=>Calls.bl (bd V) P5);go_wp2_with (go_at_call 35;(with_reducible refine(a1.o _).x ?_);rintro e bv ⟨rfl,h⟩;have O:=zH (aT bc h);clear h)
  go_ret
  exact⟨aN (by simp[P5]),O⟩
 have a1:=zH (fun V=>Calls.bl (bd V) P5);by_cases PZ:b2<=3000
 rotate_left
 .go_wp2_with (go_at_call 35;(with_reducible refine(a1.o _).x ?_);rintro e bv ⟨rfl,h⟩;have b3:=ar h x1;have O:=zH (aT bc h);clear h)
  go_ret
  exact⟨aN Rz,O⟩
 go_wp2_with (first|(go_at_call 35;(with_reducible refine(a1.o _).x ?_);rintro e bv ⟨rfl,h⟩;have b3:=ar h x1;have F:=ai b0 h;have b5:=aF F 8 rfl;have b6:=aF F 9 rfl;have b7:=aF F 10 rfl;have b8:=aF F 11 rfl;have b9:=aF F 12 rfl;have ca:=aF F 13 rfl;have O:=zH (aT bc h);clear h F)|(go_at_call 36;(with_reducible refine(bg.o PZ _ O.o).x ?_);rintro e b4 ⟨rfl,h⟩;have bz:=zH (aT O h);clear h))
 go_ret
 exact⟨aN Rz,bz⟩
abbrev zW(w:aa)(b:Nat)(v0 v1 v2 v3 v4 v5 v6 v7 v8 v9 v10 v11 v12 v13:aG):World:=(((((((((((((w.setCell ⟨b,0,none⟩ v0).setCell ⟨b,1,none⟩ v1).setCell ⟨b,2,none⟩ v2).setCell ⟨b,3,none⟩ v3).setCell ⟨b,4,none⟩ v4).setCell ⟨b,5,none⟩ v5).setCell ⟨b,6,none⟩ v6).setCell ⟨b,7,none⟩ v7).setCell ⟨b,8,none⟩ v8).setCell ⟨b,9,none⟩ v9).setCell ⟨b,10,none⟩ v10).setCell ⟨b,11,none⟩ v11).setCell ⟨b,12,none⟩ v12).setCell ⟨b,13,none⟩ v13
def pn{I Z ab ac ad ah am an J O U Y v11 v12 v13}(H:bA w b #[T,I,z2,Z,ab,ac,ad,ah,am,an,J,O,U,Y] t):(zW w b v0 v1 v2 v3 v4 v5 v6 v7 v8 v9 v10 v11 v12 v13).heap[b]?=some (.cells #[v0,v1,v2,v3,v4,v5,v6,v7,v8,v9,v10,v11,v12,v13] t (0,0)):=by
 have e0:=bE _ b 0 _ _ v0 H;refine MF fun e1 e2 e3 e4 e5 e6 e7 e8 e9=>?_
 have h:=bE _ b 10 _ _ v10 e9;have D:=bE _ b 11 _ _ v11 h;have F:=bE _ b 12 _ _ v12 D;have G:=bE _ b 13 _ _ v13 F;simpa[zW]using G
def pq(D:Below B w w')(h:B<=b)v0 v1 v2 v3 v4 v5 v6 v7 v8 v9 v10 v11 v12 v13:Below B w (zW w' b v0 v1 v2 v3 v4 v5 v6 v7 v8 v9 v10 v11 v12 v13):=((((((((((((((D.setCell h _).setCell h _).setCell h _).setCell h _).setCell h _).setCell h _).setCell h _).setCell h _).setCell h _).setCell h _).setCell h _).setCell h _).setCell h _).setCell h _)
def tS{v11 v12 v13}(h:k≠b):(zW w b v0 v1 v2 v3 v4 v5 v6 v7 v8 v9 v10 v11 v12 v13).heap[k]?=w.heap[k]?:=(a_ _ _ _ _ h).t ((a_ _ _ _ _ h).t ((a_ _ _ _ _ h).t ((a_ _ _ _ _ h).t ((a_ _ _ _ _ h).t ((a_ _ _ _ _ h).t ((a_ _ _ _ _ h).t ((a_ _ _ _ _ h).t ((a_ _ _ _ _ h).t ((a_ _ _ _ _ h).t ((a_ _ _ _ _ h).t ((a_ _ _ _ _ h).t ((a_ _ _ _ _ h).t (a_ _ _ _ _ h)))))))))))))
def nc{D J O U Y Z ab ac F G H I}(h:bA w b #[T,D,z2,J,O,U,Y,Z,ab,ac,F,G,H,I] t):(af w b 0 T/\af w b 1 D/\af w b 2 z2/\af w b 3 J/\af w b 4 O/\af w b 5 U/\af w b 6 Y/\af w b 7 Z/\af w b 8 ab/\af w b 9 ac/\af w b 10 F/\af w b 11 G/\af w b 12 H/\af w b 13 I)/\w.frozen? ⟨b,0,none⟩=false/\w.frozen? ⟨b,1,none⟩=false/\w.frozen? ⟨b,2,none⟩=false/\w.frozen? ⟨b,3,none⟩=false/\w.frozen? ⟨b,4,none⟩=false/\w.frozen? ⟨b,5,none⟩=false/\w.frozen? ⟨b,6,none⟩=false/\w.frozen? ⟨b,7,none⟩=false/\w.frozen? ⟨b,8,none⟩=false/\w.frozen? ⟨b,9,none⟩=false/\w.frozen? ⟨b,10,none⟩=false/\w.frozen? ⟨b,11,none⟩=false/\w.frozen? ⟨b,12,none⟩=false/\w.frozen? ⟨b,13,none⟩=false:=⟨⟨aF h 0 rfl,aF h 1 rfl,aF h 2 rfl,aF h 3 rfl,aF h 4 rfl,aF h 5 rfl,aF h 6 rfl,aF h 7 rfl,aF h 8 rfl,aF h 9 rfl,aF h 10 rfl,aF h 11 rfl,aF h 12 rfl,aF h 13 rfl⟩,aK h 0,aK h 1,aK h 2,aK h 3,aK h 4,aK h 5,aK h 6,aK h 7,aK h 8,aK h 9,aK h 10,aK h 11,aK h 12,aK h 13⟩
def PwG(I J:List eE)(O ab ac ad T U Y Z:Nat)(G1 h D F G H:ax)(w:aa):Prop:=∃t u,jE (cJ I)=some t/\jE (cJ J)=some u/\(O=t.gr.w/\ab=t.gr.es.length/\ac=t.gr.i.length/\ad=t.gr.o.length)/\(T=u.gr.w/\U=u.gr.es.length/\Y=u.gr.i.length/\Z=u.gr.o.length)/\jV w G1 h D t.gr/\jV w F G H u.gr
def zeM(p:Int)(h D:List eE)(w:aa)(e:Ending)(w':aa):Prop:=∃v:aG,e=.returned (.tuple #[v,.bool (mN p h D)])/\ag w w'/\
 (mN p h D=true->∃(T ac ad ah d1 d2 d3 U Y Z ab f1 f2 f3 am an:Nat) (G1 G H I J O F E:ax),v=.agg #[(T:Nat),.slice G1 ac d1,.slice G ad d2,.slice H ah d3,(U:Nat),.slice I Y f1,.slice J Z f2,.slice O ab f3,.int .i64 (jM p h).v,.int .i64 (jM p h).h,.slice F (jM p h).rows am,.int .i64 (jM p D).v,.int .i64 (jM p D).h,.slice E (jM p D).rows an]/\cS w' F (jM p h).rows/\cS w' E (jM p D).rows/\PwG h D T ac ad ah U Y Z ab G1 G H I J O w')/\(mN p h D=false->v=.agg tV)
def zba p La Lb A B ba bb w(b9:bR 3 jK w A La)(hB:bR 3 jK w B Lb)(cc:La.length<=1048576)(ce:Lb.length<=1048576)(ca:La.length<=ba)(cb:Lb.length<=bb):az 24 (j9 p (aV A La ba) (aV B Lb bb)) w (zeM p La Lb w):=by
 have⟨b5,b6⟩:=bJ (fun V (bp:ag w V)=>DR p La A ba V (bQ b9 bp) cc ca) (fun V (bp:ag w V)=>DR p Lb B bb V (bQ hB bp) ce cb);refine Mg fun la Hq lb Hs=>?_
 rw[<-Hq]at b5 ⊢;rw[<-Hs]at b6 ⊢;clear b9 hB cc ce ca cb Hq Hs;have hB:=ζ w (.cells (bZ A la ba) 35) (.cells (bZ B lb bb) 35) (.cells tV 59);have⟨q0,q1,q2⟩:=cD w (.cells (bZ A la ba) 35) (.cells (bZ B lb bb) 35) (.cells tV 59);go_enter func24,ntmps24
 go_upto_region 1 with(fail)
 generalize (((w.alloc _).alloc _).alloc _)=W at hB q0 q1 q2 ⊢;have x0:=aF q0 0 rfl
 obtain⟨bq,ci,cj,b4⟩:=gG hB q1 q2 (show(w:Nat)+1+1<W from(bk.1 q2).1);clear hB q0 q1 q2;go_upto_region 2 with(go_at_call 49;(with_reducible refine(b5.o W bq.o).x ?_);intro e a4 h;unfold zlu at h;obtain⟨ad,av,D,F,G1,O,T,d1,d2,d3,S,J,ab,bn,bd,bc,hb⟩:=h;subst bn;have bh:=zH bd;have cp:=zH bc;have cn:=zH hb;clear hb bc bd)
 clear x0;have H:=(aw a4 (.cells (um ad G1 av d1 O D d2 T F d3) 54)).alloc Qt (.cells (da S J ab) 57);have an:=(bO (a4.alloc (.cells (um ad G1 av d1 O D d2 T F d3) 54)) (.cells (da S J ab) 57) (k:=a4.heap.size) Qt).t (aH a4 _ rfl);have ao:=aH (a4.alloc (.cells (um ad G1 av d1 O D d2 T F d3) 54)) (.cells (da S J ab) 57) (n:=(a4:Nat)+1) Qt;generalize (a4.alloc _).alloc _=b8 at H an ao ⊢;have⟨Mu,be⟩:=bJ H (aT cn H);have⟨b7,cq,cz,cA⟩:=gG (aT bq be) (cp.ext H (ae _)) an ao;have c9:=aF (ai ci be) 0 rfl;clear H an ao;go_upto_region 3 with(go_at_call 49;(with_reducible refine(b6.o b8 b7.o).x ?_);intro e a5 h;unfold zlu at h;obtain⟨am,ap,a7,a8,U,Y,Z,f1,f2,f3,G,E,ac,bn,bd,bc,hb⟩:=h;subst bn;have bi:=zH bd;have cr:=zH bc;have co:=zH hb;clear hb bc bd)
 clear c9;have H:=(aw a5 (.cells (um am U ap f1 Y a7 f2 Z a8 f3) 54)).alloc Qt (.cells (da G E ac) 57);have an:=(bO (a5.alloc (.cells (um am U ap f1 Y a7 f2 Z a8 f3) 54)) (.cells (da G E ac) 57) (k:=a5.heap.size) Qt).t (aH a5 _ rfl);have ao:=aH (a5.alloc (.cells (um am U ap f1 Y a7 f2 Z a8 f3) 54)) (.cells (da G E ac) 57) (n:=(a5:Nat)+1) Qt;generalize (a5.alloc _).alloc _=db at H an ao ⊢;have⟨a6,ck⟩:=bJ (aT co H) H;have⟨HYF,cu,ct,HAK⟩:=gG (aT b7 a6) (cr.ext H (ae _)) (cq.ext a6 TA) (ai (ai cj be) a6);have⟨a0,a1,a2,a3⟩:=aB (ai cz a6);obtain⟨c0,c1,c2⟩:=aD (ai cA a6);have⟨b0,b1,b2,b3⟩:=aB an;have⟨e0,e1,e2⟩:=aD ao;have⟨⟨r0,r1,r2,r3,r4,r5,r6,r7,r8,r9,r10,r11,r12,r13⟩,dc,dl,d0,d4,d5,d6,d7,d8,d9,ea,dq,dr,dO,dT⟩:=nc HAK;have a9:=zH (show mN p La Lb=(qf p La&&(qf p Lb&&(decide (D=a7)&&decide (F=a8)))) from by
  unfold mN;cases ha:qf p La
  .rfl
  cases hb:qf p Lb
  .rfl
  obtain⟨t,ah,cV,cW,-⟩:=bh ha;obtain⟨ee,c7,c3,c4,-⟩:=bi hb;unfold tyB;rw[ah,c7,cV,cW,c3,c4])
 obtain⟨cB,cF,bv⟩:=er (fun(h:qf p La=true)=>(show S=jM p La from by obtain⟨t,ah,-,-,g,-⟩:=bh h;rw[g,sG ah])) (fun(h:qf p Lb=true)=>(show G=jM p Lb from by obtain⟨t,ah,-,-,g,-⟩:=bi h;rw[g,sG ah])) (show(w:Nat)+1+1<W from b4.o);have ch:=be.size;have bz:=zH (show(w:Nat)+1+1<b8 from gm b4 ch);clear H an ao ch;cases ha:qf p La
 .have HT:=zH (by rw[a9.o,ha];rfl:mN p La Lb=false);clear ha;exact ZP
 cases hb:qf p Lb
 .have HT:=zH (by rw[a9.o,ha,hb];rfl:mN p La Lb=false);exact ZR
 have⟨br,bu⟩:=bJ ha hb;by_cases I:D=a7
 rotate_left
 .have HT:=zH (by rw[a9.o,ha,hb];simp[I]:mN p La Lb=false);have bg:¬(D:Int)=(a7:Int):=Qu;exact ZR
 by_cases bg:F=a8
 rotate_left
 .have HT:=zH (by rw[a9.o,ha,hb];simp[bg]:mN p La Lb=false);have eb:¬(F:Int)=(a8:Int):=Qu;clear ha hb;subst I;exact ZP
 .have HT:=zH (by rw[a9.o,ha,hb];simp[I,bg]:mN p La Lb=true);clear ha hb;subst I bg;go_wp2;have y:=pn (v0:=.int .i64 (ad:Nat)) (v1:=.slice G1 av d1) (v2:=.slice O D d2) (v3:=.slice T F d3) (v4:=.int .i64 (am:Nat)) (v5:=.slice U ap f1) (v6:=.slice Y D f2) (v7:=.slice Z F f3) (v8:=.int .i64 S.v) (v9:=.int .i64 S.h) (v10:=.slice J S.rows ab) (v11:=.int .i64 G.v) (v12:=.int .i64 G.h) (v13:=.slice E G.rows ac) HAK;obtain⟨⟨u0,u1,u2,u3,u4,u5,u6,u7,u8,u9,u10,u11,u12,u13⟩,-⟩:=nc y;unfold zW at u0 u1 u2 u3 u4 u5 u6 u7 u8 u9 u10 u11 u12 u13;clear y r0 r1 r2 r3 r4 r5 r6 r7 r8 r9 r10 r11 r12 r13 a0 a1 a2 a3 b0 b1 b2 b3 c0 c1 c2 e0 e1 e2;refine aI (v:=.tuple (fH (lS ad G1 av d1 O D d2 T F d3 am U ap f1 Y D f2 Z F f3 S.v S.h J S.rows ab G.v G.h E G.rows ac))) (by simp[results,results24,go_sem, *]) rfl ⟨_,by rw[HT.o],pq HYF (b:=(w:Nat)+1+1) Qu (zI (ad:Nat)) (.slice G1 av d1) (.slice O D d2) (.slice T F d3) (zI (am:Nat)) (.slice U ap f1) (.slice Y D f2) (.slice Z F f3) (zI S.v) (zI S.h) (.slice J S.rows ab) (zI G.v) (zI G.h) (.slice E G.rows ac),fun h=>?_,fun h=>by rw[HT.o]at h;cases h⟩;rw[<-cB.o br,<-cF.o bu];refine⟨ad,av,D,F,d1,d2,d3,am,ap,D,F,f1,f2,f3,ab,ac,G1,O,T,U,Y,Z,J,E,rfl,?_,?_,?_⟩
  .exact ct _ fun k bo I=>tS (by have:=bv.o;omega)
  .exact cu _ fun k bo I=>tS (by have:=bz.o;omega)
  .obtain⟨t,ah,e2,cI,-,e0,e1,c5⟩:=bh br;obtain⟨u,c8,cO,cR,-,f0,cK,c6⟩:=bi bu;exact⟨t,u,ah,c8,⟨e0,e1,e2,cI⟩,⟨f0,cK,cO,cR⟩,((c5.ext Mu (ae _)).ext a6 TA) _ fun k bo I=>tS (by have:=bv.o;omega),(c6.ext ck (ae _)) _ fun k bo I=>tS (by have:=bz.o;omega)⟩
def zfY(p:Int)(g D:Gr)(n:Nat)(F:Int)(X h W:aL):Bool:=decide (n=0)&&(if F=1 then zbH p g (D.qw p) X h W else if F=2 then zbH p D (g.qw p) X h W else false)
def zbx p g h H X D W G d1 d2 d3 f1 f2 f3 cs ah am an a4 a5 av a2 a0 ap a3 a1 G1 T U Y Z ab A B ad I J O w(b2:bV p=true)(ba:jV w G1 T U g)(bb:jV w Y Z ab h)(bg:g.B=true)(bh:h.B=true)(bi:∀e∈g.es,0<=e.v/\e.v<p)(bn:∀e∈h.es,0<=e.v/\e.v<p)(bv:Ð p g=true)(bz:Ð p h=true)(a7:g.i.length=h.i/\g.o.length=h.o)(bd:aO w I X)(be:aO w J D)(bc:aO w O W)(bp:X.length<=1048576)(bq:D.length<=1048576)(bo:W.length<=1048576):az 25 #[p,.agg (lS g.w G1 g.es d1 T g.i d2 U g.o d3 h.w Y h.es f1 Z h.i f2 ab h.o f3 a0 ap A av a4 a3 a1 B a2 a5),.agg (CT ad G cs H I X ah J D am O W an)] w (dt w (zfY p g h G H X D W)):=by
 have⟨a8,a9⟩:=bJ (fun V (F:ag w V)=>Fe p g h false H X D W G d1 d2 d3 f1 f2 f3 cs ah am an G1 T U Y Z ab ad I J O V b2 (ba.ext F) (bb.ext F) bg bh bi bn bz a7 (bd.ext F) (be.ext F) (bc.ext F) bp bq bo) (fun V (F:ag w V)=>Fe p h g false H X D W G f1 f2 f3 d1 d2 d3 cs ah am an Y Z ab G1 T U ad I J O V b2 (bb.ext F) (ba.ext F) bh bg bn bi bv ⟨a7.1.q,a7.2.q⟩ (bd.ext F) (be.ext F) (bc.ext F) bp bq bo);unfold zfY;have a6:=((al w w).alloc (ae _) (.cells (lS g.w G1 g.es d1 T g.i d2 U g.o d3 h.w Y h.es f1 Z h.i f2 ab h.o f3 a0 ap A av a4 a3 a1 B a2 a5) 59)).alloc Qt (.cells (CT ad G cs H I X ah J D am O W an) 39);have hq:=(bO (w.alloc (.cells (lS g.w G1 g.es d1 T g.i d2 U g.o d3 h.w Y h.es f1 Z h.i f2 ab h.o f3 a0 ap A av a4 a3 a1 B a2 a5) 59)) (.cells (CT ad G cs H I X ah J D am O W an) 39) (k:=w.heap.size) Qt).t (aH w _ rfl);have hr:=aH (w.alloc (.cells (lS g.w G1 g.es d1 T g.i d2 U g.o d3 h.w Y h.es f1 Z h.i f2 ab h.o f3 a0 ap A av a4 a3 a1 B a2 a5) 59)) (.cells (CT ad G cs H I X ah J D am O W an) 39) (n:=(w:Nat)+1) Qt;clear ba bb bg bh bi bn bv bz a7 bd be bc bp bq bo;have⟨cc,b4⟩:=aR X.length;have⟨ce,b5⟩:=aR D.length;have⟨cb,b3⟩:=aR W.length;rw[<-b4,<-b5,<-b3]at a8 a9 a6 hq hr ⊢;have⟨b8,b0⟩:=aR (zbH p g (h.qw p) X D W);have⟨b9,b1⟩:=aR (zbH p h (g.qw p) X D W);rw[<-b0]at a8 ⊢;rw[<-b1]at a9 ⊢;clear b4 b5 b3 b0 b1;go_enter func25,ntmps25
 go_upto_region 1 with(fail)
 generalize (w.alloc _).alloc _=b7 at a6 hq hr ⊢;refine Oa fun x0 x1 x2 x3 x4 x5=>?_
 refine OQ fun y0 y1 y2 y3 y4 y5=>?_
 have ch:=aF hq 6 rfl;have ci:=aF hq 7 rfl;have ac:=zH a6;clear a6 hq hr;by_cases h1:G=0
 rotate_left
 .have ca:(0:Int)<G:=Qu;go_wp2_with (fail)
  all_goals go_ret
  all_goals exact⟨aN QP,ac⟩
 subst h1;by_cases br:H=1
 .subst br;go_wp2_with (go_at_call 50;(with_reducible refine(a8.o _ ac.o).x ?_);rintro e b6 ⟨rfl,ao⟩;have FV:=zH (aT ac ao);clear ao)
  exact Wf
 by_cases bu:H=2
 .subst bu;go_wp2_with (go_at_call 50;(with_reducible refine(a9.o _ ac.o).x ?_);rintro e b6 ⟨rfl,ao⟩;have FV:=zH (aT ac ao);clear ao)
  exact Wf
 go_wp2_with (fail)
 go_ret
 exact⟨aN (by simp[br,bu]),ac⟩
def grT(L:List eE):Gr:=match jE (cJ L)with|some t=>t.gr|none=>⟨0,[],[],[]⟩
def yV{t}(h:jE (cJ L)=some t):grT L=t.gr:=by unfold grT;rw[h]
def vrB(p:Int)(h D:List eE)(x:zS):Bool:=if x.e=true then rgB p (jM p h) (jM p D) x.xs x.sd x.x3 x.x4 x.x5 else zfY p (grT h) (grT D) x.xs x.sd x.x3 x.x4 x.x5
def ckB(p:Int)(h D:List eE)(x:zS):Bool:=mN p h D&&vrB p h D x
def kW{D F}(h:mN p D F=true):(jM p D).Ok p/\(jM p F).Ok p:=by unfold mN at h;simp only[bN]at h;exact⟨ziE h.1,ziE h.2.1⟩
def sN{s:Sy}(D:s.Ok p):s.rows.length<=1048576/\∀r∈s.rows,r.length<=1048576:=by have h:=mY.2 D;unfold ic eU vH jX at h;simp only[bN,cf,eD]at h;exact⟨Qu,fun r F=>by have:=(h.2.2.2.2 r F).1;omega⟩
def zfS{t}(h:qf p L=true)(F:jE (cJ L)=some t):Ð p t.gr=true:=by
 cases D:tgB p L
 .rw[ziD D]at h;cases h
 .have:=zfO F D;rw[h]at this;exact(by simpa using this.q:t.pM=true/\Ð p t.gr=true).2
def yW p h D x a(Y:mN p h D=true)ao a6 a7 a8 d1 d2 d3 a2 a3 a4 a5 f1 f2 f3 ad ah G1 G H I J O F E w(a9:bt w F (jM p h).rows)(ba:bt w E (jM p D).rows)(bb:PwG h D ao a6 a7 a8 a2 a3 a4 a5 G1 G H I J O w)(ac:pO w a x)(T:vR 1048576 x):az 25 #[p,.agg #[(ao:Nat),.slice G1 a6 d1,.slice G a7 d2,.slice H a8 d3,(a2:Nat),.slice I a3 f1,.slice J a4 f2,.slice O a5 f3,.int .i64 (jM p h).v,.int .i64 (jM p h).h,.slice F (jM p h).rows ad,.int .i64 (jM p D).v,.int .i64 (jM p D).h,.slice E (jM p D).rows ah],.agg (dy x a)] w (dt w (vrB p h D x)):=by
 obtain⟨t,u,U,ab,⟨rfl,rfl,rfl,rfl⟩,⟨rfl,rfl,rfl,rfl⟩,bc,bd⟩:=bb;have am:=Y;unfold mN at am;simp only[bN]at am;obtain⟨ap,av,Z⟩:=am;unfold vrB;cases be:x.e
 .rw[aj Qt];have⟨bg,a0,g⟩:=oc ap;rw[U]at a0;cases a0
  have⟨bh,a1,an⟩:=oc av;rw[ab]at a1;cases a1
  unfold tyB at Z;rw[U,ab]at Z;simp only[bN,cf]at Z;rw[yV U,yV ab];exact zbx p t.gr u.gr x.sd x.x3 x.x4 x.x5 x.xs d1 d2 d3 f1 f2 f3 a.c a.c3 a.c4 a.c5 ad ah _ _ _ _ _ _ G1 G H I J O F E a.A a.A3 a.A4 a.A5 w g.f bc bd g.ok an.ok g.val an.val (zfS ap U) (zfS av ab) Z ac.i3 ac.i4 ac.i5 T.i3 T.i4 T.i5
 .rw[ak rfl];exact zc6 p (jM p h) (jM p D) x.xs x.sd t.gr.w u.gr.w t.gr.es t.gr.i t.gr.o d1 d2 d3 u.gr.es u.gr.i u.gr.o f1 f2 f3 ad ah x.x3 x.x4 x.x5 a.c a.c3 a.c4 a.c5 G1 G H I J O F E a.A a.A3 a.A4 a.A5 w a9 ac.s ba (kW Y).1 T.ss (sN (kW Y).2).1 (sN (kW Y).2).2
def PwG.ext{I O}{ac ad ah U Y Z ab}{G1 h D F G H}(am:PwG I O J ac ad ah U Y Z ab G1 h D F G H w)(T:ag w w'):PwG I O J ac ad ah U Y Z ab G1 h D F G H w':=by obtain⟨t,u,a,b,c,d,e,f⟩:=am;exact⟨t,u,a,b,c,d,e.ext T,f.ext T⟩
def zeM.zlx{D F}{e}(h:zeM p D F w e w'):∃(Y ah am an d1 d2 d3 Z ab ac ad f1 f2 f3 ao ap:Nat) (G1 I J O T U H E:ax) (S G:Sy),e=.returned (.tuple (ka (lS Y G1 ah d1 I am d2 J an d3 Z O ab f1 T ac f2 U ad f3 S.v S.h H S.rows ao G.v G.h E G.rows ap) (mN p D F)))/\ag w w'/\(mN p D F=true->S=jM p D/\G=jM p F/\cS w' H S.rows/\cS w' E G.rows/\PwG D F Y ah am an Z ab ac ad G1 I J O T U w'):=by
 obtain⟨v,rfl,av,a4,a5⟩:=h;cases a0:mN p D F
 .rw[a5 a0];exact⟨0,0,0,0,0,0,0,0,0,0,0,0,0,0,0,0,none,none,none,none,none,none,none,none,⟨0,0,[]⟩,⟨0,0,[]⟩,rfl,av,fun h=>Qy⟩
 .obtain⟨Y,ah,am,an,d1,d2,d3,Z,ab,ac,ad,f1,f2,f3,ao,ap,G1,I,J,O,T,U,H,E,rfl,a1,a2,a3⟩:=a4 a0;exact⟨Y,ah,am,an,d1,d2,d3,Z,ab,ac,ad,f1,f2,f3,ao,ap,G1,I,J,O,T,U,H,E,jM p D,jM p F,rfl,av,fun _=>⟨rfl,rfl,a1,a2,a3⟩⟩
def Fp p La Lb A B ca cb x a w(O:bR 3 jK w A La)(hB:bR 3 jK w B Lb)(Z:La.length<=1048576)(ab:Lb.length<=1048576)(T:La.length<=ca)(U:Lb.length<=cb)(ad:pO w a x)(Y:vR 1048576 x):az 8 (kz p (aV A La ca) (aV B Lb cb) (dy x a)) w fun e w'=>e=.returned (.tuple (mw (ckB p La Lb x) (mN p La Lb)))/\ag w w':=by
 have⟨H,Jk⟩:=bJ (fun V (F:ag w V)=>zba p La Lb A B ca cb V (bQ O F) (bQ hB F) Z ab T U) (fun(h:mN p La Lb=true) a9 bi bn bo d1 d2 d3 bd be bg bh f1 f2 f3 a6 a7 G1 ap av a0 a1 a2 ao E V (F:ag w V) ba bb bc=>yW p La Lb x a h a9 bi bn bo d1 d2 d3 bd be bg bh f1 f2 f3 a6 a7 G1 ap av a0 a1 a2 ao E V ba bb bc (ad.ext F) Y);refine Mg fun la Hq lb Hs=>?_
 rw[<-Hq]at H ⊢;rw[<-Hs]at H ⊢;refine NI fun ve Jh lx Jn n3 Jm n4 Jg n5 Ji vr Jk Jl=>?_
 clear O hB Z ab T U ad Y Hq Hs Jh Jn Jm Jg Ji Jl;refine Oc fun hB q0 q1 q2=>?_
 go_enter func8,ntmps8
 go_upto_region 1 with(fail)
 generalize ((w.alloc _).alloc _).alloc _=W at hB q0 q1 q2 ⊢;have x0:=aF q0 0 rfl;have x1:=aF q1 0 rfl;have⟨HB,Q2⟩:=bJ hB q2;clear hB q0 q1 q2
 go_upto_region 2 with(go_at_call 24;(with_reducible refine(H.o W HB.o).x ?_);intro e w2 J;have⟨PU,PC,Pt,PY,d11,Ρ,Ο,Gq,Px,PV,PD,f11,f12,f13,Pq,Pv,PE,PO,PH,Po,PM,PW,D1,E1,S1,T1,a8,D,ac⟩:=zeM.zlx J;subst a8;have a5:=zH ac;have FV:=zH D;clear D ac J)
 refine N3 fun V2 Gm G4 Hk=>?_;clear x0 x1
 have⟨I,G⟩:=bJ (aT HB Hk) Gm;cases h:mN p La Lb
 .have Jj:=zH h;clear G4 Gm h;go_wp2_with (fail)
  exact aI (v:=.tuple wX) T6 rfl ⟨Ry,I⟩
 have Jj:=zH h;obtain⟨rfl,rfl,ah,am,an⟩:=a5 h;have a4:=zH (Jk h PU PC Pt PY d11 Ρ Ο Gq Px PV PD f11 f12 f13 Pq Pv PE PO PH Po PM PW D1 E1 V2 I (ah.at.ext G) (am.at.ext G) (an.ext G));obtain⟨⟨bq,br,z2,b1,b2,b3,b4,b5,b6,b7,bu,bv,bz,b0⟩,-⟩:=nc G4;have hq:=ai Q2 Hk;refine OQ fun y0 y1 y2 y3 y4 y5=>?_
 clear hq G4 Gm ah am an h;go_wp2_with (go_at_call 25;(with_reducible refine a4.o.x ?_);rintro e bp ⟨rfl,D⟩;have a3:=zH (aT I D);clear D)
 exact aI (v:=.tuple (rM vr)) T6 rfl ⟨Ry,a3⟩
end Go.Proofs.YtpieilkmmiopfaaGreatDoor
