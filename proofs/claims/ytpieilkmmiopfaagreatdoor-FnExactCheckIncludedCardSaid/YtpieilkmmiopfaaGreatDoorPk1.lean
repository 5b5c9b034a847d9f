/- Parts of the walks. Conditions: as stated with each. -/
import Derived.Test.YtpieilkmmiopfaaGreatDoorMc
namespace Go.Proofs.YtpieilkmmiopfaaGreatDoor
open Go.RowKit Tryz
set_option linter.all false
set_option maxHeartbeats 4000000
set_option maxRecDepth 100000
variable{A:ax}{B B' b c i j k n r:Nat}{E t:dL}{P:jk}{Q:gZ}{T u v z:aG}{W w w':aa}{a:Act}{args cs:gg}{o:h_}{ops:iI}{r' xs:aL}{rest:List Oper}{row:Option Nat}{rows:aP}{us:cL}
def aO(w:aa)(A:ax)(xs:aL):Prop:=
 xs=[]∨∃b o,A=some ⟨b,o,none⟩/\∀k x,xs[k]?=some x->af w b (o+k) (zI x)
def bt(w:aa)(A:ax)(rows:aP):Prop:=
 rows=[]∨∃b o,A=some ⟨b,o,none⟩/\∀k r,rows[k]?=some r->∃h ε,af w b (o+k) (.slice h r.length ε)/\aO w h r
def Below.wy(h:Below B w w'){p}(D:w.cell? p=some v)(F:p.block<B):w'.cell? p=some v:=(h.cell F).t D
def ar(D:ag w w'){p}(h:w.cell? p=some v):w'.cell? p=some v:=Below.wy D h (jB w p h)
def i_(h:ag w w'){p}(D:w.frozen? p=false)(F:p.block < (w:Nat)):w'.frozen? p=false:=(h.frozen F).t D
def aO.ext(h:aO w A xs)(F:ag w w'):aO w' A xs:=by
 rcases h with h|⟨b,o,D,G⟩
 .exact ay h
 .exact au ⟨b,o,D,fun k x H=>ar F (G k x H)⟩
def bt.ext(h:bt w A rows)(D:ag w w'):bt w' A rows:=by
 rcases h with h|⟨b,o,I,J⟩
 .exact ay h
 .refine au ⟨b,o,I,fun k r O=>?_⟩;obtain⟨F,ε,G,H⟩:=J k r O;exact⟨F,ε,ar D G,H.ext D⟩
structure κ(w:aa) where
 W:World
 ok:ag w W
instance (w:aa):Nonempty (κ w):=⟨⟨w,al _ _⟩⟩
def aJ{a b}(h:ag w a)(k:ag a b):ag w b:=h.t (k.x h.size)
def Ϛ{x y}(F:ag W w')(h:bA W b #[x,y,z] t):af w' b 0 x/\af w' b 1 y/\af w' b 2 z/\w'.frozen? ⟨b,0,none⟩=false/\w'.frozen? ⟨b,1,none⟩=false/\w'.frozen? ⟨b,2,none⟩=false:=by have D:bA w' b #[x,y,z] t:=(F.block b (bk.1 h).1).t h;simp[World.cell?,World.frozen?,D]
def ϭ{x y}(F:ag W w')(h:bA W b #[x,y,z,u,v] t):(af w' b 0 x/\af w' b 1 y/\af w' b 2 z/\af w' b 3 u/\af w' b 4 v)/\w'.frozen? ⟨b,0,none⟩=false/\w'.frozen? ⟨b,1,none⟩=false/\w'.frozen? ⟨b,2,none⟩=false/\w'.frozen? ⟨b,3,none⟩=false/\w'.frozen? ⟨b,4,none⟩=false:=by have D:bA w' b #[x,y,z,u,v] t:=(F.block b (bk.1 h).1).t h;simp[World.cell?,World.frozen?,D]
def aH(w:aa)o(h:n=(w:Nat)):(w.alloc o).heap[n]?=some o:=by subst h;show(w.heap.push o)[w.heap.size]?=_;simp
def bO(w:aa)o(h:k < (w:Nat)):(w.alloc o).heap[k]?=w.heap[k]?:=by
 show(w.heap.push o)[k]?=_
 rw[Array.getElem?_push,aj Qu]
def bU{id}{l}(G:P.follows .mixedOrders=true)(F:Region.lexB .any l.toArray=true)(h:wpQuiet P l.toArray (fun w'=>∃W:κ w,w'=W.W) (fun D=>∀w',(∃W:κ w,w'=W.W)->Q .normal D w') l a):(Code.region id l.toArray true).wp P Q a w:=wp_region_quiet (C:=fun w'=>∃W:κ w,w'=W.W) G F ⟨⟨_,(al _ _).drew⟩,rfl⟩ Q_
def pA{P}{ops}{C}{H}{Q}(F:∀a w,C w->H a->Q .normal a w):∀(l:List Oper) (a:Act) (w:aa),C w->wpQuiet P ops C H l a->wpList P ops Q l a w
 |[],a,w,D,h=>F a w D h
 |o::l,a,w,D,h=>by
  unfold wpQuiet at h;unfold wpList;split
  .rename_i G;rw[ak G]at h;exact ay (Oper.wp_of_quiet D (fun I w' O J=>pA F l I w' O J) h)
  .rename_i G;rw[aj G]at h;exact pA F l _ w D h
def dn{id}{l}(h:wpQuiet P l.toArray (fun w'=>∃W:κ w,w'=W.W) (fun D=>∀w',(∃W:κ w,w'=W.W)->Q .normal D w') l a):(Code.region id l.toArray false).wp P Q a w:=wp_region_lit (pA (C:=fun w'=>∃W:κ w,w'=W.W) (fun _ w' F h=>h w' F) l a w ⟨⟨w,al _ _⟩,rfl⟩ h)
def κ.cell(W:κ w){p}(h:w.cell? p=some v):W.W.cell? p=some v:=ar W.ok h
def κ.Φ{o}(W:κ (w.alloc o)):Below w w W.W:=aJ ((al _ _).alloc (ae _) _) W.ok
def Calls.fh{f}{W:κ w}(D:Calls P f args W.W fun e w'=>e=.returned v/\Below W.W W.W w'):Calls P f args W.W fun e H=>e=.returned v/\∃h:κ w,H=h.W:=D.x fun _ _ ⟨F,G⟩=>⟨F,⟨_,aJ W.ok G⟩,rfl⟩
def Calls.dj{f}{W:κ w}(D:Calls P f args W.W fun e w'=>e=.returned v/\W.W=w'):Calls P f args W.W fun e H=>e=.returned v/\∃h:κ w,H=h.W:=D.x fun _ _ ⟨F,G⟩=>⟨F,W,G.q⟩
def Calls.cg{f}{x y}(h:Calls P f args w fun e w'=>e=.returned (.bool x)/\w=w')(e:x=y):Calls P f args w fun e w'=>e=.returned (.bool y)/\w=w':=e ▸ h
def Calls.bl{f}{x y}(h:Calls P f args w (dt w x))(e:x=y):Calls P f args w (dt w y):=e ▸ h
def aN{a b}(h:a=b):Ending.returned (.bool a)=.returned (.bool b):=by rw[h]
def rl{a b}(h:a=b):Ending.returned (zI a)=.returned (zI b):=by rw[h]
def dG{h:Type}f(xs:List h)k x(D:xs[k]?=some x):(xs.take (k+1)).all f=((xs.take k).all f&&f x):=by rw[du,D];simp
def ξ{h:Type}f(xs:List h)(k:Nat)x(D:xs[k]?=some x)(F:f x=false):xs.all f=false:=by rw[List.all_eq_false];exact⟨x,aU D,by simp[F]⟩
def fZ{h:Type}f(xs:List h)k(D:(xs.take k).all f=true)(F:xs.length<=k):xs.all f=true:=by rwa[cZ F]at D
def aq{D:Type}{xs:List D}(h:k<xs.length):∃x,xs[k]?=some x:=⟨_,di h⟩
def aO.θ(h:aO w A xs)(D:k<xs.length):∃b o,A=some ⟨b,o,none⟩/\∀k x,xs[k]?=some x->af w b (o+k) (zI x):=by
 rcases h with h|h
 .simp[h]at D
 .exact h
def bt.θ(h:bt w A rows)(F:k<rows.length):∃b o,A=some ⟨b,o,none⟩/\∀k r,rows[k]?=some r->∃D ε,af w b (o+k) (.slice D r.length ε)/\aO w D r:=by
 rcases h with h|h
 .simp[h]at F
 .exact h
def eU(n lo hi:Int):Bool:=decide (lo<=n)&&decide (n<=hi)
def jY(p a:Int):Bool:=decide (0<=a)&&decide (a<p)
def jX(p:Int)(xs:aL)(n:Int):Bool:=decide ((xs:Int)=n)&&xs.all (jY p)
def vH(p:Int)(rows:aP)(n:Int):Bool:=rows.all fun r=>jX p r n
def bV(p:Int):Bool:=eU p 2 97&&[(2:Int),3,5,7].all fun q=>!(decide (p%q=0)&&decide (p≠q))
def ic(p v h:Int)(rows:aP):Bool:=bV p&&(eU v 0 24&&(eU h 0 100&&(decide (rows.length<=160)&&vH p rows (v+h))))
structure dZ(w:aa):Prop where
 c0:af w 0 0 (zI 2)
 c1:af w 0 1 (zI 3)
 c2:af w 0 2 (zI 5)
 c3:af w 0 3 (zI 7)
def dZ.ext(h:dZ w)(D:ag w w'):dZ w':=⟨ar D h.c0,ar D h.c1,ar D h.c2,ar D h.c3⟩
def dC n lo hi w:az 143 (gT n lo hi) w fun e w'=>e=.returned (.bool (eU n lo hi))/\w=w':=by
 unfold eU;by_cases h1:lo<=n<;>by_cases h2:n<=hi
 all_goals
  go_enter func143,ntmps143
  go_wp2;go_ret
  exact⟨Q9,rfl⟩
def aX n lo hi w:az 92 (gT n lo hi) w fun e w'=>e=.returned (.bool (eU n lo hi))/\w=w':=by
 unfold eU;by_cases h1:lo<=n<;>by_cases h2:n<=hi
 all_goals
  go_enter func92,ntmps92
  go_wp2;go_ret
  exact⟨Q9,rfl⟩
def mm p a w:az 131 (bC p a) w fun e w'=>e=.returned (.bool (jY p a))/\w=w':=by
 unfold jY;by_cases h1:0<=a<;>by_cases h2:a<p
 all_goals
  go_enter func131,ntmps131
  go_wp2;go_ret
  exact⟨Q9,rfl⟩
def jO(p n:Int)A ε xs w(D:aO w A xs)(O:xs.length<=maxLen):az 88 #[p,.slice A xs ε,n] w fun e w'=>e=.returned (.bool (jX p xs n))/\w=w':=by
 unfold maxLen at O;by_cases hn:(xs:Int)=n
 .have J:((xs:Int)!=n)=false:=QJ;have I:=zH hn;clear hn;go_enter func88,ntmps88
  go_wp2;go_loop [15] (fun i=>∃k:Nat,k<=xs.length/\i=.int .i64 k/\(xs.take k).all (jY p)=true) (fun i=>xs.length-(intOf i).toNat)
  case atStart=>exact⟨0,aW _,rfl,Qt⟩
  case round=>
   obtain⟨k,U,rfl,F⟩:=hrel;have Gi:=zH F;clear F;by_cases H:k<xs.length
   .have⟨x,h⟩:=aq H;obtain⟨b,o,rfl,G⟩:=D.θ H;have T:=G k x h;have Hx:=zH h;clear h G D;cases hf:jY p x
    .go_wp2_with (go_at_call 131;refine(mm _ _ _).x ?_;rintro e w' ⟨rfl,rfl⟩;rw[hf])
     go_ret
     exact⟨by rw[jX,ξ _ _ _ _ Hx.o hf];simp,rfl⟩
    .go_wp2_with (go_at_call 131;refine(mm _ _ _).x ?_;rintro e w' ⟨rfl,rfl⟩;rw[hf])
     exact Yx
   .go_wp2;go_ret
    exact⟨by rw[jX,<-I.o,fZ _ _ _ Gi.o Qu];simp,rfl⟩
 .have J:((xs:Int)!=n)=true:=QJ;go_enter func88,ntmps88
  go_wp2;go_ret
  exact⟨by simp[jX,hn],rfl⟩
def Et(p n:Int)A ε rows w(G:bt w A rows)(Y:rows.length<=maxLen)(T:∀r∈rows,r.length<=maxLen):az 144 #[p,.slice A rows ε,n] w fun e w'=>e=.returned (.bool (vH p rows n))/\w=w':=by
 unfold maxLen at Y;go_enter func144,ntmps144
 go_wp2;go_loop [11] (fun i=>∃k:Nat,k<=rows.length/\i=.int .i64 k/\(rows.take k).all (fun r=>jX p r n)=true) (fun i=>rows.length-(intOf i).toNat)
 case atStart=>exact⟨0,aW _,rfl,Qt⟩
 case round=>
  obtain⟨k,ad,rfl,H⟩:=hrel;have Gi:=zH H;by_cases O:k<rows.length
  .have⟨r,D⟩:=aq O;obtain⟨b,o,rfl,I⟩:=G.θ O;obtain⟨Z,ab,ac,J⟩:=I k r D;have U:=T r (aU D);have F:=zH D;cases h:jX p r n
   .go_wp2_with (go_at_call 88;refine(jO _ _ _ _ _ _ J U).x ?_;rintro e w' ⟨rfl,rfl⟩;rw[h])
    go_ret
    exact⟨aN (by rw[vH,ξ _ _ _ _ F.o h]),rfl⟩
   .go_wp2_with (go_at_call 88;refine(jO _ _ _ _ _ _ J U).x ?_;rintro e w' ⟨rfl,rfl⟩;rw[h])
    go_round
    case rel=>exact⟨k+1,Qu,Qx,by rw[dG _ _ _ _ F.o,Gi.o,h];rfl⟩
    case measure=>simp[intOf];omega
  .exact Xa
def nP(lo hi:Int)A ε xs w(D:aO w A xs)(I:xs.length<=maxLen):az 114 #[.slice A xs ε,lo,hi] w fun e w'=>e=.returned (.bool (xs.all fun x=>eU x lo hi))/\w=w':=by
 unfold maxLen at I;go_enter func114,ntmps114
 go_wp2;go_loop [11] (fun i=>∃k:Nat,k<=xs.length/\i=.int .i64 k/\(xs.take k).all (fun x=>eU x lo hi)=true) (fun i=>xs.length-(intOf i).toNat)
 case atStart=>exact⟨0,aW _,rfl,Qt⟩
 case round=>
  obtain⟨k,O,rfl,F⟩:=hrel;have Gi:=zH F;clear F;by_cases H:k<xs.length
  .have⟨x,h⟩:=aq H;obtain⟨b,o,rfl,G⟩:=D.θ H;have J:=G k x h;have Hx:=zH h;clear h G D;cases hf:eU x lo hi
   .go_wp2_with (go_at_call 92;refine(aX _ _ _ _).x ?_;rintro e w' ⟨rfl,rfl⟩;rw[hf])
    go_ret
    exact⟨aN (by rw[ξ _ _ _ _ Hx.o hf]),rfl⟩
   .go_wp2_with (go_at_call 92;refine(aX _ _ _ _).x ?_;rintro e w' ⟨rfl,rfl⟩;rw[hf])
    exact Yx
  .go_wp2;go_ret
   exact⟨aN (by rw[fZ _ _ _ Gi.o Qu]),rfl⟩
def sV(p:Int)A ε xs w(h:aO w A xs)(D:xs.length<=maxLen)(F:2<=p)(G:p<=97):az 78 #[p,.slice A xs ε] w fun e w'=>e=.returned (.bool (xs.all (jY p)))/\w=w':=by
 have e:∀x,eU x 0 (p-1)=jY p x:=fun x=>by
  unfold eU jY;congr 1
  exact AJ.2 Qu
 have E:=zH e;clear e;go_enter func78,ntmps78
 go_wp2_with (go_at_call 114;refine(nP _ _ _ _ _ _ h D).x ?_;rintro e w' ⟨rfl,rfl⟩)
 go_ret
 exact⟨aN (by congr 1;funext x;exact E.o x),rfl⟩
def ze4 p n A ε rows w(G:bt w A rows)(ad:rows.length<=maxLen)(T:∀r∈rows,r.length<=maxLen)(U:2<=p)(Y:p<=97):az 93 (aA p n A rows ε) w fun e w'=>e=.returned (.bool (vH p rows n))/\w=w':=by
 unfold maxLen at ad;go_enter func93,ntmps93
 go_wp2;go_loop [11] (fun i=>∃k:Nat,k<=rows.length/\i=.int .i64 k/\(rows.take k).all (fun r=>jX p r n)=true) (fun i=>rows.length-(intOf i).toNat)
 case atStart=>exact⟨0,aW _,rfl,Qt⟩
 case round=>
  obtain⟨k,ao,rfl,H⟩:=hrel;have Gi:=zH H;by_cases O:k<rows.length
  .have⟨r,D⟩:=aq O;obtain⟨b,o,rfl,I⟩:=G.θ O;obtain⟨ah,am,an,J⟩:=I k r D;have Z:=T r (aU D);have F:=zH D;by_cases hn:(r:Int)=n
   .have ac:((r:Int)!=n)=false:=QJ;have ab:=zH hn;cases h:r.all (jY p)
    .go_wp2_with (go_at_call 78;refine(sV _ _ _ _ _ J Z U Y).x ?_;rintro e w' ⟨rfl,rfl⟩;rw[h])
     go_ret
     exact⟨aN (by rw[vH,ξ _ _ _ _ F.o (by rw[jX,h];simp)]),rfl⟩
    .go_wp2_with (go_at_call 78;refine(sV _ _ _ _ _ J Z U Y).x ?_;rintro e w' ⟨rfl,rfl⟩;rw[h])
     go_round
     case rel=>exact⟨k+1,Qu,Qx,by rw[dG _ _ _ _ F.o,Gi.o,jX,h,ab.o];simp⟩
     case measure=>simp[intOf];omega
   .have ac:((r:Int)!=n)=true:=QJ;go_wp2;go_ret
    exact⟨aN (by rw[vH,ξ _ _ _ _ F.o (by rw[jX];simp[hn])]),rfl⟩
  .exact Xa
section
variable{p:Int}
def m6(p q:Int):Bool:=decide (p%q=0)&&decide (p≠q)
def tO k(D:k<4)(h:m6 p ([(2:Int),3,5,7].getD k 0)=true):bV p=false:=by
 unfold bV m6 at *;rw[Bool.and_eq_false_iff];right;rw[List.all_eq_false]
 match k,D with
 |0,_=>exact⟨2,Qt,Q_⟩
 |1,_=>exact⟨3,Qt,Q_⟩
 |2,_=>exact⟨5,Qt,Q_⟩
 |3,_=>exact⟨7,Qt,Q_⟩
def zdL(I:2<=p)(J:p<=97)(h:∀j,j<4->m6 p ([(2:Int),3,5,7].getD j 0)=false):bV p=true:=by have D:=h 0 Qu;have F:=h 1 Qu;have G:=h 2 Qu;have H:=h 3 Qu;simp only[m6,List.getD_cons_zero,List.getD_cons_succ]at D F G H;simp only[bV,eU,Ax,List.all_nil,D,F,G,H];simp[I,J]
def jj p w(H:dZ w):az 142 (bK p) w fun e w'=>e=.returned (.bool (bV p))/\w=w':=by
 obtain⟨I,c1,c2,J⟩:=H;by_cases O:p<2
 .exact Xw
 by_cases T:97<p
 .exact Xw
 go_enter func142,ntmps142
 go_wp2;have Y:∀w,(Instr.index 224 (.agg wS) (zI 0)).run prog w=.ok (zI 2) w:=fun _=>QT
 have Z:∀w,(Instr.index 224 (.agg wS) (zI 1)).run prog w=.ok (zI 3) w:=fun _=>QT
 have ab:∀w,(Instr.index 224 (.agg wS) (zI 2)).run prog w=.ok (zI 5) w:=fun _=>QT
 have ac:∀w,(Instr.index 224 (.agg wS) (zI 3)).run prog w=.ok (zI 7) w:=fun _=>QT
 go_loop [12] (fun i=>∃k:Nat,k<=4/\i=.int .i64 k/\∀j,j<k->m6 p ([(2:Int),3,5,7].getD j 0)=false) (fun i=>4-(intOf i).toNat)
 case atStart=>exact⟨0,Qu,rfl,fun j hj=>Qu⟩
 case round=>
  obtain⟨k,U,rfl,G⟩:=hrel;have Gi:=zH G;rcases(Qu:k=4∨k=0∨k=1∨k=2∨k=3)with rfl|rfl|rfl|rfl|rfl
  .go_wp2;go_ret
   exact⟨aN (by rw[zdL Qu Qu Gi]),rfl⟩
  .by_cases m:p%2=0
   .have D:(p%2==0)=true:=QA;by_cases e:p=2
    .have h:m6 p 2=false:=QY;have HB:=zH h;have F:(p !=2)=false:=QC;exact YZ
    .have F:(p !=2)=true:=QC;have h:m6 p 2=true:=Rw;have HB:=zH h;go_wp2;go_ret
     exact⟨aN (by rw[tO 0 Qu HB]),rfl⟩
   .have D:(p%2==0)=false:=QA;have h:m6 p 2=false:=QX;have HB:=zH h;exact YZ
  .by_cases m:p%3=0
   .have D:(p%3==0)=true:=QA;by_cases e:p=3
    .have h:m6 p 3=false:=QY;have HB:=zH h;have F:(p !=3)=false:=QC;exact YY
    .have F:(p !=3)=true:=QC;have h:m6 p 3=true:=Rw;have HB:=zH h;go_wp2;go_ret
     exact⟨aN (by rw[tO 1 Qu HB]),rfl⟩
   .have D:(p%3==0)=false:=QA;have h:m6 p 3=false:=QX;have HB:=zH h;exact YY
  .by_cases m:p%5=0
   .have D:(p%5==0)=true:=QA;by_cases e:p=5
    .have h:m6 p 5=false:=QY;have HB:=zH h;have F:(p !=5)=false:=QC;exact YX
    .have F:(p !=5)=true:=QC;have h:m6 p 5=true:=Rw;have HB:=zH h;go_wp2;go_ret
     exact⟨aN (by rw[tO 2 Qu HB]),rfl⟩
   .have D:(p%5==0)=false:=QA;have h:m6 p 5=false:=QX;have HB:=zH h;exact YX
  .by_cases m:p%7=0
   .have D:(p%7==0)=true:=QA;by_cases e:p=7
    .have h:m6 p 7=false:=QY;have HB:=zH h;have F:(p !=7)=false:=QC;exact YW
    .have F:(p !=7)=true:=QC;have h:m6 p 7=true:=Rw;have HB:=zH h;go_wp2;go_ret
     exact⟨aN (by rw[tO 3 Qu HB]),rfl⟩
   .have D:(p%7==0)=false:=QA;have h:m6 p 7=false:=QX;have HB:=zH h;exact YW
def FE:((List.range 98).all fun p=>(List.range 10).all fun k=>decide (p<2)||decide (k<2)||decide (p<k*k)||decide (p%k≠0)||!bV (p:Nat))=true:=Rq
def Cv:((List.range 98).all fun p=>(List.range 11).all fun k=>decide (p<2)||decide (k<2)||decide (k*k<=p)||((List.range k).any fun j=>decide (2<=j)&&decide (p%j=0))||bV (p:Nat))=true:=Rq
def FF p(D:p<98)k(F:k<10)(H:2<=p)(I:2<=k)(J:k*k<=p)(G:p%k=0):bV (p:Nat)=false:=by
 have:=eD.1 (eD.1 FE p (fj.2 D)) k (fj.2 F);simp only[jS,cf,uE]at this;rcases this with(((h|h)|h)|h)|h
 .omega
 .omega
 .omega
 .exact absurd G h
 .exact h
def Cw p(F:p<98)k(D:k<11)(I:2<=p)(J:2<=k)(O:p<k*k)(G:∀j,j<k->2<=j->p%j≠0):bV (p:Nat)=true:=by
 have:=eD.1 (eD.1 Cv p (fj.2 F)) k (fj.2 D);simp only[jS,cf,nl,bN,fj]at this;rcases this with(((h|h)|h)|⟨j,H,D,h⟩)|h
 .omega
 .omega
 .omega
 .exact absurd h (G j H D)
 .exact h
def zhJ{k}(F:2<=p)(G:p<=97)(H:2<=k)(I:k<=9)(h:k*k<=p)(D:p%k=0):bV p=false:=by obtain⟨p,rfl⟩:=iz (Qu:0<=p);obtain⟨k,rfl⟩:=iz (Qu:0<=k);exact FF p Qu k Qu Qu Qu (by exact_mod_cast h) (by exact_mod_cast D)
def zdM{k}(F:2<=p)(G:p<=97)(H:2<=k)(I:k<=10)(h:p<k*k)(D:∀j,2<=j->j<k->p%j≠0):bV p=true:=by
 obtain⟨p,rfl⟩:=iz (Qu:0<=p);obtain⟨k,rfl⟩:=iz (Qu:0<=k);exact Cw p Qu k Qu Qu Qu (by exact_mod_cast h) fun j J O=>by
  have:=D j Qu Qu
  exact_mod_cast this
def zmH{k:Int}(D:2<=k)(F:k<=10):0<=k*k/\k*k<=100/\(k=10->k*k=100):=by obtain⟨k,rfl⟩:=iz (Qu:0<=k);have h:k<11:=Qu;have:∀k,k<11->k*k<=100:=Qw;have:=this k h;refine⟨Qu,by exact_mod_cast this,fun e=>?_⟩;obtain rfl:k=10:=Qu;rfl
def kr p w:az 91 (bK p) w fun e w'=>e=.returned (.bool (bV p))/\w=w':=by
 cases hi:eU p 2 97
 .go_enter func91,ntmps91
  go_wp2_with (go_at_call 92;refine(aX _ _ _ _).x ?_;rintro e w' ⟨rfl,rfl⟩;rw[hi])
  go_ret
  exact⟨aN (by rw[bV,hi];rfl),rfl⟩
 have Z:2<=p/\p<=97:=Si;obtain⟨J,O⟩:=Z;go_enter func91,ntmps91
 go_wp2_with (go_at_call 92;refine(aX _ _ _ _).x ?_;rintro e w' ⟨rfl,rfl⟩;rw[hi])
 go_loop [3] (fun i=>∃k:Int,2<=k/\k<=10/\i=.int .i64 k/\∀j,2<=j->j<k->p%j≠0) (fun i=>10-(intOf i).toNat)
 case atStart=>exact⟨2,Qu,Qu,rfl,fun j _ _=>Qu⟩
 case round=>
  obtain⟨k,D,I,rfl,H⟩:=hrel;have G:=zH H;have⟨ac,ad,F⟩:=zmH D I;by_cases ab:k*k<=p
  .have Y:k<=9:=by
    rcases(Qu:k<=9∨k=10)with h|h
    .exact h
    .have:=F h;omega
   by_cases m:p%k=0
   .have T:(p%k==0)=true:=QA;have M:=zH m;go_wp2;go_ret
    exact⟨aN (by rw[zhJ J O D Y ab M.o]),rfl⟩
   .have T:(p%k==0)=false:=QA;have M:=zH m;go_wp2;go_round
    case rel=>exact⟨k+1,Qu,Qu,Qx,fun j a b=>by
     by_cases U:j<k
     .exact G j a U
     .obtain rfl:j=k:=Qu;exact M.o⟩
    case measure=>simp[intOf];omega
  .go_wp2;go_ret
   exact⟨aN (by rw[zdM J O D I Qu G]),rfl⟩
end
def oW v h D w(H:0<=v)(I:v<=1000)(F:0<=h)(G:h<=1000):az 64 (cY (en v h D)) w fun e w'=>e=.returned (zI (v+h))/\ag w w':=by
 go_enter func64,ntmps64
 go_wp2;go_ret
 exact⟨rfl,(al _ _).alloc (ae _) _⟩
def zbo p v h A ε rows w(D:dZ w)(G:bt w A rows)(U:rows.length<=maxLen)(Y:∀r∈rows,r.length<=maxLen):az 99 (gj p (aA v h A rows ε)) w (dt w (ic p v h rows)):=by
 have ab:∀W:κ (w.alloc (.cells (aA v h A rows ε) 57)),af W.W w 0 (zI v):=fun W=>W.cell Qt
 have ac:∀W:κ (w.alloc (.cells (aA v h A rows ε) 57)),af W.W w 1 (zI h):=fun W=>W.cell Qt
 have ad:∀W:κ (w.alloc (.cells (aA v h A rows ε) 57)),af W.W w 2 (.slice A rows ε):=fun W=>W.cell Qt
 have F:∀W:κ (w.alloc (.cells (aA v h A rows ε) 57)),dZ W.W:=fun W=>D.ext W.Φ
 have H:∀W:κ (w.alloc (.cells (aA v h A rows ε) 57)),bt W.W A rows:=fun W=>G.ext W.Φ
 have⟨HP,J⟩:=bJ F H;clear D G F H;cases hf:bV p
 .go_enter func99,ntmps99
  go_wp2;refine bU QT QT ?_
  repeat (go_big_quiet_step ((go_at_call 142;exact Calls.dj (v:=.bool false) T5)))
  refine Py fun W=>?_
  go_ret
  exact⟨aN (by rw[ic,hf];rfl),W.Φ⟩
 cases hv:eU v 0 24
 .go_enter func99,ntmps99
  go_wp2;refine bU QT QT ?_
  repeat (go_big_quiet_step (first|(go_at_call 142;exact Calls.dj (v:=.bool true) T5)|(go_at_call_of 143 v;exact Calls.dj (v:=.bool false) TM)))
  refine Py fun W=>?_
  go_ret
  exact⟨aN (by rw[ic,hf,hv];rfl),W.Φ⟩
 cases hh:eU h 0 100
 .go_enter func99,ntmps99
  go_wp2;refine bU QT QT ?_
  repeat (go_big_quiet_step (first|(go_at_call 142;exact Calls.dj (v:=.bool true) T5)|(go_at_call_of 143 v;exact Calls.dj (v:=.bool true) TM)|(go_at_call_of 143 h;exact Calls.dj (v:=.bool false) TL)))
  refine Py fun W=>?_
  go_ret
  exact⟨aN (by rw[ic,hf,hv,hh];rfl),W.Φ⟩
 obtain⟨v1,v2⟩:0<=v/\v<=24:=by simpa[eU]using hv
 obtain⟨O,Z⟩:0<=h/\h<=100:=by simpa[eU]using hh
 by_cases I:rows.length<=160
 .have T:decide ((rows:Int)<=160)=true:=QW;go_enter func99,ntmps99
  go_wp2;refine bU QT QT ?_
  repeat (go_big_quiet_step (first|(go_at_call 142;exact Calls.dj (v:=.bool true) T5)|(go_at_call_of 143 v;exact Calls.dj (v:=.bool true) TM)|(go_at_call_of 143 h;exact Calls.dj (v:=.bool true) TL)|(go_at_call 64;exact Calls.fh (oW v h _ _ v1 Qu O Qu))|(go_at_call 144;exact Calls.dj (Et _ _ _ _ _ _ (J.o _) U Y))))
  refine Py fun W=>?_
  go_ret
  exact⟨aN (by simp[ic,hf,hv,hh,I]),W.Φ⟩
 .have T:decide ((rows:Int)<=160)=false:=QW;go_enter func99,ntmps99
  go_wp2;refine bU QT QT ?_
  repeat (go_big_quiet_step (first|(go_at_call 142;exact Calls.dj (v:=.bool true) T5)|(go_at_call_of 143 v;exact Calls.dj (v:=.bool true) TM)|(go_at_call_of 143 h;exact Calls.dj (v:=.bool true) TL)))
  refine Py fun W=>?_
  go_ret
  exact⟨aN (by simp[ic,I]),W.Φ⟩
def yf p v h A ε rows w(G:bt w A rows)(J:rows.length<=maxLen)(O:∀r∈rows,r.length<=maxLen):az 58 (gj p (aA v h A rows ε)) w (dt w (ic p v h rows)):=by
 have U:=G.ext ((al w w).alloc (ae _) (.cells (aA v h A rows ε) 57));clear G;have D:=(al w w).alloc (ae _) (.cells (aA v h A rows ε) 57);cases hf:bV p
 .go_enter func58,ntmps58
  go_wp2_with ((go_at_call 91;refine(Calls.cg (kr _ _) hf).x ?_;rintro e w' ⟨rfl,rfl⟩))
  go_ret
  exact⟨aN (by rw[ic,hf];rfl),D⟩
 cases hv:eU v 0 24
 .go_enter func58,ntmps58
  go_wp2_with (first|(go_at_call 91;refine(Calls.cg (kr _ _) hf).x ?_;rintro e w' ⟨rfl,rfl⟩)|(go_at_call_of 92 v;refine(Calls.cg (aX _ _ _ _) hv).x ?_;rintro e w' ⟨rfl,rfl⟩))
  go_ret
  exact⟨aN (by rw[ic,hf,hv];rfl),D⟩
 cases hh:eU h 0 100
 .go_enter func58,ntmps58
  refine Ot ?_;go_ret
  exact⟨aN (by rw[ic,hf,hv,hh];rfl),D⟩
 obtain⟨T,p2⟩:2<=p/\p<=97:=by have F:=hf;unfold bV at F;rw[bN]at F;simpa[eU]using F.1
 obtain⟨v1,v2⟩:0<=v/\v<=24:=by simpa[eU]using hv
 obtain⟨Y,Z⟩:0<=h/\h<=100:=by simpa[eU]using hh
 by_cases H:rows.length<=160
 .have I:decide ((rows:Int)<=160)=true:=QW;go_enter func58,ntmps58
  go_wp2_with (first|(go_at_call 91;refine(Calls.cg (kr _ _) hf).x ?_;rintro e w' ⟨rfl,rfl⟩)|(go_at_call_of 92 v;refine(Calls.cg (aX _ _ _ _) hv).x ?_;rintro e w' ⟨rfl,rfl⟩)|(go_at_call_of 92 h;refine(Calls.cg (aX _ _ _ _) hh).x ?_;rintro e w' ⟨rfl,rfl⟩)|(go_at_call 93;refine(ze4 _ _ _ _ _ _ U J O T p2).x ?_;rintro e w' ⟨rfl,rfl⟩))
  go_ret
  exact⟨aN (by simp[ic,hf,hv,hh,H]),D⟩
 .have I:decide ((rows:Int)<=160)=false:=QW;go_enter func58,ntmps58
  refine Ot ?_;go_ret
  exact⟨aN (by simp[ic,H]),D⟩
def EX{h:Type}{xs:List h}{x}(D:xs[k]?=some x):xs.zipIdx[k]?=some (x,k):=by rw[ı,D];simp
def eI v h a A n ε w(F:n<=maxLen):az 247 (jy (eO v h A n ε) a) w fun e w'=>e=.returned (.bool (eU a 0 ((n:Int)-1)))/\ag w w':=by
 unfold maxLen at F;have D:=(al w w).alloc (ae _) (.cells (eO v h A n ε) 57);go_enter func247,ntmps247
 go_wp2_with (go_at_call 143;refine(dC _ _ _ _).x ?_;rintro e w' ⟨rfl,rfl⟩)
 go_ret
 exact⟨rfl,D⟩
def mq v h b D w(G:0<=h)(H:h<=100):az 269 (jy (en v h D) b) w (dt w (eU b 0 (h-1))):=by
 have F:=(al w w).alloc (ae _) (.cells (en v h D) 57);go_enter func269,ntmps269
 go_wp2_with (go_at_call 143;refine(dC _ _ _ _).x ?_;rintro e w' ⟨rfl,rfl⟩)
 go_ret
 exact⟨rfl,F⟩
def te(rows:aP)(c:Nat)(h:Int):Bool:=rows.zipIdx.all fun x=>decide ((x.2:Int)=h)||decide (x.1.getD c 0=0)
def EY(v D b h:Int)A ε rows w(F:bt w A rows)(ao:rows.length<=maxLen)(bd:0<=v)(be:v<=24)(a9:D<=100)(a5:0<=b)(a6:b<D)(ac:∀r∈rows,(r.length:Int)=v+D):az 270 #[.agg (aA v D A rows ε),b,h] w (dt w (te rows (v+b).toNat h)):=by
 unfold maxLen at ao;have J:=(al w w).alloc (ae _) (.cells (aA v D A rows ε) 57)
 replace F:=F.ext J
 go_enter func270,ntmps270
 go_wp2;go_loop [12] (fun i=>∃k:Nat,k<=rows.length/\i=.int .i64 k/\(rows.zipIdx.take k).all (fun x=>decide ((x.2:Int)=h)||decide (x.1.getD (v+b).toNat 0=0))=true) (fun i=>rows.length-(intOf i).toNat)
 case atStart=>exact⟨0,aW _,rfl,Qt⟩
 case round=>
  obtain⟨k,bc,rfl,U⟩:=hrel;have H:=zH U;clear U;by_cases ad:k<rows.length
  .have⟨r,G⟩:=aq ad;obtain⟨a2,o,rfl,Y⟩:=F.θ ad;obtain⟨a0,a3,a7,ab⟩:=Y k r G;have av:=ac r (aU G);have ah:(v+b).toNat<r.length:=Qu;have⟨x,O⟩:=aq ah;obtain⟨a1,bg,rfl,Z⟩:=ab.θ ah;have a8:=Z _ _ O;have⟨I,T⟩:=bJ (EX G) O;clear G Y ac F ab Z O;have ba:0<=v+b:=Qu;have bb:v+b < (r:Int):=Qu;clear av;by_cases hn:(k:Int)=h
   .have ap:((k:Int)!=h)=false:=QJ;have an:=zH hn;clear hn;go_wp2;go_round
    case rel=>exact⟨k+1,Qu,Qx,by rw[dG _ _ _ _ I.o,H.o];simp[an.o]⟩
    case measure=>simp[intOf];omega
   .have ap:((k:Int)!=h)=true:=QJ;by_cases h0:x=0
    .subst h0;go_wp2;go_round
     case rel=>exact⟨k+1,Qu,Qx,by rw[dG _ _ _ _ I.o,H.o];simp[T.o]⟩
     case measure=>simp[intOf];omega
    .have a4:(x !=0)=true:=QL;have am:=zH h0;clear h0;go_wp2;go_ret
     exact⟨aN (by rw[te,ξ _ _ _ _ I.o (by simp[hn,T.o,am.o])]),J⟩
  .go_wp2;go_ret
   exact⟨aN (by rw[te,fZ _ _ _ H.o QW]),J⟩
def rC(xs:aL):Nat:=(xs.takeWhile (fun x=>decide (x=0))).length
def zfx{x}(D:(xs.take k).all (fun x=>decide (x=0))=true)(h:xs[k]?=some x)(F:x≠0):rC xs=k:=by
 induction xs generalizing k with
 |nil=>simp at h
 |cons y ys ih=>
  cases k with
  |zero=>simp at h;subst h;simp[rC,F]
  |succ k=>
   simp only[w_,Ax,bN,cf]at D;have:=ih D.2 (by simpa using h);simp[rC,D.1]at this ⊢;exact this
def za7(h:xs.all (fun x=>decide (x=0))=true):rC xs=xs.length:=by
 induction xs with
 |nil=>rfl
 |cons y ys ih=>
  simp only[Ax,bN,cf]at h;have:=ih h.2;simp[rC,h.1]at this ⊢;exact this
def zhW(e:rC xs=xs.length):xs.all (fun x=>decide (x=0))=true:=by
 induction xs with
 |nil=>rfl
 |cons y ys ih=>
  by_cases h:y=0
  .have:rC ys=ys.length:=by simpa[rC,h]using e
   simp only[Ax,h,ih this];rfl
  .simp[rC,h]at e
def zjP xs:((rC xs:Int)==(xs:Int))=xs.all (fun x=>decide (x=0)):=by
 cases h:xs.all (fun x=>decide (x=0))
 .rw[beq_eq_false_iff_ne];intro e;rw[zhW Qu]at h;cases h
 .rw[pT,za7 h]
def zdX A ε xs w(G:aO w A xs)(T:xs.length<=maxLen):az 185 (aV A xs ε) w fun e w'=>e=.returned (zI (rC xs))/\w=w':=by
 unfold maxLen at T;go_enter func185,ntmps185
 go_wp2;go_loop [7] (fun i=>∃k:Nat,k<=xs.length/\i=.int .i64 k/\(xs.take k).all (fun x=>decide (x=0))=true) (fun i=>xs.length-(intOf i).toNat)
 case atStart=>exact⟨0,aW _,rfl,Qt⟩
 case round=>
  obtain⟨k,Z,rfl,H⟩:=hrel;have h:=zH H;clear H;by_cases J:k<xs.length
  .have⟨x,D⟩:=aq J;obtain⟨b,o,rfl,I⟩:=G.θ J;have Y:=I k x D;have F:=zH D;clear D I G;by_cases h0:x=0
   .subst h0;go_wp2;go_round
    case rel=>exact⟨k+1,Qu,Qx,by rw[dG _ _ _ _ F.o,h.o];rfl⟩
    case measure=>simp[intOf];omega
   .have U:(x !=0)=true:=QL;have O:=zH h0;clear h0;go_wp2;go_ret
    exact⟨rl (by rw[zfx h F O]),rfl⟩
  .go_wp2;go_ret
   exact⟨rl (by rw[za7 (fZ _ _ _ h Qu)]),rfl⟩
def uX(xs:aL):Bool:=xs.all fun x=>decide (x=0)
def EZ A ε xs w(h:aO w A xs)(D:xs.length<=maxLen):az 186 (aV A xs ε) w fun e w'=>e=.returned (.bool (uX xs))/\w=w':=by
 have E:=zH (zjP xs);go_enter func186,ntmps186
 go_wp2_with (go_at_call 185;refine(zdX _ _ _ _ h D).x ?_;rintro e w' ⟨rfl,rfl⟩)
 go_ret
 exact⟨aN (by rw[uX,<-E.o]),rfl⟩
def vQ(xs:aL)(a:Int):Bool:=xs.zipIdx.all fun x=>decide ((x.2:Int)=a)==decide (x.1≠0)
def zdY(a:Int)A ε xs w(G:aO w A xs)(O:xs.length<=maxLen):az 137 #[.slice A xs ε,a] w fun e w'=>e=.returned (.bool (vQ xs a))/\w=w':=by
 unfold maxLen at O;go_enter func137,ntmps137
 go_wp2;go_loop [9] (fun i=>∃k:Nat,k<=xs.length/\i=.int .i64 k/\(xs.zipIdx.take k).all (fun x=>decide ((x.2:Int)=a)==decide (x.1≠0))=true) (fun i=>xs.length-(intOf i).toNat)
 case atStart=>exact⟨0,aW _,rfl,Qt⟩
 case round=>
  obtain⟨k,U,rfl,H⟩:=hrel;have Gi:=zH H;clear H;by_cases J:k<xs.length
  .have⟨x,F⟩:=aq J;obtain⟨b,o,rfl,I⟩:=G.θ J;have T:=I k x F;have Hx:=zH (EX F);clear F I G;by_cases hn:(k:Int)=a<;>by_cases h0:x=0
   .have D:((k:Int)==a)=true:=QJ;have h:(x !=0)=false:=QL;exact Yw
   .have D:((k:Int)==a)=true:=QJ;have h:(x !=0)=true:=QL;exact YV
   .have D:((k:Int)==a)=false:=QJ;have h:(x !=0)=false:=QL;exact YV
   .have D:((k:Int)==a)=false:=QJ;have h:(x !=0)=true:=QL;exact Yw
  .go_wp2;go_ret
   exact⟨aN (by rw[vQ,fZ _ _ _ Gi.o QW]),rfl⟩
def gD:(prog.info? 3).map (fun i=>(i.zero,i.size,i.bytes))=some (some (.int .i64 0),1,8):=QT
def aE(w:aa)(B:Nat)(v:aG)(xs:aL):Prop:=w.ownsRow B 3 1 v xs.length (xs.map (Value.int .i64))
def aE.p(h:aE w B v xs):∃A ε,v=.slice A xs ε/\aO w A xs/\xs.length<=ε/\ε<=maxLen:=by
 have F:=fun g=>oz h (g:=g)
 obtain⟨H,D⟩:=h;rcases D with⟨rfl,hn⟩|⟨g,ε,G,rfl,I,J,hn,hm,O⟩
 .exact WH
 .refine MG fun k x hk=>?_
  have:=F g rfl k (zI x) (by rw[bI,hk];rfl);have e:(⟨g,0,none⟩:dM).add k=⟨g,0+k,none⟩:=by unfold Addr.add;split<;>simp_all
  rwa[e]at this
def aE.nil w B:aE w B (.slice none 0 0) []:=rT _ _ _ _
def aE.ext(D:aE w B v xs)(h:ag w w'):aE w' B v xs:=by refine jA D (row:=none) ⟨h.os,h.tape,h.output,h.size,fun k F _=>h.block k F⟩ ?_;cases v.ownBlock<;>simp
def qm(J:o.guard=none)s x(O:o.op=.call {callee:=.builtin .append,args:=#[s,x],argTypes:=#[26,26]})B(W:aa)v xs y(U:a.eval s=v)(Y:a.eval x=.slice (bH W) 1 1)(F:aE W B v xs)(ah:xs.length+1<=1099511627776)(I:B<=(W:Nat))(H:∀D w',aE w' B D (xs++[y])->W.grownBy w' v.ownBlock->Below B W w'->wpList prog ops Q rest (a.put o.dst D) w'):wpList prog ops Q (o::rest) a (W.alloc (.cells (bK y) 3)):=by
 have⟨ad,hi,Z,ab,ac⟩:=dp gD;have T:=nm F (.cells (bK y) 3);refine C6 _ J s x 26 O B 3 ad (zI 0) 1 8 dR hi Z ab ac rfl Qw v _ _ U T ⟨W,0,none⟩ 1 1 [.int .i64 y] Y rfl ?_ ?_ ?_ ?_ ?_ ?_
 .intro j u h
  match j,h with
  |0,h=>simp at h;subst h;simp[Addr.add]
  |j+1,h=>simp at h
 .intro u G;simp at G;subst G;rfl
 .unfold maxLen;omega
 .omega
 .simp;omega
 .intro D w' J_ Gx _;refine Pc fun hg=>?_
  refine H D w' Ta hg ?_;exact(al _ _).grown hg I fun k hk=>(bS F k hk).1
def jL(rows:aP)(c:Nat):List Int:=rows.map fun r=>r.getD c 0
def Fj{r}{x}(h:rows[k]?=some r)(D:r[c]?=some x):(jL rows c).take (k+1)=(jL rows c).take k++[x]:=by rw[du];simp[jL,h,D]
def zke rows c k(h:k<=rows.length):((jL rows c).take k).length=k:=by simp[jL];omega
def yI v h b A ε rows w(J:bt w A rows)(bb:rows.length<=1000)(bc:0<=v)(bd:v<=24)(a8:h<=100)(a4:0<=b)(a5:b<h)(Y:∀r∈rows,(r.length:Int)=v+h):az 138 (jy (aA v h A rows ε) b) w fun e w'=>∃u,e=.returned u/\aE w' ((w:Nat)+1) u (jL rows (v+b).toNat)/\ag w w':=by
 have⟨bn,hi,bg,bh,bi⟩:=dp gD;have I:=(al w w).alloc (ae _) (.cells (aA v h A rows ε) 57);go_enter func138,ntmps138
 go_wp2;go_loopw [5,11] (fun u i wr=>∃k:Nat,k<=rows.length/\i=.int .i64 k/\aE wr ((w:Nat)+1) u ((jL rows (v+b).toNat).take k)/\Below ((w:Nat)+1) (w.alloc (.cells (aA v h A rows ε) 57)) wr)
  (fun _ i _=>rows.length-(intOf i).toNat)
 case atStart=>exact⟨0,aW _,rfl,S_,al _ _⟩
 case round=>
  obtain⟨k,an,rfl,ac,D⟩:=hrel;have H:=zH ac;clear ac;have be:af wr w 0 (zI v):=(D.cell (p:=⟨w,0,none⟩) Qt).t Qt;by_cases Z:k<rows.length
  .have⟨r,F⟩:=aq Z;have am:ag w wr:=I.t (D.x Qu);obtain⟨a2,o,rfl,O⟩:=(J.ext am).θ Z;obtain⟨a0,a3,a6,U⟩:=O k r F;have ap:=Y r (aU F);have ab:(v+b).toNat<r.length:=Qu;have⟨x,G⟩:=aq ab;obtain⟨a1,bo,rfl,T⟩:=U.θ ab;have a7:=T _ _ G;have ad:=zH (Fj F G);clear F O Y J U T G;have a9:0<=v+b:=Qu;have ba:v+b < (r:Int):=Qu;clear ap;have HL:=zH (zke rows (v+b).toNat k an);have av:=D.size;simp only[dV]at av;go_wp2_with ((at_builtin;refine qm rfl _ _ rfl _ wr _ _ _ rfl rfl H.o RK Qu ?_;intro bp bq ao _ ah))
   go_roundw
   case rel=>exact⟨k+1,Qu,Qx,by rw[ad.o];exact ao,D.t ah⟩
   case measure=>simp[intOf];omega
  .go_wp2;go_ret
   exact⟨_,rfl,by have h:=H.o;rwa[cZ (by simp[jL];omega)]at h,I.t (D.x Qu)⟩
def iZ D t ty e i size(h:P.underlying t=some (.slice e))(hi:P.info? e=some i)v n c xs(G:w.ownsRow D e size v n xs):(Builtin.append_ #[t,t] ty #[v,.slice none 0 c]).run P w=.ok v w:=by
 rcases G.2 with⟨rfl,rfl⟩|⟨g,ε,H,rfl,_,_,F,_⟩
 .simp[Builtin.append_,rZ h,sizeOf,typeInfo,hi,Builtin.lenOf,Builtin.firstCells]
 .simp[Builtin.append_,rZ h,sizeOf,typeInfo,hi,Builtin.lenOf,Builtin.firstCells,F,storeCells]
def dF b o j:(⟨b,o,none⟩:dM).add j=⟨b,o+j,none⟩:=by unfold Addr.add;split<;>simp_all
def ts(F:o.guard=none)s x(H:o.op=.call {callee:=.builtin .append,args:=#[s,x],argTypes:=#[26,26]})B W v(xs ys:aL)A c(I:a.eval s=v)(hx:a.eval x=.slice A ys c)(FT:aE W B v xs)(Ha:aO W A ys)(ac:xs.length+ys<=1099511627776)(O:B<=(W:Nat))(h:∀D w',aE w' B D (xs++ys)->W.grownBy w' v.ownBlock->Below B W w'->wpList prog ops Q rest (a.put o.dst D) w'):wpList prog ops Q (o::rest) a W:=by
 have⟨i0,hi,Y,Z,ab⟩:=dp gD;cases A with
 |none=>
  have hy:ys=[]:=Wq;subst hy;refine l7 F fun K hK=>?_
  refine MZ fun J9 hx=>?_
  simp[execOp,H,resolve,invoke,builtin,I,hx,J9,Result.andThen];exact hK _ _ (h v W RJ ⟨rfl,rfl,rfl,ae _,fun _ _ _=>rfl⟩ (al _ _))
 |some J=>
  refine C6 _ F s x 26 H B 3 i0 (zI 0) 1 8 dR hi Y Z ab rfl Qw v _ _ I FT J ys c (ys.map (Value.int .i64)) hx Qt ?_ ?_ ?_ ?_ ?_ ?_
  .exact YH
  .intro u U;obtain⟨y,_,rfl⟩:=cH.1 U;rfl
  .unfold maxLen;omega
  .omega
  .omega
  .intro D w' J_ G _;exact h D w' Ta G ((al _ _).grown G O fun k T=>(bS FT k T).1)
def aE.lit(W:aa)B(h:B<=(W:Nat)):aE (W.alloc (.cells #[] 3)) B (.slice (bH W) 0 0) []:=Db W #[] 0 h Qw rfl
def qg A ε xs w(D:aO w A xs)(H:xs.length<=1099511627776):az 71 (aV A xs ε) w fun e w'=>∃u,e=.returned u/\aE w' w u xs/\ag w w':=by
 have h:=(al w w).alloc (ae _) (.cells #[] 3);have F:=D.ext h;go_enter func71,ntmps71
 go_wp2_with ((at_builtin;refine ts rfl _ _ rfl w _ _ [] xs A ε rfl rfl (aE.lit _ _ (ae _)) F (by simpa using H) Qt ?_;intro J O I _ G))
 go_ret
 exact⟨_,rfl,I,h.t G⟩
def iR A ε xs w(D:aO w A xs)(H:xs.length<=1099511627776):az 70 (aV A xs ε) w fun e w'=>∃u,e=.returned u/\aE w' w u xs/\ag w w':=by
 have h:=(al w w).alloc (ae _) (.cells #[] 3);have F:=D.ext h;go_enter func70,ntmps70
 go_wp2_with ((at_builtin;refine ts rfl _ _ rfl w _ _ [] xs A ε rfl rfl (aE.lit _ _ (ae _)) F (by simpa using H) Qt ?_;intro J O I _ G))
 go_ret
 exact⟨_,rfl,I,h.t G⟩
def jn n:(madeCells (Value.int .i64 0).cells (n*1)).toList=(List.replicate n (0:Int)).map (Value.int .i64):=YR
def cy(h:w.grownBy w' none):ag w w':=⟨h.os,h.tape,h.output,h.size,fun k D=>h.block k D Qt⟩
def kO(n:Nat)w(I:n<=1099511627776):az 98 (bK n) w fun e w'=>∃u,e=.returned u/\aE w' w u (List.replicate n 0)/\ag w w':=by
 have⟨H,hi,F,G,FU⟩:=dp gD;go_enter func98,ntmps98
 go_wp2_with ((at_make;refine jg _ rfl _ _ 26 rfl w.heap.size 3 H (zI 0) 1 dR hi F G .i64 .i64 n n n rfl rfl rfl rfl RF SL (ae _) ?_;intro J h D))
 go_ret
 refine⟨_,rfl,?_,cy D⟩;rw[jn]at h;simpa[aE]using h
def eF{h:Type}(xs:List h)(z:h)(k:Nat):List h:=xs.take k++List.replicate (xs.length-k) z
def iP{h:Type}(xs:List h)(z:h):eF xs z 0=List.replicate xs z:=by simp[eF]
def jo{h:Type}(xs:List h)(z:h)(k:Nat)(D:xs.length<=k):eF xs z k=xs:=by simp[eF,cZ D];omega
def lD{h:Type}(xs:List h)(z:h)(k:Nat)(D:k<xs.length):(eF xs z k)[k]?=some z:=by rw[eF,fi QW,fI,ak QW]
def jq{D:Type}(xs:List D)(z x:D)(k:Nat)(h:xs[k]?=some x):(eF xs z k).set k x=eF xs z (k+1):=by have H:k<xs.length:=(bG.1 h).1;unfold eF;rw[om _ _ QW,du,h];have F:xs.length-k=(xs.length-(k+1))+1:=Qu;have G:k-(xs.take k).length=0:=QW;rw[F,G,C7,rO];simp
def DH A ε xs w(J:aO w A xs)(av:xs.length<=1099511627776):az 28 (aV A xs ε) w fun e w'=>∃u,e=.returned u/\aE w' w u xs/\ag w w':=by
 have⟨ah,hi,ac,ad,FU⟩:=dp gD;go_enter func28,ntmps28
 go_wp2_with ((at_make;refine jg _ rfl _ _ 26 rfl w.heap.size 3 ah (zI 0) 1 dR hi ac ad .i64 .i64 xs.length xs.length xs.length rfl rfl rfl rfl RF SL (ae _) ?_;intro a0 h Y))
 rw[jn,<-iP]at h;have T:=cy Y;have I:=zH h;clear h Y;go_loopw [4] (fun i wr=>∃k:Nat,k<=xs.length/\i=.int .i64 k/\wr.ownsRow w 3 1 (.slice (bH w) xs xs) xs ((eF xs 0 k).map (Value.int .i64))/\ag w wr)
  (fun i _=>xs.length-(intOf i).toNat)
 case atStart=>exact⟨0,aW _,rfl,I,T⟩
 case round=>
  obtain⟨k,ap,rfl,h,D⟩:=hrel;clear I T;by_cases F:k<xs.length
  .have⟨x,H⟩:=aq F;obtain⟨b,o,rfl,U⟩:=(J.ext D).θ F;have an:=U _ _ H;have am:af wr w k (zI 0):=by rw[h.C k Qu,bI,lD _ _ _ F];rfl
   have ao:=h.g k;have G:=(h.j k (zI x)).1;rw[<-eW,jq _ _ _ _ H]at G;have ab:=zH G;have O:=D.setCell (p:=⟨w,k,none⟩) (ae _) (zI x);have Z:=zH O;clear G O H U h J;go_wp2;go_roundw
   case rel=>exact⟨k+1,Qu,Qx,ab,Z⟩
   case measure=>simp[intOf];omega
  .go_wp2;go_ret
   rw[jo _ _ _ Qu]at h;exact⟨_,rfl,h,D⟩
def kX:(prog.info? 26).map (fun i=>(i.zero,i.size,i.bytes))=some (some (.slice none 0 0),1,24):=QT
structure bL(w:aa)(B:Nat)(v:aG)(rows:aP)(us:cL):Prop where
 η:w.ownsRow B 26 1 v rows.length us
 ν:∀(k:Nat) (u:aG) (r:aL),us[k]?=some u->rows[k]?=some r->aE w B u r
 apart:∀(i j:Nat) (u u':aG) (b:Nat),us[i]?=some u->us[j]?=some u'->u.ownBlock=some b->u'.ownBlock=some b->i=j
def aY(w:aa)(B:Nat)(v:aG)(rows:aP):Prop:=∃us,bL w B v rows us
def bL.ι(h:bL w B v rows us):us.length=rows:=by simpa using h.η.1
def bL.F(h:bL w B v rows us){r}(D:rows[k]?=some r):∃u,us[k]?=some u/\aE w B u r:=by
 have:k<us.length:=by rw[h.ι];exact(bG.1 D).1
 have⟨u,F⟩:=aq this;exact⟨u,F,h.ν k u r F D⟩
def bL.nT(h:bL w B v rows us)(F:us[k]?=some u):∃r,rows[k]?=some r/\aE w B u r:=by
 have:k<rows.length:=by rw[<-h.ι];exact(bG.1 F).1
 have⟨r,D⟩:=aq this;exact⟨r,D,h.ν k u r F D⟩
def aE.lt(h:aE w B v xs):∀k,v.ownBlock=some k->B<=k/\k < (w:Nat):=bS h
def fq(F:w.ownsRow B 26 1 v n us)(D:aE w B' u xs):u.ownBlock=none∨u.ownBlock≠v.ownBlock:=by
 rcases D.2 with⟨rfl,_⟩|⟨g,ε,I,rfl,_,h,_⟩
 .exact ay rfl
 .right;rcases F.2 with⟨rfl,_⟩|⟨O,H,J,rfl,_,G,_⟩
  .simp[Value.ownBlock]
  .intro e;simp only[Value.ownBlock,dW]at e;rw[e,G]at h;simp at h
def aE.kept(h:aE w B u xs)(D:w.grownBy w' row)(F:u.ownBlock=none∨u.ownBlock≠row):aE w' B u xs:=jA h D F
def bL.ext{w w'}{B}{v}{rows}{us}(D:bL w B v rows us)(h:ag w w'):bL w' B v rows us:=⟨jA D.η (row:=none) ⟨h.os,h.tape,h.output,h.size,fun k F _=>h.block k F⟩ TC,fun k u r H G=>(D.ν k u r H G).ext h,D.apart⟩
def aY.ext(h:aY w B v rows)(D:ag w w'):aY w' B v rows:=by obtain⟨us,h⟩:=h;exact⟨us,h.ext D⟩
def aY.p(h:aY w B v rows):∃A ε,v=.slice A rows ε/\bt w A rows/\rows.length<=ε/\ε<=maxLen:=by
 obtain⟨us,h⟩:=h;have G:=fun g=>oz h.η (g:=g)
 rcases h.η.2 with⟨rfl,hn⟩|⟨g,ε,T,rfl,U,Y,hn,I,Z⟩
 .exact WH
 .refine⟨_,ε,rfl,au ⟨g,0,rfl,fun k r H=>?_⟩,hn,I⟩;obtain⟨u,O,J⟩:=h.F H;obtain⟨D,F,rfl,hi,_⟩:=J.p;have:=G g rfl k _ O;rw[dF]at this;exact⟨D,F,this,hi⟩
def aE.y(D:aE w B v xs)(J:∀k,B<=k->w'.heap[k]?=w.heap[k]?):aE w' B v xs:=⟨D.1,D.2.E id fun⟨g,ε,I,F,h,G,H⟩=>⟨g,ε,I,F,h,by rw[J g h];exact G,H⟩⟩
def aY.y{w w'}{B}{v}{rows}(h:aY w B v rows)(F:∀k,B<=k->w'.heap[k]?=w.heap[k]?):aY w' B v rows:=by obtain⟨us,h⟩:=h;exact⟨us,⟨h.η.1,h.η.2.E id fun⟨g,ε,J,G,D,H,I⟩=>⟨g,ε,J,G,D,by rw[F g D];exact H,I⟩⟩,fun k u r T O=>(h.ν k u r T O).y F,h.apart⟩
def aE.x(h:aE w B v xs)(I:B'<=B):aE w B' v xs:=⟨h.1,h.2.E id fun⟨g,ε,G,D,H,F⟩=>⟨g,ε,G,D,Qu,F⟩⟩
def aY.x{w}{B B'}{v}{rows}(h:aY w B v rows)(H:B'<=B):aY w B' v rows:=by obtain⟨us,h⟩:=h;exact⟨us,⟨h.η.1,h.η.2.E id fun⟨g,ε,G,D,O,F⟩=>⟨g,ε,G,D,Qu,F⟩⟩,fun k u r J I=>(h.ν k u r J I).x H,h.apart⟩
def aY.setCell(h:aY w B v rows){a}(D:a.block<B)u:aY (w.setCell a u) B v rows:=h.y fun k F=>a_ _ _ _ _ Qu
def aE.setCell(h:aE w B v xs){a}(D:a.block<B)u:aE (w.setCell a u) B v xs:=h.y fun k F=>a_ _ _ _ _ Qu
def m7(I:o.guard=none)s x(J:o.op=.call {callee:=.builtin .append,args:=#[s,x],argTypes:=#[55,55]})B h W v u rows r(FT:aY h B v rows)(F:ag h W)(hu:aE W h u r)(ah:rows.length+1<=1073741824)(H:B<=(h:Nat))(U:a.eval s=v)(Y:a.eval x=.slice (bH W) 1 1)(G:∀D w',aY w' B D (rows++[r])->Below B h w'->wpList prog ops Q rest (a.put o.dst D) w'):wpList prog ops Q (o::rest) a (W.alloc (.cells #[u] 26)):=by
 have⟨ad,hi,Z,ab,ac⟩:=dp kX;obtain⟨us,FT⟩:=FT;have hW:=FT.ext F;have O:=nm hW.η (.cells #[u] 26);have am:=F.size;refine C6 _ I s x 55 J B 26 ad (.slice none 0 0) 1 24 iA hi Z ab ac rfl Qw v _ _ U O ⟨W,0,none⟩ 1 1 [u] Y rfl ?_ ?_ ?_ ?_ ?_ ?_
 .exact X9
 .exact Xo
 .unfold maxLen;omega
 .omega
 .simp;omega
 .intro D w' T Gx _;refine Pc fun hg=>?_
  refine G D w' ⟨us++[u],?_,?_,?_⟩ (F.x H |>.t ((al _ _).grown hg Qu fun k hk=>(bS hW.η k hk).1))
  .simpa using T
  .exact Zt
  .exact ZL
def bL.set{G}{g ε}{r}(an:n=rows.length)(h:bL G B (.slice (bH g) n ε) rows us)(U:ag G W)(O:aE W G u r)(ah:B<=(G:Nat))(hk:k<n):bL (W.setCell ⟨g,k,none⟩ u) B (.slice (bH g) n ε) (rows.set k r) (us.set k u)/\Below B G (W.setCell ⟨g,k,none⟩ u)/\(∃v0,af W g k v0)/\W.frozen? ⟨g,k,none⟩=false:=by
 subst an;have D:=h.ext U;have J:=D.η.j k u;have am:=bS D.η g rfl;refine⟨⟨by simpa using J.1,?_,?_⟩,(U.x ah).t ((al _ _).setCell am.1 u),?_,D.η.g k⟩
 .intro j F r' I H;by_cases Y:k=j
  .subst Y;rw[gl Sq]at I;rw[gl hk]at H;cases I;cases H
   have Z:=aE.kept O J.2 (fq D.η O);exact⟨Z.1,Z.2.E id fun⟨g,ε,ad,T,ab,ac⟩=>⟨g,ε,ad,T,Qu,ac⟩⟩
  .rw[gI Y]at I H;exact aE.kept (D.ν j F r' I H) J.2 (fq D.η (D.ν j F r' I H))
 .have Î:∀(i:Nat) (F:aG) (b:Nat),us[i]?=some F->F.ownBlock=some b->u.ownBlock=some b->False:=fun i F b h1 h2 h3=>by obtain⟨r',_,ao⟩:=h.nT h1;have T:=(ao.lt b h2).2;have ab:=(O.lt b h3).1;omega
  intro i j u1 u2 b h1 h2 h3 h4;by_cases ci:k=i<;>by_cases cj:k=j
  .omega
  .subst ci;rw[gl Sq]at h1;rw[gI cj]at h2;cases h1
   exact(Î j u2 b h2 h4 h3).elim
  .subst cj;rw[gl Sq]at h2;rw[gI ci]at h1;cases h2
   exact(Î i u1 b h1 h3 h4).elim
  .exact Xb
 .have⟨u0,ap⟩:=aq (Sq:k<us.length);exact⟨u0,by rw[D.η.C k Qu];exact ap⟩
def aY.empty(D:w.ownsRow B 26 1 v 0 []):aY w B v []:=⟨[],D,fun k u r h=>by simp at h,fun i j u F b h=>by simp at h⟩
def yg A ε rows w(H:bt w A rows)(ah:rows.length<=1048576)(U:∀r∈rows,r.length<=1048576):az 145 (aV A rows ε) w fun e w'=>∃u,e=.returned u/\aY w' w u rows/\ag w w':=by
 have⟨ap,hi,an,ao,FU⟩:=dp kX;go_enter func145,ntmps145
 go_wp2_with ((at_make;refine wpList_make_own _ rfl _ _ 55 rfl w.heap.size 26 ap (.slice none 0 0) 1 iA hi an ao .i64 .i64 rows.length rows.length rfl rfl rfl RF SL (ae _) ?_;intro av D O))
 have I:=cy O;have G:=zH (aY.empty D);clear D O;go_loopw [3,11] (fun u i wr=>∃k:Nat,k<=rows.length/\i=.int .i64 k/\aY wr w u (rows.take k)/\ag w wr)
  (fun _ i _=>rows.length-(intOf i).toNat)
 case atStart=>exact⟨0,aW _,rfl,G,I⟩
 case round=>
  obtain⟨k,a5,rfl,D,FW⟩:=hrel;have I5:=zH D;clear D G I;by_cases T:k<rows.length
  .have⟨r,F⟩:=aq T;obtain⟨a2,o,rfl,J⟩:=(H.ext FW).θ T;obtain⟨a0,a3,a4,ad⟩:=J k r F;have⟨Z,HT⟩:=bJ (show r.length<=1099511627776 by have:=U r (aU F);omega) (by rw[du,F];rfl:rows.take (k+1)=rows.take k++[r]);have am:=FW.size;have ab:=zH (QW:(rows.take k).length+1<=1073741824);have a6:rows.length<9223372036854775807:=Qu;clear F J H U ah;go_wp2_with (first|(go_at_call 71;refine(qg _ _ _ _ ad Z).x ?_;rintro e w' ⟨u2,rfl,Y,ac⟩;obtain⟨a1,c2,rfl,_⟩:=Y.p)|(at_builtin;refine m7 rfl _ _ rfl w wr _ _ _ _ _ I5 ac Y ab.o am rfl rfl ?_;intro a7 av Ij Ik))
   exact YA
  .exact Xp
def zg_ n:(madeCells (Value.slice none 0 0).cells (n*1)).toList=List.replicate n (Value.slice none 0 0):=YR
def bL.made(h:w.ownsRow B 26 1 v n (madeCells (Value.slice none 0 0).cells (n*1)).toList):bL w B v (List.replicate n []) (List.replicate n (.slice none 0 0)):=by
 rw[zg_]at h;refine⟨Q_,?_,?_⟩
 .exact YG
 .exact Yq
def mQ v D A ε rows w(ab:bt w A rows)(I:rows.length<=1048576)(ac:∀r∈rows,r.length<=1048576):az 100 (cY (aA v D A rows ε)) w fun e w'=>∃u,e=.returned (.agg (en v D u))/\aY w' w u rows/\ag w w':=by
 have U:=zH I;clear I;go_enter func100,ntmps100
 go_wp2;go_region_held3 (fun w'=>af w' w 0 (zI v)/\af w' w 1 (zI D)/\af w' w 2 (.slice A rows ε)) (first|go_keep|exact⟨ar h Qt,ar h Qt,ar h Qt⟩)
  ((go_at_call 145;refine(yg _ _ _ _ (ab.ext ?_) U ac).x ?_;exact(((al _ _).alloc (ae _) _).alloc Qt _).drew;rintro e w' ⟨u2,rfl,F,h⟩;obtain⟨G,c2,rfl,_⟩:=F.p;have Y:=ar h (p:=⟨(w:Nat)+1,0,none⟩) (v:=()) Qt;have c1:=ar h (p:=⟨(w:Nat)+1,1,none⟩) (v:=()) Qt;have Z:=ar h (p:=⟨(w:Nat)+1,2,none⟩) (v:=dE) Qt;have f0:=i_ h (p:=⟨(w:Nat)+1,0,none⟩) Qt Qt;have f1:=i_ h (p:=⟨(w:Nat)+1,1,none⟩) Qt Qt;have f2:=i_ h (p:=⟨(w:Nat)+1,2,none⟩) Qt Qt))
 simp only[World.size_drew,dV]at F h;have J:=((F.setCell (a:=⟨(w:Nat)+1,0,none⟩) Qt (zI v)).setCell (a:=⟨(w:Nat)+1,1,none⟩) Qt (zI D)).setCell (a:=⟨(w:Nat)+1,2,none⟩) Qt (.slice G rows c2);have H:=(((((((al w w).alloc (ae _) _).alloc Qt _).drew).t (h.x Qu)).setCell (p:=⟨(w:Nat)+1,0,none⟩) Qt (zI v)).setCell (p:=⟨(w:Nat)+1,1,none⟩) Qt (zI D)).setCell (p:=⟨(w:Nat)+1,2,none⟩) Qt (.slice G rows c2);have⟨O,T⟩:=bJ J H;clear F J H h;go_wp2;refine aI (v:=.agg (aA v D G rows c2)) (by simp[results,results100,go_sem,Y,c1,Z]) rfl ⟨_,rfl,O.x Qu,T.o⟩
def zeq k a b c A ε xs w(T:aO w A xs)(U:xs.length<=1048576):az 52 (cY (jP k a b c A xs ε)) w fun e w'=>∃u,e=.returned (.agg #[k,a,b,c,u])/\aE w' w u xs/\ag w w':=by
 have O:=zH (Qu:xs.length<=1099511627776);clear U;go_enter func52,ntmps52
 go_wp2_with fail
 refine(DH _ _ _ _ (T.ext (((al _ _).alloc Qt _ |>.alloc Qt _).alloc Rs _)) O).x ?_;rintro e w' ⟨u2,rfl,D,h⟩;obtain⟨H,c2,rfl,_⟩:=D.p;have⟨⟨Y,Z,ab,ac,ad⟩,_,_,_,_,ah⟩:=ϭ h (b:=(w:Nat)+1+1) (aH _ _ Qt);have⟨⟨am,an,ao,ap,av⟩,a0,a1,a2,a3,a4⟩:=ϭ h (b:=(w:Nat)+1) ((bO _ _ Qt).t (aH _ _ Qt));simp only[dV]at D;have G:=h.x (B':=w.heap.size) Rs;have F:=(((al w w).alloc Qt _ |>.alloc Qt _).alloc Rs _).t G;have⟨I,J⟩:=bJ D F;clear D F G h;go_wp2;refine aI (v:=.agg (jP k a b c H xs c2)) (by simp[results,results52,go_sem, *]) rfl ⟨_,rfl,?_,?_⟩
 .exact((((((I.setCell Rs _).setCell Rs _).setCell Rs _).setCell Rs _).setCell Rs _).setCell Rs _).x Qu
 .exact(((((J.o.setCell Rs _).setCell Rs _).setCell Rs _).setCell Rs _).setCell Rs _).setCell Rs _
def rD(w:aa)n:Below w w (w.drewN n):=by
 induction n with
 |zero=>exact al _ _
 |succ n ih=>exact ih.t ⟨rfl,rfl,rfl,ae _,fun _ _=>rfl⟩
def Þ(left r:Int)(n:Nat):Prop:=r<0∨(0<=r/\r<=left/\(n:Int)<=left)
def tQ A n ε(left:Int)w(h:n<=maxLen)(F:0<=left)(G:left<=1048576):az 23 #[.slice A n ε,left] w fun e w'=>∃r,e=.returned (zI r)/\Þ left r n/\w=w':=by
 unfold maxLen at h;by_cases D:left-n<0
 .go_enter func23,ntmps23
  go_wp2;go_ret
  exact⟨_,rfl,ay Qw,rfl⟩
 .go_enter func23,ntmps23
  go_wp2;go_ret
  exact⟨_,rfl,au Qu,rfl⟩
def zfy k a b c A n ε left w(J:n<=maxLen)(H:0<=left)(I:left<=1048576):az 48 (jy (rJ k a b c A n ε) left) w fun e w'=>∃r,e=.returned (zI r)/\Þ left r n/\ag w w':=by
 have D:=(al w w).alloc Qt (.cells (rJ k a b c A n ε) 91);have h:=zH D;clear D;go_enter func48,ntmps48
 go_wp2_with ((go_at_call 23;refine(tQ _ _ _ _ _ J H I).x ?_;rintro e w' ⟨O,rfl,F,rfl⟩;have G:=zH F;clear F))
 .go_ret
  exact⟨_,rfl,ay Qw,h⟩
 .go_ret
  exact⟨_,rfl,G,h⟩
def ό{D:Type}{xs ys:List D}{x y}(G:xs[k]?=some x)(h:ys[k]?=some y)(F:x≠y):xs≠ys:=by intro e;subst e;rw[G]at h;cases h;exact F rfl
def m_{h:Type}{xs ys:List h}{x}(D:xs.take k=ys.take k)(F:xs[k]?=some x)(G:ys[k]?=some x):xs.take (k+1)=ys.take (k+1):=by rw[du,du,D,F,G]
def qK{G:Type}{xs ys:List G}(h:xs.take k=ys.take k)(D:xs.length<=k)(F:ys.length<=k):xs=ys:=by rwa[cZ D,cZ F]at h
def tR A G ε ad xs ys w(J:aO w A xs)(O:aO w G ys)(ah:xs.length<=maxLen)(am:ys.length<=maxLen):az 33 (mv A xs ε G ys ad) w (dt w (decide (xs=ys))):=by
 unfold maxLen at ah am;by_cases hn:xs.length=ys
 .refine N7 fun hb Hn=>?_;clear hn
  go_enter func33,ntmps33
  go_wp2;go_loopw [5] (fun i wr=>∃k:Nat,k<=xs.length/\i=.int .i64 k/\xs.take k=ys.take k/\ag w wr) (fun i _=>xs.length-(intOf i).toNat)
  case atStart=>exact⟨0,aW _,rfl,Qt,al _ _⟩
  case round=>
   obtain⟨k,ap,rfl,T,FW⟩:=hrel;have Gi:=zH T;clear T;by_cases Z:k<xs.length
   .have ab:k<ys.length:=Sh;have⟨x,D⟩:=aq Z;have⟨y,F⟩:=aq ab;obtain⟨b,o,rfl,U⟩:=J.θ Z;obtain⟨ac,an,rfl,Y⟩:=O.θ ab;have c1:∀W:κ wr,af W.W b (o+k) (zI x):=fun W=>W.cell (ar FW (U k x D))
    have c2:∀W:κ wr,af W.W ac (an+k) (zI y):=fun W=>W.cell (ar FW (Y k y F))
    have⟨H,I⟩:=bJ D F;clear D F U Y J O;by_cases h:x=y
    .subst h;go_wp2;refine bU QT QT ?_
     repeat (go_big_quiet_step (fail))
     refine Py fun W=>?_
     go_roundw
     case rel=>exact⟨k+1,Qu,Qx,m_ Gi H I,aJ FW W.ok⟩
     case measure=>simp[intOf];omega
    .have ao:(x !=y)=true:=by simp[h]
     go_wp2;refine bU QT QT ?_
     repeat (go_big_quiet_step (fail))
     refine Py fun W=>?_
     go_ret
     exact⟨aN (fR (ό H I h)).q,aJ FW W.ok⟩
   .exact XI
 .have hb:((xs:Int)!=(ys:Int))=true:=QW;go_enter func33,ntmps33
  exact WY
def zd_ k a b c A D ε F xs w(G:aO w A xs)(H:aO w D xs)(J:xs.length<=maxLen):az 57 (iV (jP k a b c A xs ε) (jP k a b c D xs F)) w (dt w true):=by
 have h:=((al w w).alloc Qt (.cells (jP k a b c A xs ε) 97)).alloc Qt (.cells (jP k a b c D xs F) 97);have T:=zH h;have Y:=G.ext h;have Z:=H.ext h;clear h G H;have O:=zH (fT (rfl:xs=xs));go_enter func57,ntmps57
 go_wp2_with ((go_at_call 33;refine(Calls.bl (tR _ _ _ _ _ _ _ Y Z J J) O).x ?_;rintro e w' ⟨rfl,I⟩;have U:=zH I;clear I))
 go_ret
 exact⟨rfl,T.o.t (U.x Rs)⟩
section
variable{K:pt}
def fN(h:cL)o(D:cL)(F:o+D.length<=h):(splice h o D).length=h:=length_splice h o D F
def zeQ(h:cL)o v(D:cL)(H:o+1+D.length<=h):splice (h.set o v) (o+1) D=splice h o (v::D):=by
 unfold splice;have F:(h.set o v).take (o+1)=h.take o++[v]:=by rw[du,List.take_set_of_le (ae _),gl Qu];rfl
 have G:(h.set o v).drop (o+1+D.length)=h.drop (o+(v::D).length):=by rw[List.drop_set_of_lt Qu];simp[ow,uI 1]
 rw[F,G];simp
def dY g E:∀(h:cL) (o:Nat) (w:aa) (D:gg),bA w g D E->o+h.length<=D.size->(w.setCells g o h).heap[g]?=some (.cells (splice D.toList o h).toArray E (0,0))/\w.grownBy (w.setCells g o h) (some g)
 |[],o,w,D,F,_=>by refine⟨?_,⟨rfl,rfl,rfl,ae _,fun _ _ _=>rfl⟩⟩;simp only[World.setCells,splice,rP,iN,jf,Ķ];simpa using F
 |v::h,o,w,D,F,T=>by
  simp only[jT]at T;have Y:=(bk.1 F).1;have I:(w.setCell ⟨g,o,none⟩ v).heap[g]?=some (.cells (D.setIfInBounds o v) E (0,0)):=by
   have:=(bk.1 F).2
   show(w.heap.modify g _)[g]?=_
   rw[Array.getElem?_modify,ak rfl,F];simp
  have⟨U,G⟩:=dY g E h (o+1) _ _ I QW;refine⟨?_,?_⟩
  .show((w.setCell ⟨g,o,none⟩ v).setCells g (o+1) h).heap[g]?=_
   rw[U,Array.toList_setIfInBounds,zeQ _ _ _ _ QW]
  .refine⟨G.os,G.tape,G.output,by have:=G.size;rw[World.size_setCell]at this;exact this,fun k J H=>?_⟩;have O:k < (w.setCell ⟨g,o,none⟩ v:Nat):=by rw[World.size_setCell];exact J
   exact(G.block k O H).t (a_ _ _ _ _ (by intro e;exact H Qv))
def cx{a b c:aa}(h:a.grownBy b row)(k:b.grownBy c row):a.grownBy c row:=⟨k.os.t h.os,k.tape.t h.tape,k.output.t h.output,aZ h.size k.size,fun i hi D=>(k.block i (gm hi h.size) D).t (h.block i hi D)⟩
def eG(w:aa)row:w.grownBy w.drew row:=⟨rfl,rfl,rfl,ae _,fun _ _ _=>rfl⟩
def bB{g}{h}(D:bA w g h E)j:w.cell? ⟨g,j,none⟩=h.toList[j]?:=by simp[World.cell?,D]
def aK{g}{h}(D:bA w g h E)j:w.frozen? ⟨g,j,none⟩=false:=by simp[World.frozen?,D]
def BW(h:cL)o D(F:o<=h.length):(splice h o D).take o=h.take o:=by unfold splice;rw[oG QW,nt];simp
def jJ(h:cL)o D(F:o<=h.length):(splice h o D).take (o+D.length)=h.take o++D:=by unfold splice;rw[<-fJ,oG QW];rw[cZ QW]
def zdb(D us h J:cL)n k m(I:D.take n=us)(Y:n<=D.length)(O:k<n)(H:h=us.drop (k+1))(U:m+1=n)(T:h.length=n-(k+1)):(splice (splice D k h) m J).take (n-1)=us.eraseIdx k:=by have F:n-1=m:=Qu;have G:m=k+h.length:=Qu;rw[F,BW _ _ _ (by rw[fN _ _ _ Qu];omega),G,jJ _ _ _ Qu,H,C_,<-I,nt,iw Qu]
def mU w(G:o.guard=none)d s t h(H:o.op=.call {callee:=.builtin .copy,args:=#[d,s],argTypes:=#[t,h]})v u(F:a.eval d=v)(J:a.eval s=u)(I:(Builtin.copy_ #[t,h] o.type #[v,u]).run P w=.ok T w')(D:wpList P ops Q rest (a.put o.dst T) w'):wpList P ops Q (o::rest) a w:=by
 refine l7 G fun K hK=>?_
 unfold Oper.wp execOp;simp only[H,resolve,invoke,builtin,Sem.run_bind,Sem.run_pure,Dc,List.map_toArray,se,rU,F,J,I];exact hK _ _ D
def pI{E}(G:o.guard=none)d x h D(H:o.op=Op.call {callee:=Callee.builtin Builtin.copy,args:=#[d,x],argTypes:=#[h,D]})v u(F:a.eval d=v)(J:a.eval x=u)(I:(Builtin.copy_ #[h,D] o.type #[v,u]).run P w=.ok T w')(hK:K (a.put o.dst T) w'):if Region.wanted o (yielded ops a.tmps)=true then Oper.wp P o a w K Q else E:=by rw[ak (by simp[Region.wanted,G]:Region.wanted o (yielded ops a.tmps)=true)];unfold Oper.wp execOp;simp only[H,resolve,invoke,builtin,Sem.run_bind,Sem.run_pure,Dc,List.map_toArray,se,rU,F,J,I];exact hK
def cT{h:Type}(us:List h)(k:Nat)(x:h):List h:=us.take k++x::us.drop k
def zdc(h us ds:cL)n k x(D:h.take n=us)(U:n+1<=h.length)(O:k<n)(H4:ds=us.drop k):(splice (splice h (k+1) ds) k [x]).take (n+1)=cT us k x:=by
 have T:us.length=n:=by rw[<-D];simp;omega
 have J:ds.length=n-k:=SS;have I:us.take k=h.take k:=by rw[<-D,nt,iw Qu]
 have F:(splice h (k+1) ds).take k=h.take k:=by have:=oy (List.take k) (BW h (k+1) ds Qu);rwa[nt,nt,iw Qu]at this
 have G:(splice h (k+1) ds).drop (k + [x].length)=ds++h.drop (k+1+ds.length):=by unfold splice;rw[List.drop_append_of_le_length QW];simp
 have H:splice (splice h (k+1) ds) k [x]=(h.take k++x::ds)++h.drop (k+1+ds.length):=by
  show(splice h (k+1) ds).take k++([x]++(splice h (k+1) ds).drop (k + [x].length))=_
  rw[F,G];simp
 rw[H,oG QW,cZ QW,cT,I,H4]
def ų(row us ds:cL)n k x(J:us.length=n)(O:n+1<=row.length)(I:k<n)(H4:ds=us.drop k)(G:row.take k=us.take k):(splice (splice row k [x]) (k+1) ds).take (n+1)=cT us k x:=by have H:ds.length=n-k:=SS;have h:=jJ row k [x] Qu;have D:=jJ (splice row k [x]) (k+1) ds (by rw[fN _ _ _ QW];omega);have F:k+1+ds.length=n+1:=Qu;rw[F]at D;rw[D];simp only[jT,iN,jU]at h;rw[h,G,cT,H4];simp
def zeR{g}{h}(D:bA w g h E):w.cell? ⟨g,0,none⟩=h.toList[0]?/\w.cell? ⟨g,1,none⟩=h.toList[1]?:=⟨bB D 0,bB D 1⟩
def cC{g}{h}(D:bA w g h E):w.cell? ⟨g,0,none⟩=h.toList[0]?/\w.cell? ⟨g,1,none⟩=h.toList[1]?/\w.cell? ⟨g,2,none⟩=h.toList[2]?:=⟨bB D 0,bB D 1,bB D 2⟩
def ye{g}{h}(D:bA w g h E):w.cell? ⟨g,0,none⟩=h.toList[0]?/\w.cell? ⟨g,1,none⟩=h.toList[1]?/\w.cell? ⟨g,2,none⟩=h.toList[2]?/\w.cell? ⟨g,3,none⟩=h.toList[3]?:=⟨bB D 0,bB D 1,bB D 2,bB D 3⟩
def cd{g}{D}(h:bA w g D E):w.frozen? ⟨g,0,none⟩=false/\w.frozen? ⟨g,1,none⟩=false/\w.frozen? ⟨g,2,none⟩=false:=⟨aK h 0,aK h 1,aK h 2⟩
end
def Dt B g n ε(i:Int)us(w:aa)(Y:w.ownsRow B 3 1 (.slice (bH g) n ε) n us)(h1:∀u∈us,u.oneCell'=true)(hi:0<=i)(ac:i<n)(a5:n<=1048576):az 272 #[.slice (bH g) n ε,i,.int .i64 (i+1)] w fun e w'=>e=.returned (.slice (bH g) (n-1) ε)/\w'.ownsRow B 3 1 (.slice (bH g) (n-1) ε) (n-1) (us.eraseIdx i.toNat)/\w.grownBy w' (some g):=by
 obtain⟨k,rfl⟩:=iz hi;have⟨ao,ab,a9,an,ba⟩:=dp gD;obtain⟨D,ad⟩:=Y;rcases ad with⟨am,_⟩|⟨av,ap,F9,ah,Z,G,a6,F,G_,G9⟩
 .cases am
 cases ah
 simp only[fk]at D G_ G9;have I:k<n:=Qu;have⟨j,H⟩:=aR (k+1);rw[show((k:Int)+1)=(j:Int) by omega];refine Ou fun Gk=>?_
 have I9:bA w.drew g F9 3:=G;refine Ps fun Iq Ip Gb A hA I6 s1 s2 s3 W1 I7=>?_
 have⟨b1,h⟩:=dY g 3 Iq (0+k*1) w.drew F9 I9 RN;rw[<-I7]at b1 h;have I8:(splice F9.toList (0+k*1) Iq).length=ε:=Vf;have a0:∀ty,(Builtin.clear_ #[26] ty #[.slice (some ⟨g,k+(n-j),none⟩) (n-(k+(n-j))) (ε-(k+(n-j)))]).run prog W1=.ok (.tuple #[]) (W1.setCells g (k+(n-j)) (List.replicate (n-(k+(n-j))) (zI 0))):=
  fun ty=>Lib.run_clear_slice (P:=prog) W1 26 3 ty (zI 0) dR (fun _=>QT) rfl rfl g (k+(n-j)) _ _ Qu
   (fun t ht=>Vy) (fun t ht=>aK b1 _)
 have⟨c1,c2⟩:=dY g 3 (List.replicate (n-(k+(n-j))) (zI 0)) (k+(n-j)) W1 _ b1 Ug;have T:=zH (show(W1.setCells g (k+(n-j)) (List.replicate (n-(k+(n-j))) (zI 0))).ownsRow B 3 1 (.slice (bH g) (n-1) ε) (n-1) (us.eraseIdx k) by
  refine⟨by simp[pX,D,I],au ⟨g,ε,_,rfl,Z,c1,Qu,F,?_,?_⟩⟩
  .exact Xm
  .skip
   simp only[fk,jU];exact zdb F9.toList us Iq _ n k (k+(n-j)) G9 QW I (by rw[Ip,H]) Qu RN)
 have⟨O,U⟩:=bJ (cx (eG w (some g)) (cx h c2)) I7;have a4:k<j:=Qu;have a2:j<=n:=Qu;have a1:j<=ε:=Qu;have a3:k<=ε:=Qu;have a7:k+(n-j)<ε:=Qu;have a8:k+(n-j)<=n:=Qu;have J:k+(n-j)+1=n:=Qu;have HX:=zH J;unfold maxLen at F;clear D G_ G9 G I9 h1 hi Gk Ip Gb I7 b1 h I8 c1 c2 ac H J;go_enter func272,ntmps272
 go_wp2_with fail
 go_region_law (refine xf rfl (.tmp 22) (.tmp 25) 26 rfl 3 ao 1 dR ab an g 0 k ε Tw A (n-j) (ε-j) Iq Tw s1.o I6.o s2.o Qu s3.o ?_;rw[<-U.o])
 go_wp2;go_ret
 refine⟨?_,?_,O⟩
 .exact WA
 .exact T.o
def vl B g n ε(i:Int)us(w:aa)(Y:w.ownsRow B 26 1 (.slice (bH g) n ε) n us)(h1:∀u∈us,u.oneCell'=true)(hi:0<=i)(ac:i<n)(a5:n<=1048576):az 257 #[.slice (bH g) n ε,i,.int .i64 (i+1)] w fun e w'=>e=.returned (.slice (bH g) (n-1) ε)/\w'.ownsRow B 26 1 (.slice (bH g) (n-1) ε) (n-1) (us.eraseIdx i.toNat)/\w.grownBy w' (some g):=by
 obtain⟨k,rfl⟩:=iz hi;have⟨ao,ab,a9,an,ba⟩:=dp kX;obtain⟨D,ad⟩:=Y;rcases ad with⟨am,_⟩|⟨av,ap,F9,ah,Z,G,a6,F,G_,G9⟩
 .cases am
 cases ah
 simp only[fk]at D G_ G9;have I:k<n:=Qu;have⟨j,H⟩:=aR (k+1);rw[show((k:Int)+1)=(j:Int) by omega];refine Ou fun Gk=>?_
 have I9:bA w.drew g F9 26:=G;refine Ps fun Iq Ip Gb A hA I6 s1 s2 s3 W1 I7=>?_
 have⟨b1,h⟩:=dY g 26 Iq (0+k*1) w.drew F9 I9 RN;rw[<-I7]at b1 h;have I8:(splice F9.toList (0+k*1) Iq).length=ε:=Vf;have a0:∀ty,(Builtin.clear_ #[55] ty #[.slice (some ⟨g,k+(n-j),none⟩) (n-(k+(n-j))) (ε-(k+(n-j)))]).run prog W1=.ok (.tuple #[]) (W1.setCells g (k+(n-j)) (List.replicate (n-(k+(n-j))) (.slice none 0 0))):=
  fun ty=>Lib.run_clear_slice (P:=prog) W1 55 26 ty (.slice none 0 0) iA (fun _=>QT) rfl rfl g (k+(n-j)) _ _ Qu
   (fun t ht=>Vy) (fun t ht=>aK b1 _)
 have⟨c1,c2⟩:=dY g 26 (List.replicate (n-(k+(n-j))) (.slice none 0 0)) (k+(n-j)) W1 _ b1 Ug;have T:=zH (show(W1.setCells g (k+(n-j)) (List.replicate (n-(k+(n-j))) (.slice none 0 0))).ownsRow B 26 1 (.slice (bH g) (n-1) ε) (n-1) (us.eraseIdx k) by
  refine⟨by simp[pX,D,I],au ⟨g,ε,_,rfl,Z,c1,Qu,F,?_,?_⟩⟩
  .exact Xm
  .skip
   simp only[fk,jU];exact zdb F9.toList us Iq _ n k (k+(n-j)) G9 QW I (by rw[Ip,H]) Qu RN)
 have⟨O,U⟩:=bJ (cx (eG w (some g)) (cx h c2)) I7;have a4:k<j:=Qu;have a2:j<=n:=Qu;have a1:j<=ε:=Qu;have a3:k<=ε:=Qu;have a7:k+(n-j)<ε:=Qu;have a8:k+(n-j)<=n:=Qu;have J:k+(n-j)+1=n:=Qu;have HX:=zH J;unfold maxLen at F;clear D G_ G9 G I9 h1 hi Gk Ip Gb I7 b1 h I8 c1 c2 ac H J;go_enter func257,ntmps257
 go_wp2_with fail
 go_region_law (refine xf rfl (.tmp 22) (.tmp 25) 55 rfl 26 ao 1 iA ab an g 0 k ε Tw A (n-j) (ε-j) Iq Tw s1.o I6.o s2.o Qu s3.o ?_;rw[<-U.o])
 go_wp2;go_ret
 refine⟨?_,?_,O⟩
 .exact WA
 .exact T.o
def xA B g n ε h(i:Int)us x(w:aa)(ab:w.ownsRow B 3 1 (.slice (bH g) n ε) n us)(J:∀u∈us,u.oneCell'=true)(Ja:x.oneCell'=true)(hv:bA w h #[x] 3)(F0:h≠g)(hi:0<=i)(am:i<n)(a7:n+1<=ε)(a5:n<=1048576):az 277 #[.slice (bH g) n ε,i,.slice (bH h) 1 1] w fun e w'=>e=.returned (.slice (bH g) (n+1) ε)/\w'.ownsRow B 3 1 (.slice (bH g) (n+1) ε) (n+1) (cT us i.toNat x)/\w.grownBy w' (some g):=by
 obtain⟨k,rfl⟩:=iz hi;have⟨a9,Hw,a2,G4,a8⟩:=dp gD;have U:(prog.info? 3).map (·.size)=some 1:=So;obtain⟨I_,ap⟩:=ab;rcases ap with⟨a1,_⟩|⟨a4,a3,F9,av,ac,H,a6,ad,G_,G9⟩
 .cases a1
 cases av
 simp only[fk]at I_ G_ G9;unfold maxLen at ad;have an:k<n:=Qu;refine Ou fun Gk=>?_
 have I9:bA w.drew g F9 3:=H;have a0:bA w.drew h #[x] 3:=hv;have ao:∀lb G,(callFunc 278 #[.slice (bH h) 1 1,.slice (some ⟨g,k+1,none⟩) lb G]).run prog w=.ok (.value (.bool false)) w:=fun lb G=>by
  rw[run_callFunc_extern func278 QT QT QT (e:=Extern.SlicesOverlaps.overlaps #[26,26] #[4]) QT,
   Lib.run_overlaps_apart w 26 4 3 dR 1 Tryz.sizeOf3 ⟨h,0,none⟩ ⟨g,k+1,none⟩ 1 1 lb G F0 3 3 1 ε (by simp[World.shape?,hv]) (by simp[World.shape?,H,G_]) Qu (aK hv _) (aK hv _)]
  rfl
 have⟨ds,H4⟩:=aR (us.drop k);have Jb:ds.length=n-k:=SS;have T:∀ty D I,(Builtin.copy_ #[26,26] ty #[.slice (some ⟨g,k+1,none⟩) (n-k) D,.slice (some ⟨g,k,none⟩) (n+1-k) I]).run prog w.drew=.ok (goInt ds) (w.drew.setCells g (k+1) ds):=fun ty D I=>
  sh w.drew _ _ ty 3 g (k+1) (n-k) D ⟨g,k,none⟩ (n+1-k) I ds dR U UU
   (fun j v hj=>VM)
   (fun j hj=>Ut) (fun j hj=>aK I9 _) (fun v hv=>J v (mx Sn))
 have⟨F,O⟩:=aR (w.drew.setCells g (k+1) ds);have⟨b1,b2⟩:=dY g 3 ds (k+1) w.drew F9 I9 (by rw[Jb];omega);rw[<-O]at b1 b2 T;have I8:(splice F9.toList (k+1) ds).length=ε:=Ve;have Y:bA F h #[x] 3:=(b2.block h (bk.1 hv).1 RC).t hv;have ah:∀ty D,(Builtin.copy_ #[26,26] ty #[.slice (some ⟨g,k,none⟩) (n+1-k) D,.slice (bH h) 1 1]).run prog F=.ok (goInt [x]) (F.setCells g k [x]):=fun ty D=>
  sh F _ _ ty 3 g k (n+1-k) D ⟨h,0,none⟩ 1 1 [x] dR U UQ
   (fun j v hj=>by
    match j,hj with
    |0,hj=>simp at hj;subst hj;rw[dF,bB Y];rfl
    |j+1,hj=>simp at hj)
   (fun j hj=>VF) (fun j hj=>aK b1 _) (fun v hv=>T3)
 have⟨c1,c2⟩:=dY g 3 [x] k F _ b1 Ug;have Z:=zH (show(F.setCells g k [x]).ownsRow B 3 1 (.slice (bH g) (n+1) ε) (n+1) (cT us k x) by
  refine⟨SN,au ⟨g,ε,_,rfl,ac,c1,Qu,SL,?_,?_⟩⟩
  .exact Xm
  .simp only[fk];exact zdc F9.toList us ds n k x G9 QW an H4)
 refine OJ fun Hz Jc Gq FR Hv Gg Hj IG=>?_;clear J hv hi am a2 H I_ G_ G9 Gk I9 a0 H4 Jb O b1 b2 I8 Y c1 c2
 go_enter func277,ntmps277
 go_wp2_with (simp only[ao])
 go_region_law (refine pI rfl (.tmp 73) (.tmp 76) 26 26 rfl _ _ Tw Tw (T _ _ _) ?_)
 go_wp2_with (with_reducible refine mU _ rfl (.tmp 80) (.tmp 81) 26 26 rfl _ _ rfl rfl (ah _ _) ?_)
 go_ret
 exact⟨rfl,Z,Hz⟩
def zM B n F v us x(w:aa)(D:w.ownsRow B 3 1 v n us)(a2:x.oneCell'=true)(H:bA w F #[x] 3)(a1:n<=1048576)(O:B<=(w:Nat)):az 277 #[v,n,.slice (bH F) 1 1] w fun e w'=>∃g ε,e=.returned (.slice (bH g) (n+1) ε)/\w'.ownsRow B 3 1 (.slice (bH g) (n+1) ε) (n+1) (cT us n x)/\w.grownBy w' v.ownBlock/\(v.ownBlock=some g∨(w:Nat)<=g):=by
 have⟨an,Y,ad,ah,am⟩:=dp gD;have G:us.length=n:=by simpa using D.1
 have Z:cT us n x=us++[x]:=by simp[cT,<-G]
 have HI:=zH Z;clear Z;have ab:Hd (∀j u,([x]:cL)[j]?=some u->w.cell? ((⟨F,0,none⟩:dM).add j)=some u):=fun j u h=>by
  match j,h with
  |0,h=>simp at h;subst h;rw[dF,bB H];rfl
  |j+1,h=>simp at h
 have J:Hd (∀u∈([x]:cL),u.oneCell'=true):=fun u ac=>by simp at ac;subst ac;exact a2
 have I:=zH D;rcases D.2 with⟨rfl,rfl⟩|⟨g,ε,a4,rfl,_,_,a5,av,_⟩
 .clear D G H;go_enter func277,ntmps277
  go_wp2_with (at_builtin;refine Dj _ rfl (.tmp 23) (.tmp 24) 26 rfl B 3 an (zI 0) 1 8 dR Y ad ah am rfl Qw _ 0 us rfl I.o ⟨F,0,none⟩ 1 1 [x] rfl rfl ab.o J.o Qw Qw Qw O w.heap.size rfl ?_;intro g ε a3 FT Io Ix a0)
  exact XF
 .unfold maxLen at av;have T:(n+1)<=maxLen:=SL;have U:(n+1)*8<=140737488355328:=Qu;have⟨ao,ap⟩:=bJ T U;clear D G H T U a1;go_enter func277,ntmps277
  go_wp2_with (at_builtin;refine Dj _ rfl (.tmp 23) (.tmp 24) 26 rfl B 3 an (zI 0) 1 8 dR Y ad ah am rfl Qw _ n us rfl I.o ⟨F,0,none⟩ 1 1 [x] rfl rfl ab.o J.o Qw ao.o ap.o O w rfl ?_;intro g ε a3 FT Io Ix a0)
  all_goals (go_ret;exact⟨g,ε,rfl,by rw[HI.o];exact FT,Io,Ix.E id fun e=>Qu⟩)
def yy B g n ε I(i:Int)us x(w:aa)(h:w.ownsRow B 3 1 (.slice (bH g) n ε) n us)(T:∀u∈us,u.oneCell'=true)(Ja:x.oneCell'=true)(hv:bA w I #[x] 3)(hi:0<=i)(a4:i<n)(a8:ε<n+1)(bi:n<=1048576)(av:B<=(w:Nat)):az 277 #[.slice (bH g) n ε,i,.slice (bH I) 1 1] w fun e w'=>∃G,e=.returned (.slice (bH w) (n+1) G)/\w'.ownsRow B 3 1 (.slice (bH w) (n+1) G) (n+1) (cT us i.toNat x)/\w.grownBy w' none:=by
 obtain⟨k,rfl⟩:=iz hi;have⟨ao,Hw,an,G4,FU⟩:=dp gD;have ah:(prog.info? 3).map (·.size)=some 1:=So;obtain⟨I_,a7⟩:=h;rcases a7 with⟨bc,_⟩|⟨be,bd,F9,ba,bg,J,bn,a1,ab,G9⟩
 .cases bc
 cases ba
 simp only[fk]at I_ ab G9;unfold maxLen at a1;have a6:k<n:=Qu;obtain rfl:n=ε:=Qu;have a3:g < (w:Nat):=(bk.1 J).1;have bb:I < (w:Nat):=(bk.1 hv).1;refine Ou fun Gk=>?_
 have ad:(Builtin.firstCells ao.size k (.slice (bH g) k n)).run prog w.drew=.ok (us.take k).toArray w.drew:=by rw[G4];exact Ğ w.drew 1 k ⟨g,0,none⟩ k n (us.take k) QW (fun j v hj=>by have a5:=(bG.1 hj).1;simp at a5;rw[dF,bB (show bA w.drew g F9 3 from J),jU,Gk _ Qu,<-hj,iM,ak Qu])
 have⟨G,hG⟩:=aR (grownCap w (n+1) n 3);have a0:n+1<=G:=by rw[hG];exact grownCap_ge w _ _ _
 have bh:G<=9223372036854775807:=by have:=grownCap_le_maxLen w (n+1) n 3 SL;rw[<-hG]at this;unfold maxLen at this;omega
 obtain⟨F,NF⟩:∃F:gg,F=(us.take k).toArray++Builtin.zeroCells (Value.cells (zI 0)) (n+1-k)++Builtin.zeroCells (Value.cells (zI 0)) (G-(n+1)):=⟨_,rfl⟩;have NS:F.size=G:=Vu;have U:F.toList.take k=us.take k:=XB;have⟨D,I7⟩:=aR (w.drew.alloc (.cells F 3));have a9:∀ty,(Builtin.append_ #[26,3] ty #[.slice (bH g) k n,.int .i64 ((n:Int)+1-(k:Int))]).run prog w=.ok (.slice (bH w) (n+1) G) D:=fun ty=>by have h:=į (P:=prog) w 26 3 ty 3 ao _ .i64 .i64 dR fL Hw an (some ⟨g,0,none⟩) k n (us.take k) ad (n+1-k) Qu Qu Qu Qu RF VU;exact YO
 have FR:bA D w F 3:=by rw[I7];exact aH _ _ rfl
 have NC:∀q,q < (w:Nat)->D.heap[q]?=w.heap[q]?:=fun q hq=>by rw[I7];exact bO w.drew _ hq
 have Ic:w.grownBy D none:=Vv;have am:bA D I #[x] 3:=(NC I bb).t hv;have Z:∀ty H,(Builtin.copy_ #[26,26] ty #[.slice (some ⟨w,k,none⟩) (n+1-k) H,.slice (bH I) 1 1]).run prog D=.ok (goInt [x]) (D.setCells w k [x]):=fun ty H=>
  sh D _ _ ty 3 w k (n+1-k) H ⟨I,0,none⟩ 1 1 [x] dR ah UQ
   (fun j v hj=>by
    match j,hj with
    |0,hj=>simp at hj;subst hj;rw[dF,bB am];rfl
    |j+1,hj=>simp at hj)
   (fun j hj=>U_) (fun j hj=>aK FR _) (fun v hv=>T3)
 have⟨W2,Y⟩:=aR (D.setCells w k [x]);have⟨c1,c2⟩:=dY w 3 [x] k D _ FR QW;rw[<-Y]at c1 c2 Z;have⟨ds,H4⟩:=aR (us.drop k);have Jb:ds.length=n-k:=SS;have Ig:(splice F.toList k [x]).length=G:=U2;have ac:bA W2 g F9 3:=(c2.block g (by have:=Ic.size;omega) QW).t ((NC g a3).t J);have NM:W2.drew.heap[w.heap.size]?=_:=c1;have NX:W2.drew.heap[g]?=_:=ac;have a2:∀ty H O,(Builtin.copy_ #[26,26] ty #[.slice (some ⟨w,k+1,none⟩) (n-k) H,.slice (some ⟨g,k,none⟩) (n-k) O]).run prog W2.drew=.ok (goInt ds) (W2.drew.setCells w (k+1) ds):=fun ty H O=>
  sh W2.drew _ _ ty 3 w (k+1) (n-k) H ⟨g,k,none⟩ (n-k) O ds dR ah UU
   (fun j v hj=>VN)
   (fun j hj=>VE) (fun j hj=>aK NM _) (fun v hv=>T v (mx Sn))
 have⟨d1,d2⟩:=dY w 3 ds (k+1) W2.drew _ NM T_;have ap:=zH (show(W2.drew.setCells w (k+1) ds).ownsRow B 3 1 (.slice (bH w) (n+1) G) (n+1) (cT us k x) by
  refine⟨SN,au ⟨w,G,_,rfl,av,d1,a0,SL,?_,?_⟩⟩
  .exact Xh
  .simp only[fk];exact ų F.toList us ds n k x I_ QW a6 H4 U)
 refine PK fun Hz NR Jc Gq NT Hv NY NJ NU Hj=>?_;clear T hv hi a4 an J I_ G9 a8 ab Gk ad hG NF NS U I7 FR NC Ic am Y c1 c2 H4 Jb Ig ac NM NX d1 d2
 go_enter func277,ntmps277
 go_wp2_with (first
  |(at_builtin;refine Lib.wpList_append_run _ rfl (.tmp 34) (.tmp 39) _ _ rfl _ _ rfl rfl _ _ (a9 _) ?_)
  |(with_reducible refine mU _ rfl (.tmp 43) (.tmp 44) 26 26 rfl _ _ rfl rfl (Z _ _) ?_))
 go_region_law (refine pI rfl (.tmp 50) (.tmp 53) 26 26 rfl _ _ Tw Tw (a2 _ _ _) ?_)
 go_wp2;go_ret
 exact⟨G,rfl,ap,Hz⟩
def EU B n h(i:Int)v us x(w:aa)(D:w.ownsRow B 3 1 v n us)(J:∀u∈us,u.oneCell'=true)(I:x.oneCell'=true)(H:bA w h #[x] 3)(Y:v.ownBlock≠some h)(hi:0<=i)(ab:i<=n)(F:n<=1048576)(O:B<=(w:Nat)):az 277 #[v,i,.slice (bH h) 1 1] w fun e w'=>∃g ε,e=.returned (.slice (bH g) (n+1) ε)/\w'.ownsRow B 3 1 (.slice (bH g) (n+1) ε) (n+1) (cT us i.toNat x)/\w.grownBy w' v.ownBlock/\(v.ownBlock=some g∨(w:Nat)<=g):=by
 by_cases U:i=n
 .subst U;rw[Da];exact zM B n h v us x w D I H F O
 .have T:i<n:=Qu;obtain⟨g,ε,rfl,_,_⟩:=D.form Qu;by_cases Z:n+1<=ε
  .refine(xA B g n ε h i us x w D J I H (by intro e;subst e;exact Y rfl) hi T Z F).x ?_;exact WB
  .refine(yy B g n ε h i us x w D J I H hi T Qu F O).x ?_;exact YF
def xB B g n ε h(i:Int)us x(w:aa)(ab:w.ownsRow B 26 1 (.slice (bH g) n ε) n us)(J:∀u∈us,u.oneCell'=true)(Ja:x.oneCell'=true)(hv:bA w h #[x] 26)(F0:h≠g)(hi:0<=i)(am:i<n)(a7:n+1<=ε)(a5:n<=1048576):az 261 #[.slice (bH g) n ε,i,.slice (bH h) 1 1] w fun e w'=>e=.returned (.slice (bH g) (n+1) ε)/\w'.ownsRow B 26 1 (.slice (bH g) (n+1) ε) (n+1) (cT us i.toNat x)/\w.grownBy w' (some g):=by
 obtain⟨k,rfl⟩:=iz hi;have⟨a9,Hw,a2,G4,a8⟩:=dp kX;have U:(prog.info? 26).map (·.size)=some 1:=So;obtain⟨I_,ap⟩:=ab;rcases ap with⟨a1,_⟩|⟨a4,a3,F9,av,ac,H,a6,ad,G_,G9⟩
 .cases a1
 cases av
 simp only[fk]at I_ G_ G9;unfold maxLen at ad;have an:k<n:=Qu;refine Ou fun Gk=>?_
 have I9:bA w.drew g F9 26:=H;have a0:bA w.drew h #[x] 26:=hv;have ao:∀lb G,(callFunc 262 #[.slice (bH h) 1 1,.slice (some ⟨g,k+1,none⟩) lb G]).run prog w=.ok (.value (.bool false)) w:=fun lb G=>by
  rw[run_callFunc_extern func262 QT QT QT (e:=Extern.SlicesOverlaps.overlaps #[55,55] #[4]) QT,
   Lib.run_overlaps_apart w 55 4 26 iA 1 Tryz.sizeOf26 ⟨h,0,none⟩ ⟨g,k+1,none⟩ 1 1 lb G F0 26 26 1 ε (by simp[World.shape?,hv]) (by simp[World.shape?,H,G_]) Qu (aK hv _) (aK hv _)]
  rfl
 have⟨ds,H4⟩:=aR (us.drop k);have Jb:ds.length=n-k:=SS;have T:∀ty D I,(Builtin.copy_ #[55,55] ty #[.slice (some ⟨g,k+1,none⟩) (n-k) D,.slice (some ⟨g,k,none⟩) (n+1-k) I]).run prog w.drew=.ok (goInt ds) (w.drew.setCells g (k+1) ds):=fun ty D I=>
  sh w.drew _ _ ty 26 g (k+1) (n-k) D ⟨g,k,none⟩ (n+1-k) I ds iA U UU
   (fun j v hj=>VM)
   (fun j hj=>Ut) (fun j hj=>aK I9 _) (fun v hv=>J v (mx Sn))
 have⟨F,O⟩:=aR (w.drew.setCells g (k+1) ds);have⟨b1,b2⟩:=dY g 26 ds (k+1) w.drew F9 I9 (by rw[Jb];omega);rw[<-O]at b1 b2 T;have I8:(splice F9.toList (k+1) ds).length=ε:=Ve;have Y:bA F h #[x] 26:=(b2.block h (bk.1 hv).1 RC).t hv;have ah:∀ty D,(Builtin.copy_ #[55,55] ty #[.slice (some ⟨g,k,none⟩) (n+1-k) D,.slice (bH h) 1 1]).run prog F=.ok (goInt [x]) (F.setCells g k [x]):=fun ty D=>
  sh F _ _ ty 26 g k (n+1-k) D ⟨h,0,none⟩ 1 1 [x] iA U UQ
   (fun j v hj=>by
    match j,hj with
    |0,hj=>simp at hj;subst hj;rw[dF,bB Y];rfl
    |j+1,hj=>simp at hj)
   (fun j hj=>VF) (fun j hj=>aK b1 _) (fun v hv=>T3)
 have⟨c1,c2⟩:=dY g 26 [x] k F _ b1 Ug;have Z:=zH (show(F.setCells g k [x]).ownsRow B 26 1 (.slice (bH g) (n+1) ε) (n+1) (cT us k x) by
  refine⟨SN,au ⟨g,ε,_,rfl,ac,c1,Qu,SL,?_,?_⟩⟩
  .exact Xm
  .simp only[fk];exact zdc F9.toList us ds n k x G9 QW an H4)
 refine OJ fun Hz Jc Gq FR Hv Gg Hj IG=>?_;clear J hv hi am a2 H I_ G_ G9 Gk I9 a0 H4 Jb O b1 b2 I8 Y c1 c2
 go_enter func261,ntmps261
 go_wp2_with (simp only[ao])
 go_region_law (refine pI rfl (.tmp 73) (.tmp 76) 55 55 rfl _ _ Tw Tw (T _ _ _) ?_)
 go_wp2_with (with_reducible refine mU _ rfl (.tmp 80) (.tmp 81) 55 55 rfl _ _ rfl rfl (ah _ _) ?_)
 go_ret
 exact⟨rfl,Z,Hz⟩
def zN B n F v us x(w:aa)(D:w.ownsRow B 26 1 v n us)(a2:x.oneCell'=true)(H:bA w F #[x] 26)(a1:n<=1048576)(O:B<=(w:Nat)):az 261 #[v,n,.slice (bH F) 1 1] w fun e w'=>∃g ε,e=.returned (.slice (bH g) (n+1) ε)/\w'.ownsRow B 26 1 (.slice (bH g) (n+1) ε) (n+1) (cT us n x)/\w.grownBy w' v.ownBlock/\(v.ownBlock=some g∨(w:Nat)<=g):=by
 have⟨an,Y,ad,ah,am⟩:=dp kX;have G:us.length=n:=by simpa using D.1
 have Z:cT us n x=us++[x]:=by simp[cT,<-G]
 have HI:=zH Z;clear Z;have ab:Hd (∀j u,([x]:cL)[j]?=some u->w.cell? ((⟨F,0,none⟩:dM).add j)=some u):=fun j u h=>by
  match j,h with
  |0,h=>simp at h;subst h;rw[dF,bB H];rfl
  |j+1,h=>simp at h
 have J:Hd (∀u∈([x]:cL),u.oneCell'=true):=fun u ac=>by simp at ac;subst ac;exact a2
 have I:=zH D;rcases D.2 with⟨rfl,rfl⟩|⟨g,ε,a4,rfl,_,_,a5,av,_⟩
 .clear D G H;go_enter func261,ntmps261
  go_wp2_with (at_builtin;refine Dj _ rfl (.tmp 23) (.tmp 24) 55 rfl B 26 an (.slice none 0 0) 1 24 iA Y ad ah am rfl Qw _ 0 us rfl I.o ⟨F,0,none⟩ 1 1 [x] rfl rfl ab.o J.o Qw Qw Qw O w.heap.size rfl ?_;intro g ε a3 FT Io Ix a0)
  exact XF
 .unfold maxLen at av;have T:(n+1)<=maxLen:=SL;have U:(n+1)*24<=140737488355328:=Qu;have⟨ao,ap⟩:=bJ T U;clear D G H T U a1;go_enter func261,ntmps261
  go_wp2_with (at_builtin;refine Dj _ rfl (.tmp 23) (.tmp 24) 55 rfl B 26 an (.slice none 0 0) 1 24 iA Y ad ah am rfl Qw _ n us rfl I.o ⟨F,0,none⟩ 1 1 [x] rfl rfl ab.o J.o Qw ao.o ap.o O w rfl ?_;intro g ε a3 FT Io Ix a0)
  all_goals (go_ret;exact⟨g,ε,rfl,by rw[HI.o];exact FT,Io,Ix.E id fun e=>Qu⟩)
def yz B g n ε I(i:Int)us x(w:aa)(h:w.ownsRow B 26 1 (.slice (bH g) n ε) n us)(T:∀u∈us,u.oneCell'=true)(Ja:x.oneCell'=true)(hv:bA w I #[x] 26)(hi:0<=i)(a4:i<n)(a8:ε<n+1)(bi:n<=1048576)(av:B<=(w:Nat)):az 261 #[.slice (bH g) n ε,i,.slice (bH I) 1 1] w fun e w'=>∃G,e=.returned (.slice (bH w) (n+1) G)/\w'.ownsRow B 26 1 (.slice (bH w) (n+1) G) (n+1) (cT us i.toNat x)/\w.grownBy w' none:=by
 obtain⟨k,rfl⟩:=iz hi;have⟨ao,Hw,an,G4,FU⟩:=dp kX;have ah:(prog.info? 26).map (·.size)=some 1:=So;obtain⟨I_,a7⟩:=h;rcases a7 with⟨bc,_⟩|⟨be,bd,F9,ba,bg,J,bn,a1,ab,G9⟩
 .cases bc
 cases ba
 simp only[fk]at I_ ab G9;unfold maxLen at a1;have a6:k<n:=Qu;obtain rfl:n=ε:=Qu;have a3:g < (w:Nat):=(bk.1 J).1;have bb:I < (w:Nat):=(bk.1 hv).1;refine Ou fun Gk=>?_
 have ad:(Builtin.firstCells ao.size k (.slice (bH g) k n)).run prog w.drew=.ok (us.take k).toArray w.drew:=by rw[G4];exact Ğ w.drew 1 k ⟨g,0,none⟩ k n (us.take k) QW (fun j v hj=>by have a5:=(bG.1 hj).1;simp at a5;rw[dF,bB (show bA w.drew g F9 26 from J),jU,Gk _ Qu,<-hj,iM,ak Qu])
 have⟨G,hG⟩:=aR (grownCap w (n+1) n 26);have a0:n+1<=G:=by rw[hG];exact grownCap_ge w _ _ _
 have bh:G<=9223372036854775807:=by have:=grownCap_le_maxLen w (n+1) n 26 SL;rw[<-hG]at this;unfold maxLen at this;omega
 obtain⟨F,NF⟩:∃F:gg,F=(us.take k).toArray++Builtin.zeroCells (Value.cells (.slice none 0 0)) (n+1-k)++Builtin.zeroCells (Value.cells (.slice none 0 0)) (G-(n+1)):=⟨_,rfl⟩;have NS:F.size=G:=Vu;have U:F.toList.take k=us.take k:=XB;have⟨D,I7⟩:=aR (w.drew.alloc (.cells F 26));have a9:∀ty,(Builtin.append_ #[55,3] ty #[.slice (bH g) k n,.int .i64 ((n:Int)+1-(k:Int))]).run prog w=.ok (.slice (bH w) (n+1) G) D:=fun ty=>by have h:=į (P:=prog) w 55 3 ty 26 ao _ .i64 .i64 iA fL Hw an (some ⟨g,0,none⟩) k n (us.take k) ad (n+1-k) Qu Qu Qu Qu RF VU;exact YO
 have FR:bA D w F 26:=by rw[I7];exact aH _ _ rfl
 have NC:∀q,q < (w:Nat)->D.heap[q]?=w.heap[q]?:=fun q hq=>by rw[I7];exact bO w.drew _ hq
 have Ic:w.grownBy D none:=Vv;have am:bA D I #[x] 26:=(NC I bb).t hv;have Z:∀ty H,(Builtin.copy_ #[55,55] ty #[.slice (some ⟨w,k,none⟩) (n+1-k) H,.slice (bH I) 1 1]).run prog D=.ok (goInt [x]) (D.setCells w k [x]):=fun ty H=>
  sh D _ _ ty 26 w k (n+1-k) H ⟨I,0,none⟩ 1 1 [x] iA ah UQ
   (fun j v hj=>by
    match j,hj with
    |0,hj=>simp at hj;subst hj;rw[dF,bB am];rfl
    |j+1,hj=>simp at hj)
   (fun j hj=>U_) (fun j hj=>aK FR _) (fun v hv=>T3)
 have⟨W2,Y⟩:=aR (D.setCells w k [x]);have⟨c1,c2⟩:=dY w 26 [x] k D _ FR QW;rw[<-Y]at c1 c2 Z;have⟨ds,H4⟩:=aR (us.drop k);have Jb:ds.length=n-k:=SS;have Ig:(splice F.toList k [x]).length=G:=U2;have ac:bA W2 g F9 26:=(c2.block g (by have:=Ic.size;omega) QW).t ((NC g a3).t J);have NM:W2.drew.heap[w.heap.size]?=_:=c1;have NX:W2.drew.heap[g]?=_:=ac;have a2:∀ty H O,(Builtin.copy_ #[55,55] ty #[.slice (some ⟨w,k+1,none⟩) (n-k) H,.slice (some ⟨g,k,none⟩) (n-k) O]).run prog W2.drew=.ok (goInt ds) (W2.drew.setCells w (k+1) ds):=fun ty H O=>
  sh W2.drew _ _ ty 26 w (k+1) (n-k) H ⟨g,k,none⟩ (n-k) O ds iA ah UU
   (fun j v hj=>VN)
   (fun j hj=>VE) (fun j hj=>aK NM _) (fun v hv=>T v (mx Sn))
 have⟨d1,d2⟩:=dY w 26 ds (k+1) W2.drew _ NM T_;have ap:=zH (show(W2.drew.setCells w (k+1) ds).ownsRow B 26 1 (.slice (bH w) (n+1) G) (n+1) (cT us k x) by
  refine⟨SN,au ⟨w,G,_,rfl,av,d1,a0,SL,?_,?_⟩⟩
  .exact Xh
  .simp only[fk];exact ų F.toList us ds n k x I_ QW a6 H4 U)
 refine PK fun Hz NR Jc Gq NT Hv NY NJ NU Hj=>?_;clear T hv hi a4 an J I_ G9 a8 ab Gk ad hG NF NS U I7 FR NC Ic am Y c1 c2 H4 Jb Ig ac NM NX d1 d2
 go_enter func261,ntmps261
 go_wp2_with (first
  |(at_builtin;refine Lib.wpList_append_run _ rfl (.tmp 34) (.tmp 39) _ _ rfl _ _ rfl rfl _ _ (a9 _) ?_)
  |(with_reducible refine mU _ rfl (.tmp 43) (.tmp 44) 55 55 rfl _ _ rfl rfl (Z _ _) ?_))
 go_region_law (refine pI rfl (.tmp 50) (.tmp 53) 55 55 rfl _ _ Tw Tw (a2 _ _ _) ?_)
 go_wp2;go_ret
 exact⟨G,rfl,ap,Hz⟩
def vM B n h(i:Int)v us x(w:aa)(D:w.ownsRow B 26 1 v n us)(J:∀u∈us,u.oneCell'=true)(I:x.oneCell'=true)(H:bA w h #[x] 26)(Y:v.ownBlock≠some h)(hi:0<=i)(ab:i<=n)(F:n<=1048576)(O:B<=(w:Nat)):az 261 #[v,i,.slice (bH h) 1 1] w fun e w'=>∃g ε,e=.returned (.slice (bH g) (n+1) ε)/\w'.ownsRow B 26 1 (.slice (bH g) (n+1) ε) (n+1) (cT us i.toNat x)/\w.grownBy w' v.ownBlock/\(v.ownBlock=some g∨(w:Nat)<=g):=by
 by_cases U:i=n
 .subst U;rw[Da];exact zN B n h v us x w D I H F O
 .have T:i<n:=Qu;obtain⟨g,ε,rfl,_,_⟩:=D.form Qu;by_cases Z:n+1<=ε
  .refine(xB B g n ε h i us x w D J I H (by intro e;subst e;exact Y rfl) hi T Z F).x ?_;exact WB
  .refine(yz B g n ε h i us x w D J I H hi T Qu F O).x ?_;exact YF
section
variable{p:Int}
def Ø{a}(H:a<0)(G:0<p):-p<a.tmod p/\a.tmod p<=0/\(a.tmod p<0->a%p=a.tmod p+p)/\(a.tmod p=0->a%p=0):=by
 have e:a.tmod p=-((-a)%p):=by have:=Int.neg_tmod (-a) p;rw[Int.neg_neg]at this;rw[this,Int.tmod_eq_emod_of_nonneg Qu]
 have I:=gV (-a) (Qu:p≠0);have J:=gW (-a) G;refine⟨Qu,Qu,fun O=>?_,fun D=>?_⟩
 .have F:a%p=(a.tmod p+p)%p:=by
   have:=Int.tmod_add_mul_tdiv a p;have h:a=a.tmod p+p*a.tdiv p:=this.q;conv=>lhs;rw[h]
   simp
  rw[F,nq Qu Qu]
 .have h:a=a.tmod p+p*a.tdiv p:=(Int.tmod_add_mul_tdiv a p).q;rw[h,D];simp
def CL p a w(ac:1<=p)(ad:p<=1000)(Y:-9000000000000000000<=a)(Z:a<=9000000000000000000):az 127 (bC p a) w fun e w'=>e=.returned (zI (a%p))/\w=w':=by
 by_cases T:0<=a
 .have U:=gV a (Qu:p≠0);go_enter func127,ntmps127
  exact We
 .have⟨J,O,D,F⟩:=Ø (Qu:a<0) (Qu:0<p);have⟨m,h⟩:=aR (a.tmod p);rw[<-h]at J O D F;have⟨G,H⟩:=bJ D F;clear D F;have ab:a.tmod p=m:=h.q;clear h;by_cases I:m<0
  .go_enter func127,ntmps127
   go_wp2;go_ret
   exact⟨by rw[G.o I];rfl,rfl⟩
  .obtain rfl:m=0:=Qu;go_enter func127,ntmps127
   go_wp2;go_ret
   exact⟨by rw[show a%p=0 from by simpa using H.o];rfl,rfl⟩
def zlJ{b y}(D:-1000000<=b)(F:b<=1000000)(h:0<=y)(I:y<=1000):-1000000000<=b*y/\b*y<=1000000000:=by have G:=Ĥ D h;have H:=Ĥ F h;omega
def ý(D:ag W w')(h:bA W b cs t)j:w'.cell? ⟨b,j,none⟩=cs.toList[j]?:=bB ((D.block b (bk.1 h).1).t h) j
def Ġ(D:ag W w')(h:bA W b cs t)j:w'.frozen? ⟨b,j,none⟩=false:=aK ((D.block b (bk.1 h).1).t h) j
def dg(D:ag W w')(h:bA W b cs t):bA w' b cs t:=(D.block b (bk.1 h).1).t h
def cD(w:aa)h D F:(((w.alloc h).alloc D).alloc F).heap[w.heap.size]?=some h/\(((w.alloc h).alloc D).alloc F).heap[(w:Nat)+1]?=some D/\(((w.alloc h).alloc D).alloc F).heap[(w:Nat)+1+1]?=some F:=⟨(bO _ _ Rs).t ((bO _ _ Qt).t (aH _ _ rfl)),(bO _ _ Qt).t (aH _ _ Qt),aH _ _ Qt⟩
def ζ(w:aa)h D F:Below w w (((w.alloc h).alloc D).alloc F):=((al _ _).alloc Qt _ |>.alloc Qt _).alloc Rs _
def cE{a p}(h:p.block≠a.block):(w.setCell a u).cell? p=w.cell? p:=l6 (w:=w) (a_ _ _ _ _ h)
def lQ{a p}(h:p.block≠a.block):(w.setCell a u).drew.cell? p=w.cell? p:=cE h
def fu{a p}(h:p.block≠a.block):(w.drew.setCell a u).cell? p=w.cell? p:=cE h
def l_(p b:Int)(xs ys:aL)(k:Nat):List Int:=(List.zipWith (fun x y=>(x+b*y)%p) xs ys).take k++xs.drop k
def dw(p b:Int)(xs ys:aL):List Int:=List.zipWith (fun x y=>(x+b*y)%p) xs ys
def tG p b xs ys:l_ p b xs ys 0=xs:=by simp[l_]
def wB p b(xs ys:aL)(h:xs.length=ys)k(D:ys.length<=k):l_ p b xs ys k=dw p b xs ys:=by unfold l_ dw;rw[cZ QW,jR Qu,lZ]
def wC p b(xs ys:aL)k(D:k<ys.length)(h:xs.length=ys):(l_ p b xs ys k)[k]?=xs[k]?:=by unfold l_;exact Wp
def wD p b xs ys k x y(hx:xs[k]?=some x)(h:ys[k]?=some y):(l_ p b xs ys k).set k ((x+b*y)%p)=l_ p b xs ys (k+1):=by
 have h1:=(bG.1 hx).1;have H:=(bG.1 h).1;have G:(List.zipWith (fun x y=>(x+b*y)%p) xs ys)[k]?=some ((x+b*y)%p):=by rw[ģ,hx,h]
 unfold l_;rw[om _ _ QW,du,G];have D:xs.drop k=x::xs.drop (k+1):=Wo;have F:k-((List.zipWith (fun x y=>(x+b*y)%p) xs ys).take k).length=0:=QW;rw[D,F,rO];simp
def zhz p b(xs ys:aL)k(h:xs.length=ys)(D:k<=xs.length):(l_ p b xs ys k).length=xs:=by unfold l_;simp;omega
def pL(p b:Int)B g ε ap I(xs ys:aL)w(a3:1<=p)(a4:p<=1000)(av:-1000000<=b)(a0:b<=1000000)(U:w.ownsRow B 3 1 (.slice (bH g) xs ε) xs (xs.map (Value.int .i64)))(Y:aO w I ys)(Z:∀b o,I=some ⟨b,o,none⟩->b≠g)(ac:xs.length=ys)(a2:xs.length<=1048576)(h:∀x∈xs,0<=x/\x<=1000)(D:∀y∈ys,0<=y/\y<=1000):az 176 #[p,.slice (bH g) xs ε,b,.slice I ys ap] w fun e w'=>e=.returned (.tuple #[])/\w'.ownsRow B 3 1 (.slice (bH g) xs ε) xs ((dw p b xs ys).map (Value.int .i64))/\w.grownBy w' (some g):=by
 have⟨ah,J,an,ao⟩:=gG U ac h D;have bb:ys.length<9223372036854775807:=Qu;clear U ac h D a2;go_enter func176,ntmps176
 go_wp2;go_loopw [12] (fun i wr=>∃k:Nat,k<=ys.length/\i=.int .i64 k/\wr.ownsRow B 3 1 (.slice (bH g) xs ε) xs ((l_ p b xs ys k).map (Value.int .i64))/\w.grownBy wr (some g))
  (fun i _=>ys.length-(intOf i).toNat)
 case atStart=>exact⟨0,aW _,rfl,by rw[tG];exact ah,⟨rfl,rfl,rfl,ae _,fun _ _ _=>rfl⟩⟩
 case round=>
  obtain⟨k,ba,rfl,F,G⟩:=hrel;by_cases O:k<ys.length
  .have a1:k<xs.length:=by have:=J.o;omega
   have⟨x,h⟩:=aq a1;have⟨y,D⟩:=aq O;obtain⟨T,o,rfl,ab⟩:=Y.θ O;have a8:af wr T (o+k) (zI y):=G.cell (ab _ _ D) (by have:=Z T o rfl;simpa using this);have a7:af wr g k (zI x):=by rw[F.C k Qu,bI,wC _ _ _ _ _ O J.o,h];rfl
   have a9:=F.g k;obtain⟨be,bg⟩:=an x (aU h);obtain⟨a5,a6⟩:=ao y (aU D);have⟨bc,bd⟩:=zlJ av a0 a5 a6;have H:=F.j k (zI ((x+b*y)%p));rw[<-eW,wD _ _ _ _ _ _ _ h D]at H;have⟨am,ad⟩:=bJ H.1 (cx G H.2);clear H h D ab F G Y Z;go_wp2_with (go_at_call 127;refine(CL _ _ _ a3 a4 Qu Qu).x ?_;rintro e w' ⟨rfl,rfl⟩)
   go_roundw
   case rel=>exact⟨k+1,Qu,Qx,am,ad⟩
   case measure=>simp[intOf];omega
  .go_wp2;go_end0
   rw[wB _ _ _ _ J.o _ Qu]at F;exact⟨rfl,F,G⟩
end
section
variable{J:Nat}
def zk7{D:Region.Mode}{S:j4}{F:h_}{h:pv}(hi:ops.toList[i]?=some F)(U:Region.noSelect ops=true)(O:Region.free D ops h i=true)(T:(Region.ready D ops h).contains i=true)(Y:YieldsIf P ops S F v a)(I:S w)(G:wpAnyH P D ops (fun e a w=>Q e a w) S J (h.setIfInBounds i true) (a.put F.dst v) w)(H:∀c a w,Q (.panic c) (a.put F.dst v) w->Q (.panic c) a w:=by exact fun _ _ _ G=>G):wpAnyH P D ops Q S (J+1) h a w:=wpAnyH_take (by rw[<-sf];exact hi) U O T H Y I G
def ef{D:Region.Mode}{S:j4}(i:Nat){F:h_}{h:pv}(hi:ops.toList[i]?=some F)(Y:YieldsIf P ops S F v a)(G:wpAnyH P D ops (fun e a w=>Q e a w) S J (h.setIfInBounds i true) (a.put F.dst v) w)(U:Region.noSelect ops=true:=by kernel_rfl)(O:Region.free D ops h i=true:=by kernel_rfl)(T:(Region.ready D ops h).contains i=true:=by kernel_rfl)(I:S w:=by assumption)(H:∀c a w,Q (.panic c) (a.put F.dst v) w->Q (.panic c) a w:=by exact fun _ _ _ G=>G):wpAnyH P D ops Q S (J+1) h a w:=zk7 hi U O T Y I G H
def eZ{G:Region.Mode}{S:j4}(i:Nat){D:h_}{F:pv}{H:Act}(h:wpAnyH P G ops (fun e a w=>Q e a w) S J (F.setIfInBounds i true) H w)(hi:ops.toList[i]?=some D:=by rfl)(Y:Region.wanted D (yielded ops a.tmps)=true:=by rfl)(ac:∀w,S w->(execOp a.eval D).run P w=.ok (.value v) w:=by intro w h;(try dsimp only at h);go_simp;(try with_reducible rfl))(ab:Region.noSelect ops=true:=by kernel_rfl)(U:Region.free G ops F i=true:=by kernel_rfl)(Z:(Region.ready G ops F).contains i=true:=by kernel_rfl)(O:S w:=by assumption)(I:∀c a w,Q (.panic c) (a.put D.dst v) w->Q (.panic c) a w:=by exact fun _ _ _ h=>h)(T:a.put D.dst v=H:=by simp only[Act.put,zA];rfl):wpAnyH P G ops Q S (J+1) F a w:=by subst T;exact zk7 hi ab U Z (ay ⟨Y,ac⟩) O h I
def pF{F}{S}{D}{rs}(ho:ops.toList[i]?=some o)(G:∀h:pt,Shut (∀a w,S w->(S w->wpAnyH P F ops Q S J (D.setIfInBounds i true) a w)->h a w)->if Region.wanted o (yielded ops a.tmps)=true then Oper.wp P o a w h Q else h (a.put o.dst undef) w)(H:AllReadyH P F ops Q S J D a w rs):AllReadyH P F ops Q S J D a w (i::rs):=AllReadyH.cons Sk G H
end
def sw(i j k:Nat):Nat:=if k=j then i else if k=i then j else k
def zlE{l}(h:sw i j k=sw i j l):k=l:=by unfold sw at h;split at h<;>split at h<;>(try split at h)<;>(try split at h)<;>omega
def Ej{G:Type}{l:List G}{x y}(hi:l[i]?=some x)(F:l[j]?=some y)k:((l.set i y).set j x)[k]?=l[sw i j k]?:=by
 have hi':=(bG.1 hi).1;have H:=(bG.1 F).1;unfold sw;by_cases h:k=j
 .subst h;rw[ak rfl,gl (by simpa using H),hi]
 .rw[aj h,gI (k_ h)];by_cases D:k=i
  .subst D;rw[ak rfl,gl hi',F]
  .rw[aj D,gI (k_ D)]
def bL.x{w}{B B'}{v}{rows}{us}(h:bL w B v rows us)(H:B'<=B):bL w B' v rows us:=⟨⟨h.η.1,h.η.2.E id fun⟨g,ε,G,D,O,F⟩=>⟨g,ε,G,D,Qu,F⟩⟩,fun k u r J I=>(h.ν k u r J I).x H,h.apart⟩
def bL.J{g ε}{F}{Z ab}(ah:n=rows.length)(D:bL w B (.slice (bH g) n ε) rows us)(hi:us[i]?=some T)(J:us[j]?=some F)(am:rows[i]?=some Z)(an:rows[j]?=some ab):bL ((w.setCell ⟨g,i,none⟩ F).setCell ⟨g,j,none⟩ T) B (.slice (bH g) n ε) ((rows.set i ab).set j Z) ((us.set i F).set j T):=by
 subst ah;have G:=D.η.j i F;have H:=G.1.j j T;refine⟨by simpa using H.1,fun k u r h U=>?_,fun k l u ao b h Y ac ad=>?_⟩
 .rw[Ej hi J]at h;rw[Ej am an]at U;have O:=D.ν _ u r h U;have I:=fq D.η O;exact aE.kept (aE.kept O G.2 I) H.2 I
 .rw[Ej hi J]at h Y;exact zlE (D.apart _ _ u ao b h Y ac ad)
section
variable{J:Nat}
def gF(F:w.ownsRow B 26 1 v n us)(D:aE w B' u xs):v.ownBlock=none∨v.ownBlock≠u.ownBlock:=by
 rcases fq F D with h|h
 .rw[h];cases v.ownBlock<;>simp
 .exact au (k_ h)
def bL.mod(D:bL w B v rows us)(J:us[k]?=some u)(ab:w.grownBy w' u.ownBlock)(ah:aE w' B T r')(ac:∀b,T.ownBlock=some b->u.ownBlock=some b∨(w:Nat)<=b):w'.ownsRow B 26 1 v rows.length us/\(∀(j:Nat) (x:aG) (r:aL),(us.set k T)[j]?=some x->(rows.set k r')[j]?=some r->aE w' B x r)/\(∀(i j:Nat) (x y:aG) (b:Nat),(us.set k T)[i]?=some x->(us.set k T)[j]?=some y->x.ownBlock=some b->y.ownBlock=some b->i=j):=by
 obtain⟨an,am,ad⟩:=D.nT J;have O:=(bG.1 J).1;have Α:∀(i:Nat) (x:aG) (b:Nat),i≠k->us[i]?=some x->x.ownBlock=some b->T.ownBlock=some b->False:=fun i x b hi h F I=>by
  obtain⟨ao,_,Y⟩:=D.nT h;rcases ac b I with Z|Z
  .exact hi (D.apart i k x u b h J F Z)
  .have:=(Y.lt b F).2;omega
 refine⟨jA D.η ab (gF D.η ad),fun j x r h U=>?_,fun i j x y b h H F I=>?_⟩
 .by_cases G:k=j
  .subst G;rw[gl O]at h;rw[gl (by rw[<-D.ι];exact O)]at U;cases h;cases U;exact ah
  .rw[gI G]at h U;have Y:=D.ν j x r h U;refine Y.kept ab ?_;rcases F:x.ownBlock with _|b
   .exact ay rfl
   .refine au fun e=>G (D.apart k j u x b J h e.q F)
 .by_cases hi:k=i<;>by_cases G:k=j
  .omega
  .subst hi;rw[gl O]at h;rw[gI G]at H;cases h
   exact(Α j y b (k_ G) H I F).elim
  .subst G;rw[gl O]at H;rw[gI hi]at h;cases H
   exact(Α i x b (k_ hi) h F I).elim
  .rw[gI hi]at h;rw[gI G]at H;exact D.apart i j x y b h H F I
def qH{F:Type}{l:List F}{x}(h:l[k]?=some x):l.set k x=l:=by
 apply gk;intro j;by_cases D:k=j
 .subst D;rw[gl (bG.1 h).1,h]
 .rw[gI D]
def bL.K(H:bL w B v rows us)(F:us[k]?=some u)(J:w.grownBy w' u.ownBlock)(O:aE w' B u r'):bL w' B v (rows.set k r') us:=by
 obtain⟨G,h,D⟩:=H.mod F J O fun b I=>ay I
 rw[qH F]at h D;exact⟨by simpa using G,h,D⟩
def bL.put{g ε}(Z:n=rows.length)(J:bL w B (.slice (bH g) n ε) rows us)(Y:us[k]?=some u)(U:w.grownBy w' u.ownBlock)(ab:aE w' B T r')(O:∀b,T.ownBlock=some b->u.ownBlock=some b∨(w:Nat)<=b):bL (w'.setCell ⟨g,k,none⟩ T) B (.slice (bH g) n ε) (rows.set k r') (us.set k T):=by subst Z;obtain⟨h,D,I⟩:=J.mod Y U ab O;have G:=h.j k T;exact⟨by simpa using G.1,fun j x r H F=>(D j x r H F).kept G.2 (fq h (D j x r H F)),I⟩
def wN{h:Type}(l:List h)k j:(l.eraseIdx k)[j]?=l[if j<k then j else j+1]?:=by rw[List.getElem?_eraseIdx];split<;>rfl
def bL.γ{g ε}(D:bL w B (.slice (bH g) n ε) rows us)(U:k<rows.length)(H:w'.ownsRow B 26 1 (.slice (bH g) (rows.length-1) J) (rows.length-1) (us.eraseIdx k))(T:w.grownBy w' (some g)):bL w' B (.slice (bH g) (rows.length-1) J) (rows.eraseIdx k) (us.eraseIdx k):=by
 refine⟨by rw[Ay U];exact H,fun j x r h F=>?_,fun i j x y b h G I O=>?_⟩
 .rw[wN]at h F;exact(D.ν _ x r h F).kept T (fq D.η (D.ν _ x r h F))
 .rw[wN]at h G;have:=D.apart _ _ x y b h G I O;split at this<;>split at this<;>omega
def kQ{h:Type}(l:List h)k x(D:k<=l.length):(l.take k++x::l.drop k).length=l+1:=Rs
def BF{G:Type}(l:List G)k j x(D:k<=l.length):(l.take k++x::l.drop k)[j]?=if j<k then l[j]? else if j=k then some x else l[j-1]?:=by
 by_cases h:j<k
 .rw[ak h,dU Rs,List.getElem?_take_of_lt h]
 .rw[aj h,fi Rs];by_cases F:j=k
  .subst F;rw[ak rfl];simp[iw D]
  .rw[aj F];obtain⟨m,rfl⟩:∃m,j=k+1+m:=⟨j-(k+1),Qu⟩;have H:k+1+m-(l.take k).length=m+1:=by simp[iw D];omega
   have I:k+1+m-1=k+m:=Qu;rw[H,I,dm,fQ]
def bL.insert{H}{r}(h:bL H B v rows us)(hb:ag H w)(J:aE w H u r)(U:B<=(H:Nat))(hk:k<=rows.length)(Y:w'.ownsRow B 26 1 T (rows.length+1) (cT us k u))(Io:w.grownBy w' v.ownBlock):bL w' B T (rows.take k++r::rows.drop k) (cT us k u):=by
 have hW:=h.ext hb;have O:k<=us.length:=Sq;have Î:∀(i:Nat) (x:aG) (b:Nat),us[i]?=some x->x.ownBlock=some b->u.ownBlock=some b->False:=fun i x b hx hb hb'=>by obtain⟨rx,_,Z⟩:=h.nT hx;have:=(Z.lt b hb).2;have:=(J.lt b hb').1;omega
 refine⟨by rw[kQ _ _ _ hk];exact Y,fun j x rx hx hr=>?_,fun i j x y b hx hy hb hb'=>?_⟩
 .rw[cT,BF _ _ _ _ O]at hx;rw[BF _ _ _ _ hk]at hr;by_cases F:j<k
  .rw[ak F]at hx hr;exact Xj
  .rw[aj F]at hx hr;by_cases G:j=k
   .rw[ak G]at hx hr;cases hx;cases hr
    exact(J.kept Io (fq hW.η J)).x U
   .rw[aj G]at hx hr;exact Xj
 .rw[cT,BF _ _ _ _ O]at hx hy;by_cases F:i<k<;>by_cases G:j<k
  .rw[ak F]at hx;rw[ak G]at hy;exact h.apart _ _ x y b hx hy hb hb'
  .rw[ak F]at hx;rw[aj G]at hy;by_cases D:j=k
   .rw[ak D]at hy;cases hy;exact(Î i x b hx hb hb').elim
   .rw[aj D]at hy;exact Wl
  .rw[aj F]at hx;rw[ak G]at hy;by_cases D:i=k
   .rw[ak D]at hx;cases hx;exact(Î j y b hy hb' hb).elim
   .rw[aj D]at hx;exact Wl
  .rw[aj F]at hx;rw[aj G]at hy;by_cases D:i=k<;>by_cases I:j=k
   .omega
   .rw[ak D]at hx;rw[aj I]at hy;cases hx;exact(Î _ y b hy hb' hb).elim
   .rw[aj D]at hx;rw[ak I]at hy;cases hy;exact(Î _ x b hx hb hb').elim
   .rw[aj D]at hx;rw[aj I]at hy;exact Wl
def mh{ε}(h:bL w B (.slice A n ε) rows us)(G:0<rows.length):∃g,A=some ⟨g,0,none⟩/\B<=g/\g < (w:Nat):=by obtain⟨g,H,e,D,F⟩:=h.η.form G;simp only[ep]at e;exact⟨g,e.1,D,F⟩
def mr{ε}(h:aE w B (.slice A n ε) xs)(G:0<xs.length):∃g,A=some ⟨g,0,none⟩/\B<=g/\g < (w:Nat):=by have⟨g,H,e,D,F⟩:=pW h G;simp only[ep]at e;exact⟨g,e.1,D,F⟩
end
def ma(p b:Int)(xs:aL)(k:Nat):List Int:=(xs.map fun x=>x*b%p).take k++xs.drop k
def kq(p b:Int)(xs:aL):List Int:=xs.map fun x=>x*b%p
def tJ p b xs:ma p b xs 0=xs:=by simp[ma]
def wF p b xs k(hk:xs.length<=k):ma p b xs k=kq p b xs:=by unfold ma kq;rw[cZ Rj,jR hk,lZ]
def wG p b xs k(h:k<xs.length):(ma p b xs k)[k]?=xs[k]?:=by unfold ma;exact Wp
def wH p b xs k x(hx:xs[k]?=some x):(ma p b xs k).set k (x*b%p)=ma p b xs (k+1):=by have h1:=(bG.1 hx).1;unfold ma;rw[om _ _ QW,du];have h:xs.drop k=x::xs.drop (k+1):=Wo;have D:k-((xs.map fun x=>x*b%p).take k).length=0:=QW;rw[h,D,rO];simp[hx]
def zdF(a b p v h:Int)A ε rows w(an:bt w A rows)(b6:rows.length<=160)(F6:∀r∈rows,r.length<=1000)(b8:1<=p)(b9:p<=1000)(bz:0<=a)(b0:a<rows.length)(hb:0<=b)(bg:b<=1000)(hx:∀r∈rows,∀x∈r,0<=x/\x<=1000):az 249 (je (bC a b) p (aA v h A rows ε)) w fun e w'=>∃u,e=.returned (.agg (en v h u))/\aY w' w u (rows.set a.toNat (kq p b (rows.getD a.toNat [])))/\ag w w':=by
 refine M_ fun ra GZ HA HX MB=>?_;clear hx
 refine Qc fun HM F_=>?_
 go_enter func249,ntmps249
 go_wp2_with fail
 refine(mQ _ _ _ _ _ _ (an.ext (((al _ _).alloc Qt _ |>.alloc Qt _).alloc Rs _)) HM F_).x ?_;refine PT fun w1 FR us gA Ga hu _ _ _=>?_
 have⟨a2,bo,a3⟩:=cD w (.cells (bC a b) 231) (.cells (aA v h A rows ε) 57) (.cells bx 57);have bi:=FR.size;simp only[dV]at bi;go_upto_region 2 with(fail)
 have⟨W2,FY⟩:=aR (w1.alloc (.cells (aA v h gA rows Ga) 57));rw[<-FY];have Z:ag w1 W2:=UP;have ca:(W2:Nat)=w1+1:=Rr;have O:=aT FR Z;have ac:bA W2 w1 (aA v h gA rows Ga) 57:=TK;have av:=dg O a2;have a0:=dg O a3;have Gf:bL W2 ((w:Nat)+3) (.slice gA rows Ga) rows us:=(hu.ext Z).x Qt;have bn:∀g',gA=some ⟨g',0,none⟩->g' < (w1:Nat):=fun g' e=>UB
 have ap:∀(k:Nat) (x:aG),us[k]?=some x->∀b,x.ownBlock=some b->b < (w1:Nat):=fun k x hx b hb=>Vk
 have ao:ag w W2:=(ζ w _ _ _).t (O.x Rs);clear hu FR Z O an F6 a2 bo a3 FY;obtain⟨ce,Hp,T⟩:=Gf.F GZ;refine PI fun g GA Gy Gz=>?_
 subst GA;obtain⟨J,F,rfl,am,_⟩:=T.p;have⟨Y,H⟩:=zeR av;have I:=bB ac 2;simp only[dA,dm]at Y H I;have ad:af W2 g a.toNat (.slice J ra F):=UM;have⟨a5,a4,a6,J2,bp,a7,a8,ah,Hu⟩:=Ů Gf ao Hp T am a0 ac (ap _ _ Hp) (gF Gf.η T);clear Gf ao Hp T GZ am bn ap av a0 ac;go_wp2;go_loopw [19] (fun i wr=>∃k:Nat,k<=ra.length/\i=.int .i64 k/\wr.ownsRow ((w:Nat)+3) 3 1 (.slice J ra F) ra ((ma p b ra k).map (Value.int .i64))/\W2.grownBy wr (Value.slice J ra F).ownBlock)
  (fun i _=>ra.length-(intOf i).toNat)
 case atStart=>exact⟨0,aW _,rfl,SD,⟨rfl,rfl,rfl,ae _,fun _ _ _=>rfl⟩⟩
 case round=>
  obtain⟨k,b5,rfl,FT,D⟩:=hrel;by_cases FX:k<ra.length
  .have⟨x,hx⟩:=aq FX;obtain⟨G,rfl,b3,_⟩:=mr J2 Qu;have b4:=ah G rfl;have b7:g≠G:=WV;have ch:af wr w 0 (zI a):=D.cell Y TQ;have ci:af wr w 1 (zI b):=D.cell H TQ;have cj:af wr w1 2 (.slice (bH g) rows Ga):=D.cell I TQ;have ck:af wr g a.toNat (.slice (bH G) ra F):=D.cell ad TQ;have b1:af wr G k (zI x):=WD;have b2:=FT.g k;obtain⟨H,I⟩:=HX x (aU hx);have cb:0<=x*b:=rS H hb;have cc:x*b<=1000000:=by have:=uB I bg hb Qu;omega
   have U:=FT.j k (zI (x*b%p));rw[<-eW,wH _ _ _ _ _ hx]at U;have⟨HS,HG⟩:=bJ U.1 (cx D U.2);have bv:¬p=0:=Qu;clear U hx FT D Y ad;go_wp2_with fail
   go_region_held3 (fun w'=>af w' w 0 (zI a)/\af w' w 1 (zI b)/\af w' w1 2 (.slice (bH g) rows Ga)/\af w' g a.toNat (.slice (bH G) ra F))
    (first|(simp[*];done)|(refine⟨?_,?_,?_,?_⟩<;>(first|(refine(fu Rs).t ?_;assumption)|(refine(lQ Rs).t ?_;assumption)))) (fail)
   exact Yj
  .have J1:∀b,(Value.slice J ra F).ownBlock=some b->(w:Nat)+3<=b/\b < (w1:Nat):=fun b hb=>⟨(bS J2 b hb).1,ah b hb⟩
   have a1:=(D.block w1 Qu (fun e=>TP)).t a8;have ab:=(D.block ((w:Nat)+1+1) Qu (fun e=>TP)).t a7;have bh:k=ra.length:=Qu;subst bh;have HO:=zH (show aY wr ((w:Nat)+3) (.slice (bH g) rows Ga) (rows.set a.toNat (kq p b (rows.getD a.toNat []))) from
    ⟨_,a5.K a6 D (by rw[HA.o,<-wF p b ra ra (ae _)];unfold aE;rw[show(ma p b ra ra).length=ra by simp[ma]];exact FT)⟩)
   have HE:=zH (a4.grown D Qu fun b hb=>Tu);clear FT D J1 Y H I ad;have⟨a9,ba,bb⟩:=cC a1;have⟨bc,bd,be⟩:=cC ab;have⟨bq,br,bu⟩:=cd ab;simp only[dA,dm]at a9 ba bb bc bd be;clear a1 ab;go_wp2;refine aI (v:=.agg (aA v h (bH g) rows Ga)) (by simp[results,results249,go_sem, *]) rfl ⟨_,rfl,?_,?_⟩
   .exact Ym
   .exact X7
section
variable{J:Nat}
section
variable{P:jk}{ops:iI}{Q:gZ}{md:Region.Mode}{S:j4}
def tH(P:jk)(md:Region.Mode)(ops:iI)(Q:gZ)(S:j4)(n:Nat):Nat->Array Bool->Act->World->Prop
 |0,h,a,w=>Region.ready md ops h=[]/\Q .normal a w
 |F+1,h,a,w=>
  (Region.ready md ops h=[]->Q .normal a w)/\
  ∀i∈Region.ready md ops h,wpOp P ops Q i (fun D w'=>(i<n->S w')/\tH P md ops Q S n F (h.setIfInBounds i true) D w') a w
def zdv{n}:∀(h:Nat) (F:pv) (a:Act) (w:aa),tH P md ops Q S n h F a w->wpAny P md ops Q h F a w
 |0,_,_,_,D=>D
 |h+1,_,_,_,D=>⟨D.1,fun i hi=>wpOp_mono (fun G w' H=>zdv h _ G w' H.2) (D.2 i hi)⟩
def zfa{H}(hi:ops[i]?=some H)(ap:∀(j:Nat) (o:h_) cs b,ops[j]?=some o->o.op≠.select cs b)(a2:∀c a w,Q (.panic c) (a.put H.dst v) w->Q (.panic c) a w)(bg:Region.sinkB md ops n=true)(a5:Region.chainB md ops n=true)(bc:n<ops.size)(a9:i<n):∀(T:Nat) (h:pv) (a:Act) (w:aa),HeadInv md ops n h->(∀j I,ops[j]?=some I->j≠i->h.getD j true=false->(∀e∈I.after,Region.binds md e=true->e.on≠i)->H.apart ops I=true)->i∈Region.ready md ops h->YieldsIf P ops S H v a->S w->tH P md ops Q S n T (h.setIfInBounds i true) (a.put H.dst v) w->tH P md ops Q S n (T+1) h a w:=by
 intro T;induction T with
 |zero=>
  intro h a w _ _ G ac U O;refine⟨fun F=>(by rw[F]at G;cases G),fun j J=>?_⟩;by_cases D:j=i
  .subst D;exact ac.wpOp hi U ⟨fun _=>U,O⟩
  .have:=ready_mono J D;rw[O.1]at this;cases this
 |succ T ih=>
  intro h a w av ah G ac U O;refine⟨fun F=>(by rw[F]at G;cases G),fun j J=>?_⟩;have Y:h.getD i true=false:=(mem_ready.1 G).1;have an:j<n:=by
   rcases xp j n with F|F
   .exact F
   .exact absurd J (tail_waits bg a5 bc av (n-i) i rfl a9 Y j F)
  by_cases D:j=i
  .subst D;exact ac.wpOp hi U ⟨fun _=>U,O⟩
  .have Z:=O.2 j (ready_mono J D);obtain⟨ao,I,ad,a3⟩:=mem_ready.1 J;have be:∀e∈I.after,Region.binds md e=true->e.on≠i:=fun e a6 a4 a7=>by have Z:=a3 e a6 a4;rw[a7,getD_both Y]at Z;cases Z
   have a1:=wpOp_putIf ad (ah j I ad D ao be) (fun cs b=>ap i H cs b hi) (fun cs b=>ap j I cs b ad) a2 ac Z;have a8:∀k ok,ops[k]?=some ok->k≠i->(h.setIfInBounds j true).getD k true=false->
     (∀e∈ok.after,Region.binds md e=true->e.on≠i)->H.apart ops ok=true:=fun k ok ba bb Y bd=>by
    refine ah k ok ba bb ?_ bd;by_cases am:j=k
    .subst am;exact ao
    .rw[getD_set_ne true am]at Y;exact Y
   refine wpOp_mono (fun a0 w' ab=>⟨ab.2.1,ih (h.setIfInBounds j true) a0 w' (av.set J an) a8 (ready_mono G (k_ D)) ab.1 (ab.2.1 an) ?_⟩) a1;rw[Array.setIfInBounds_comm _ _ D];exact ab.2.2
def ÿ(md:Region.Mode)(ops:iI)(n:Nat)(h:pv):Bool:=
 (h.size==ops.size)&&((List.range ops.size).all fun j=>!h.getD j false||(match ops.toList[j]? with|some D=>D.after.toList.all fun e=>!Region.binds md e||h.getD e.on false|none=>true))&&
 ((List.range ops.size).all fun t=>decide (t<n)||!h.getD t true)
def zfb{F}(h:ÿ md ops n F=true):HeadInv md ops n F:=by
 simp only[ÿ,bN,pT,eD,fj]at h;obtain⟨⟨G,H⟩,I⟩:=h;refine⟨G,fun j ac D Y e T J=>?_,fun t ab Z=>?_⟩
 .have U:=(bk.1 D).1;have:=H j U;rw[Y,sf,D]at this;simp only[Bool.not_true,Bool.false_or,eD]at this;have:=this e (by simpa using T);rw[J]at this;simpa using this
 .have:=I t Z;have O:decide (t<n)=false:=QW;rw[O]at this;simpa using this
def Ļ{D:h_}{h:pv}(hi:ops.toList[i]?=some D)(ad:Region.noSelect ops=true)(ab:Region.free md ops h i=true)(ac:(Region.ready md ops h).contains i=true)(G:(ÿ md ops n h&&Region.sinkB md ops n&&Region.chainB md ops n&&decide (n<ops.size)&&decide (i<n))=true)(ah:YieldsIf P ops S D v a)(Z:S w)(F:tH P md ops Q S n J (h.setIfInBounds i true) (a.put D.dst v) w)(Y:∀c a w,Q (.panic c) (a.put D.dst v) w->Q (.panic c) a w:=by exact fun _ _ _ F=>F):tH P md ops Q S n (J+1) h a w:=by
 simp only[bN,cf]at G;obtain⟨⟨⟨⟨H,I⟩,O⟩,T⟩,U⟩:=G;have hi':ops[i]?=some D:=by rw[<-sf];exact hi
 exact zfa hi' (Region.noSelect_spec ad) Y I O T U J h a w (zfb H) (Region.free_spec hi' ab) (by simpa using ac) ah Z F
def aM(i:Nat){F:h_}{D:pv}{G:Act}(h:tH P md ops Q S n J (D.setIfInBounds i true) G w)(hi:ops.toList[i]?=some F:=by rfl)(Y:Region.wanted F (yielded ops a.tmps)=true:=by rfl)(ac:∀w,S w->(execOp a.eval F).run P w=.ok (.value v) w:=by intro w h;(try dsimp only at h);go_simp;(try with_reducible rfl))(ab:Region.noSelect ops=true:=by kernel_rfl)(U:Region.free md ops D i=true:=by kernel_rfl)(Z:(Region.ready md ops D).contains i=true:=by kernel_rfl)(T:(ÿ md ops n D&&Region.sinkB md ops n&&Region.chainB md ops n&&decide (n<ops.size)&&decide (i<n))=true:=by kernel_rfl)(I:S w:=by assumption)(H:∀c a w,Q (.panic c) (a.put F.dst v) w->Q (.panic c) a w:=by exact fun _ _ _ h=>h)(O:a.put F.dst v=G:=by simp only[Act.put,zA];rfl):tH P md ops Q S n (J+1) D a w:=by subst O;exact Ļ hi ab U Z T (ay ⟨Y,ac⟩) I h H
def zm2{F}(hr:Region.ready md ops F=[i])(ho:ops.toList[i]?=some o)(H:∀h:pt,Shut (∀a w,(i<n->S w)->((i<n->S w)->tH P md ops Q S n J (F.setIfInBounds i true) a w)->h a w)-> if Region.wanted o (yielded ops a.tmps)=true then Oper.wp P o a w h Q else h (a.put o.dst undef) w):tH P md ops Q S n (J+1) F a w:=by refine⟨fun h0=>Tc,fun j D=>?_⟩;rw[hr]at D;simp only[et,gJ,gX]at D;subst D;exact wpOp_step Sk (fun h hK=>H h (fun a w G I=>hK a w ⟨G,I G⟩))
def cm(i:Nat){D:pv}(F:∀h:pt,Shut (∀a w,(i<n->S w)->((i<n->S w)->tH P md ops Q S n J (D.setIfInBounds i true) a w)->h a w)->if Region.wanted o (yielded ops a.tmps)=true then Oper.wp P o a w h Q else h (a.put o.dst undef) w)(H:Region.ready md ops D=[i]:=by kernel_rfl)(G:ops.toList[i]?=some o:=by rfl):tH P md ops Q S n (J+1) D a w:=zm2 H G F
def gM{F}(D:Region.ready md ops F=[])(h:Q .normal a w):∀G,tH P md ops Q S n G F a w
 |0=>⟨D,h⟩
 |_+1=>⟨fun _=>h,by rw[D];simp⟩
def cU n{id}(F:P.follows .mixedOrders=true)(D:S w.drew)(h:S w.drew->tH P .any ops Q S n ops.size (Array.replicate ops.size false) a w.drew):(Code.region id ops true).wp P Q a w:=wp_region_any F (zdv _ _ _ _ (h D))
end
end
def rp(h:bL w B v rows us):∀u∈us,u.oneCell'=true:=fun u G=>by obtain⟨k,D⟩:=eH.1 G;obtain⟨r,_,F⟩:=h.nT D;obtain⟨H,I,rfl,_⟩:=F.p;rfl
def Ż(w:aa)b j u:w.grownBy (w.setCell ⟨b,j,none⟩ u) (some b):=⟨rfl,rfl,rfl,Qt,fun k _ h=>eX w ⟨b,j,none⟩ k u (fun e=>h QC)⟩
def bL.m9{fr}(h:bL w B v rows us)(hb:w.heap[b]?=some (.cells cs 57 fr)):bL (w.setCell ⟨b,j,none⟩ u) B v rows us:=by
 refine⟨jA h.η (Ż w b j u) ?_,fun k x r F D=>aE.kept (h.ν k x r F D) (Ż w b j u) ?_,h.apart⟩
 .rcases h.η.2 with⟨rfl,_⟩|⟨g,ε,G,rfl,_,hg,_⟩
  .exact ay rfl
  .exact XO
 .rcases(h.ν k x r F D).2 with⟨rfl,_⟩|⟨g,ε,G,rfl,_,hg,_⟩
  .exact ay rfl
  .exact XO
def zfj(a p v h:Int)A ε rows w(Z:bt w A rows)(bo:rows.length<=160)(F6:∀r∈rows,r.length<=1000)(ba:0<=a)(bb:a<rows.length):az 255 (je (bK a) p (aA v h A rows ε)) w fun e w'=>∃u,e=.returned (.agg (en v h u))/\aY w' w u (rows.eraseIdx a.toNat)/\ag w w':=by
 refine Qc fun HM F_=>?_
 go_enter func255,ntmps255
 go_wp2_with fail
 refine(mQ _ _ _ _ _ _ (Z.ext (((al _ _).alloc Qt _ |>.alloc Qt _).alloc Rs _)) HM F_).x ?_;refine PT fun w1 FR us gA Ga hu _ _ _=>?_
 have⟨ao,bd,ap⟩:=cD w (.cells (bK a) 235) (.cells (aA v h A rows ε) 57) (.cells bx 57);have bc:=FR.size;simp only[dV]at bc;go_upto_region 2 with(fail)
 have⟨W2,FY⟩:=aR (w1.alloc (.cells (aA v h gA rows Ga) 57));rw[<-FY];have I:ag w1 W2:=UP;have bp:(W2:Nat)=w1+1:=Rr;have F:=aT FR I;have T:bA W2 w1 (aA v h gA rows Ga) 57:=TK;have am:=dg F ao;have an:=dg F ap;have Gf:bL W2 ((w:Nat)+3) (.slice gA rows Ga) rows us:=(hu.ext I).x Qt;have ah:∀g',gA=some ⟨g',0,none⟩->g' < (w1:Nat):=fun g' e=>UB
 have bn:∀(k:Nat) (x:aG),us[k]?=some x->∀b,x.ownBlock=some b->b < (w1:Nat):=fun k x hx b hb=>Vk
 have ac:ag w W2:=(ζ w _ _ _).t (F.x Rs);clear hu FR I F Z F6 ao bd ap FY;refine PI fun g GA Gy Gz=>?_
 subst GA;have bi:=ah g rfl;have av:=bB am 0;have a0:=bB T 2;simp only[dA,dm]at av a0;have⟨H,a1,a2,a3⟩:=gG Gf ac an T;clear Gf ac ah am an T;go_upto_region 3 with(go_at_call 257;refine(vl ((w:Nat)+3) g rows Ga a us _ H.η (rp H) ba bb Qu).x ?_;rintro e wr ⟨rfl,ad,J⟩;have D:=(J.block w1 Qu QW).t a3;have G:=zH J;have HO:=zH ad;have f2:=aK D 2;have c2:=bB D 2;simp only[dA,dm]at c2;have Y:=zH D;clear D J ad)
 have U:=bE wr w1 2 _ _ (.slice (bH g) (rows.length-1) Ga) Y;simp only[zA]at U;have O:=(eX wr ⟨w1,2,none⟩ ((w:Nat)+1+1) (.slice (bH g) (rows.length-1) Ga) Rs).t ((G.block _ Qu QW).t a2);have ab:=H.γ Qu HO G;have⟨HO,HE⟩:=bJ (show aY _ ((w:Nat)+3) _ _ from⟨_,ab.m9 Y (j:=2) (u:=.slice (bH g) (rows.length-1) Ga)⟩) ((a1.grown G Qu fun b hb=>RD).setCell (p:=⟨w1,2,none⟩) Rs (.slice (bH g) (rows.length-1) Ga));clear ab c2 f2 av a0;have⟨a4,a5,a6⟩:=cC U;have⟨a7,a8,a9⟩:=cC O;have⟨be,bg,bh⟩:=cd O;simp only[dA,dm]at a4 a5 a6 a7 a8 a9;clear U O;go_wp2;refine aI (v:=.agg (eO v h (bH g) (rows.length-1) Ga)) (by simp[results,results255,go_sem, *]) rfl ⟨_,rfl,?_,?_⟩
 .exact Ym
 .exact X7
def zg6(a p v h:Int)A ε rows w(a8:bt w A rows)(ct:rows.length<=160)(F6:∀r∈rows,r.length<=1000)(ca:0<=a)(cb:a<=rows.length)(ci:0<=v)(cj:v<=1000)(cc:0<=h)(ce:h<=1000):az 259 (je (bK a) p (aA v h A rows ε)) w fun e w'=>∃u,e=.returned (.agg (en v h u))/\aY w' w u (cT rows a.toNat (List.replicate (v+h).toNat 0))/\ag w w':=by
 refine Qc fun HM F_=>?_
 go_enter func259,ntmps259
 go_wp2_with fail
 refine(mQ _ _ _ _ _ _ (a8.ext (((al _ _).alloc Qt _ |>.alloc Qt _).alloc Rs _)) HM F_).x ?_;refine PT fun w1 FR us gA Ga hu _ _ _=>?_
 have⟨bn,bo,bp⟩:=cD w (.cells (bK a) 236) (.cells (aA v h A rows ε) 57) (.cells bx 57);have ch:=FR.size;simp only[dV]at ch;go_upto_region 2 with(fail)
 have⟨D,FY⟩:=aR (w1.alloc (.cells (aA v h gA rows Ga) 57));rw[<-FY];have ap:ag w1 D:=UP;have cu:(D:Nat)=w1+1:=Rr;have T:=aT FR ap;have a1:bA D w1 (aA v h gA rows Ga) 57:=TK;have bg:=dg T bn;have bh:=dg T bo;have bi:=dg T bp;have bc:bL D ((w:Nat)+3) (.slice gA rows Ga) rows us:=(hu.ext ap).x Qt;have bd:∀g',gA=some ⟨g',0,none⟩->g' < (w1:Nat):=fun g' e=>UB
 have cr:∀(k:Nat) (x:aG),us[k]?=some x->∀b,x.ownBlock=some b->b < (w1:Nat):=fun k x hx b hb=>Vk
 have ba:ag w D:=(ζ w _ _ _).t (T.x Rs);clear FY;have a4:=bB bg 0;have⟨br,bu,bv⟩:=cC bh;have a5:=bB a1 2;simp only[dA,dm]at a4 br bu bv a5;have⟨ab,bz,b2,b3,b0⟩:=pD bc ba bi a1 bd;refine cU (S:=fun w'=>af w' w 0 (zI a)/\af w' ((w:Nat)+1) 0 (zI v)/\af w' ((w:Nat)+1) 1 (zI h)/\af w' ((w:Nat)+1) 2 (.slice A rows ε)/\af w' w1 2 (.slice gA rows Ga)) 10 QT QD (fun hHeld=>?_);refine P8 ?_;refine aM 4 ?_;have am:∀a3,ag D a3->(fun w':World=>af w' w 0 (zI a)/\af w' ((w:Nat)+1) 0 (zI v)/\af w' ((w:Nat)+1) 1 (zI h)/\af w' ((w:Nat)+1) 2 (.slice A rows ε)/\af w' w1 2 (.slice gA rows Ga)) a3:=fun a3 hb=>
  ⟨ar hb a4,ar hb br,ar hb bu,ar hb bv,ar hb a5⟩
 refine cm 5 fun K hK=>?_
 go_simp;refine(oW v h _ _ ci cj cc ce).x ?_;rintro e bq ⟨rfl,U⟩;have U:ag D bq:=(al _ _).drew.t U;go_simp;refine hK.out _ _ (fun _=>am bq U) (fun hHeld=>?_);refine Mr fun hHeld=>?_
 refine cm 6 fun K hK=>?_
 go_simp;obtain⟨H,av⟩:∃H:Nat,v+h=H:=⟨(v+h).toNat,Qu⟩;have a7:=zH av;rw[av];clear av;refine(kO H _ (by have:=a7.o;omega)).x ?_;rintro e Z ⟨cA,rfl,Y,F⟩;have F:ag D Z:=aT U F;have Y:=Y.x U.size;obtain⟨ah,an,be,_⟩:=Y.p;try simp only[fA]at be
 subst be;dsimp only;refine hK.out _ _ (fun _=>am Z F) (fun hHeld=>?_);refine Mr fun hHeld=>?_
 have b1:=zH Y;refine Ny fun K hK=>?_
 have G:Below D D (Z.alloc (.cells (bZ ah H an) 26)):=F.alloc F.size _;refine hK.out _ _ (fun _=>am _ G) (fun hHeld=>?_);refine Mr fun hHeld=>?_
 refine cm 8 fun K hK=>?_
 go_simp;have cz:=F.size;have ao:=ab.ext G;have F0:∀b,(Value.slice gA rows Ga).ownBlock=some b->(w:Nat)+3<=b/\b < (w1:Nat):=fun b hb=>⟨(bS ab.η b hb).1,by
  rcases ab.η.2 with⟨h1,_⟩|⟨g',ck,cn,h1,_⟩
  .rw[h1]at hb;cases hb
  .rw[h1]at hb;cases hb;exact b0 g' T8⟩
 refine(vM ((w:Nat)+3) rows Z a (.slice gA rows Ga) us (.slice ah H an) _ ao.η (rp ao) rfl (aH _ _ rfl) (fun e=>by have:=F0 _ e;omega) ca cb Qu Rs).x ?_;rintro e wr ⟨g,O,rfl,bb,J,_⟩;dsimp only;have I:∀p:dM,p.block=(w:Nat)∨p.block=(w:Nat)+1∨p.block=(w1:Nat)->∀x,(Z.alloc (.cells (bZ ah H an) 26)).cell? p=some x->wr.cell? p=some x:=fun p ad x hx=>J.cell hx (fun e=>by have:=F0 _ e.q;rcases ad with ad|ad|ad<;>omega)
 refine hK.out _ _ (fun _=>⟨I _ (ay rfl) _ hHeld.1,I _ (au (ay rfl)) _ hHeld.2.1,I _ (au (ay rfl)) _ hHeld.2.2.1,I _ (au (ay rfl)) _ hHeld.2.2.2.1,I _ (au (au rfl)) _ hHeld.2.2.2.2⟩) (fun hHeld=>?_);refine Mr fun hHeld=>?_
 refine cm 9 fun K hK=>?_
 go_simp;refine hK.out _ _ (fun _=>hHeld) (fun hHeld=>?_);refine Qm ?_;have ac:wr.heap[w1.heap.size]?=_:=(J.block w1 Rs (fun e=>TN)).t ((G.block w1 Qu).t b3);have a6:=zH ac;have f2:=aK ac 2;have c2:=bB ac 2;simp only[dA,dm]at c2;refine cm 10 fun K hK=>?_
 go_simp;refine Qn ?_;refine gM QT ?_ _;have a2:=bE wr w1 2 _ _ (.slice (bH g) (rows.length+1) O) a6;simp only[zA]at a2;have a0:=(eX wr ⟨w1,2,none⟩ ((w:Nat)+1+1) (.slice (bH g) (rows.length+1) O) Rs).t ((J.block _ Rs (fun e=>TN)).t ((G.block _ Qu).t b2));have a9:=ab.insert G (b1.ext ((al _ _).alloc (ae _) _)) Qu Qu bb J;have⟨HO,HE⟩:=bJ (show aY _ ((w:Nat)+3) _ _ from⟨_,a9.m9 a6 (j:=2) (u:=.slice (bH g) (rows.length+1) O)⟩) ((rY (bz.t (G.x Qu)) J Rs fun b hb=>by have:=F0 b hb;omega).setCell (p:=⟨w1,2,none⟩) Rs (.slice (bH g) (rows.length+1) O));rw[show List.replicate H (0:Int)=List.replicate (v+h).toNat 0 by rw[a7.o];rfl]at HO;have⟨b4,b5,b6⟩:=cC a2;have⟨b7,b8,b9⟩:=cC a0;have⟨co,cp,cq⟩:=cd a0;simp only[dA,dm]at b4 b5 b6 b7 b8 b9;go_wp2;refine aI (v:=.agg (eO v h (bH g) (rows.length+1) O)) (by simp[results,results259,go_sem, *]) rfl ⟨_,rfl,?_,?_⟩
 .exact Ym
 .exact X7
section
variable{J:Nat}
def lE{h:Type}(f:h->h)(xs:List h)(k:Nat):List h:=(xs.map f).take k++xs.drop k
def nJ{h}(f:h->h)xs:lE f xs 0=xs:=by simp[lE]
def qi{h}(f:h->h)xs k(hk:xs.length<=k):lE f xs k=xs.map f:=by unfold lE;rw[cZ Rj,jR hk,lZ]
def qj{h}(f:h->h)xs k(D:k<xs.length):(lE f xs k)[k]?=xs[k]?:=by unfold lE;exact Wp
def eJ{h}(f:h->h)xs k(D:k<=xs.length):(lE f xs k).length=xs:=by unfold lE;simp;omega
def jI{h}f xs k(x:h)(hx:xs[k]?=some x):(lE f xs k).set k (f x)=lE f xs (k+1):=by have h1:=(bG.1 hx).1;unfold lE;rw[om _ _ QW,du];have D:xs.drop k=x::xs.drop (k+1):=Wo;have F:k-((xs.map f).take k).length=0:=QW;rw[D,F,rO];simp[hx]
def ie{D}{I}{fr}(F:w.ownsRow B D J v n I)(H:w.heap[b]?=some (.cells cs 57 fr))(G:D≠57):v.ownBlock=none∨v.ownBlock≠some b:=by
 rcases F.2 with⟨rfl,_⟩|⟨g,ε,O,rfl,_,h,_⟩
 .exact ay rfl
 .refine au fun e=>?_
  simp only[Value.ownBlock,dW]at e;subst e;rw[H]at h;simp at h;exact G h.2.1.q
def frz{a}(G:w.grownBy w' (some r))(h:w.frozen? a=false)(F:w.cell? a=some v)(F0:a.block≠r):w'.frozen? a=false:=by have D:=G.block a.block (jB w a F) RC;unfold World.frozen? at h ⊢;rw[D];exact h
def qX{a}(D:w.grownBy w' (some r))(h:w.cell? a=some v)(F0:a.block≠r):w'.cell? a=some v:=(l6 (w:=w) (D.block a.block (jB w a h) RC)).t h
def Be{h D:Type}(f:h->D)(l:List h)i:(l.map f).eraseIdx i=(l.eraseIdx i).map f:=by apply gk;intro j;rw[wN,bI,bI,wN]
def BR(b v h:Int)A ε rows w(ap:bt w A rows)(co:rows.length<=160)(F6:∀r∈rows,r.length<=1000)(ct:0<=v)(cu:v<=1000)(hb:0<=b)(cb:b<=1000)(cj:1<=h)(ck:h<=1000)(a0:∀r∈rows,v+b<r.length):az 271 (jy (aA v h A rows ε) b) w fun e w'=>∃u,e=.returned (.agg (en v (h-1) u))/\aY w' w u (rows.map (fun r=>r.eraseIdx (v+b).toNat))/\ag w w':=by
 have bg:=zH (show ∀r∈rows,v+b<r.length/\r.length<=1000 from fun r hr=>⟨a0 r hr,F6 r hr⟩);clear a0;refine Qc fun HM F_=>?_
 go_enter func271,ntmps271
 go_wp2_with fail
 refine(mQ _ _ _ _ _ _ (ap.ext ((al _ _).alloc Qt _ |>.alloc Qt _)) HM F_).x ?_;refine PT fun w1 FR us gA Ga hu _ _ _=>?_
 refine Of fun q1 q2=>?_
 have b4:=FR.size;simp only[dV]at b4;go_upto_region 2 with(fail)
 have⟨F,FY⟩:=aR (w1.alloc (.cells (aA v h gA rows Ga) 57));rw[<-FY];have T:ag w1 F:=UP;have cr:(F:Nat)=w1+1:=Rr;have J:=aT FR T;have Y:bA F w1 (aA v h gA rows Ga) 57:=TK;have a9:=dg J q1;have ba:=dg J q2;have a8:bL F ((w:Nat)+2) (.slice gA rows Ga) rows us:=(hu.ext T).x Qt;have av:ag w F:=((al w w).alloc Qt _ |>.alloc Qt _).t (J.x Rs);clear hu FR T J ap F6 q1 q2 FY;have ac:=bB a9 0;have bc:=bB Y 2;simp only[dA,dm]at ac bc;have⟨bn,be,bp,bq⟩:=gG a8 av ba Y;clear a8 av a9 ba Y;go_wp2;go_loopw [13] (fun i wr=>∃k:Nat,k<=rows.length/\i=.int .i64 k/\(∃bb,bL wr ((w:Nat)+2) (.slice gA rows Ga) (lE (fun r=>r.eraseIdx (v+b).toNat) rows k) bb)/\
   bA wr w1 (aA v h gA rows Ga) 57/\Below ((w:Nat)+2) F wr)
  (fun i _=>rows.length-(intOf i).toNat)
 case atStart=>exact⟨0,aW _,rfl,⟨us,by rw[nJ];exact bn⟩,bq,al _ _⟩
 case round=>
  obtain⟨k,hk,rfl,⟨bb,FT⟩,Hh,G⟩:=hrel;by_cases a1:k<rows.length
  .have⟨r,hr⟩:=aq a1;have a5:(lE (fun r=>r.eraseIdx (v+b).toNat) rows k)[k]?=some r:=(qj _ _ _ a1).t hr;obtain⟨cF,Hc,J5⟩:=FT.F a5;obtain⟨b3,cn⟩:=bg r (aU hr);obtain⟨b7,I,rfl,_⟩:=J5.p;obtain⟨gr,rfl,ch,ci⟩:=mr J5 Qu;obtain⟨g,rfl,cc,ce⟩:=mh FT Tf;have He:=FT.η;rw[eJ _ _ _ hk]at He;have bd:af wr g k (.slice (bH gr) r I):=Ub;have ad:af wr w 0 (zI v):=(G.cell Rs).t ac;refine Mh fun y2=>?_
   have cp:gr≠w1.heap.size:=fun e=>Xv
   have cq:g≠w1.heap.size:=fun e=>XJ
   have f0:=He.g k;have⟨HO,an,HW,bh,bo,bi⟩:=ny FT J5 G Hh Hc hr;clear He FT J5 G Hh a5 Hc hr;have cz:IntKind.i64.wrap (v+b)=v+b:=Rt;have cA:IntKind.i64.wrap (v+b+1)=v+b+1:=Rt;have a2:g≠gr:=by
    rcases gF HO.η an with h1|h1
    .cases h1
    .exact Wg
   have ah:=zH (Dt ((w:Nat)+2) gr r I (v+b) (r.map (Value.int .i64)) wr.drew (AB an) Vq Qu b3 Qu);go_wp2_with fail
   go_region_held3 (fun w'=>af w' w 0 (zI v)/\af w' w1 2 (.slice (bH g) rows Ga))
    (first|(exact b0)|(exact⟨ad,y2⟩)|(refine⟨?_,?_⟩<;>(first|(refine(fu Rs).t ?_;assumption)|(refine(lQ Rs).t ?_;assumption))))
    ((go_at_call 272;refine ah.x ?_;rintro e ab ⟨rfl,a4,D⟩;have f3:ab.frozen? ⟨g,k,none⟩=false:=(frz (w:=wr.drew) D f0 bd a2);have b5:=qX (w:=wr.drew) D ad (Qu:w.heap.size≠gr);have b6:=qX (w:=wr.drew) D y2 (Qu:w1.heap.size≠gr);have b0:=aQ b5 b6;clear ad y2;have cI:=qX (w:=wr.drew) D bd a2))
   have D:=cx (eG wr (some gr)) D;have a3:aE ab ((w:Nat)+2) (.slice (bH gr) (r.length-1) I) (r.eraseIdx (v+b).toNat):=by unfold aE;rw[<-Be,Ay Qu];exact a4
   have U:=HO.put (eJ _ _ _ hk).q bo D a3 (fun b hb=>ay hb);rw[jI _ _ _ _ bi.o]at U;have⟨HN,Hi,FZ⟩:=er U ((eX ab ⟨g,k,none⟩ w1 (.slice (bH gr) (r.length-1) I) Rs).t ((D.block w1 TY QW).t bh)) (lj (rY HW D TY (fun b hb=>RD)) (p:=⟨g,k,none⟩) Rs (.slice (bH gr) (r.length-1) I));clear U a3 a4 D ah;exact Yk
  .skip
   have b1:k=rows.length:=Qu;subst b1;rw[qi _ _ _ (ae _)]at FT;have H:=(G.block _ Qu).t bp;have O:=bB Hh 1;have ao:=aK Hh 1;simp only[dA,dm]at O;have⟨HO,HW,am,b2⟩:=gG FT G Hh H;have cB:IntKind.i64.wrap (h-1)=h-1:=Rt;clear FT G Hh H ac bc;go_upto_region 8 with(fail)
   have Z:=bE wr w1 1 _ _ (zI (h-1)) am;simp only[zA]at Z;have H:=(eX wr ⟨w1,1,none⟩ ((w:Nat)+1) (zI (h-1)) Rs).t b2;have a7:=HO.m9 am (j:=1) (u:=.int .i64 (h-1));have HO:=zH (show aY _ ((w:Nat)+2) _ _ from⟨_,a7⟩);have a6:=((be.t (HW.x Qu)).setCell (p:=⟨w1,1,none⟩) Rs (zI (h-1)));have HE:=zH a6;clear a7 a6;have⟨O,ao,br⟩:=cC Z;have⟨bu,bv,bz⟩:=cC H;have⟨b8,b9,ca⟩:=cd H;simp only[dA,dm]at O ao br bu bv bz;clear Z H;go_wp2;refine aI (v:=.agg (aA v (h-1) gA rows Ga)) (by simp[results,results271,go_sem, *]) rfl ⟨_,rfl,?_,?_⟩
   .exact Ym
   .exact X7
end
def zm1{r}{a}(G:w.grownBy w' r)(h:w.frozen? a=false)(F:w.cell? a=some v)(H:some a.block≠r):w'.frozen? a=false:=by have D:=G.block a.block (jB w a F) H;unfold World.frozen? at h ⊢;rw[D];exact h
def Ģ{r}{a}(D:w.grownBy w' r)(h:w.cell? a=some v)(F:some a.block≠r):w'.cell? a=some v:=(l6 (w:=w) (D.block a.block (jB w a h) F)).t h
def ju{a}(h:w.cell? a=some v):a.block < (w:Nat):=jB w a h
def ŧ(b v h:Int)A ε rows w(a6:bt w A rows)(cK:rows.length<=160)(F6:∀r∈rows,r.length<=1000)(cV:0<=v)(cW:v<=1000)(T:0<=b)(cz:b<=1000)(cB:0<=h)(cF:h<=1000)(a9:∀r∈rows,v+b<=r.length):az 276 (jy (aA v h A rows ε) b) w fun e w'=>∃u,e=.returned (.agg (en v (h+1) u))/\aY w' w u (rows.map (fun r=>cT r (v+b).toNat 0))/\ag w w':=by
 have b2:=zH (show ∀r∈rows,v+b<=r.length/\r.length<=1000 from fun r hr=>⟨a9 r hr,F6 r hr⟩);clear a9;refine Qc fun HM F_=>?_
 go_enter func276,ntmps276
 go_wp2_with fail
 refine(mQ _ _ _ _ _ _ (a6.ext ((al _ _).alloc Qt _ |>.alloc Qt _)) HM F_).x ?_;refine PT fun w1 FR us gA Ga hu _ _ _=>?_
 refine Of fun q1 q2=>?_
 have co:=FR.size;simp only[dV]at co;go_upto_region 2 with(fail)
 have⟨H,FY⟩:=aR (w1.alloc (.cells (aA v h gA rows Ga) 57));rw[<-FY];have ah:ag w1 H:=UP;have cR:(H:Nat)=w1+1:=Rr;have Y:=aT FR ah;have ao:bA H w1 (aA v h gA rows Ga) 57:=TK;have bo:=dg Y q1;have bp:=dg Y q2;have bn:bL H ((w:Nat)+2) (.slice gA rows Ga) rows us:=(hu.ext ah).x Qt;have a7:ag w H:=((al w w).alloc Qt _ |>.alloc Qt _).t (Y.x Rs);clear hu FR ah Y a6 F6 q1 q2 FY;have a0:=bB bo 0;have br:=bB ao 2;simp only[dA,dm]at a0 br;have⟨b5,b1,b7,b8⟩:=gG bn a7 bp ao;clear bn a7 bo bp ao;go_wp2;go_loopw [13] (fun i wr=>∃k:Nat,k<=rows.length/\i=.int .i64 k/\(∃bq,bL wr ((w:Nat)+2) (.slice gA rows Ga) (lE (fun r=>cT r (v+b).toNat 0) rows k) bq)/\
   bA wr w1 (aA v h gA rows Ga) 57/\Below ((w:Nat)+2) H wr)
  (fun i _=>rows.length-(intOf i).toNat)
 case atStart=>exact⟨0,aW _,rfl,⟨us,by rw[nJ];exact b5⟩,b8,al _ _⟩
 case round=>
  obtain⟨k,hk,rfl,⟨bq,FT⟩,Hh,J⟩:=hrel;by_cases ba:k<rows.length
  .have⟨r,hr⟩:=aq ba;have bg:(lE (fun r=>cT r (v+b).toNat 0) rows k)[k]?=some r:=(qj _ _ _ ba).t hr;obtain⟨c4,Hc,U⟩:=FT.F bg;obtain⟨ck,cI⟩:=b2 r (aU hr);obtain⟨G,I,rfl,_⟩:=U.p;have am:∀c,(Value.slice G r I).ownBlock=some c->(w:Nat)+2<=c/\c < (wr:Nat):=U.lt;obtain⟨g,rfl,cA,a8⟩:=mh FT Tf;have He:=FT.η;rw[eJ _ _ _ hk]at He;have bz:af wr g k (.slice G r I):=Ub;have a1:af wr w 0 (zI v):=(J.cell Rs).t a0;refine Mh fun y2=>?_
   have bb:some w1.heap.size≠(Value.slice G r I).ownBlock:=fun e=>by
    rcases ie U Hh Qw with h1|h1
    .rw[h1]at e;cases e
    .exact h1 e.q
   have cO:g≠w1.heap.size:=fun e=>XJ
   have f0:=He.g k;have⟨HO,a3,HW,b3,b6,b4⟩:=ny FT U J Hh Hc hr;clear He FT U J Hh bg Hc hr;have c0:IntKind.i64.wrap (v+b)=v+b:=Rt;have bc:some g≠(Value.slice G r I).ownBlock:=by
    rcases gF HO.η a3 with h1|h1
    .cases h1
    .exact fun e=>h1 e
   have cn:some w.heap.size≠(Value.slice G r I).ownBlock:=fun e=>by have:=am _ e.q;omega
   have F:Below wr wr (wr.drew.alloc (.cells jz 3)):=(al _ _).drew.alloc (ae _) _;have⟨a4,Z⟩:=bJ (EU ((w:Nat)+2) r wr (v+b) (.slice G r I) (r.map (Value.int .i64)) (zI 0) (wr.drew.alloc (.cells jz 3)) (a3.ext F) Vq rfl (aH _ _ rfl) (fun e=>by have:=am _ e;omega) Qu ck Qu (by have:=HW.size;simp<;>omega)) F;have bu:=(ar F a1);have bv:=(ar F y2);have b0:=(ar F bz);have ce:=(i_ F f0 (ju bz));clear F;go_wp2_with fail
   go_region_held3 (fun w'=>af w' w 0 (zI v)/\af w' w1 2 (.slice (bH g) rows Ga))
    (first|(exact ch)|(exact⟨a1,y2⟩)|(exact⟨bu,bv⟩)|(refine⟨?_,?_⟩<;>(first|(refine(fu Rs).t ?_;assumption)|(refine(lQ Rs).t ?_;assumption))))
    ((go_at_call 277;refine a4.x ?_;rintro e av ⟨ad,ab,rfl,be,D,a8⟩;have f3:av.frozen? ⟨g,k,none⟩=false:=(zm1 D ce b0 bc);have cp:=Ģ D bu cn;have cq:=Ģ D bv bb;have ch:=aQ cp cq;clear a1 y2;have c5:=Ģ D b0 bc))
   have bd:aE av ((w:Nat)+2) (.slice (bH ad) (r.length+1) ab) (cT r (v+b).toNat 0):=by unfold aE;rw[show(cT r (v+b).toNat (0:Int)).length=r+1 from kQ _ _ _ Qu,show(cT r (v+b).toNat (0:Int)).map (Value.int .i64)=cT (r.map (Value.int .i64)) (v+b).toNat (zI 0) by simp[cT,List.map_take,List.map_drop]];exact be
   have an:=(HO.ext Z).put (eJ _ _ _ hk).q b6 D bd (fun b T=>by simp only[Value.ownBlock,dW]at T;subst T;exact a8);rw[jI (fun r=>cT r (v+b).toNat 0) rows k r b4]at an;have⟨HN,Hi,FZ⟩:=er an ((eX av ⟨g,k,none⟩ w1 (.slice (bH ad) (r.length+1) ab) Rs).t ((D.block w1 TY bb).t ((Z.block w1 To).t b3))) (lj (rY (HW.t (Z.x To)) D TY (fun b T=>(am b T).1)) (p:=⟨g,k,none⟩) Rs (.slice (bH ad) (r.length+1) ab));clear an bd be D a4;exact Yk
  .skip
   have ci:k=rows.length:=Qu;subst ci;rw[qi _ _ _ (ae _)]at FT;have O:=(J.block _ Qu).t b7;have ac:=bB Hh 1;have a5:=aK Hh 1;simp only[dA,dm]at ac;have⟨HO,HW,a2,cj⟩:=gG FT J Hh O;have c3:IntKind.i64.wrap (h+1)=h+1:=Rt;clear FT J Hh O a0 br;go_upto_region 8 with(fail)
   have ap:=bE wr w1 1 _ _ (zI (h+1)) a2;simp only[zA]at ap;have O:=(eX wr ⟨w1,1,none⟩ ((w:Nat)+1) (zI (h+1)) Rs).t cj;have bi:=HO.m9 a2 (j:=1) (u:=.int .i64 (h+1));have HO:=zH (show aY _ ((w:Nat)+2) _ _ from⟨_,bi⟩);have bh:=((b1.t (HW.x Qu)).setCell (p:=⟨w1,1,none⟩) Rs (zI (h+1)));have HE:=zH bh;clear bi bh;have⟨ac,a5,b9⟩:=cC ap;have⟨ca,cb,cc⟩:=cC O;have⟨cr,ct,cu⟩:=cd O;simp only[dA,dm]at ac a5 b9 ca cb cc;clear ap O;go_wp2;refine aI (v:=.agg (aA v (h+1) gA rows Ga)) (by simp[results,results276,go_sem, *]) rfl ⟨_,rfl,?_,?_⟩
   .exact Ym
   .exact X7
end Go.Proofs.YtpieilkmmiopfaaGreatDoor
