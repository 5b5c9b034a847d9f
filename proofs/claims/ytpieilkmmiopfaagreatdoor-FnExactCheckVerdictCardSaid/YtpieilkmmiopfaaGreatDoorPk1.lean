/- Parts of the walks. Conditions: as stated with each. -/
import Derived.Test.YtpieilkmmiopfaaGreatDoorMc
namespace Go.Proofs.YtpieilkmmiopfaaGreatDoor
open Go.RowKit Tryz
set_option linter.all false
set_option maxHeartbeats 1000000
variable{A:ax}{B b c k n:Nat}{P:jk}{Q:gZ}{W w w':aa}{a:Act}{args:gg}{o:h_}{ops:iI}{rest:List Oper}{rows:aP}{t:dL}{u v z:aG}{xs:aL}
def aO(w:aa)(A:ax)(xs:aL):Prop:=
 xs=[]∨∃b o,A=some ⟨b,o,none⟩/\∀k x,xs[k]?=some x->af w b (o+k) (zI x)
def bt(w:aa)(A:ax)(rows:aP):Prop:=
 rows=[]∨∃b o,A=some ⟨b,o,none⟩/\∀k r,rows[k]?=some r->∃h ε,af w b (o+k) (.slice h r.length ε)/\aO w h r
def Below.wy(h:Below B w w'){p}(D:w.cell? p=some v)(F:p.block<B):w'.cell? p=some v:=(h.cell F).t D
def ar(D:ag w w'){p}(h:w.cell? p=some v):w'.cell? p=some v:=Below.wy D h (jB w p h)
def i_(h:ag w w'){p}(D:w.frozen? p=false)(F:p.block < (w:Nat)):w'.frozen? p=false:=(h.frozen F).t D
def aO.ext(h:aO w A xs)(F:ag w w'):aO w' A xs:=by
 rcases h with h|⟨b,o,D,G⟩
 .exact ay h
 .exact au ⟨b,o,D,fun k x H=>ar F (G k x H)⟩
def bt.ext(h:bt w A rows)(D:ag w w'):bt w' A rows:=by
 rcases h with h|⟨b,o,I,J⟩
 .exact ay h
 .refine au ⟨b,o,I,fun k r O=>?_⟩;obtain⟨F,ε,G,H⟩:=J k r O;exact⟨F,ε,ar D G,H.ext D⟩
structure κ(w:aa) where
 W:World
 ok:ag w W
instance (w:aa):Nonempty (κ w):=⟨⟨w,al _ _⟩⟩
def aJ{a b}(h:ag w a)(k:ag a b):ag w b:=h.t (k.x h.size)
def zkC{x y}(F:ag W w')(h:bA W b #[x,y,z] t):af w' b 0 x/\af w' b 1 y/\af w' b 2 z/\w'.frozen? ⟨b,0,none⟩=false/\w'.frozen? ⟨b,1,none⟩=false/\w'.frozen? ⟨b,2,none⟩=false:=by have D:bA w' b #[x,y,z] t:=(F.block b (bk.1 h).1).t h;simp[World.cell?,World.frozen?,D]
def zkD{x y}(F:ag W w')(h:bA W b #[x,y,z,u,v] t):(af w' b 0 x/\af w' b 1 y/\af w' b 2 z/\af w' b 3 u/\af w' b 4 v)/\w'.frozen? ⟨b,0,none⟩=false/\w'.frozen? ⟨b,1,none⟩=false/\w'.frozen? ⟨b,2,none⟩=false/\w'.frozen? ⟨b,3,none⟩=false/\w'.frozen? ⟨b,4,none⟩=false:=by have D:bA w' b #[x,y,z,u,v] t:=(F.block b (bk.1 h).1).t h;simp[World.cell?,World.frozen?,D]
def aH(w:aa)o(h:n=(w:Nat)):(w.alloc o).heap[n]?=some o:=by subst h;show(w.heap.push o)[w.heap.size]?=_;simp
def bO(w:aa)o(h:k < (w:Nat)):(w.alloc o).heap[k]?=w.heap[k]?:=by
 show(w.heap.push o)[k]?=_
 rw[Array.getElem?_push,aj Qu]
def bU{id}{l}(G:P.follows .mixedOrders=true)(F:Region.lexB .any l.toArray=true)(h:wpQuiet P l.toArray (fun w'=>∃W:κ w,w'=W.W) (fun D=>∀w',(∃W:κ w,w'=W.W)->Q .normal D w') l a):(Code.region id l.toArray true).wp P Q a w:=wp_region_quiet (C:=fun w'=>∃W:κ w,w'=W.W) G F ⟨⟨_,(al _ _).drew⟩,rfl⟩ Q_
def pA{P}{ops}{C}{H}{Q}(F:∀a w,C w->H a->Q .normal a w):∀(l:List Oper) (a:Act) (w:aa),C w->wpQuiet P ops C H l a->wpList P ops Q l a w
 |[],a,w,D,h=>F a w D h
 |o::l,a,w,D,h=>by
  unfold wpQuiet at h;unfold wpList;split
  .rename_i G;rw[ak G]at h;exact ay (Oper.wp_of_quiet D (fun I w' O J=>pA F l I w' O J) h)
  .rename_i G;rw[aj G]at h;exact pA F l _ w D h
def dn{id}{l}(h:wpQuiet P l.toArray (fun w'=>∃W:κ w,w'=W.W) (fun D=>∀w',(∃W:κ w,w'=W.W)->Q .normal D w') l a):(Code.region id l.toArray false).wp P Q a w:=wp_region_lit (pA (C:=fun w'=>∃W:κ w,w'=W.W) (fun _ w' F h=>h w' F) l a w ⟨⟨w,al _ _⟩,rfl⟩ h)
def κ.cell(W:κ w){p}(h:w.cell? p=some v):W.W.cell? p=some v:=ar W.ok h
def κ.Φ{o}(W:κ (w.alloc o)):Below w w W.W:=aJ ((al _ _).alloc (ae _) _) W.ok
def Calls.fh{f}{W:κ w}(D:Calls P f args W.W fun e w'=>e=.returned v/\Below W.W W.W w'):Calls P f args W.W fun e H=>e=.returned v/\∃h:κ w,H=h.W:=D.x fun _ _ ⟨F,G⟩=>⟨F,⟨_,aJ W.ok G⟩,rfl⟩
def Calls.dj{f}{W:κ w}(D:Calls P f args W.W fun e w'=>e=.returned v/\W.W=w'):Calls P f args W.W fun e H=>e=.returned v/\∃h:κ w,H=h.W:=D.x fun _ _ ⟨F,G⟩=>⟨F,W,G.q⟩
def Calls.cg{f}{x y}(h:Calls P f args w fun e w'=>e=.returned (.bool x)/\w=w')(e:x=y):Calls P f args w fun e w'=>e=.returned (.bool y)/\w=w':=e ▸ h
def Calls.bl{f}{x y}(h:Calls P f args w (dt w x))(e:x=y):Calls P f args w (dt w y):=e ▸ h
def aN{a b}(h:a=b):Ending.returned (.bool a)=.returned (.bool b):=by rw[h]
def rl{a b}(h:a=b):Ending.returned (zI a)=.returned (zI b):=by rw[h]
def dG{h:Type}f(xs:List h)k x(D:xs[k]?=some x):(xs.take (k+1)).all f=((xs.take k).all f&&f x):=by rw[du,D];simp
def ξ{h:Type}f(xs:List h)(k:Nat)x(D:xs[k]?=some x)(F:f x=false):xs.all f=false:=by rw[List.all_eq_false];exact⟨x,aU D,by simp[F]⟩
def fZ{h:Type}f(xs:List h)k(D:(xs.take k).all f=true)(F:xs.length<=k):xs.all f=true:=by rwa[cZ F]at D
def aq{D:Type}{xs:List D}(h:k<xs.length):∃x,xs[k]?=some x:=⟨_,di h⟩
def aO.θ(h:aO w A xs)(D:k<xs.length):∃b o,A=some ⟨b,o,none⟩/\∀k x,xs[k]?=some x->af w b (o+k) (zI x):=by
 rcases h with h|h
 .simp[h]at D
 .exact h
def bt.θ(h:bt w A rows)(F:k<rows.length):∃b o,A=some ⟨b,o,none⟩/\∀k r,rows[k]?=some r->∃D ε,af w b (o+k) (.slice D r.length ε)/\aO w D r:=by
 rcases h with h|h
 .simp[h]at F
 .exact h
def eU(n lo hi:Int):Bool:=decide (lo<=n)&&decide (n<=hi)
def jY(p a:Int):Bool:=decide (0<=a)&&decide (a<p)
def jX(p:Int)(xs:aL)(n:Int):Bool:=decide ((xs:Int)=n)&&xs.all (jY p)
def vH(p:Int)(rows:aP)(n:Int):Bool:=rows.all fun r=>jX p r n
def bV(p:Int):Bool:=eU p 2 97&&[(2:Int),3,5,7].all fun q=>!(decide (p%q=0)&&decide (p≠q))
def ic(p v h:Int)(rows:aP):Bool:=bV p&&(eU v 0 24&&(eU h 0 100&&(decide (rows.length<=160)&&vH p rows (v+h))))
structure dZ(w:aa):Prop where
 c0:af w 0 0 (zI 2)
 c1:af w 0 1 (zI 3)
 c2:af w 0 2 (zI 5)
 c3:af w 0 3 (zI 7)
def dZ.ext(h:dZ w)(D:ag w w'):dZ w':=⟨ar D h.c0,ar D h.c1,ar D h.c2,ar D h.c3⟩
def dC n lo hi w:az 143 (gT n lo hi) w fun e w'=>e=.returned (.bool (eU n lo hi))/\w=w':=by
 unfold eU;by_cases h1:lo<=n<;>by_cases h2:n<=hi
 all_goals
  go_enter func143,ntmps143
  go_wp2;go_ret
  exact⟨Q9,rfl⟩
def aX n lo hi w:az 92 (gT n lo hi) w fun e w'=>e=.returned (.bool (eU n lo hi))/\w=w':=by
 unfold eU;by_cases h1:lo<=n<;>by_cases h2:n<=hi
 all_goals
  go_enter func92,ntmps92
  go_wp2;go_ret
  exact⟨Q9,rfl⟩
def mm p a w:az 131 (bC p a) w fun e w'=>e=.returned (.bool (jY p a))/\w=w':=by
 unfold jY;by_cases h1:0<=a<;>by_cases h2:a<p
 all_goals
  go_enter func131,ntmps131
  go_wp2;go_ret
  exact⟨Q9,rfl⟩
def jO(p n:Int)A ε xs w(D:aO w A xs)(O:xs.length<=maxLen):az 88 #[p,.slice A xs ε,n] w fun e w'=>e=.returned (.bool (jX p xs n))/\w=w':=by
 unfold maxLen at O;by_cases hn:(xs:Int)=n
 .have J:((xs:Int)!=n)=false:=QJ;have I:=zH hn;clear hn;go_enter func88,ntmps88
  go_wp2;go_loop [15] (fun i=>∃k:Nat,k<=xs.length/\i=.int .i64 k/\(xs.take k).all (jY p)=true) (fun i=>xs.length-(intOf i).toNat)
  case atStart=>exact⟨0,aW _,rfl,Qt⟩
  case round=>
   obtain⟨k,U,rfl,F⟩:=hrel;have Gi:=zH F;clear F;by_cases H:k<xs.length
   .have⟨x,h⟩:=aq H;obtain⟨b,o,rfl,G⟩:=D.θ H;have T:=G k x h;have Hx:=zH h;clear h G D;cases hf:jY p x
    .go_wp2_with (go_at_call 131;refine(mm _ _ _).x ?_;rintro e w' ⟨rfl,rfl⟩;rw[hf])
     go_ret
     exact⟨by rw[jX,ξ _ _ _ _ Hx.o hf];simp,rfl⟩
    .go_wp2_with (go_at_call 131;refine(mm _ _ _).x ?_;rintro e w' ⟨rfl,rfl⟩;rw[hf])
     exact Yx
   .go_wp2;go_ret
    exact⟨by rw[jX,<-I.o,fZ _ _ _ Gi.o Qu];simp,rfl⟩
 .have J:((xs:Int)!=n)=true:=QJ;go_enter func88,ntmps88
  go_wp2;go_ret
  exact⟨by simp[jX,hn],rfl⟩
def Et(p n:Int)A ε rows w(G:bt w A rows)(Y:rows.length<=maxLen)(T:∀r∈rows,r.length<=maxLen):az 144 #[p,.slice A rows ε,n] w fun e w'=>e=.returned (.bool (vH p rows n))/\w=w':=by
 unfold maxLen at Y;go_enter func144,ntmps144
 go_wp2;go_loop [11] (fun i=>∃k:Nat,k<=rows.length/\i=.int .i64 k/\(rows.take k).all (fun r=>jX p r n)=true) (fun i=>rows.length-(intOf i).toNat)
 case atStart=>exact⟨0,aW _,rfl,Qt⟩
 case round=>
  obtain⟨k,ad,rfl,H⟩:=hrel;have Gi:=zH H;by_cases O:k<rows.length
  .have⟨r,D⟩:=aq O;obtain⟨b,o,rfl,I⟩:=G.θ O;obtain⟨Z,ab,ac,J⟩:=I k r D;have U:=T r (aU D);have F:=zH D;cases h:jX p r n
   .go_wp2_with (go_at_call 88;refine(jO _ _ _ _ _ _ J U).x ?_;rintro e w' ⟨rfl,rfl⟩;rw[h])
    go_ret
    exact⟨aN (by rw[vH,ξ _ _ _ _ F.o h]),rfl⟩
   .go_wp2_with (go_at_call 88;refine(jO _ _ _ _ _ _ J U).x ?_;rintro e w' ⟨rfl,rfl⟩;rw[h])
    go_round
    case rel=>exact⟨k+1,Qu,Qx,by rw[dG _ _ _ _ F.o,Gi.o,h];rfl⟩
    case measure=>simp[intOf];omega
  .exact Xa
def nP(lo hi:Int)A ε xs w(D:aO w A xs)(I:xs.length<=maxLen):az 114 #[.slice A xs ε,lo,hi] w fun e w'=>e=.returned (.bool (xs.all fun x=>eU x lo hi))/\w=w':=by
 unfold maxLen at I;go_enter func114,ntmps114
 go_wp2;go_loop [11] (fun i=>∃k:Nat,k<=xs.length/\i=.int .i64 k/\(xs.take k).all (fun x=>eU x lo hi)=true) (fun i=>xs.length-(intOf i).toNat)
 case atStart=>exact⟨0,aW _,rfl,Qt⟩
 case round=>
  obtain⟨k,O,rfl,F⟩:=hrel;have Gi:=zH F;clear F;by_cases H:k<xs.length
  .have⟨x,h⟩:=aq H;obtain⟨b,o,rfl,G⟩:=D.θ H;have J:=G k x h;have Hx:=zH h;clear h G D;cases hf:eU x lo hi
   .go_wp2_with (go_at_call 92;refine(aX _ _ _ _).x ?_;rintro e w' ⟨rfl,rfl⟩;rw[hf])
    go_ret
    exact⟨aN (by rw[ξ _ _ _ _ Hx.o hf]),rfl⟩
   .go_wp2_with (go_at_call 92;refine(aX _ _ _ _).x ?_;rintro e w' ⟨rfl,rfl⟩;rw[hf])
    exact Yx
  .go_wp2;go_ret
   exact⟨aN (by rw[fZ _ _ _ Gi.o Qu]),rfl⟩
def sV(p:Int)A ε xs w(h:aO w A xs)(D:xs.length<=maxLen)(F:2<=p)(G:p<=97):az 78 #[p,.slice A xs ε] w fun e w'=>e=.returned (.bool (xs.all (jY p)))/\w=w':=by
 have e:∀x,eU x 0 (p-1)=jY p x:=fun x=>by
  unfold eU jY;congr 1
  exact AJ.2 Qu
 have E:=zH e;clear e;go_enter func78,ntmps78
 go_wp2_with (go_at_call 114;refine(nP _ _ _ _ _ _ h D).x ?_;rintro e w' ⟨rfl,rfl⟩)
 go_ret
 exact⟨aN (by congr 1;funext x;exact E.o x),rfl⟩
def ze4 p n A ε rows w(G:bt w A rows)(ad:rows.length<=maxLen)(T:∀r∈rows,r.length<=maxLen)(U:2<=p)(Y:p<=97):az 93 (aA p n A rows ε) w fun e w'=>e=.returned (.bool (vH p rows n))/\w=w':=by
 unfold maxLen at ad;go_enter func93,ntmps93
 go_wp2;go_loop [11] (fun i=>∃k:Nat,k<=rows.length/\i=.int .i64 k/\(rows.take k).all (fun r=>jX p r n)=true) (fun i=>rows.length-(intOf i).toNat)
 case atStart=>exact⟨0,aW _,rfl,Qt⟩
 case round=>
  obtain⟨k,ao,rfl,H⟩:=hrel;have Gi:=zH H;by_cases O:k<rows.length
  .have⟨r,D⟩:=aq O;obtain⟨b,o,rfl,I⟩:=G.θ O;obtain⟨ah,am,an,J⟩:=I k r D;have Z:=T r (aU D);have F:=zH D;by_cases hn:(r:Int)=n
   .have ac:((r:Int)!=n)=false:=QJ;have ab:=zH hn;cases h:r.all (jY p)
    .go_wp2_with (go_at_call 78;refine(sV _ _ _ _ _ J Z U Y).x ?_;rintro e w' ⟨rfl,rfl⟩;rw[h])
     go_ret
     exact⟨aN (by rw[vH,ξ _ _ _ _ F.o (by rw[jX,h];simp)]),rfl⟩
    .go_wp2_with (go_at_call 78;refine(sV _ _ _ _ _ J Z U Y).x ?_;rintro e w' ⟨rfl,rfl⟩;rw[h])
     go_round
     case rel=>exact⟨k+1,Qu,Qx,by rw[dG _ _ _ _ F.o,Gi.o,jX,h,ab.o];simp⟩
     case measure=>simp[intOf];omega
   .have ac:((r:Int)!=n)=true:=QJ;go_wp2;go_ret
    exact⟨aN (by rw[vH,ξ _ _ _ _ F.o (by rw[jX];simp[hn])]),rfl⟩
  .exact Xa
section
variable{p:Int}
def m6(p q:Int):Bool:=decide (p%q=0)&&decide (p≠q)
def tO k(D:k<4)(h:m6 p ([(2:Int),3,5,7].getD k 0)=true):bV p=false:=by
 unfold bV m6 at *;rw[Bool.and_eq_false_iff];right;rw[List.all_eq_false]
 match k,D with
 |0,_=>exact⟨2,Qt,Q_⟩
 |1,_=>exact⟨3,Qt,Q_⟩
 |2,_=>exact⟨5,Qt,Q_⟩
 |3,_=>exact⟨7,Qt,Q_⟩
def zdL(I:2<=p)(J:p<=97)(h:∀j,j<4->m6 p ([(2:Int),3,5,7].getD j 0)=false):bV p=true:=by have D:=h 0 Qu;have F:=h 1 Qu;have G:=h 2 Qu;have H:=h 3 Qu;simp only[m6,List.getD_cons_zero,List.getD_cons_succ]at D F G H;simp only[bV,eU,Ax,List.all_nil,D,F,G,H];simp[I,J]
def jj p w(H:dZ w):az 142 (bK p) w fun e w'=>e=.returned (.bool (bV p))/\w=w':=by
 obtain⟨I,c1,c2,J⟩:=H;by_cases O:p<2
 .exact Xw
 by_cases T:97<p
 .exact Xw
 go_enter func142,ntmps142
 go_wp2;have Y:∀w,(Instr.index 224 (.agg wS) (zI 0)).run prog w=.ok (zI 2) w:=fun _=>QT
 have Z:∀w,(Instr.index 224 (.agg wS) (zI 1)).run prog w=.ok (zI 3) w:=fun _=>QT
 have ab:∀w,(Instr.index 224 (.agg wS) (zI 2)).run prog w=.ok (zI 5) w:=fun _=>QT
 have ac:∀w,(Instr.index 224 (.agg wS) (zI 3)).run prog w=.ok (zI 7) w:=fun _=>QT
 go_loop [12] (fun i=>∃k:Nat,k<=4/\i=.int .i64 k/\∀j,j<k->m6 p ([(2:Int),3,5,7].getD j 0)=false) (fun i=>4-(intOf i).toNat)
 case atStart=>exact⟨0,Qu,rfl,fun j hj=>Qu⟩
 case round=>
  obtain⟨k,U,rfl,G⟩:=hrel;have Gi:=zH G;rcases(Qu:k=4∨k=0∨k=1∨k=2∨k=3)with rfl|rfl|rfl|rfl|rfl
  .go_wp2;go_ret
   exact⟨aN (by rw[zdL Qu Qu Gi]),rfl⟩
  .by_cases m:p%2=0
   .have D:(p%2==0)=true:=QA;by_cases e:p=2
    .have h:m6 p 2=false:=QY;have HB:=zH h;have F:(p !=2)=false:=QC;exact YZ
    .have F:(p !=2)=true:=QC;have h:m6 p 2=true:=Rw;have HB:=zH h;go_wp2;go_ret
     exact⟨aN (by rw[tO 0 Qu HB]),rfl⟩
   .have D:(p%2==0)=false:=QA;have h:m6 p 2=false:=QX;have HB:=zH h;exact YZ
  .by_cases m:p%3=0
   .have D:(p%3==0)=true:=QA;by_cases e:p=3
    .have h:m6 p 3=false:=QY;have HB:=zH h;have F:(p !=3)=false:=QC;exact YY
    .have F:(p !=3)=true:=QC;have h:m6 p 3=true:=Rw;have HB:=zH h;go_wp2;go_ret
     exact⟨aN (by rw[tO 1 Qu HB]),rfl⟩
   .have D:(p%3==0)=false:=QA;have h:m6 p 3=false:=QX;have HB:=zH h;exact YY
  .by_cases m:p%5=0
   .have D:(p%5==0)=true:=QA;by_cases e:p=5
    .have h:m6 p 5=false:=QY;have HB:=zH h;have F:(p !=5)=false:=QC;exact YX
    .have F:(p !=5)=true:=QC;have h:m6 p 5=true:=Rw;have HB:=zH h;go_wp2;go_ret
     exact⟨aN (by rw[tO 2 Qu HB]),rfl⟩
   .have D:(p%5==0)=false:=QA;have h:m6 p 5=false:=QX;have HB:=zH h;exact YX
  .by_cases m:p%7=0
   .have D:(p%7==0)=true:=QA;by_cases e:p=7
    .have h:m6 p 7=false:=QY;have HB:=zH h;have F:(p !=7)=false:=QC;exact YW
    .have F:(p !=7)=true:=QC;have h:m6 p 7=true:=Rw;have HB:=zH h;go_wp2;go_ret
     exact⟨aN (by rw[tO 3 Qu HB]),rfl⟩
   .have D:(p%7==0)=false:=QA;have h:m6 p 7=false:=QX;have HB:=zH h;exact YW
def FE:((List.range 98).all fun p=>(List.range 10).all fun k=>decide (p<2)||decide (k<2)||decide (p<k*k)||decide (p%k≠0)||!bV (p:Nat))=true:=Rq
def Cv:((List.range 98).all fun p=>(List.range 11).all fun k=>decide (p<2)||decide (k<2)||decide (k*k<=p)||((List.range k).any fun j=>decide (2<=j)&&decide (p%j=0))||bV (p:Nat))=true:=Rq
def FF p(D:p<98)k(F:k<10)(H:2<=p)(I:2<=k)(J:k*k<=p)(G:p%k=0):bV (p:Nat)=false:=by
 have:=eD.1 (eD.1 FE p (fj.2 D)) k (fj.2 F);simp only[jS,cf,uE]at this;rcases this with(((h|h)|h)|h)|h
 .omega
 .omega
 .omega
 .exact absurd G h
 .exact h
def Cw p(F:p<98)k(D:k<11)(I:2<=p)(J:2<=k)(O:p<k*k)(G:∀j,j<k->2<=j->p%j≠0):bV (p:Nat)=true:=by
 have:=eD.1 (eD.1 Cv p (fj.2 F)) k (fj.2 D);simp only[jS,cf,nl,bN,fj]at this;rcases this with(((h|h)|h)|⟨j,H,D,h⟩)|h
 .omega
 .omega
 .omega
 .exact absurd h (G j H D)
 .exact h
def zhJ{k}(F:2<=p)(G:p<=97)(H:2<=k)(I:k<=9)(h:k*k<=p)(D:p%k=0):bV p=false:=by obtain⟨p,rfl⟩:=iz (Qu:0<=p);obtain⟨k,rfl⟩:=iz (Qu:0<=k);exact FF p Qu k Qu Qu Qu (by exact_mod_cast h) (by exact_mod_cast D)
def zdM{k}(F:2<=p)(G:p<=97)(H:2<=k)(I:k<=10)(h:p<k*k)(D:∀j,2<=j->j<k->p%j≠0):bV p=true:=by
 obtain⟨p,rfl⟩:=iz (Qu:0<=p);obtain⟨k,rfl⟩:=iz (Qu:0<=k);exact Cw p Qu k Qu Qu Qu (by exact_mod_cast h) fun j J O=>by
  have:=D j Qu Qu
  exact_mod_cast this
def zmH{k:Int}(D:2<=k)(F:k<=10):0<=k*k/\k*k<=100/\(k=10->k*k=100):=by obtain⟨k,rfl⟩:=iz (Qu:0<=k);have h:k<11:=Qu;have:∀k,k<11->k*k<=100:=Qw;have:=this k h;refine⟨Qu,by exact_mod_cast this,fun e=>?_⟩;obtain rfl:k=10:=Qu;rfl
def kr p w:az 91 (bK p) w fun e w'=>e=.returned (.bool (bV p))/\w=w':=by
 cases hi:eU p 2 97
 .go_enter func91,ntmps91
  go_wp2_with (go_at_call 92;refine(aX _ _ _ _).x ?_;rintro e w' ⟨rfl,rfl⟩;rw[hi])
  go_ret
  exact⟨aN (by rw[bV,hi];rfl),rfl⟩
 have Z:2<=p/\p<=97:=Si;obtain⟨J,O⟩:=Z;go_enter func91,ntmps91
 go_wp2_with (go_at_call 92;refine(aX _ _ _ _).x ?_;rintro e w' ⟨rfl,rfl⟩;rw[hi])
 go_loop [3] (fun i=>∃k:Int,2<=k/\k<=10/\i=.int .i64 k/\∀j,2<=j->j<k->p%j≠0) (fun i=>10-(intOf i).toNat)
 case atStart=>exact⟨2,Qu,Qu,rfl,fun j _ _=>Qu⟩
 case round=>
  obtain⟨k,D,I,rfl,H⟩:=hrel;have G:=zH H;have⟨ac,ad,F⟩:=zmH D I;by_cases ab:k*k<=p
  .have Y:k<=9:=by
    rcases(Qu:k<=9∨k=10)with h|h
    .exact h
    .have:=F h;omega
   by_cases m:p%k=0
   .have T:(p%k==0)=true:=QA;have M:=zH m;go_wp2;go_ret
    exact⟨aN (by rw[zhJ J O D Y ab M.o]),rfl⟩
   .have T:(p%k==0)=false:=QA;have M:=zH m;go_wp2;go_round
    case rel=>exact⟨k+1,Qu,Qu,Qx,fun j a b=>by
     by_cases U:j<k
     .exact G j a U
     .obtain rfl:j=k:=Qu;exact M.o⟩
    case measure=>simp[intOf];omega
  .go_wp2;go_ret
   exact⟨aN (by rw[zdM J O D I Qu G]),rfl⟩
end
def oW v h D w(H:0<=v)(I:v<=1000)(F:0<=h)(G:h<=1000):az 64 (cY (en v h D)) w fun e w'=>e=.returned (zI (v+h))/\ag w w':=by
 go_enter func64,ntmps64
 go_wp2;go_ret
 exact⟨rfl,(al _ _).alloc (ae _) _⟩
def zbo p v h A ε rows w(D:dZ w)(G:bt w A rows)(U:rows.length<=maxLen)(Y:∀r∈rows,r.length<=maxLen):az 99 (gj p (aA v h A rows ε)) w (dt w (ic p v h rows)):=by
 have ab:∀W:κ (w.alloc (.cells (aA v h A rows ε) 57)),af W.W w 0 (zI v):=fun W=>W.cell Qt
 have ac:∀W:κ (w.alloc (.cells (aA v h A rows ε) 57)),af W.W w 1 (zI h):=fun W=>W.cell Qt
 have ad:∀W:κ (w.alloc (.cells (aA v h A rows ε) 57)),af W.W w 2 (.slice A rows ε):=fun W=>W.cell Qt
 have F:∀W:κ (w.alloc (.cells (aA v h A rows ε) 57)),dZ W.W:=fun W=>D.ext W.Φ
 have H:∀W:κ (w.alloc (.cells (aA v h A rows ε) 57)),bt W.W A rows:=fun W=>G.ext W.Φ
 have⟨HP,J⟩:=bJ F H;clear D G F H;cases hf:bV p
 .go_enter func99,ntmps99
  go_wp2;refine bU QT QT ?_
  repeat (go_big_quiet_step ((go_at_call 142;exact Calls.dj (v:=.bool false) T5)))
  refine Py fun W=>?_
  go_ret
  exact⟨aN (by rw[ic,hf];rfl),W.Φ⟩
 cases hv:eU v 0 24
 .go_enter func99,ntmps99
  go_wp2;refine bU QT QT ?_
  repeat (go_big_quiet_step (first|(go_at_call 142;exact Calls.dj (v:=.bool true) T5)|(go_at_call_of 143 v;exact Calls.dj (v:=.bool false) TM)))
  refine Py fun W=>?_
  go_ret
  exact⟨aN (by rw[ic,hf,hv];rfl),W.Φ⟩
 cases hh:eU h 0 100
 .go_enter func99,ntmps99
  go_wp2;refine bU QT QT ?_
  repeat (go_big_quiet_step (first|(go_at_call 142;exact Calls.dj (v:=.bool true) T5)|(go_at_call_of 143 v;exact Calls.dj (v:=.bool true) TM)|(go_at_call_of 143 h;exact Calls.dj (v:=.bool false) TL)))
  refine Py fun W=>?_
  go_ret
  exact⟨aN (by rw[ic,hf,hv,hh];rfl),W.Φ⟩
 obtain⟨v1,v2⟩:0<=v/\v<=24:=by simpa[eU]using hv
 obtain⟨O,Z⟩:0<=h/\h<=100:=by simpa[eU]using hh
 by_cases I:rows.length<=160
 .have T:decide ((rows:Int)<=160)=true:=QW;go_enter func99,ntmps99
  go_wp2;refine bU QT QT ?_
  repeat (go_big_quiet_step (first|(go_at_call 142;exact Calls.dj (v:=.bool true) T5)|(go_at_call_of 143 v;exact Calls.dj (v:=.bool true) TM)|(go_at_call_of 143 h;exact Calls.dj (v:=.bool true) TL)|(go_at_call 64;exact Calls.fh (oW v h _ _ v1 Qu O Qu))|(go_at_call 144;exact Calls.dj (Et _ _ _ _ _ _ (J.o _) U Y))))
  refine Py fun W=>?_
  go_ret
  exact⟨aN (by simp[ic,hf,hv,hh,I]),W.Φ⟩
 .have T:decide ((rows:Int)<=160)=false:=QW;go_enter func99,ntmps99
  go_wp2;refine bU QT QT ?_
  repeat (go_big_quiet_step (first|(go_at_call 142;exact Calls.dj (v:=.bool true) T5)|(go_at_call_of 143 v;exact Calls.dj (v:=.bool true) TM)|(go_at_call_of 143 h;exact Calls.dj (v:=.bool true) TL)))
  refine Py fun W=>?_
  go_ret
  exact⟨aN (by simp[ic,I]),W.Φ⟩
def yf p v h A ε rows w(G:bt w A rows)(J:rows.length<=maxLen)(O:∀r∈rows,r.length<=maxLen):az 58 (gj p (aA v h A rows ε)) w (dt w (ic p v h rows)):=by
 have U:=G.ext ((al w w).alloc (ae _) (.cells (aA v h A rows ε) 57));clear G;have D:=(al w w).alloc (ae _) (.cells (aA v h A rows ε) 57);cases hf:bV p
 .go_enter func58,ntmps58
  go_wp2_with ((go_at_call 91;refine(Calls.cg (kr _ _) hf).x ?_;rintro e w' ⟨rfl,rfl⟩))
  go_ret
  exact⟨aN (by rw[ic,hf];rfl),D⟩
 cases hv:eU v 0 24
 .go_enter func58,ntmps58
  go_wp2_with (first|(go_at_call 91;refine(Calls.cg (kr _ _) hf).x ?_;rintro e w' ⟨rfl,rfl⟩)|(go_at_call_of 92 v;refine(Calls.cg (aX _ _ _ _) hv).x ?_;rintro e w' ⟨rfl,rfl⟩))
  go_ret
  exact⟨aN (by rw[ic,hf,hv];rfl),D⟩
 cases hh:eU h 0 100
 .go_enter func58,ntmps58
  refine Ot ?_;go_ret
  exact⟨aN (by rw[ic,hf,hv,hh];rfl),D⟩
 obtain⟨T,p2⟩:2<=p/\p<=97:=by have F:=hf;unfold bV at F;rw[bN]at F;simpa[eU]using F.1
 obtain⟨v1,v2⟩:0<=v/\v<=24:=by simpa[eU]using hv
 obtain⟨Y,Z⟩:0<=h/\h<=100:=by simpa[eU]using hh
 by_cases H:rows.length<=160
 .have I:decide ((rows:Int)<=160)=true:=QW;go_enter func58,ntmps58
  go_wp2_with (first|(go_at_call 91;refine(Calls.cg (kr _ _) hf).x ?_;rintro e w' ⟨rfl,rfl⟩)|(go_at_call_of 92 v;refine(Calls.cg (aX _ _ _ _) hv).x ?_;rintro e w' ⟨rfl,rfl⟩)|(go_at_call_of 92 h;refine(Calls.cg (aX _ _ _ _) hh).x ?_;rintro e w' ⟨rfl,rfl⟩)|(go_at_call 93;refine(ze4 _ _ _ _ _ _ U J O T p2).x ?_;rintro e w' ⟨rfl,rfl⟩))
  go_ret
  exact⟨aN (by simp[ic,hf,hv,hh,H]),D⟩
 .have I:decide ((rows:Int)<=160)=false:=QW;go_enter func58,ntmps58
  refine Ot ?_;go_ret
  exact⟨aN (by simp[ic,H]),D⟩
def EX{h:Type}{xs:List h}{x}(D:xs[k]?=some x):xs.zipIdx[k]?=some (x,k):=by rw[zck,D];simp
def eI v h a A n ε w(F:n<=maxLen):az 247 (jy (eO v h A n ε) a) w fun e w'=>e=.returned (.bool (eU a 0 ((n:Int)-1)))/\ag w w':=by
 unfold maxLen at F;have D:=(al w w).alloc (ae _) (.cells (eO v h A n ε) 57);go_enter func247,ntmps247
 go_wp2_with (go_at_call 143;refine(dC _ _ _ _).x ?_;rintro e w' ⟨rfl,rfl⟩)
 go_ret
 exact⟨rfl,D⟩
def mq v h b D w(G:0<=h)(H:h<=100):az 269 (jy (en v h D) b) w (dt w (eU b 0 (h-1))):=by
 have F:=(al w w).alloc (ae _) (.cells (en v h D) 57);go_enter func269,ntmps269
 go_wp2_with (go_at_call 143;refine(dC _ _ _ _).x ?_;rintro e w' ⟨rfl,rfl⟩)
 go_ret
 exact⟨rfl,F⟩
def te(rows:aP)(c:Nat)(h:Int):Bool:=rows.zipIdx.all fun x=>decide ((x.2:Int)=h)||decide (x.1.getD c 0=0)
def EY(v D b h:Int)A ε rows w(F:bt w A rows)(ao:rows.length<=maxLen)(bd:0<=v)(be:v<=24)(a9:D<=100)(a5:0<=b)(a6:b<D)(ac:∀r∈rows,(r.length:Int)=v+D):az 270 #[.agg (aA v D A rows ε),b,h] w (dt w (te rows (v+b).toNat h)):=by
 unfold maxLen at ao;have J:=(al w w).alloc (ae _) (.cells (aA v D A rows ε) 57)
 replace F:=F.ext J
 go_enter func270,ntmps270
 go_wp2;go_loop [12] (fun i=>∃k:Nat,k<=rows.length/\i=.int .i64 k/\(rows.zipIdx.take k).all (fun x=>decide ((x.2:Int)=h)||decide (x.1.getD (v+b).toNat 0=0))=true) (fun i=>rows.length-(intOf i).toNat)
 case atStart=>exact⟨0,aW _,rfl,Qt⟩
 case round=>
  obtain⟨k,bc,rfl,U⟩:=hrel;have H:=zH U;clear U;by_cases ad:k<rows.length
  .have⟨r,G⟩:=aq ad;obtain⟨a2,o,rfl,Y⟩:=F.θ ad;obtain⟨a0,a3,a7,ab⟩:=Y k r G;have av:=ac r (aU G);have ah:(v+b).toNat<r.length:=Qu;have⟨x,O⟩:=aq ah;obtain⟨a1,bg,rfl,Z⟩:=ab.θ ah;have a8:=Z _ _ O;have⟨I,T⟩:=bJ (EX G) O;clear G Y ac F ab Z O;have ba:0<=v+b:=Qu;have bb:v+b < (r:Int):=Qu;clear av;by_cases hn:(k:Int)=h
   .have ap:((k:Int)!=h)=false:=QJ;have an:=zH hn;clear hn;go_wp2;go_round
    case rel=>exact⟨k+1,Qu,Qx,by rw[dG _ _ _ _ I.o,H.o];simp[an.o]⟩
    case measure=>simp[intOf];omega
   .have ap:((k:Int)!=h)=true:=QJ;by_cases h0:x=0
    .subst h0;go_wp2;go_round
     case rel=>exact⟨k+1,Qu,Qx,by rw[dG _ _ _ _ I.o,H.o];simp[T.o]⟩
     case measure=>simp[intOf];omega
    .have a4:(x !=0)=true:=QL;have am:=zH h0;clear h0;go_wp2;go_ret
     exact⟨aN (by rw[te,ξ _ _ _ _ I.o (by simp[hn,T.o,am.o])]),J⟩
  .go_wp2;go_ret
   exact⟨aN (by rw[te,fZ _ _ _ H.o QW]),J⟩
def rC(xs:aL):Nat:=(xs.takeWhile (fun x=>decide (x=0))).length
def zfx{x}(D:(xs.take k).all (fun x=>decide (x=0))=true)(h:xs[k]?=some x)(F:x≠0):rC xs=k:=by
 induction xs generalizing k with
 |nil=>simp at h
 |cons y ys ih=>
  cases k with
  |zero=>simp at h;subst h;simp[rC,F]
  |succ k=>
   simp only[w_,Ax,bN,cf]at D;have:=ih D.2 (by simpa using h);simp[rC,D.1]at this ⊢;exact this
def za7(h:xs.all (fun x=>decide (x=0))=true):rC xs=xs.length:=by
 induction xs with
 |nil=>rfl
 |cons y ys ih=>
  simp only[Ax,bN,cf]at h;have:=ih h.2;simp[rC,h.1]at this ⊢;exact this
def zmI xs:rC xs<=xs.length:=(List.takeWhile_prefix _).length_le
def zhW(e:rC xs=xs.length):xs.all (fun x=>decide (x=0))=true:=by
 induction xs with
 |nil=>rfl
 |cons y ys ih=>
  by_cases h:y=0
  .have:rC ys=ys.length:=by simpa[rC,h]using e
   simp only[Ax,h,ih this];rfl
  .simp[rC,h]at e
def zjP xs:((rC xs:Int)==(xs:Int))=xs.all (fun x=>decide (x=0)):=by
 cases h:xs.all (fun x=>decide (x=0))
 .rw[beq_eq_false_iff_ne];intro e;rw[zhW Qu]at h;cases h
 .rw[pT,za7 h]
def zdX A ε xs w(G:aO w A xs)(T:xs.length<=maxLen):az 185 (aV A xs ε) w fun e w'=>e=.returned (zI (rC xs))/\w=w':=by
 unfold maxLen at T;go_enter func185,ntmps185
 go_wp2;go_loop [7] (fun i=>∃k:Nat,k<=xs.length/\i=.int .i64 k/\(xs.take k).all (fun x=>decide (x=0))=true) (fun i=>xs.length-(intOf i).toNat)
 case atStart=>exact⟨0,aW _,rfl,Qt⟩
 case round=>
  obtain⟨k,Z,rfl,H⟩:=hrel;have h:=zH H;clear H;by_cases J:k<xs.length
  .have⟨x,D⟩:=aq J;obtain⟨b,o,rfl,I⟩:=G.θ J;have Y:=I k x D;have F:=zH D;clear D I G;by_cases h0:x=0
   .subst h0;go_wp2;go_round
    case rel=>exact⟨k+1,Qu,Qx,by rw[dG _ _ _ _ F.o,h.o];rfl⟩
    case measure=>simp[intOf];omega
   .have U:(x !=0)=true:=QL;have O:=zH h0;clear h0;go_wp2;go_ret
    exact⟨rl (by rw[zfx h F O]),rfl⟩
  .go_wp2;go_ret
   exact⟨rl (by rw[za7 (fZ _ _ _ h Qu)]),rfl⟩
def uX(xs:aL):Bool:=xs.all fun x=>decide (x=0)
def EZ A ε xs w(h:aO w A xs)(D:xs.length<=maxLen):az 186 (aV A xs ε) w fun e w'=>e=.returned (.bool (uX xs))/\w=w':=by
 have E:=zH (zjP xs);go_enter func186,ntmps186
 go_wp2_with (go_at_call 185;refine(zdX _ _ _ _ h D).x ?_;rintro e w' ⟨rfl,rfl⟩)
 go_ret
 exact⟨aN (by rw[uX,<-E.o]),rfl⟩
def vQ(xs:aL)(a:Int):Bool:=xs.zipIdx.all fun x=>decide ((x.2:Int)=a)==decide (x.1≠0)
def zdY(a:Int)A ε xs w(G:aO w A xs)(O:xs.length<=maxLen):az 137 #[.slice A xs ε,a] w fun e w'=>e=.returned (.bool (vQ xs a))/\w=w':=by
 unfold maxLen at O;go_enter func137,ntmps137
 go_wp2;go_loop [9] (fun i=>∃k:Nat,k<=xs.length/\i=.int .i64 k/\(xs.zipIdx.take k).all (fun x=>decide ((x.2:Int)=a)==decide (x.1≠0))=true) (fun i=>xs.length-(intOf i).toNat)
 case atStart=>exact⟨0,aW _,rfl,Qt⟩
 case round=>
  obtain⟨k,U,rfl,H⟩:=hrel;have Gi:=zH H;clear H;by_cases J:k<xs.length
  .have⟨x,F⟩:=aq J;obtain⟨b,o,rfl,I⟩:=G.θ J;have T:=I k x F;have Hx:=zH (EX F);clear F I G;by_cases hn:(k:Int)=a<;>by_cases h0:x=0
   .have D:((k:Int)==a)=true:=QJ;have h:(x !=0)=false:=QL;exact Yw
   .have D:((k:Int)==a)=true:=QJ;have h:(x !=0)=true:=QL;exact YV
   .have D:((k:Int)==a)=false:=QJ;have h:(x !=0)=false:=QL;exact YV
   .have D:((k:Int)==a)=false:=QJ;have h:(x !=0)=true:=QL;exact Yw
  .go_wp2;go_ret
   exact⟨aN (by rw[vQ,fZ _ _ _ Gi.o QW]),rfl⟩
def gD:(prog.info? 3).map (fun i=>(i.zero,i.size,i.bytes))=some (some (.int .i64 0),1,8):=QT
def aE(w:aa)(B:Nat)(v:aG)(xs:aL):Prop:=w.ownsRow B 3 1 v xs.length (xs.map (Value.int .i64))
def aE.p(h:aE w B v xs):∃A ε,v=.slice A xs ε/\aO w A xs/\xs.length<=ε/\ε<=maxLen:=by
 have F:=fun g=>oz h (g:=g)
 obtain⟨H,D⟩:=h;rcases D with⟨rfl,hn⟩|⟨g,ε,G,rfl,I,J,hn,hm,O⟩
 .exact WH
 .refine MG fun k x hk=>?_
  have:=F g rfl k (zI x) (by rw[bI,hk];rfl);have e:(⟨g,0,none⟩:dM).add k=⟨g,0+k,none⟩:=by unfold Addr.add;split<;>simp_all
  rwa[e]at this
def aE.nil w B:aE w B (.slice none 0 0) []:=rT _ _ _ _
def aE.ext(D:aE w B v xs)(h:ag w w'):aE w' B v xs:=by refine jA D (row:=none) ⟨h.os,h.tape,h.output,h.size,fun k F _=>h.block k F⟩ ?_;cases v.ownBlock<;>simp
def qm(J:o.guard=none)s x(O:o.op=.call {callee:=.builtin .append,args:=#[s,x],argTypes:=#[26,26]})B(W:aa)v xs y(U:a.eval s=v)(Y:a.eval x=.slice (bH W) 1 1)(F:aE W B v xs)(ah:xs.length+1<=1099511627776)(I:B<=(W:Nat))(H:∀D w',aE w' B D (xs++[y])->W.grownBy w' v.ownBlock->Below B W w'->wpList prog ops Q rest (a.put o.dst D) w'):wpList prog ops Q (o::rest) a (W.alloc (.cells (bK y) 3)):=by
 have⟨ad,hi,Z,ab,ac⟩:=dp gD;have T:=nm F (.cells (bK y) 3);refine C6 _ J s x 26 O B 3 ad (zI 0) 1 8 dR hi Z ab ac rfl Qw v _ _ U T ⟨W,0,none⟩ 1 1 [.int .i64 y] Y rfl ?_ ?_ ?_ ?_ ?_ ?_
 .intro j u h
  match j,h with
  |0,h=>simp at h;subst h;simp[Addr.add]
  |j+1,h=>simp at h
 .intro u G;simp at G;subst G;rfl
 .unfold maxLen;omega
 .omega
 .simp;omega
 .intro D w' J_ Gx _;refine Pc fun hg=>?_
  refine H D w' Ta hg ?_;exact(al _ _).grown hg I fun k hk=>(bS F k hk).1
def jL(rows:aP)(c:Nat):List Int:=rows.map fun r=>r.getD c 0
def Fj{r}{x}(h:rows[k]?=some r)(D:r[c]?=some x):(jL rows c).take (k+1)=(jL rows c).take k++[x]:=by rw[du];simp[jL,h,D]
def zke rows c k(h:k<=rows.length):((jL rows c).take k).length=k:=by simp[jL];omega
def yI v h b A ε rows w(J:bt w A rows)(bb:rows.length<=1000)(bc:0<=v)(bd:v<=24)(a8:h<=100)(a4:0<=b)(a5:b<h)(Y:∀r∈rows,(r.length:Int)=v+h):az 138 (jy (aA v h A rows ε) b) w fun e w'=>∃u,e=.returned u/\aE w' ((w:Nat)+1) u (jL rows (v+b).toNat)/\ag w w':=by
 have⟨bn,hi,bg,bh,bi⟩:=dp gD;have I:=(al w w).alloc (ae _) (.cells (aA v h A rows ε) 57);go_enter func138,ntmps138
 go_wp2;go_loopw [5,11] (fun u i wr=>∃k:Nat,k<=rows.length/\i=.int .i64 k/\aE wr ((w:Nat)+1) u ((jL rows (v+b).toNat).take k)/\Below ((w:Nat)+1) (w.alloc (.cells (aA v h A rows ε) 57)) wr)
  (fun _ i _=>rows.length-(intOf i).toNat)
 case atStart=>exact⟨0,aW _,rfl,S_,al _ _⟩
 case round=>
  obtain⟨k,an,rfl,ac,D⟩:=hrel;have H:=zH ac;clear ac;have be:af wr w 0 (zI v):=(D.cell (p:=⟨w,0,none⟩) Qt).t Qt;by_cases Z:k<rows.length
  .have⟨r,F⟩:=aq Z;have am:ag w wr:=I.t (D.x Qu);obtain⟨a2,o,rfl,O⟩:=(J.ext am).θ Z;obtain⟨a0,a3,a6,U⟩:=O k r F;have ap:=Y r (aU F);have ab:(v+b).toNat<r.length:=Qu;have⟨x,G⟩:=aq ab;obtain⟨a1,bo,rfl,T⟩:=U.θ ab;have a7:=T _ _ G;have ad:=zH (Fj F G);clear F O Y J U T G;have a9:0<=v+b:=Qu;have ba:v+b < (r:Int):=Qu;clear ap;have HL:=zH (zke rows (v+b).toNat k an);have av:=D.size;simp only[dV]at av;go_wp2_with ((at_builtin;refine qm rfl _ _ rfl _ wr _ _ _ rfl rfl H.o RK Qu ?_;intro bp bq ao _ ah))
   go_roundw
   case rel=>exact⟨k+1,Qu,Qx,by rw[ad.o];exact ao,D.t ah⟩
   case measure=>simp[intOf];omega
  .go_wp2;go_ret
   exact⟨_,rfl,by have h:=H.o;rwa[cZ (by simp[jL];omega)]at h,I.t (D.x Qu)⟩
def iZ D t ty e i size(h:P.underlying t=some (.slice e))(hi:P.info? e=some i)v n c xs(G:w.ownsRow D e size v n xs):(Builtin.append_ #[t,t] ty #[v,.slice none 0 c]).run P w=.ok v w:=by
 rcases G.2 with⟨rfl,rfl⟩|⟨g,ε,H,rfl,_,_,F,_⟩
 .simp[Builtin.append_,rZ h,sizeOf,typeInfo,hi,Builtin.lenOf,Builtin.firstCells]
 .simp[Builtin.append_,rZ h,sizeOf,typeInfo,hi,Builtin.lenOf,Builtin.firstCells,F,storeCells]
def dF b o j:(⟨b,o,none⟩:dM).add j=⟨b,o+j,none⟩:=by unfold Addr.add;split<;>simp_all
def ts(F:o.guard=none)s x(H:o.op=.call {callee:=.builtin .append,args:=#[s,x],argTypes:=#[26,26]})B W v(xs ys:aL)A c(I:a.eval s=v)(hx:a.eval x=.slice A ys c)(FT:aE W B v xs)(Ha:aO W A ys)(ac:xs.length+ys<=1099511627776)(O:B<=(W:Nat))(h:∀D w',aE w' B D (xs++ys)->W.grownBy w' v.ownBlock->Below B W w'->wpList prog ops Q rest (a.put o.dst D) w'):wpList prog ops Q (o::rest) a W:=by
 have⟨i0,hi,Y,Z,ab⟩:=dp gD;cases A with
 |none=>
  have hy:ys=[]:=Wq;subst hy;refine l7 F fun K hK=>?_
  refine MZ fun J9 hx=>?_
  simp[execOp,H,resolve,invoke,builtin,I,hx,J9,Result.andThen];exact hK _ _ (h v W RJ ⟨rfl,rfl,rfl,ae _,fun _ _ _=>rfl⟩ (al _ _))
 |some J=>
  refine C6 _ F s x 26 H B 3 i0 (zI 0) 1 8 dR hi Y Z ab rfl Qw v _ _ I FT J ys c (ys.map (Value.int .i64)) hx Qt ?_ ?_ ?_ ?_ ?_ ?_
  .exact YH
  .intro u U;obtain⟨y,_,rfl⟩:=cH.1 U;rfl
  .unfold maxLen;omega
  .omega
  .omega
  .intro D w' J_ G _;exact h D w' Ta G ((al _ _).grown G O fun k T=>(bS FT k T).1)
def aE.lit(W:aa)B(h:B<=(W:Nat)):aE (W.alloc (.cells #[] 3)) B (.slice (bH W) 0 0) []:=Db W #[] 0 h Qw rfl
def qg A ε xs w(D:aO w A xs)(H:xs.length<=1099511627776):az 71 (aV A xs ε) w fun e w'=>∃u,e=.returned u/\aE w' w u xs/\ag w w':=by
 have h:=(al w w).alloc (ae _) (.cells #[] 3);have F:=D.ext h;go_enter func71,ntmps71
 go_wp2_with ((at_builtin;refine ts rfl _ _ rfl w _ _ [] xs A ε rfl rfl (aE.lit _ _ (ae _)) F (by simpa using H) Qt ?_;intro J O I _ G))
 go_ret
 exact⟨_,rfl,I,h.t G⟩
def iR A ε xs w(D:aO w A xs)(H:xs.length<=1099511627776):az 70 (aV A xs ε) w fun e w'=>∃u,e=.returned u/\aE w' w u xs/\ag w w':=by
 have h:=(al w w).alloc (ae _) (.cells #[] 3);have F:=D.ext h;go_enter func70,ntmps70
 go_wp2_with ((at_builtin;refine ts rfl _ _ rfl w _ _ [] xs A ε rfl rfl (aE.lit _ _ (ae _)) F (by simpa using H) Qt ?_;intro J O I _ G))
 go_ret
 exact⟨_,rfl,I,h.t G⟩
def jn n:(madeCells (Value.int .i64 0).cells (n*1)).toList=(List.replicate n (0:Int)).map (Value.int .i64):=YR
def cy(h:w.grownBy w' none):ag w w':=⟨h.os,h.tape,h.output,h.size,fun k D=>h.block k D Qt⟩
def kO(n:Nat)w(I:n<=1099511627776):az 98 (bK n) w fun e w'=>∃u,e=.returned u/\aE w' w u (List.replicate n 0)/\ag w w':=by
 have⟨H,hi,F,G,FU⟩:=dp gD;go_enter func98,ntmps98
 go_wp2_with ((at_make;refine jg _ rfl _ _ 26 rfl w.heap.size 3 H (zI 0) 1 dR hi F G .i64 .i64 n n n rfl rfl rfl rfl RF SL (ae _) ?_;intro J h D))
 go_ret
 refine⟨_,rfl,?_,cy D⟩;rw[jn]at h;simpa[aE]using h
def eF{h:Type}(xs:List h)(z:h)(k:Nat):List h:=xs.take k++List.replicate (xs.length-k) z
def iP{h:Type}(xs:List h)(z:h):eF xs z 0=List.replicate xs z:=by simp[eF]
def jo{h:Type}(xs:List h)(z:h)(k:Nat)(D:xs.length<=k):eF xs z k=xs:=by simp[eF,cZ D];omega
def lD{h:Type}(xs:List h)(z:h)(k:Nat)(D:k<xs.length):(eF xs z k)[k]?=some z:=by rw[eF,fi QW,fI,ak QW]
def jq{D:Type}(xs:List D)(z x:D)(k:Nat)(h:xs[k]?=some x):(eF xs z k).set k x=eF xs z (k+1):=by have H:k<xs.length:=(bG.1 h).1;unfold eF;rw[om _ _ QW,du,h];have F:xs.length-k=(xs.length-(k+1))+1:=Qu;have G:k-(xs.take k).length=0:=QW;rw[F,G,C7,rO];simp
def DH A ε xs w(J:aO w A xs)(av:xs.length<=1099511627776):az 28 (aV A xs ε) w fun e w'=>∃u,e=.returned u/\aE w' w u xs/\ag w w':=by
 have⟨ah,hi,ac,ad,FU⟩:=dp gD;go_enter func28,ntmps28
 go_wp2_with ((at_make;refine jg _ rfl _ _ 26 rfl w.heap.size 3 ah (zI 0) 1 dR hi ac ad .i64 .i64 xs.length xs.length xs.length rfl rfl rfl rfl RF SL (ae _) ?_;intro a0 h Y))
 rw[jn,<-iP]at h;have T:=cy Y;have I:=zH h;clear h Y;go_loopw [4] (fun i wr=>∃k:Nat,k<=xs.length/\i=.int .i64 k/\wr.ownsRow w 3 1 (.slice (bH w) xs xs) xs ((eF xs 0 k).map (Value.int .i64))/\ag w wr)
  (fun i _=>xs.length-(intOf i).toNat)
 case atStart=>exact⟨0,aW _,rfl,I,T⟩
 case round=>
  obtain⟨k,ap,rfl,h,D⟩:=hrel;clear I T;by_cases F:k<xs.length
  .have⟨x,H⟩:=aq F;obtain⟨b,o,rfl,U⟩:=(J.ext D).θ F;have an:=U _ _ H;have am:af wr w k (zI 0):=by rw[h.C k Qu,bI,lD _ _ _ F];rfl
   have ao:=h.g k;have G:=(h.j k (zI x)).1;rw[<-eW,jq _ _ _ _ H]at G;have ab:=zH G;have O:=D.setCell (p:=⟨w,k,none⟩) (ae _) (zI x);have Z:=zH O;clear G O H U h J;go_wp2;go_roundw
   case rel=>exact⟨k+1,Qu,Qx,ab,Z⟩
   case measure=>simp[intOf];omega
  .go_wp2;go_ret
   rw[jo _ _ _ Qu]at h;exact⟨_,rfl,h,D⟩
end Go.Proofs.YtpieilkmmiopfaaGreatDoor
