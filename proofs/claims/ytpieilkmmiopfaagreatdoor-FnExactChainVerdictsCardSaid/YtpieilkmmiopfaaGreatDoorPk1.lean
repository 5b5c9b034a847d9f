/- Parts of the walks and laws (Base, Read1, Read2). Conditions: as stated with each. -/
import Derived.Test.YtpieilkmmiopfaaGreatDoorMc
namespace Go.Proofs.YtpieilkmmiopfaaGreatDoor
open Go.RowKit Tryz
set_option linter.all false
set_option maxHeartbeats 2000000
variable{A:aq}{B B' b c k n:Nat}{J W w w':aa}{P:iU}{Q:gj}{a:Act}{args:eU}{f:FuncId}{o:fR}{ops:gP}{p:Int}{rest:List Oper}{row:Option Nat}{t:du}{u v z:ax}{us:bU}{xs:aH}
def aJ(w:aa)(A:aq)(xs:aH):Prop:=
 xs=[]∨∃b o,A=some ⟨b,o,none⟩/\∀k x,xs[k]?=some x->ae w b (o+k) (.int .i64 x)
def bk(w:aa)(A:aq)(rows:aN):Prop:=
 rows=[]∨∃b o,A=some ⟨b,o,none⟩/\∀k r,rows[k]?=some r->∃h cap,ae w b (o+k) (.slice h r.length cap)/\aJ w h r
theorem Below.si(h:Below B w w'){p:dk}(D:w.cell? p=some v)(F:p.block<B):w'.cell? p=some v:=(h.cell F).trans D
theorem al(D:ag w w'){p:dk}(h:w.cell? p=some v):w'.cell? p=some v:=Below.si D h (jA w p h)
theorem gJ(h:ag w w'){p:dk}(D:w.frozen? p=false)(F:p.block<w.heap.size):w'.frozen? p=false:=(h.frozen F).trans D
theorem aJ.ext(h:aJ w A xs)(F:ag w w'):aJ w' A xs:=by
 rcases h with h|⟨b,o,D,G⟩
 .exact au h
 .exact an ⟨b,o,D,fun k x H=>al F (G k x H)⟩
theorem bk.ext{rows:aN}(h:bk w A rows)(D:ag w w'):bk w' A rows:=by
 rcases h with h|⟨b,o,I,J⟩
 .exact au h
 .refine an ⟨b,o,I,fun k r N=>?_⟩;obtain⟨F,cap,G,H⟩:=J k r N;exact⟨F,cap,al D G,H.ext D⟩
structure Ext(w:aa) where
 W:World
 ok:ag w W
instance (w:aa):Nonempty (Ext w):=⟨⟨w,aj _ _⟩⟩
theorem ai{a b:aa}(h:ag w a)(k:ag a b):ag w b:=h.trans (k.mono h.size)
theorem zgc{x y:ax}(F:ag W w')(h:aW W b #[x,y,z] t):ae w' b 0 x/\ae w' b 1 y/\ae w' b 2 z/\w'.frozen? ⟨b,0,none⟩=false/\w'.frozen? ⟨b,1,none⟩=false/\w'.frozen? ⟨b,2,none⟩=false:=by have D:aW w' b #[x,y,z] t:=(F.block b (aT.1 h).1).trans h;simp[World.cell?,World.frozen?,D]
theorem zdE{x y:ax}(F:ag W w')(h:aW W b #[x,y,z,u,v] t):(ae w' b 0 x/\ae w' b 1 y/\ae w' b 2 z/\ae w' b 3 u/\ae w' b 4 v)/\w'.frozen? ⟨b,0,none⟩=false/\w'.frozen? ⟨b,1,none⟩=false/\w'.frozen? ⟨b,2,none⟩=false/\w'.frozen? ⟨b,3,none⟩=false/\w'.frozen? ⟨b,4,none⟩=false:=by have D:aW w' b #[x,y,z,u,v] t:=(F.block b (aT.1 h).1).trans h;simp[World.cell?,World.frozen?,D]
theorem aC(w:aa)(o:Obj)(h:n=w.heap.size):(w.alloc o).heap[n]?=some o:=by subst h;show(w.heap.push o)[w.heap.size]?=_;simp
theorem bJ(w:aa)(o:Obj)(h:k<w.heap.size):(w.alloc o).heap[k]?=w.heap[k]?:=by
 show(w.heap.push o)[k]?=_
 rw[Array.getElem?_push,av Rr]
theorem bK{id:Nat}{l:List Oper}(G:P.follows .mixedOrders=true)(F:Region.lexB .any l.toArray=true)(h:wpQuiet P l.toArray (fun w'=>∃W:Ext w,w'=W.W) (fun D=>∀w',(∃W:Ext w,w'=W.W)->Q .normal D w') l a):(Code.region id l.toArray true).wp P Q a w:=wp_region_quiet (C:=fun w'=>∃W:Ext w,w'=W.W) G F ⟨⟨_,(aj _ _).drew⟩,rfl⟩ R9
theorem mr{P:iU}{ops:gP}{C:iT}{H:Act->Prop}{Q:gj}(F:∀a w,C w->H a->Q .normal a w):∀(l:List Oper) (a:Act) (w:aa),C w->wpQuiet P ops C H l a->wpList P ops Q l a w
 |[],a,w,D,h=>F a w D h
 |o::l,a,w,D,h=>by
  unfold wpQuiet at h;unfold wpList;split
  .rename_i G;rw[ay G]at h;exact au (Oper.wp_of_quiet D (fun I w' N J=>mr F l I w' N J) h)
  .rename_i G;rw[av G]at h;exact mr F l _ w D h
theorem cS{id:Nat}{l:List Oper}(h:wpQuiet P l.toArray (fun w'=>∃W:Ext w,w'=W.W) (fun D=>∀w',(∃W:Ext w,w'=W.W)->Q .normal D w') l a):(Code.region id l.toArray false).wp P Q a w:=wp_region_lit (mr (C:=fun w'=>∃W:Ext w,w'=W.W) (fun _ w' F h=>h w' F) l a w ⟨⟨w,aj _ _⟩,rfl⟩ h)
theorem Ext.cell(W:Ext w){p:dk}(h:w.cell? p=some v):W.W.cell? p=some v:=al W.ok h
theorem Ext.old{o:Obj}(W:Ext (w.alloc o)):Below w.heap.size w W.W:=ai ((aj _ _).alloc (af _) _) W.ok
theorem Calls.eA{W:Ext w}(D:Calls P f args W.W fun e w'=>e=.returned v/\Below W.W.heap.size W.W w'):Calls P f args W.W fun e H=>e=.returned v/\∃h:Ext w,H=h.W:=D.mono fun _ _ ⟨F,G⟩=>⟨F,⟨_,ai W.ok G⟩,rfl⟩
theorem Calls.cQ{W:Ext w}(D:Calls P f args W.W fun e w'=>e=.returned v/\W.W=w'):Calls P f args W.W fun e H=>e=.returned v/\∃h:Ext w,H=h.W:=D.mono fun _ _ ⟨F,G⟩=>⟨F,W,G.symm⟩
theorem Calls.cT{x y:Bool}(h:Calls P f args w fun e w'=>e=.returned (.bool x)/\w=w')(e:x=y):Calls P f args w fun e w'=>e=.returned (.bool y)/\w=w':=e ▸ h
theorem Calls.be{x y:Bool}(h:Calls P f args w (dM w x))(e:x=y):Calls P f args w (dM w y):=e ▸ h
theorem aL{a b:Bool}(h:a=b):Ending.returned (.bool a)=.returned (.bool b):=by rw[h]
theorem iB{a b:Int}(h:a=b):Ending.returned (.int .i64 a)=.returned (.int .i64 b):=by rw[h]
theorem dN{h:Type}(f:h->Bool)(xs:List h)(k:Nat)(x:h)(D:xs[k]?=some x):(xs.take (k+1)).all f=((xs.take k).all f&&f x):=by rw[dH,D];simp
theorem all_false{h:Type}(f:h->Bool)(xs:List h)(k:Nat)(x:h)(D:xs[k]?=some x)(F:f x=false):xs.all f=false:=by rw[List.all_eq_false];exact⟨x,aY D,by simp[F]⟩
theorem gx{h:Type}(f:h->Bool)(xs:List h)(k:Nat)(D:(xs.take k).all f=true)(F:xs.length<=k):xs.all f=true:=by rwa[cY F]at D
theorem aB{D:Type}{xs:List D}(h:k<xs.length):∃x,xs[k]?=some x:=⟨_,dL h⟩
theorem aJ.here(h:aJ w A xs)(D:k<xs.length):∃b o,A=some ⟨b,o,none⟩/\∀k x,xs[k]?=some x->ae w b (o+k) (.int .i64 x):=by
 rcases h with h|h
 .simp[h]at D
 .exact h
theorem bk.here{rows:aN}(h:bk w A rows)(F:k<rows.length):∃b o,A=some ⟨b,o,none⟩/\∀k r,rows[k]?=some r->∃D cap,ae w b (o+k) (.slice D r.length cap)/\aJ w D r:=by
 rcases h with h|h
 .simp[h]at F
 .exact h
def et(n lo hi:Int):Bool:=decide (lo<=n)&&decide (n<=hi)
def jX(p a:Int):Bool:=decide (0<=a)&&decide (a<p)
def rI(p:Int)(xs:aH)(n:Int):Bool:=decide ((xs.length:Int)=n)&&xs.all (jX p)
def Ax(p:Int)(rows:aN)(n:Int):Bool:=rows.all fun r=>rI p r n
def cN(p:Int):Bool:=et p 2 97&&[(2:Int),3,5,7].all fun q=>!(decide (p%q=0)&&decide (p≠q))
def j_(p v h:Int)(rows:aN):Bool:=cN p&&(et v 0 24&&(et h 0 100&&(decide (rows.length<=160)&&Ax p rows (v+h))))
structure eB(w:aa):Prop where
 c0:ae w 0 0 (.int .i64 2)
 c1:ae w 0 1 (.int .i64 3)
 c2:ae w 0 2 (.int .i64 5)
 c3:ae w 0 3 (.int .i64 7)
theorem eB.ext(h:eB w)(D:ag w w'):eB w':=⟨al D h.c0,al D h.c1,al D h.c2,al D h.c3⟩
theorem da(n lo hi:Int)(w:aa):aw 143 (fP n lo hi) w fun e w'=>e=.returned (.bool (et n lo hi))/\w=w':=by
 unfold et;by_cases h1:lo<=n <;>by_cases h2:n<=hi
 all_goals
  go_enter func143,ntmps143
  go_wp2;go_ret
  exact⟨R7,rfl⟩
theorem aS(n lo hi:Int)(w:aa):aw 92 (fP n lo hi) w fun e w'=>e=.returned (.bool (et n lo hi))/\w=w':=by
 unfold et;by_cases h1:lo<=n <;>by_cases h2:n<=hi
 all_goals
  go_enter func92,ntmps92
  go_wp2;go_ret
  exact⟨R7,rfl⟩
theorem j9(p a:Int)(w:aa):aw 131 (bf p a) w fun e w'=>e=.returned (.bool (jX p a))/\w=w':=by
 unfold jX;by_cases h1:0<=a <;>by_cases h2:a<p
 all_goals
  go_enter func131,ntmps131
  go_wp2;go_ret
  exact⟨R7,rfl⟩
theorem mM(p n:Int)(A:aq)(cap:Nat)(xs:aH)(w:aa)(D:aJ w A xs)(N:xs.length<=maxLen):aw 88 #[p,.slice A xs.length cap,n] w fun e w'=>e=.returned (.bool (rI p xs n))/\w=w':=by
 unfold maxLen at N;by_cases hn:(xs.length:Int)=n
 .have J:((xs.length:Int)!=n)=false:=RH;have I:=zH hn;clear hn;go_enter func88,ntmps88
  go_wp2;go_loop [15] (fun i=>∃k:Nat,k<=xs.length/\i=.int .i64 k/\(xs.take k).all (jX p)=true) (fun i=>xs.length-(intOf i).toNat)
  case atStart=>exact⟨0,aX _,rfl,Rq⟩
  case round=>
   obtain⟨k,R,rfl,F⟩:=hrel;have EX:=zH F;clear F;by_cases H:k<xs.length
   .obtain⟨x,h⟩:=aB H;obtain⟨b,o,rfl,G⟩:=D.here H;have O:=G k x h;have Hx:=zH h;clear h G D;cases hf:jX p x
    .go_wp2_with (go_at_call 131;refine(j9 _ _ _).mono ?_;rintro e w' ⟨rfl,rfl⟩;rw[hf])
     go_ret
     exact⟨by rw[rI,all_false _ _ _ _ Hx.o hf];simp,rfl⟩
    .go_wp2_with (go_at_call 131;refine(j9 _ _ _).mono ?_;rintro e w' ⟨rfl,rfl⟩;rw[hf])
     exact YA
   .go_wp2;go_ret
    exact⟨by rw[rI,<-I.o,gx _ _ _ EX.o Rr];simp,rfl⟩
 .have J:((xs.length:Int)!=n)=true:=RH;go_enter func88,ntmps88
  go_wp2;go_ret
  exact⟨by simp[rI,hn],rfl⟩
theorem An(p n:Int)(A:aq)(cap:Nat)(rows:aN)(w:aa)(H:bk w A rows)(U:rows.length<=maxLen)(R:∀r∈rows,r.length<=maxLen):aw 144 #[p,.slice A rows.length cap,n] w fun e w'=>e=.returned (.bool (Ax p rows n))/\w=w':=by
 unfold maxLen at U;go_enter func144,ntmps144
 go_wp2;go_loop [11] (fun i=>∃k:Nat,k<=rows.length/\i=.int .i64 k/\(rows.take k).all (fun r=>rI p r n)=true) (fun i=>rows.length-(intOf i).toNat)
 case atStart=>exact⟨0,aX _,rfl,Rq⟩
 case round=>
  obtain⟨k,ab,rfl,I⟩:=hrel;have F:=zH I;clear I;by_cases O:k<rows.length
  .obtain⟨r,D⟩:=aB O;obtain⟨b,o,rfl,J⟩:=H.here O;obtain⟨V,Y,Z,N⟩:=J k r D;have T:=R r (aY D);have G:=zH D;clear D J H R;cases h:rI p r n
   .go_wp2_with (go_at_call 88;refine(mM _ _ _ _ _ _ N T).mono ?_;rintro e w' ⟨rfl,rfl⟩;rw[h])
    go_ret
    exact⟨aL (by rw[Ax,all_false _ _ _ _ G.o h]),rfl⟩
   .go_wp2_with (go_at_call 88;refine(mM _ _ _ _ _ _ N T).mono ?_;rintro e w' ⟨rfl,rfl⟩;rw[h])
    go_round
    case rel=>exact⟨k+1,Rr,Rt,by rw[dN _ _ _ _ G.o,F.o,h];rfl⟩
    case measure=>simp[intOf];omega
  .go_wp2;go_ret
   exact⟨aL (by rw[Ax,gx _ _ _ F.o Rr]),rfl⟩
theorem lB(lo hi:Int)(A:aq)(cap:Nat)(xs:aH)(w:aa)(D:aJ w A xs)(I:xs.length<=maxLen):aw 114 #[.slice A xs.length cap,lo,hi] w fun e w'=>e=.returned (.bool (xs.all fun x=>et x lo hi))/\w=w':=by
 unfold maxLen at I;go_enter func114,ntmps114
 go_wp2;go_loop [11] (fun i=>∃k:Nat,k<=xs.length/\i=.int .i64 k/\(xs.take k).all (fun x=>et x lo hi)=true) (fun i=>xs.length-(intOf i).toNat)
 case atStart=>exact⟨0,aX _,rfl,Rq⟩
 case round=>
  obtain⟨k,N,rfl,F⟩:=hrel;have EX:=zH F;clear F;by_cases H:k<xs.length
  .obtain⟨x,h⟩:=aB H;obtain⟨b,o,rfl,G⟩:=D.here H;have J:=G k x h;have Hx:=zH h;clear h G D;cases hf:et x lo hi
   .go_wp2_with (go_at_call 92;refine(aS _ _ _ _).mono ?_;rintro e w' ⟨rfl,rfl⟩;rw[hf])
    go_ret
    exact⟨aL (by rw[all_false _ _ _ _ Hx.o hf]),rfl⟩
   .go_wp2_with (go_at_call 92;refine(aS _ _ _ _).mono ?_;rintro e w' ⟨rfl,rfl⟩;rw[hf])
    exact YA
  .go_wp2;go_ret
   exact⟨aL (by rw[gx _ _ _ EX.o Rr]),rfl⟩
theorem Ao(p:Int)(A:aq)(cap:Nat)(xs:aH)(w:aa)(h:aJ w A xs)(D:xs.length<=maxLen)(F:2<=p)(G:p<=97):aw 78 #[p,.slice A xs.length cap] w fun e w'=>e=.returned (.bool (xs.all (jX p)))/\w=w':=by
 have e:∀x,et x 0 (p-1)=jX p x:=fun x=>by
  unfold et jX;congr 1
  exact wM.2 Rr
 have E:=zH e;clear e;go_enter func78,ntmps78
 go_wp2_with (go_at_call 114;refine(lB _ _ _ _ _ _ h D).mono ?_;rintro e w' ⟨rfl,rfl⟩)
 go_ret
 exact⟨aL (by congr 1;funext x;exact E.o x),rfl⟩
def kQ(p q:Int):Bool:=decide (p%q=0)&&decide (p≠q)
theorem pV(k:Nat)(D:k<4)(h:kQ p ([(2:Int),3,5,7].getD k 0)=true):cN p=false:=by
 unfold cN kQ at *;rw[Bool.and_eq_false_iff];right;rw[List.all_eq_false]
 match k,D with
 |0,_=>exact⟨2,Rq,R9⟩
 |1,_=>exact⟨3,Rq,R9⟩
 |2,_=>exact⟨5,Rq,R9⟩
 |3,_=>exact⟨7,Rq,R9⟩
theorem zaL(I:2<=p)(J:p<=97)(h:∀j,j<4->kQ p ([(2:Int),3,5,7].getD j 0)=false):cN p=true:=by have D:=h 0 Rr;have F:=h 1 Rr;have G:=h 2 Rr;have H:=h 3 Rr;simp only[kQ,List.getD_cons_zero,List.getD_cons_succ]at D F G H;simp only[cN,et,wy,List.all_nil,D,F,G,H];simp[I,J]
theorem iX(p:Int)(w:aa)(H:eB w):aw 142 (bs p) w fun e w'=>e=.returned (.bool (cN p))/\w=w':=by
 obtain⟨I,c1,c2,J⟩:=H;by_cases N:p<2
 .exact Xz
 by_cases O:97<p
 .exact Xz
 go_enter func142,ntmps142
 go_wp2;have U:∀w,(Instr.index 224 (.agg vP) (.int .i64 0)).run prog w=.ok (.int .i64 2) w:=fun _=>RP
 have V:∀w,(Instr.index 224 (.agg vP) (.int .i64 1)).run prog w=.ok (.int .i64 3) w:=fun _=>RP
 have Y:∀w,(Instr.index 224 (.agg vP) (.int .i64 2)).run prog w=.ok (.int .i64 5) w:=fun _=>RP
 have Z:∀w,(Instr.index 224 (.agg vP) (.int .i64 3)).run prog w=.ok (.int .i64 7) w:=fun _=>RP
 go_loop [12] (fun i=>∃k:Nat,k<=4/\i=.int .i64 k/\∀j,j<k->kQ p ([(2:Int),3,5,7].getD j 0)=false) (fun i=>4-(intOf i).toNat)
 case atStart=>exact⟨0,Rr,rfl,fun j hj=>Rr⟩
 case round=>
  obtain⟨k,T,rfl,G⟩:=hrel;have EX:=zH G;clear G;have R:0<=p:=Rr;rcases(Rr:k=4∨k=0∨k=1∨k=2∨k=3)with rfl|rfl|rfl|rfl|rfl
  .go_wp2;go_ret
   exact⟨aL (by rw[zaL Rr Rr EX.o]),rfl⟩
  .by_cases m:p%2=0
   .have D:(p%2==0)=true:=Rw;by_cases e:p=2
    .have h:kQ p 2=false:=RV;have HB:=zH h;clear h;have F:(p !=2)=false:=Ry;clear m e;exact YZ
    .have F:(p !=2)=true:=Ry;have h:kQ p 2=true:=Ss;have HB:=zH h;clear h m e;go_wp2;go_ret
     exact⟨aL (by rw[pV 0 Rr HB.o]),rfl⟩
   .have D:(p%2==0)=false:=Rw;have h:kQ p 2=false:=RU;have HB:=zH h;clear h m;exact YZ
  .by_cases m:p%3=0
   .have D:(p%3==0)=true:=Rw;by_cases e:p=3
    .have h:kQ p 3=false:=RV;have HB:=zH h;clear h;have F:(p !=3)=false:=Ry;clear m e;exact YY
    .have F:(p !=3)=true:=Ry;have h:kQ p 3=true:=Ss;have HB:=zH h;clear h m e;go_wp2;go_ret
     exact⟨aL (by rw[pV 1 Rr HB.o]),rfl⟩
   .have D:(p%3==0)=false:=Rw;have h:kQ p 3=false:=RU;have HB:=zH h;clear h m;exact YY
  .by_cases m:p%5=0
   .have D:(p%5==0)=true:=Rw;by_cases e:p=5
    .have h:kQ p 5=false:=RV;have HB:=zH h;clear h;have F:(p !=5)=false:=Ry;clear m e;exact YX
    .have F:(p !=5)=true:=Ry;have h:kQ p 5=true:=Ss;have HB:=zH h;clear h m e;go_wp2;go_ret
     exact⟨aL (by rw[pV 2 Rr HB.o]),rfl⟩
   .have D:(p%5==0)=false:=Rw;have h:kQ p 5=false:=RU;have HB:=zH h;clear h m;exact YX
  .by_cases m:p%7=0
   .have D:(p%7==0)=true:=Rw;by_cases e:p=7
    .have h:kQ p 7=false:=RV;have HB:=zH h;clear h;have F:(p !=7)=false:=Ry;clear m e;exact YW
    .have F:(p !=7)=true:=Ry;have h:kQ p 7=true:=Ss;have HB:=zH h;clear h m e;go_wp2;go_ret
     exact⟨aL (by rw[pV 3 Rr HB.o]),rfl⟩
   .have D:(p%7==0)=false:=Rw;have h:kQ p 7=false:=RU;have HB:=zH h;clear h m;exact YW
theorem BE:((List.range 98).all fun p=>(List.range 10).all fun k=>decide (p<2)||decide (k<2)||decide (p<k*k)||decide (p%k≠0)||!cN (p:Nat))=true:=Sn
theorem yE:((List.range 98).all fun p=>(List.range 11).all fun k=>decide (p<2)||decide (k<2)||decide (k*k<=p)||((List.range k).any fun j=>decide (2<=j)&&decide (p%j=0))||cN (p:Nat))=true:=Sn
theorem BF(p:Nat)(D:p<98)(k:Nat)(F:k<10)(H:2<=p)(I:2<=k)(J:k*k<=p)(G:p%k=0):cN (p:Nat)=false:=by
 have:=fZ.1 (fZ.1 BE p (fi.2 D)) k (fi.2 F);simp only[iG,bX,wk]at this;rcases this with(((h|h)|h)|h)|h
 .omega
 .omega
 .omega
 .exact absurd G h
 .exact h
theorem yF(p:Nat)(F:p<98)(k:Nat)(D:k<11)(I:2<=p)(J:2<=k)(N:p<k*k)(G:∀j,j<k->2<=j->p%j≠0):cN (p:Nat)=true:=by
 have:=fZ.1 (fZ.1 yE p (fi.2 F)) k (fi.2 D);simp only[iG,bX,k7,bE,fi]at this;rcases this with(((h|h)|h)|⟨j,H,D,h⟩)|h
 .omega
 .omega
 .omega
 .exact absurd h (G j H D)
 .exact h
theorem zdT{k:Int}(F:2<=p)(G:p<=97)(H:2<=k)(I:k<=9)(h:k*k<=p)(D:p%k=0):cN p=false:=by obtain⟨p,rfl⟩:=fY (Rr:0<=p);obtain⟨k,rfl⟩:=fY (Rr:0<=k);exact BF p Rr k Rr Rr Rr (by exact_mod_cast h) (by exact_mod_cast D)
theorem zaM{k:Int}(F:2<=p)(G:p<=97)(H:2<=k)(I:k<=10)(h:p<k*k)(D:∀j,2<=j->j<k->p%j≠0):cN p=true:=by
 obtain⟨p,rfl⟩:=fY (Rr:0<=p);obtain⟨k,rfl⟩:=fY (Rr:0<=k);exact yF p Rr k Rr Rr Rr (by exact_mod_cast h) fun j J N=>by
  have:=D j Rr Rr
  exact_mod_cast this
theorem zh9{k:Int}(D:2<=k)(F:k<=10):0<=k*k/\k*k<=100/\(k=10->k*k=100):=by obtain⟨k,rfl⟩:=fY (Rr:0<=k);have h:k<11:=Rr;have:∀k,k<11->k*k<=100:=Rs;have:=this k h;refine⟨Rr,by exact_mod_cast this,fun e=>?_⟩;obtain rfl:k=10:=Rr;rfl
theorem pW(p:Int)(w:aa):aw 91 (bs p) w fun e w'=>e=.returned (.bool (cN p))/\w=w':=by
 cases hi:et p 2 97
 .go_enter func91,ntmps91
  go_wp2_with (go_at_call 92;refine(aS _ _ _ _).mono ?_;rintro e w' ⟨rfl,rfl⟩;rw[hi])
  go_ret
  exact⟨aL (by rw[cN,hi];rfl),rfl⟩
 have U:2<=p/\p<=97:=Td;obtain⟨J,N⟩:=U;go_enter func91,ntmps91
 go_wp2_with (go_at_call 92;refine(aS _ _ _ _).mono ?_;rintro e w' ⟨rfl,rfl⟩;rw[hi])
 go_loop [3] (fun i=>∃k:Int,2<=k/\k<=10/\i=.int .i64 k/\∀j,2<=j->j<k->p%j≠0) (fun i=>10-(intOf i).toNat)
 case atStart=>exact⟨2,Rr,Rr,rfl,fun j _ _=>Rr⟩
 case round=>
  obtain⟨k,D,I,rfl,H⟩:=hrel;have G:=zH H;clear H;obtain⟨Y,Z,F⟩:=zh9 D I;by_cases V:k*k<=p
  .have T:k<=9:=by
    rcases(Rr:k<=9∨k=10)with h|h
    .exact h
    .have:=F h;omega
   clear F;by_cases m:p%k=0
   .have O:(p%k==0)=true:=Rw;have M:=zH m;clear m;go_wp2;go_ret
    exact⟨aL (by rw[zdT J N D T V M.o]),rfl⟩
   .have O:(p%k==0)=false:=Rw;have M:=zH m;clear m;go_wp2;go_round
    case rel=>exact⟨k+1,Rr,Rr,Rt,fun j a b=>by
     by_cases R:j<k
     .exact G.o j a R
     .obtain rfl:j=k:=Rr;exact M.o⟩
    case measure=>simp[intOf];omega
  .clear F;go_wp2;go_ret
   exact⟨aL (by rw[zaM J N D I Rr G.o]),rfl⟩
theorem ny(v h:Int)(D:ax)(w:aa)(H:0<=v)(I:v<=1000)(F:0<=h)(G:h<=1000):aw 64 (cy (dK v h D)) w fun e w'=>e=.returned (.int .i64 (v+h))/\ag w w':=by
 go_enter func64,ntmps64
 go_wp2;go_ret
 exact⟨rfl,(aj _ _).alloc (af _) _⟩
theorem C_(p v h:Int)(A:aq)(cap:Nat)(rows:aN)(w:aa)(D:eB w)(G:bk w A rows)(R:rows.length<=maxLen)(T:∀r∈rows,r.length<=maxLen):aw 99 (ig p (ar v h A rows cap)) w (dM w (j_ p v h rows)):=by
 have V:∀W:Ext (w.alloc (.cells (ar v h A rows cap) 57)),ae W.W w.heap.size 0 (.int .i64 v):=fun W=>W.cell Rq
 have Y:∀W:Ext (w.alloc (.cells (ar v h A rows cap) 57)),ae W.W w.heap.size 1 (.int .i64 h):=fun W=>W.cell Rq
 have Z:∀W:Ext (w.alloc (.cells (ar v h A rows cap) 57)),ae W.W w.heap.size 2 (.slice A rows.length cap):=fun W=>W.cell Rq
 have F:∀W:Ext (w.alloc (.cells (ar v h A rows cap) 57)),eB W.W:=fun W=>D.ext W.old
 have H:∀W:Ext (w.alloc (.cells (ar v h A rows cap) 57)),bk W.W A rows:=fun W=>G.ext W.old
 obtain⟨HP,J⟩:=bD F H;clear D G F H;cases hf:cN p
 .go_enter func99,ntmps99
  go_wp2;refine bK RP RP ?_
  repeat (go_big_quiet_step ((go_at_call 142;exact Calls.cQ (v:=.bool false) UG)))
  refine dn ?_;rintro _ ⟨W,rfl⟩;go_wp2;go_ret
  exact⟨aL (by rw[j_,hf];rfl),W.old⟩
 cases hv:et v 0 24
 .go_enter func99,ntmps99
  go_wp2;refine bK RP RP ?_
  repeat (go_big_quiet_step (first|(go_at_call 142;exact Calls.cQ (v:=.bool true) UG)|(go_at_call_of 143 v;exact Calls.cQ (v:=.bool false) Uq)))
  refine dn ?_;rintro _ ⟨W,rfl⟩;go_wp2;go_ret
  exact⟨aL (by rw[j_,hf,hv];rfl),W.old⟩
 cases hh:et h 0 100
 .go_enter func99,ntmps99
  go_wp2;refine bK RP RP ?_
  repeat (go_big_quiet_step (first|(go_at_call 142;exact Calls.cQ (v:=.bool true) UG)|(go_at_call_of 143 v;exact Calls.cQ (v:=.bool true) Uq)|(go_at_call_of 143 h;exact Calls.cQ (v:=.bool false) Up)))
  refine dn ?_;rintro _ ⟨W,rfl⟩;go_wp2;go_ret
  exact⟨aL (by rw[j_,hf,hv,hh];rfl),W.old⟩
 obtain⟨v1,v2⟩:0<=v/\v<=24:=by simpa[et]using hv
 obtain⟨N,U⟩:0<=h/\h<=100:=by simpa[et]using hh
 by_cases I:rows.length<=160
 .have O:decide ((rows.length:Int)<=160)=true:=RS;go_enter func99,ntmps99
  go_wp2;refine bK RP RP ?_
  repeat (go_big_quiet_step (first|(go_at_call 142;exact Calls.cQ (v:=.bool true) UG)|(go_at_call_of 143 v;exact Calls.cQ (v:=.bool true) Uq)|(go_at_call_of 143 h;exact Calls.cQ (v:=.bool true) Up)|(go_at_call 64;exact Calls.eA (ny v h _ _ v1 Rr N Rr))|(go_at_call 144;exact Calls.cQ (An _ _ _ _ _ _ (J.o _) R T))))
  refine dn ?_;rintro _ ⟨W,rfl⟩;go_wp2;go_ret
  exact⟨aL (by simp[j_,hf,hv,hh,I]),W.old⟩
 .have O:decide ((rows.length:Int)<=160)=false:=RS;go_enter func99,ntmps99
  go_wp2;refine bK RP RP ?_
  repeat (go_big_quiet_step (first|(go_at_call 142;exact Calls.cQ (v:=.bool true) UG)|(go_at_call_of 143 v;exact Calls.cQ (v:=.bool true) Uq)|(go_at_call_of 143 h;exact Calls.cQ (v:=.bool true) Up)))
  refine dn ?_;rintro _ ⟨W,rfl⟩;go_wp2;go_ret
  exact⟨aL (by simp[j_,I]),W.old⟩
theorem AU{h:Type}{xs:List h}{x:h}(D:xs[k]?=some x):xs.zipIdx[k]?=some (x,k):=by rw[D6,D];simp
theorem dS(v h a:Int)(A:aq)(n cap:Nat)(w:aa)(F:n<=maxLen):aw 247 (gD (fy v h A n cap) a) w fun e w'=>e=.returned (.bool (et a 0 ((n:Int)-1)))/\ag w w':=by
 unfold maxLen at F;have D:=(aj w.heap.size w).alloc (af _) (.cells (fy v h A n cap) 57);go_enter func247,ntmps247
 go_wp2_with (go_at_call 143;refine(da _ _ _ _).mono ?_;rintro e w' ⟨rfl,rfl⟩)
 go_ret
 exact⟨rfl,D⟩
theorem kd(v h b:Int)(D:ax)(w:aa)(G:0<=h)(H:h<=100):aw 269 (gD (dK v h D) b) w (dM w (et b 0 (h-1))):=by
 have F:=(aj w.heap.size w).alloc (af _) (.cells (dK v h D) 57);go_enter func269,ntmps269
 go_wp2_with (go_at_call 143;refine(da _ _ _ _).mono ?_;rintro e w' ⟨rfl,rfl⟩)
 go_ret
 exact⟨rfl,F⟩
def pB(rows:aN)(c:Nat)(but:Int):Bool:=rows.zipIdx.all fun x=>decide ((x.2:Int)=but)||decide (x.1.getD c 0=0)
theorem AV(v h b but:Int)(A:aq)(cap:Nat)(rows:aN)(w:aa)(D:bk w A rows)(am:rows.length<=maxLen)(bd:0<=v)(bg:v<=24)(a9:h<=100)(a5:0<=b)(a6:b<h)(V:∀r∈rows,(r.length:Int)=v+h):aw 270 #[.agg (ar v h A rows cap),b,but] w (dM w (pB rows (v+b).toNat but)):=by
 unfold maxLen at am;have I:=(aj w.heap.size w).alloc (af _) (.cells (ar v h A rows cap) 57)
 replace D:=D.ext I
 go_enter func270,ntmps270
 go_wp2;go_loop [12] (fun i=>∃k:Nat,k<=rows.length/\i=.int .i64 k/\(rows.zipIdx.take k).all (fun x=>decide ((x.2:Int)=but)||decide (x.1.getD (v+b).toNat 0=0))=true) (fun i=>rows.length-(intOf i).toNat)
 case atStart=>exact⟨0,aX _,rfl,Rq⟩
 case round=>
  obtain⟨k,bc,rfl,O⟩:=hrel;have G:=zH O;clear O;by_cases Y:k<rows.length
  .obtain⟨r,F⟩:=aB Y;obtain⟨a2,o,rfl,R⟩:=D.here Y;obtain⟨ap,a3,a7,U⟩:=R k r F;have ab:=V r (aY F);have Z:(v+b).toNat<r.length:=Rr;obtain⟨x,J⟩:=aB Z;obtain⟨a1,bi,rfl,T⟩:=U.here Z;have a8:=T _ _ J;obtain⟨H,N⟩:=bD (AU F) J;clear F R V D U T J;have ba:0<=v+b:=Rr;have bb:v+b < (r.length:Int):=Rr;have a0:=zH ab;clear ab;by_cases hn:(k:Int)=but
   .have ao:((k:Int)!=but)=false:=RH;have ad:=zH hn;clear hn;go_wp2;go_round
    case rel=>exact⟨k+1,Rr,Rt,by rw[dN _ _ _ _ H.o,G.o];simp[ad.o]⟩
    case measure=>simp[intOf];omega
   .have ao:((k:Int)!=but)=true:=RH;by_cases h0:x=0
    .subst h0;go_wp2;go_round
     case rel=>exact⟨k+1,Rr,Rt,by rw[dN _ _ _ _ H.o,G.o];simp[N.o]⟩
     case measure=>simp[intOf];omega
    .have a4:(x !=0)=true:=RI;have ac:=zH h0;clear h0;go_wp2;go_ret
     exact⟨aL (by rw[pB,all_false _ _ _ _ H.o (by simp[hn,N.o,ac.o])]),I⟩
  .go_wp2;go_ret
   exact⟨aL (by rw[pB,gx _ _ _ G.o RS]),I⟩
def qN(xs:aH):Nat:=(xs.takeWhile (fun x=>decide (x=0))).length
theorem zb9{x:Int}(D:(xs.take k).all (fun x=>decide (x=0))=true)(h:xs[k]?=some x)(F:x≠0):qN xs=k:=by
 induction xs generalizing k with
 |nil=>simp at h
 |cons y ys ih=>
  cases k with
  |zero=>simp at h;subst h;simp[qN,F]
  |succ k=>
   simp only[qt,wy,bE,bX]at D;have:=ih D.2 (by simpa using h);simp[qN,D.1]at this ⊢;exact this
theorem CT(h:xs.all (fun x=>decide (x=0))=true):qN xs=xs.length:=by
 induction xs with
 |nil=>rfl
 |cons y ys ih=>
  simp only[wy,bE,bX]at h;have:=ih h.2;simp[qN,h.1]at this ⊢;exact this
theorem zfB(xs:aH):qN xs<=xs.length:=(List.takeWhile_prefix _).length_le
theorem zd8(e:qN xs=xs.length):xs.all (fun x=>decide (x=0))=true:=by
 induction xs with
 |nil=>rfl
 |cons y ys ih=>
  by_cases h:y=0
  .have:qN ys=ys.length:=by simpa[qN,h]using e
   simp only[wy,h,ih this];rfl
  .simp[qN,h]at e
theorem zfC(xs:aH):((qN xs:Int)==(xs.length:Int))=xs.all (fun x=>decide (x=0)):=by
 cases h:xs.all (fun x=>decide (x=0))
 .rw[beq_eq_false_iff_ne];intro e;rw[zd8 Rr]at h;cases h
 .rw[mU,CT h]
theorem zfD(A:aq)(cap:Nat)(xs:aH)(w:aa)(G:aJ w A xs)(O:xs.length<=maxLen):aw 185 (aO A xs cap) w fun e w'=>e=.returned (.int .i64 (qN xs))/\w=w':=by
 unfold maxLen at O;go_enter func185,ntmps185
 go_wp2;go_loop [7] (fun i=>∃k:Nat,k<=xs.length/\i=.int .i64 k/\(xs.take k).all (fun x=>decide (x=0))=true) (fun i=>xs.length-(intOf i).toNat)
 case atStart=>exact⟨0,aX _,rfl,Rq⟩
 case round=>
  obtain⟨k,U,rfl,H⟩:=hrel;have h:=zH H;clear H;by_cases J:k<xs.length
  .obtain⟨x,D⟩:=aB J;obtain⟨b,o,rfl,I⟩:=G.here J;have T:=I k x D;have F:=zH D;clear D I G;by_cases h0:x=0
   .subst h0;go_wp2;go_round
    case rel=>exact⟨k+1,Rr,Rt,by rw[dN _ _ _ _ F.o,h.o];rfl⟩
    case measure=>simp[intOf];omega
   .have R:(x !=0)=true:=RI;have N:=zH h0;clear h0;go_wp2;go_ret
    exact⟨iB (by rw[zb9 h.o F.o N.o]),rfl⟩
  .go_wp2;go_ret
   exact⟨iB (by rw[CT (gx _ _ _ h.o Rr)]),rfl⟩
def yj(xs:aH):Bool:=xs.all fun x=>decide (x=0)
theorem zb_(A:aq)(cap:Nat)(xs:aH)(w:aa)(h:aJ w A xs)(D:xs.length<=maxLen):aw 186 (aO A xs cap) w fun e w'=>e=.returned (.bool (yj xs))/\w=w':=by
 have E:=zH (zfC xs);have F:=zfB xs;go_enter func186,ntmps186
 go_wp2_with (go_at_call 185;refine(zfD _ _ _ _ h D).mono ?_;rintro e w' ⟨rfl,rfl⟩)
 go_ret
 exact⟨aL (by rw[yj,<-E.o]),rfl⟩
def rU(xs:aH)(a:Int):Bool:=xs.zipIdx.all fun x=>decide ((x.2:Int)=a)==decide (x.1≠0)
theorem zaY(a:Int)(A:aq)(cap:Nat)(xs:aH)(w:aa)(G:aJ w A xs)(N:xs.length<=maxLen):aw 137 (oI A xs cap a) w fun e w'=>e=.returned (.bool (rU xs a))/\w=w':=by
 unfold maxLen at N;go_enter func137,ntmps137
 go_wp2;go_loop [9] (fun i=>∃k:Nat,k<=xs.length/\i=.int .i64 k/\(xs.zipIdx.take k).all (fun x=>decide ((x.2:Int)=a)==decide (x.1≠0))=true) (fun i=>xs.length-(intOf i).toNat)
 case atStart=>exact⟨0,aX _,rfl,Rq⟩
 case round=>
  obtain⟨k,R,rfl,H⟩:=hrel;have EX:=zH H;clear H;by_cases J:k<xs.length
  .obtain⟨x,F⟩:=aB J;obtain⟨b,o,rfl,I⟩:=G.here J;have O:=I k x F;have Hx:=zH (AU F);clear F I G;by_cases hn:(k:Int)=a <;>by_cases h0:x=0
   .have D:((k:Int)==a)=true:=RH;have h:(x !=0)=false:=RI;exact Yz
   .have D:((k:Int)==a)=true:=RH;have h:(x !=0)=true:=RI;exact YV
   .have D:((k:Int)==a)=false:=RH;have h:(x !=0)=false:=RI;exact YV
   .have D:((k:Int)==a)=false:=RH;have h:(x !=0)=true:=RI;exact Yz
  .go_wp2;go_ret
   exact⟨aL (by rw[rU,gx _ _ _ EX.o RS]),rfl⟩
theorem fT:(prog.info? 3).map (fun i=>(i.zero,i.size,i.bytes))=some (some (.int .i64 0),1,8):=RP
def aD(w:aa)(B:Nat)(v:ax)(xs:aH):Prop:=w.ownsRow B 3 1 v xs.length (xs.map (Value.int .i64))
theorem aD.view(h:aD w B v xs):∃A cap,v=.slice A xs.length cap/\aJ w A xs/\xs.length<=cap/\cap<=maxLen:=by
 have F:=fun g=>lL h (g:=g)
 obtain⟨J,D⟩:=h;rcases D with⟨rfl,hn⟩|⟨g,cap,I,rfl,N,O,hn,H,R⟩
 .exact WO
 .refine⟨_,cap,rfl,an ⟨g,0,rfl,fun k x G=>?_⟩,hn,H⟩;have:=F g rfl k (.int .i64 x) (by rw[cC,G];rfl);have e:(⟨g,0,none⟩:dk).add k=⟨g,0+k,none⟩:=by unfold Addr.add;split <;>simp_all
  rwa[e]at this
theorem aD.nil(w:aa)(B:Nat):aD w B (.slice none 0 0) []:=qv _ _ _ _
theorem aD.ext(D:aD w B v xs)(h:ag w w'):aD w' B v xs:=by refine ik D (row:=none) ⟨h.os,h.tape,h.output,h.size,fun k F _=>h.block k F⟩ ?_;cases v.ownBlock <;>simp
theorem tt(O:o.guard=none)(s x:jk)(T:o.op=.call {callee:=.builtin .append,args:=#[s,x],argTypes:=#[26,26]})(B:Nat)(W:aa)(v:ax)(xs:aH)(y:Int)(V:a.eval s=v)(Y:a.eval x=.slice (some ⟨W.heap.size,0,none⟩) 1 1)(H:aD W B v xs)(am:xs.length+1<=1099511627776)(N:B<=W.heap.size)(J:∀D w',aD w' B D (xs++[y])->W.grownBy w' v.ownBlock->Below B W w'->wpList prog ops Q rest (a.put o.dst D) w'):wpList prog ops Q (o::rest) a (W.alloc (.cells (bs y) 3)):=by
 obtain⟨ad,hi,Z,ab,ac⟩:=de fT;have U:=km H (.cells (bs y) 3);refine zd _ O s x 26 T B 3 ad (.int .i64 0) 1 8 dY hi Z ab ac rfl Rs v _ _ V U ⟨W.heap.size,0,none⟩ 1 1 [.int .i64 y] Y rfl ?_ ?_ ?_ ?_ ?_ ?_
 .intro j u h
  match j,h with
  |0,h=>simp at h;subst h;simp[Addr.add]
  |j+1,h=>simp at h
 .intro u I;simp at I;subst I;rfl
 .unfold maxLen;omega
 .omega
 .simp;omega
 .intro D w' GX Fy _;have G:W.grownBy w' v.ownBlock:=⟨Fy.os,Fy.tape,Fy.output,Vi,fun k F R=>(Fy.block k RS R).trans (sC W _ F)⟩;refine J D w' TV G ?_;exact(aj _ _).grown G N fun k F=>(bL H k F).1
def my(rows:aN)(c:Nat):List Int:=rows.map fun r=>r.getD c 0
theorem Bi{rows:aN}{r:aH}{x:Int}(h:rows[k]?=some r)(D:r[c]?=some x):(my rows c).take (k+1)=(my rows c).take k++[x]:=by rw[dH];simp[my,h,D]
theorem zfS(rows:aN)(c k:Nat)(h:k<=rows.length):((my rows c).take k).length=k:=by simp[my];omega
theorem uq(v h b:Int)(A:aq)(cap:Nat)(rows:aN)(w:aa)(J:bk w A rows)(bc:rows.length<=1000)(bd:0<=v)(bg:v<=24)(a9:h<=100)(a5:0<=b)(a6:b<h)(T:∀r∈rows,(r.length:Int)=v+h):aw 138 (gD (ar v h A rows cap) b) w fun e w'=>∃u,e=.returned u/\aD w' (w.heap.size+1) u (my rows (v+b).toNat)/\ag w w':=by
 obtain⟨br,hi,bo,bp,bq⟩:=de fT;have I:=(aj w.heap.size w).alloc (af _) (.cells (ar v h A rows cap) 57);go_enter func138,ntmps138
 go_wp2;go_loopw [5,11] (fun u i wr=>∃k:Nat,k<=rows.length/\i=.int .i64 k/\aD wr (w.heap.size+1) u ((my rows (v+b).toNat).take k)/\Below (w.heap.size+1) (w.alloc (.cells (ar v h A rows cap) 57)) wr)
  (fun _ i _=>rows.length-(intOf i).toNat)
 case atStart=>exact⟨0,aX _,rfl,by simpa using aD.nil _ _,aj _ _⟩
 case round=>
  obtain⟨k,am,rfl,Y,D⟩:=hrel;have H:=zH Y;clear Y;have bi:ae wr w.heap.size 0 (.int .i64 v):=(D.cell (p:=⟨w.heap.size,0,none⟩) Rq).trans Rq;by_cases U:k<rows.length
  .obtain⟨r,F⟩:=aB U;have ad:ag w wr:=I.trans (D.mono Rr);obtain⟨a3,o,rfl,N⟩:=(J.ext ad).here U;obtain⟨a0,a4,a7,R⟩:=N k r F;have Z:=T r (aY F);have V:(v+b).toNat<r.length:=Rr;obtain⟨x,G⟩:=aB V;obtain⟨a2,bu,rfl,O⟩:=R.here V;have a8:=O _ _ G;have ab:=zH (Bi F G);clear F N T J R O G;have ba:0<=v+b:=Rr;have bb:v+b < (r.length:Int):=Rr;have a1:=zH Z;clear Z;have HL:=zH (zfS rows (v+b).toNat k am);have ap:=D.size;simp only[dt]at ap;go_wp2_with ((at_builtin;refine tt rfl _ _ rfl _ wr _ _ _ rfl rfl H.o SD Rr ?_;intro bv bz ao _ ac))
   go_roundw
   case rel=>exact⟨k+1,Rr,Rt,by rw[ab.o];exact ao,D.trans ac⟩
   case measure=>simp[intOf];omega
  .go_wp2;go_ret
   exact⟨_,rfl,by have h:=H.o;rwa[cY (by simp[my];omega)]at h,I.trans (D.mono Rr)⟩
theorem iw(D:Nat)(t ty e:du)(i:TypeInfo)(size:Nat)(h:P.underlying t=some (.slice e))(hi:P.info? e=some i)(v:ax)(n c:Nat)(xs:bU)(G:w.ownsRow D e size v n xs):(Builtin.append_ #[t,t] ty #[v,.slice none 0 c]).run P w=.ok v w:=by
 rcases G.2 with⟨rfl,rfl⟩|⟨g,cap,H,rfl,_,_,F,_⟩
 .simp[Builtin.append_,zh h,sizeOf,typeInfo,hi,Builtin.lenOf,Builtin.firstCells]
 .simp[Builtin.append_,zh h,sizeOf,typeInfo,hi,Builtin.lenOf,Builtin.firstCells,F,storeCells]
theorem dj(b o j:Nat):(⟨b,o,none⟩:dk).add j=⟨b,o+j,none⟩:=by unfold Addr.add;split<;>simp_all
theorem pK(G:o.guard=none)(s x:jk)(I:o.op=.call {callee:=.builtin .append,args:=#[s,x],argTypes:=#[26,26]})(B:Nat)(W:aa)(v:ax)(xs ys:aH)(A:aq)(c:Nat)(J:a.eval s=v)(F:a.eval x=.slice A ys.length c)(EF:aD W B v xs)(FA:aJ W A ys)(ac:xs.length+ys.length<=1099511627776)(R:B<=W.heap.size)(h:∀D w',aD w' B D (xs++ys)->W.grownBy w' v.ownBlock->Below B W w'->wpList prog ops Q rest (a.put o.dst D) w'):wpList prog ops Q (o::rest) a W:=by
 obtain⟨N,hi,Y,Z,ab⟩:=de fT;cases A with
 |none=>
  have hy:ys=[]:=Wy;subst hy;refine lj G fun K hK=>?_
  have U:=iw (P:=prog) (w:=W) B 26 o.type 3 N 1 dY hi v _ c _ EF;unfold Oper.wp;simp only[il]at F;simp[execOp,I,resolve,invoke,builtin,J,F,U,Result.andThen];exact hK _ _ (h v W SC ⟨rfl,rfl,rfl,af _,fun _ _ _=>rfl⟩ (aj _ _))
 |some O=>
  refine zd _ G s x 26 I B 3 N (.int .i64 0) 1 8 dY hi Y Z ab rfl Rs v _ _ J EF O ys.length c (ys.map (Value.int .i64)) F Rq ?_ ?_ ?_ ?_ ?_ ?_
  .exact YH
  .intro u V;obtain⟨y,_,rfl⟩:=cM.1 V;rfl
  .unfold maxLen;omega
  .omega
  .omega
  .intro D w' GX H _;exact h D w' TV H ((aj _ _).grown H R fun k T=>(bL EF k T).1)
theorem aD.lit(W:aa)(B:Nat)(h:B<=W.heap.size):aD (W.alloc (.cells #[] 3)) B (.slice (some ⟨W.heap.size,0,none⟩) 0 0) []:=wF W #[] 0 h Rs rfl
theorem ls(A:aq)(cap:Nat)(xs:aH)(w:aa)(D:aJ w A xs)(H:xs.length<=1099511627776):aw 71 (aO A xs cap) w fun e w'=>∃u,e=.returned u/\aD w' w.heap.size u xs/\ag w w':=by
 have h:=(aj w.heap.size w).alloc (af _) (.cells #[] 3);have F:=D.ext h;go_enter func71,ntmps71
 go_wp2_with ((at_builtin;refine pK rfl _ _ rfl w.heap.size _ _ [] xs A cap rfl rfl (aD.lit _ _ (af _)) F (by simpa using H) Rq ?_;intro J N I _ G))
 go_ret
 exact⟨_,rfl,I,h.trans G⟩
theorem jn(A:aq)(cap:Nat)(xs:aH)(w:aa)(D:aJ w A xs)(H:xs.length<=1099511627776):aw 70 (aO A xs cap) w fun e w'=>∃u,e=.returned u/\aD w' w.heap.size u xs/\ag w w':=by
 have h:=(aj w.heap.size w).alloc (af _) (.cells #[] 3);have F:=D.ext h;go_enter func70,ntmps70
 go_wp2_with ((at_builtin;refine pK rfl _ _ rfl w.heap.size _ _ [] xs A cap rfl rfl (aD.lit _ _ (af _)) F (by simpa using H) Rq ?_;intro J N I _ G))
 go_ret
 exact⟨_,rfl,I,h.trans G⟩
theorem jo(n:Nat):(madeCells (Value.int .i64 0).cells (n*1)).toList=(List.replicate n (0:Int)).map (Value.int .i64):=YR
theorem cD(h:w.grownBy w' none):ag w w':=⟨h.os,h.tape,h.output,h.size,fun k D=>h.block k D Rq⟩
theorem kx(n:Nat)(w:aa)(I:n<=1099511627776):aw 98 (bs n) w fun e w'=>∃u,e=.returned u/\aD w' w.heap.size u (List.replicate n 0)/\ag w w':=by
 obtain⟨H,hi,F,G,EK⟩:=de fT;go_enter func98,ntmps98
 go_wp2_with ((at_make;refine jb _ rfl _ _ 26 rfl w.heap.size 3 H (.int .i64 0) 1 dY hi F G .i64 .i64 n n n rfl rfl rfl rfl SA TD (af _) ?_;intro J h D))
 go_ret
 refine⟨_,rfl,?_,cD D⟩;rw[jo]at h;simpa[aD]using h
def fS{h:Type}(xs:List h)(z:h)(k:Nat):List h:=xs.take k++List.replicate (xs.length-k) z
theorem iW{h:Type}(xs:List h)(z:h):fS xs z 0=List.replicate xs.length z:=by simp[fS]
theorem jJ{h:Type}(xs:List h)(z:h)(k:Nat)(D:xs.length<=k):fS xs z k=xs:=by simp[fS,cY D];omega
theorem lu{h:Type}(xs:List h)(z:h)(k:Nat)(D:k<xs.length):(fS xs z k)[k]?=some z:=by rw[fS,ef RS,fH,ay RS]
theorem jK{D:Type}(xs:List D)(z x:D)(k:Nat)(h:xs[k]?=some x):(fS xs z k).set k x=fS xs z (k+1):=by have H:k<xs.length:=(bG.1 h).1;unfold fS;rw[lI _ _ RS,dH,h];have F:xs.length-k=(xs.length-(k+1))+1:=Rr;have G:k-(xs.take k).length=0:=RS;rw[F,G,List.replicate_succ,oM];simp
theorem zK(A:aq)(cap:Nat)(xs:aH)(w:aa)(J:aJ w A xs)(ap:xs.length<=1099511627776):aw 28 (aO A xs cap) w fun e w'=>∃u,e=.returned u/\aD w' w.heap.size u xs/\ag w w':=by
 obtain⟨ab,hi,Y,Z,EK⟩:=de fT;go_enter func28,ntmps28
 go_wp2_with ((at_make;refine jb _ rfl _ _ 26 rfl w.heap.size 3 ab (.int .i64 0) 1 dY hi Y Z .i64 .i64 xs.length xs.length xs.length rfl rfl rfl rfl SA TD (af _) ?_;intro a0 h T))
 rw[jo,<-iW]at h;have O:=cD T;have I:=zH h;clear h T;go_loopw [4] (fun i wr=>∃k:Nat,k<=xs.length/\i=.int .i64 k/\wr.ownsRow w.heap.size 3 1 (.slice (some ⟨w.heap.size,0,none⟩) xs.length xs.length) xs.length ((fS xs 0 k).map (Value.int .i64))/\ag w wr)
  (fun i _=>xs.length-(intOf i).toNat)
 case atStart=>exact⟨0,aX _,rfl,I.o,O⟩
 case round=>
  obtain⟨k,ao,rfl,h,D⟩:=hrel;clear I O;by_cases F:k<xs.length
  .obtain⟨x,H⟩:=aB F;obtain⟨b,o,rfl,R⟩:=(J.ext D).here F;have ad:=R _ _ H;have ac:ae wr w.heap.size k (.int .i64 0):=by rw[h.cellAt k Rr,cC,lu _ _ _ F];rfl
   have am:=h.frozenAt k;have G:=(h.stored k (.int .i64 x)).1;rw[<-fh,jK _ _ _ _ H]at G;have V:=zH G;have N:=D.setCell (p:=⟨w.heap.size,k,none⟩) (af _) (.int .i64 x);have U:=zH N;clear G N H R h J;go_wp2;go_roundw
   case rel=>exact⟨k+1,Rr,Rt,V.o,U.o⟩
   case measure=>simp[intOf];omega
  .go_wp2;go_ret
   rw[jJ _ _ _ Rr]at h;exact⟨_,rfl,h,D⟩
theorem jV:(prog.info? 26).map (fun i=>(i.zero,i.size,i.bytes))=some (some (.slice none 0 0),1,24):=RP
structure bC(w:aa)(B:Nat)(v:ax)(rows:aN)(us:bU):Prop where
 outer:w.ownsRow B 26 1 v rows.length us
 each:∀(k:Nat) (u:ax) (r:aH),us[k]?=some u->rows[k]?=some r->aD w B u r
 apart:∀(i j:Nat) (u u':ax) (b:Nat),us[i]?=some u->us[j]?=some u'->u.ownBlock=some b->u'.ownBlock=some b->i=j
def aU(w:aa)(B:Nat)(v:ax)(rows:aN):Prop:=∃us,bC w B v rows us
theorem bC.len{rows:aN}(h:bC w B v rows us):us.length=rows.length:=by simpa using h.outer.1
theorem bC.get{rows:aN}(h:bC w B v rows us){r:aH}(D:rows[k]?=some r):∃u,us[k]?=some u/\aD w B u r:=by
 have:k<us.length:=by rw[h.len];exact(bG.1 D).1
 obtain⟨u,F⟩:=aB this;exact⟨u,F,h.each k u r F D⟩
theorem bC.kC{rows:aN}(h:bC w B v rows us)(F:us[k]?=some u):∃r,rows[k]?=some r/\aD w B u r:=by
 have:k<rows.length:=by rw[<-h.len];exact(bG.1 F).1
 obtain⟨r,D⟩:=aB this;exact⟨r,D,h.each k u r F D⟩
theorem aD.lt(h:aD w B v xs):∀k,v.ownBlock=some k->B<=k/\k<w.heap.size:=bL h
theorem eT(F:w.ownsRow B 26 1 v n us)(D:aD w B' u xs):u.ownBlock=none∨u.ownBlock≠v.ownBlock:=by
 rcases D.2 with⟨rfl,_⟩|⟨g,cap,I,rfl,_,h,_⟩
 .exact au rfl
 .right;rcases F.2 with⟨rfl,_⟩|⟨N,H,J,rfl,_,G,_⟩
  .simp[Value.ownBlock]
  .intro e;simp only[Value.ownBlock,dZ]at e;rw[e,G]at h;simp at h
theorem aD.kept(h:aD w B u xs)(D:w.grownBy w' row)(F:u.ownBlock=none∨u.ownBlock≠row):aD w' B u xs:=ik h D F
theorem bC.ext{w w':aa}{B:Nat}{v:ax}{rows:aN}{us:bU}(D:bC w B v rows us)(h:ag w w'):bC w' B v rows us:=⟨ik D.outer (row:=none) ⟨h.os,h.tape,h.output,h.size,fun k F _=>h.block k F⟩ Uj,fun k u r H G=>(D.each k u r H G).ext h,D.apart⟩
theorem aU.ext{rows:aN}(h:aU w B v rows)(hb:ag w w'):aU w' B v rows:=Wq
theorem aU.view{rows:aN}(h:aU w B v rows):∃A cap,v=.slice A rows.length cap/\bk w A rows/\rows.length<=cap/\cap<=maxLen:=by
 obtain⟨us,h⟩:=h;have G:=fun g=>lL h.outer (g:=g)
 rcases h.outer.2 with⟨rfl,hn⟩|⟨g,cap,O,rfl,R,T,hn,I,U⟩
 .exact WO
 .refine⟨_,cap,rfl,an ⟨g,0,rfl,fun k r H=>?_⟩,hn,I⟩;obtain⟨u,N,J⟩:=h.get H;obtain⟨D,F,rfl,hi,_⟩:=J.view;have:=G g rfl k _ N;rw[dj]at this;exact⟨D,F,this,hi⟩
theorem aD.same(h:aD w B v xs)(hs:∀k,B<=k->w'.heap[k]?=w.heap[k]?):aD w' B v xs:=⟨h.1,h.2.imp id fun⟨g,cap,G,D,a2,a3,F⟩=>⟨g,cap,G,D,a2,TP,F⟩⟩
theorem aU.same{w w':aa}{B:Nat}{v:ax}{rows:aN}(h:aU w B v rows)(hs:∀k,B<=k->w'.heap[k]?=w.heap[k]?):aU w' B v rows:=by obtain⟨us,h⟩:=h;exact⟨us,⟨h.outer.1,h.outer.2.imp id fun⟨g,cap,G,D,a2,a3,F⟩=>⟨g,cap,G,D,a2,TP,F⟩⟩,fun k u r I H=>(h.each k u r I H).same hs,h.apart⟩
theorem aD.mono(h:aD w B v xs)(I:B'<=B):aD w B' v xs:=⟨h.1,h.2.imp id fun⟨g,cap,G,D,H,F⟩=>⟨g,cap,G,D,Rr,F⟩⟩
theorem aU.mono{w:aa}{B B':Nat}{v:ax}{rows:aN}(h:aU w B v rows)(H:B'<=B):aU w B' v rows:=by obtain⟨us,h⟩:=h;exact⟨us,⟨h.outer.1,h.outer.2.imp id fun⟨g,cap,G,D,N,F⟩=>⟨g,cap,G,D,Rr,F⟩⟩,fun k u r J I=>(h.each k u r J I).mono H,h.apart⟩
theorem aU.setCell{rows:aN}(h:aU w B v rows){a:dk}(D:a.block<B)(u:ax):aU (w.setCell a u) B v rows:=h.same fun k F=>aZ _ _ _ _ Rr
theorem aD.setCell(h:aD w B v xs){a:dk}(D:a.block<B)(u:ax):aD (w.setCell a u) B v xs:=h.same fun k F=>aZ _ _ _ _ Rr
theorem vz(I:o.guard=none)(s x:jk)(N:o.op=.call {callee:=.builtin .append,args:=#[s,x],argTypes:=#[55,55]})(B:Nat)(h W:aa)(v u:ax)(rows:aN)(r:aH)(EF:aU h B v rows)(F:ag h W)(hu:aD W h.heap.size u r)(ac:rows.length+1<=1073741824)(H:B<=h.heap.size)(T:a.eval s=v)(U:a.eval x=.slice (some ⟨W.heap.size,0,none⟩) 1 1)(G:∀D w',aU w' B D (rows++[r])->Below B h w'->wpList prog ops Q rest (a.put o.dst D) w'):wpList prog ops Q (o::rest) a (W.alloc (.cells #[u] 26)):=by
 obtain⟨ab,hi,V,Y,Z⟩:=de jV;obtain⟨us,EF⟩:=EF;have hW:=EF.ext F;have O:=km hW.outer (.cells #[u] 26);have ad:=F.size;refine zd _ I s x 55 N B 26 ab (.slice none 0 0) 1 24 gF hi V Y Z rfl Rs v _ _ T O ⟨W.heap.size,0,none⟩ 1 1 [u] U rfl ?_ ?_ ?_ ?_ ?_ ?_
 .exact Yb
 .exact Xr
 .unfold maxLen;omega
 .omega
 .simp;omega
 .intro D w' R Fy _;have hg:W.grownBy w' v.ownBlock:=⟨Fy.os,Fy.tape,Fy.output,Vi,fun k hk J=>(Fy.block k RS J).trans (sC W _ hk)⟩;refine G D w' ⟨us++[u],?_,?_,?_⟩ (F.mono H |>.trans ((aj _ _).grown hg Rr fun k hk=>(bL hW.outer k hk).1))
  .simpa using R
  .exact Zt
  .exact ZK
theorem bC.set{g cap:Nat}{rows:aN}{r:aH}(ad:n=rows.length)(h:bC J B (.slice (some ⟨g,0,none⟩) n cap) rows us)(I:ag J W)(O:aD W J.heap.size u r)(ab:B<=J.heap.size)(hk:k<n):bC (W.setCell ⟨g,k,none⟩ u) B (.slice (some ⟨g,0,none⟩) n cap) (rows.set k r) (us.set k u)/\Below B J (W.setCell ⟨g,k,none⟩ u)/\(∃v0,ae W g k v0)/\W.frozen? ⟨g,k,none⟩=false:=by
 subst ad;have D:=h.ext I;have ap:=I.size;have N:=D.outer.stored k u;have ac:=bL D.outer g rfl;refine⟨⟨by simpa using N.1,?_,?_⟩,(I.mono ab).trans ((aj _ _).setCell ac.1 u),?_,D.outer.frozenAt k⟩
 .intro j F r' H G;by_cases T:k=j
  .subst T;rw[fB Tl]at H;rw[fB hk]at G;cases H;cases G
   have U:=aD.kept O N.2 (eT D.outer O);exact⟨U.1,U.2.imp id fun⟨g,cap,Z,R,V,Y⟩=>⟨g,cap,Z,R,Rr,Y⟩⟩
  .rw[eF T]at H G;exact aD.kept (D.each j F r' H G) N.2 (eT D.outer (D.each j F r' H G))
 .have new:∀(i:Nat) (F:ax) (b:Nat),us[i]?=some F->F.ownBlock=some b->u.ownBlock=some b->False:=fun i F b h1 h2 h3=>by obtain⟨r',_,am⟩:=h.kC h1;have R:=(am.lt b h2).2;have V:=(O.lt b h3).1;omega
  intro i j u1 u2 b h1 h2 h3 h4;by_cases ci:k=i <;>by_cases cj:k=j
  .omega
  .subst ci;rw[fB Tl]at h1;rw[eF cj]at h2;cases h1
   exact(new j u2 b h2 h4 h3).elim
  .subst cj;rw[fB Tl]at h2;rw[eF ci]at h1;cases h2
   exact(new i u1 b h1 h3 h4).elim
  .exact Xh
 .obtain⟨u0,ao⟩:=aB (Tl:k<us.length);exact⟨u0,by rw[D.outer.cellAt k Rr];exact ao⟩
theorem aU.empty(h:w.ownsRow B 26 1 v 0 []):aU w B v []:=⟨[],h,fun k u r hu=>RN,fun i j u D b hu=>RN⟩
theorem tJ(A:aq)(cap:Nat)(rows:aN)(w:aa)(H:bk w A rows)(ab:rows.length<=1048576)(R:∀r∈rows,r.length<=1048576):aw 145 (aO A rows cap) w fun e w'=>∃u,e=.returned u/\aU w' w.heap.size u rows/\ag w w':=by
 obtain⟨ao,hi,ad,am,EK⟩:=de jV;go_enter func145,ntmps145
 go_wp2_with ((at_make;refine wpList_make_own _ rfl _ _ 55 rfl w.heap.size 26 ao (.slice none 0 0) 1 gF hi ad am .i64 .i64 rows.length rows.length rfl rfl rfl SA TD (af _) ?_;intro ap D N))
 have I:=cD N;have G:=zH (aU.empty D);clear D N;go_loopw [3,11] (fun u i wr=>∃k:Nat,k<=rows.length/\i=.int .i64 k/\aU wr w.heap.size u (rows.take k)/\ag w wr)
  (fun _ i _=>rows.length-(intOf i).toNat)
 case atStart=>exact⟨0,aX _,rfl,G.o,I⟩
 case round=>
  obtain⟨k,a5,rfl,D,EL⟩:=hrel;have F9:=zH D;clear D G I;by_cases O:k<rows.length
  .obtain⟨r,F⟩:=aB O;obtain⟨a2,o,rfl,J⟩:=(H.ext EL).here O;obtain⟨a0,a3,a4,Z⟩:=J k r F;obtain⟨U,HT⟩:=bD (show r.length<=1099511627776 by have:=R r (aY F);omega) (by rw[dH,F];rfl:rows.take (k+1)=rows.take k++[r]);have ac:=EL.size;have V:=zH (RS:(rows.take k).length+1<=1073741824);have a6:rows.length<9223372036854775807:=Rr;clear F J H R ab;go_wp2_with (first|(go_at_call 71;refine(ls _ _ _ _ Z U.o).mono ?_;rintro e w' ⟨u2,rfl,T,Y⟩;obtain⟨a1,c2,rfl,_⟩:=T.view)|(at_builtin;refine vz rfl _ _ rfl w.heap.size wr _ _ _ _ _ F9.o Y T V.o ac rfl rfl ?_;intro a7 ap F_ F6))
   exact YD
  .exact Xs
theorem zdp(n:Nat):(madeCells (Value.slice none 0 0).cells (n*1)).toList=List.replicate n (Value.slice none 0 0):=YR
theorem bC.made(h:w.ownsRow B 26 1 v n (madeCells (Value.slice none 0 0).cells (n*1)).toList):bC w B v (List.replicate n []) (List.replicate n (.slice none 0 0)):=by
 rw[zdp]at h;refine⟨R9,?_,?_⟩
 .exact YG
 .exact Yt
theorem kH(v D:Int)(A:aq)(cap:Nat)(rows:aN)(w:aa)(V:bk w A rows)(I:rows.length<=1048576)(Y:∀r∈rows,r.length<=1048576):aw 100 (cy (ar v D A rows cap)) w fun e w'=>∃u,e=.returned (.agg (dK v D u))/\aU w' w.heap.size u rows/\ag w w':=by
 have R:=zH I;clear I;go_enter func100,ntmps100
 go_wp2;go_region_held3 (fun w'=>ae w' w.heap.size 0 (.int .i64 v)/\ae w' w.heap.size 1 (.int .i64 D)/\ae w' w.heap.size 2 (.slice A rows.length cap)) (first|go_keep|exact⟨al h Rq,al h Rq,al h Rq⟩)
  ((go_at_call 145;refine(tJ _ _ _ _ (V.ext ?_) R.o Y).mono ?_;exact(((aj _ _).alloc (af _) _).alloc Rq _).drew;rintro e w' ⟨u2,rfl,F,h⟩;obtain⟨G,c2,rfl,_⟩:=F.view;have T:=al h (p:=⟨w.heap.size+1,0,none⟩) (v:=()) Rq;have c1:=al h (p:=⟨w.heap.size+1,1,none⟩) (v:=()) Rq;have U:=al h (p:=⟨w.heap.size+1,2,none⟩) (v:=bW) Rq;have f0:=gJ h (p:=⟨w.heap.size+1,0,none⟩) Rq Rq;have f1:=gJ h (p:=⟨w.heap.size+1,1,none⟩) Rq Rq;have f2:=gJ h (p:=⟨w.heap.size+1,2,none⟩) Rq Rq))
 simp only[World.size_drew,dt]at F h;have J:=((F.setCell (a:=⟨w.heap.size+1,0,none⟩) Rq (.int .i64 v)).setCell (a:=⟨w.heap.size+1,1,none⟩) Rq (.int .i64 D)).setCell (a:=⟨w.heap.size+1,2,none⟩) Rq (.slice G rows.length c2);have H:=(((((((aj w.heap.size w).alloc (af _) _).alloc Rq _).drew).trans (h.mono Rr)).setCell (p:=⟨w.heap.size+1,0,none⟩) Rq (.int .i64 v)).setCell (p:=⟨w.heap.size+1,1,none⟩) Rq (.int .i64 D)).setCell (p:=⟨w.heap.size+1,2,none⟩) Rq (.slice G rows.length c2);obtain⟨N,O⟩:=bD J H;clear F J H h;go_wp2;refine aE (v:=.agg (ar v D G rows c2)) (by simp[results,results100,go_sem,T,c1,U]) rfl ⟨_,rfl,N.o.mono Rr,O.o⟩
theorem zbf(k a b c:Int)(A:aq)(cap:Nat)(xs:aH)(w:aa)(J:aJ w A xs)(N:xs.length<=1048576):aw 52 (cy (fO k a b c A xs.length cap)) w fun e w'=>∃u,e=.returned (.agg #[k,a,b,c,u])/\aD w' w.heap.size u xs/\ag w w':=by
 have I:=zH (Rr:xs.length<=1099511627776);clear N;go_enter func52,ntmps52
 go_wp2_with fail
 refine(zK _ _ _ _ (J.ext (((aj _ _).alloc Rq _ |>.alloc Rq _).alloc Sp _)) I.o).mono ?_;rintro e w' ⟨u2,rfl,D,h⟩;obtain⟨H,c2,rfl,_⟩:=D.view;obtain⟨⟨O,R,T,U,V⟩,_,_,_,_,Y⟩:=zdE h (b:=w.heap.size+1+1) (aC _ _ Rq);obtain⟨⟨Z,ab,ac,ad,am⟩,ao,ap,a0,a1,a2⟩:=zdE h (b:=w.heap.size+1) ((bJ _ _ Rq).trans (aC _ _ Rq));simp only[dt]at D;have G:=h.mono (B':=w.heap.size) Sp;have F:=(((aj w.heap.size w).alloc Rq _ |>.alloc Rq _).alloc Sp _).trans G;obtain⟨H3,HB⟩:=bD D F;clear D F G h;go_wp2;refine aE (v:=.agg (fO k a b c H xs.length c2)) (by simp[results,results52,go_sem, *]) rfl ⟨_,rfl,?_,?_⟩
 .exact Y8
 .exact Y6
theorem rW(w:aa)(n:Nat):Below w.heap.size w (w.drewN n):=by
 induction n with
 |zero=>exact aj _ _
 |succ n ih=>exact ih.trans ⟨rfl,rfl,rfl,af _,fun _ _=>rfl⟩
def Left(left r:Int)(n:Nat):Prop:=r<0∨(0<=r/\r<=left/\(n:Int)<=left)
theorem pX(A:aq)(n cap:Nat)(left:Int)(w:aa)(h:n<=maxLen)(F:0<=left)(G:left<=1048576):aw 23 #[.slice A n cap,left] w fun e w'=>∃r,e=.returned (.int .i64 r)/\Left left r n/\w=w':=by
 unfold maxLen at h;by_cases D:left-n<0
 .go_enter func23,ntmps23
  go_wp2;go_ret
  exact⟨_,rfl,au Rs,rfl⟩
 .go_enter func23,ntmps23
  go_wp2;go_ret
  exact⟨_,rfl,an Rr,rfl⟩
theorem zca(k a b c:Int)(A:aq)(n cap:Nat)(left:Int)(w:aa)(J:n<=maxLen)(H:0<=left)(I:left<=1048576):aw 48 (gD (oG k a b c A n cap) left) w fun e w'=>∃r,e=.returned (.int .i64 r)/\Left left r n/\ag w w':=by
 have D:=(aj w.heap.size w).alloc Rq (.cells (oG k a b c A n cap) 91);have h:=zH D;clear D;go_enter func48,ntmps48
 go_wp2_with ((go_at_call 23;refine(pX _ _ _ _ _ J H I).mono ?_;rintro e w' ⟨N,rfl,F,rfl⟩;have G:=zH F;clear F))
 .go_ret
  exact⟨_,rfl,au Rs,h.o⟩
 .go_ret
  exact⟨_,rfl,G.o,h.o⟩
theorem za4{D:Type}{xs ys:List D}{x y:D}(G:xs[k]?=some x)(h:ys[k]?=some y)(F:x≠y):xs≠ys:=by intro e;subst e;rw[G]at h;cases h;exact F rfl
theorem kT{h:Type}{xs ys:List h}{x:h}(D:xs.take k=ys.take k)(F:xs[k]?=some x)(G:ys[k]?=some x):xs.take (k+1)=ys.take (k+1):=by rw[dH,dH,D,F,G]
theorem nS{G:Type}{xs ys:List G}(h:xs.take k=ys.take k)(D:xs.length<=k)(F:ys.length<=k):xs=ys:=by rwa[cY D,cY F]at h
theorem pY(A G:aq)(cap Z:Nat)(xs ys:aH)(w:aa)(J:aJ w A xs)(N:aJ w G ys)(ac:xs.length<=maxLen)(ad:ys.length<=maxLen):aw 33 (lH A xs cap G ys Z) w (dM w (decide (xs=ys))):=by
 unfold maxLen at ac ad;by_cases hn:xs.length=ys.length
 .have ab:((xs.length:Int)!=(ys.length:Int))=false:=RH;have Hn:=zH hn;clear hn;go_enter func33,ntmps33
  go_wp2;go_loopw [5] (fun i wr=>∃k:Nat,k<=xs.length/\i=.int .i64 k/\xs.take k=ys.take k/\ag w wr) (fun i _=>xs.length-(intOf i).toNat)
  case atStart=>exact⟨0,aX _,rfl,Rq,aj _ _⟩
  case round=>
   obtain⟨k,ap,rfl,O,EL⟩:=hrel;have EX:=zH O;clear O;by_cases U:k<xs.length
   .have V:k<ys.length:=Tc;obtain⟨x,D⟩:=aB U;obtain⟨y,F⟩:=aB V;obtain⟨b,o,rfl,R⟩:=J.here U;obtain⟨Y,am,rfl,T⟩:=N.here V;have c1:∀W:Ext wr,ae W.W b (o+k) (.int .i64 x):=fun W=>W.cell (al EL (R k x D))
    have c2:∀W:Ext wr,ae W.W Y (am+k) (.int .i64 y):=fun W=>W.cell (al EL (T k y F))
    obtain⟨H,I⟩:=bD D F;clear D F R T J N;by_cases h:x=y
    .subst h;go_wp2;refine bK RP RP ?_
     repeat (go_big_quiet_step (fail))
     refine dn ?_;rintro _ ⟨W,rfl⟩;go_wp2;go_roundw
     case rel=>exact⟨k+1,Rr,Rt,kT EX.o H.o I.o,ai EL W.ok⟩
     case measure=>simp[intOf];omega
    .have ao:(x !=y)=true:=by simp[h]
     go_wp2;refine bK RP RP ?_
     repeat (go_big_quiet_step (fail))
     refine dn ?_;rintro _ ⟨W,rfl⟩;go_wp2;go_ret
     exact⟨aL (fW (za4 H.o I.o h)).symm,ai EL W.ok⟩
   .exact XK
 .have ab:((xs.length:Int)!=(ys.length:Int))=true:=RS;go_enter func33,ntmps33
  exact Xd
theorem za6(k a b c:Int)(A D:aq)(cap F:Nat)(xs:aH)(w:aa)(G:aJ w A xs)(H:aJ w D xs)(J:xs.length<=maxLen):aw 57 (iD (fO k a b c A xs.length cap) (fO k a b c D xs.length F)) w (dM w true):=by
 have h:=((aj w.heap.size w).alloc Rq (.cells (fO k a b c A xs.length cap) 97)).alloc Rq (.cells (fO k a b c D xs.length F) 97);have O:=zH h;have T:=G.ext h;have U:=H.ext h;clear h G H;have N:=zH (gH (rfl:xs=xs));go_enter func57,ntmps57
 go_wp2_with ((go_at_call 33;refine(Calls.be (pY _ _ _ _ _ _ _ T U J J) N.o).mono ?_;rintro e w' ⟨rfl,I⟩;have R:=zH I;clear I))
 go_ret
 exact⟨rfl,O.o.trans (R.o.mono Sp)⟩
end Go.Proofs.YtpieilkmmiopfaaGreatDoor
