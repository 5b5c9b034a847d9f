/- Parts of the walks. Conditions: as stated with each. -/
import Derived.Test.YtdpgblncijojiaaGreatDoorMc
namespace Go.Proofs.YtdpgblncijojiaaGreatDoor
open Go.RowKit Tryz
set_option linter.all false
set_option maxHeartbeats 1000000
set_option maxRecDepth 100000
variable{A:an}{B B' b c k n:Nat}{E W w w':aa}{H u v v' y:au}{J:iq}{Q:gU}{RQ t:dG}{a:Act}{args:gh}{o:gI}{p:Int}{rest:List Oper}{row:Option Nat}{us:bG}{xs:aG}
def aT(w:aa)(A:an)(xs:aG):Prop:=
 xs=[]∨∃b o,A=some ⟨b,o,none⟩/\∀k x,xs[k]?=some x->ah w b (o+k) (zI x)
def aX(w:aa)(A:an)(rows:aE):Prop:=
 rows=[]∨∃b o,A=some ⟨b,o,none⟩/\∀k r,rows[k]?=some r->∃z cap,ah w b (o+k) (.slice z r.length cap)/\aT w z r
def Below.zc_(h:Below B w w'){p:dD}(z:w.cell? p=some v)(D:p.block<B):w'.cell? p=some v:=(h.cell D).trans z
def av(h:ai w w'){p:dD}(z:w.cell? p=some v):w'.cell? p=some v:=Below.zc_ h z (iN w p z)
def gO(h:ai w w'){p:dD}(z:w.frozen? p=false)(D:p.block < (w:Nat)):w'.frozen? p=false:=(h.frozen D).trans z
def aT.ext(h:aT w A xs)(D:ai w w'):aT w' A xs:=by
 rcases h with h|⟨b,o,z,E⟩
 .exact aF h
 .exact aA ⟨b,o,z,fun k x F=>av D (E k x F)⟩
def aX.ext{rows:aE}(h:aX w A rows)(z:ai w w'):aX w' A rows:=by
 rcases h with h|⟨b,o,H,I⟩
 .exact aF h
 .refine aA ⟨b,o,H,fun k r J=>?_⟩;obtain⟨D,cap,E,F⟩:=I k r J;exact⟨D,cap,av z E,F.ext z⟩
structure Ext(w:aa) where
 W:World
 ok:ai w W
instance (w:aa):Nonempty (Ext w):=⟨⟨w,aj _ _⟩⟩
def af{a b:aa}(h:ai w a)(k:ai a b):ai w b:=h.trans (k.mono h.size)
def kV{x:au}(z:ai W w')(h:aU W b #[x,y,H] t):ah w' b 0 x/\ah w' b 1 y/\ah w' b 2 H/\w'.frozen? ⟨b,0,none⟩=false/\w'.frozen? ⟨b,1,none⟩=false/\w'.frozen? ⟨b,2,none⟩=false:=by have h':aU w' b #[x,y,H] t:=(z.block b (aM.1 h).1).trans h;simp[World.cell?,World.frozen?,h']
def jk{x:au}(z:ai W w')(h:aU W b #[x,y,H,u,v] t):(ah w' b 0 x/\ah w' b 1 y/\ah w' b 2 H/\ah w' b 3 u/\ah w' b 4 v)/\w'.frozen? ⟨b,0,none⟩=false/\w'.frozen? ⟨b,1,none⟩=false/\w'.frozen? ⟨b,2,none⟩=false/\w'.frozen? ⟨b,3,none⟩=false/\w'.frozen? ⟨b,4,none⟩=false:=by have h':aU w' b #[x,y,H,u,v] t:=(z.block b (aM.1 h).1).trans h;simp[World.cell?,World.frozen?,h']
def az(w:aa)(o:Obj)(h:n=(w:Nat)):(w.alloc o).heap[n]?=some o:=by subst h;show(w.heap.push o)[w.heap.size]?=_;simp
def b_(w:aa)(o:Obj)(h:k < (w:Nat)):(w.alloc o).heap[k]?=w.heap[k]?:=by
 show(w.heap.push o)[k]?=_
 rw[Array.getElem?_push,al RU]
def bV{P:kR}{id:Nat}{l:List Oper}(E:P.follows .mixedOrders=true)(D:Region.lexB .any l.toArray=true)(h:wpQuiet P l.toArray (fun w'=>∃W:Ext w,w'=W.W) (fun z=>∀w',(∃W:Ext w,w'=W.W)->Q .normal z w') l a):(Code.region id l.toArray true).wp P Q a w:=wp_region_quiet (C:=fun w'=>∃W:Ext w,w'=W.W) E D ⟨⟨_,(aj _ _).drew⟩,rfl⟩ So
def mD{P:kR}{I:iq}{C:iS}{H:Act->Prop}{F:gU}(D:∀a w,C w->H a->F .normal a w):∀(l:List Oper) (a:Act) (w:aa),C w->wpQuiet P I C H l a->wpList P I F l a w
 |[],a,w,z,h=>D a w z h
 |o::l,a,w,z,h=>by
  unfold wpQuiet at h;unfold wpList;split
  .rename_i E;rw[ay E]at h;exact aF (Oper.wp_of_quiet z (fun J w' O h'=>mD D l J w' O h') h)
  .rename_i E;rw[al E]at h;exact mD D l _ w z h
def cV{P:kR}{id:Nat}{l:List Oper}(h:wpQuiet P l.toArray (fun w'=>∃W:Ext w,w'=W.W) (fun z=>∀w',(∃W:Ext w,w'=W.W)->Q .normal z w') l a):(Code.region id l.toArray false).wp P Q a w:=wp_region_lit (mD (C:=fun w'=>∃W:Ext w,w'=W.W) (fun _ w' D h=>h w' D) l a w ⟨⟨w,aj _ _⟩,rfl⟩ h)
def Ext.cell(W:Ext w){p:dD}(z:w.cell? p=some v):W.W.cell? p=some v:=av W.ok z
def Ext.old{o:Obj}(W:Ext (w.alloc o)):Below w w W.W:=af ((aj _ _).alloc (ag _) _) W.ok
def Calls.eJ{P:kR}{f:FuncId}{W:Ext w}(h:Calls P f args W.W fun e w'=>e=.returned v/\Below W.W W.W w'):Calls P f args W.W fun e F=>e=.returned v/\∃z:Ext w,F=z.W:=h.mono fun _ _ ⟨D,E⟩=>⟨D,⟨_,af W.ok E⟩,rfl⟩
def Calls.cQ{P:kR}{f:FuncId}{W:Ext w}(h:Calls P f args W.W fun e w'=>e=.returned v/\W.W=w'):Calls P f args W.W fun e F=>e=.returned v/\∃z:Ext w,F=z.W:=h.mono fun _ _ ⟨D,E⟩=>⟨D,W,E.symm⟩
def Calls.dQ{P:kR}{f:FuncId}{x y:Bool}(h:Calls P f args w fun e w'=>e=.returned (.bool x)/\w=w')(e:x=y):Calls P f args w fun e w'=>e=.returned (.bool y)/\w=w':=e ▸ h
def Calls.bl{P:kR}{f:FuncId}{x y:Bool}(h:Calls P f args w (fC w x))(e:x=y):Calls P f args w (fC w y):=e ▸ h
def aS{a b:Bool}(h:a=b):Ending.returned (.bool a)=.returned (.bool b):=by rw[h]
def mO{a b:Int}(h:a=b):Ending.returned (zI a)=.returned (zI b):=by rw[h]
def gk{z:Type}(f:z->Bool)(xs:List z)(k:Nat)(x:z)(h:xs[k]?=some x):(xs.take (k+1)).all f=((xs.take k).all f&&f x):=by rw[gK,h];simp
def all_false{z:Type}(f:z->Bool)(xs:List z)(k:Nat)(x:z)(h:xs[k]?=some x)(D:f x=false):xs.all f=false:=by rw[List.all_eq_false];exact⟨x,a_ h,by simp[D]⟩
def jL{z:Type}(f:z->Bool)(xs:List z)(k:Nat)(h:(xs.take k).all f=true)(D:xs.length<=k):xs.all f=true:=by rwa[gq D]at h
def aB{z:Type}{xs:List z}(h:k<xs.length):∃x,xs[k]?=some x:=⟨_,dA h⟩
def aT.here(h:aT w A xs)(z:k<xs.length):∃b o,A=some ⟨b,o,none⟩/\∀k x,xs[k]?=some x->ah w b (o+k) (zI x):=by
 rcases h with h|h
 .simp[h]at z
 .exact h
def aX.here{rows:aE}(h:aX w A rows)(D:k<rows.length):∃b o,A=some ⟨b,o,none⟩/\∀k r,rows[k]?=some r->∃z cap,ah w b (o+k) (.slice z r.length cap)/\aT w z r:=by
 rcases h with h|h
 .simp[h]at D
 .exact h
def eX(n lo hi:Int):Bool:=decide (lo<=n)&&decide (n<=hi)
def jr(p a:Int):Bool:=decide (0<=a)&&decide (a<p)
def oX(p:Int)(xs:aG)(n:Int):Bool:=decide ((xs:Int)=n)&&xs.all (jr p)
def sM(p:Int)(rows:aE)(n:Int):Bool:=rows.all fun r=>oX p r n
def dr(p:Int):Bool:=eX p 2 97&&[(2:Int),3,5,7].all fun q=>!(decide (p%q=0)&&decide (p≠q))
def fZ(p v h:Int)(rows:aE):Bool:=dr p&&(eX v 0 24&&(eX h 0 100&&(decide (rows.length<=160)&&sM p rows (v+h))))
structure dm(w:aa):Prop where
 c0:ah w 0 0 (zI 2)
 c1:ah w 0 1 (zI 3)
 c2:ah w 0 2 (zI 5)
 c3:ah w 0 3 (zI 7)
def dm.ext(h:dm w)(z:ai w w'):dm w':=⟨av z h.c0,av z h.c1,av z h.c2,av z h.c3⟩
def ez(n lo hi:Int)(w:aa):aw 39 (fB n lo hi) w fun e w'=>e=.returned (.bool (eX n lo hi))/\w=w':=by
 unfold eX;by_cases z:lo<=n <;>by_cases D:n<=hi
 all_goals
  go_enter func39,ntmps39
  go_wp2;go_ret
  exact⟨by simp[z,D],rfl⟩
def aL(n lo hi:Int)(w:aa):aw 69 (fB n lo hi) w fun e w'=>e=.returned (.bool (eX n lo hi))/\w=w':=by
 unfold eX;by_cases z:lo<=n <;>by_cases D:n<=hi
 all_goals
  go_enter func69,ntmps69
  go_wp2;go_ret
  exact⟨by simp[z,D],rfl⟩
def kB(p a:Int)(w:aa):aw 131 (bP p a) w fun e w'=>e=.returned (.bool (jr p a))/\w=w':=by
 unfold jr;by_cases z:0<=a <;>by_cases D:a<p
 all_goals
  go_enter func131,ntmps131
  go_wp2;go_ret
  exact⟨by simp[z,D],rfl⟩
def mS(p n:Int)(A:an)(cap:Nat)(xs:aG)(w:aa)(h:aT w A xs)(J:xs.length<=maxLen):aw 107 #[p,.slice A xs cap,n] w fun e w'=>e=.returned (.bool (oX p xs n))/\w=w':=by
 unfold maxLen at J;by_cases hn:(xs:Int)=n
 .have I:((xs:Int)!=n)=false:=R_;have H:=zH hn;clear hn;go_enter func107,ntmps107
  go_wp2;go_loop [15] (fun i=>∃k:Nat,k<=xs.length/\i=.int .i64 k/\(xs.take k).all (jr p)=true) (fun i=>xs.length-(intOf i).toNat)
  case atStart=>exact⟨0,bf _,rfl,RS⟩
  case round=>
   obtain⟨k,Q,rfl,D⟩:=hrel;have EP:=zH D;clear D;by_cases F:k<xs.length
   .obtain⟨x,z⟩:=aB F;obtain⟨b,o,rfl,E⟩:=h.here F;have O:=E k x z;have Hx:=zH z;clear z E h;cases hf:jr p x
    .go_wp2_with (go_at_call 131;refine(kB _ _ _).mono ?_;rintro e w' ⟨rfl,rfl⟩;rw[hf])
     go_ret
     exact⟨by rw[oX,all_false _ _ _ _ Hx.o hf];simp,rfl⟩
    .go_wp2_with (go_at_call 131;refine(kB _ _ _).mono ?_;rintro e w' ⟨rfl,rfl⟩;rw[hf])
     exact YN
   .go_wp2;go_ret
    exact⟨by rw[oX,<-H.o,jL _ _ _ EP.o RU];simp,rfl⟩
 .have I:((xs:Int)!=n)=true:=R_;go_enter func107,ntmps107
  go_wp2;go_ret
  exact⟨by simp[oX,hn],rfl⟩
def zv(p n:Int)(A:an)(cap:Nat)(rows:aE)(w:aa)(h:aX w A rows)(R:rows.length<=maxLen)(O:∀r∈rows,r.length<=maxLen):aw 65 #[p,.slice A rows cap,n] w fun e w'=>e=.returned (.bool (sM p rows n))/\w=w':=by
 unfold maxLen at R;go_enter func65,ntmps65
 go_wp2;go_loop [11] (fun i=>∃k:Nat,k<=rows.length/\i=.int .i64 k/\(rows.take k).all (fun r=>oX p r n)=true) (fun i=>rows.length-(intOf i).toNat)
 case atStart=>exact⟨0,bf _,rfl,RS⟩
 case round=>
  obtain⟨k,ab,rfl,F⟩:=hrel;have EP:=zH F;clear F;by_cases J:k<rows.length
  .obtain⟨r,D⟩:=aB J;obtain⟨b,o,rfl,H⟩:=h.here J;obtain⟨U,Y,Z,I⟩:=H k r D;have Q:=O r (a_ D);have E:=zH D;clear D H h O;cases z:oX p r n
   .go_wp2_with (go_at_call 107;refine(mS _ _ _ _ _ _ I Q).mono ?_;rintro e w' ⟨rfl,rfl⟩;rw[z])
    go_ret
    exact⟨aS (by rw[sM,all_false _ _ _ _ E.o z]),rfl⟩
   .go_wp2_with (go_at_call 107;refine(mS _ _ _ _ _ _ I Q).mono ?_;rintro e w' ⟨rfl,rfl⟩;rw[z])
    go_round
    case rel=>exact⟨k+1,RU,RW,by rw[gk _ _ _ _ E.o,EP.o,z];rfl⟩
    case measure=>simp[intOf];omega
  .exact XK
def j3(lo hi:Int)(A:an)(cap:Nat)(xs:aG)(w:aa)(h:aT w A xs)(H:xs.length<=maxLen):aw 72 #[.slice A xs cap,lo,hi] w fun e w'=>e=.returned (.bool (xs.all fun x=>eX x lo hi))/\w=w':=by
 unfold maxLen at H;go_enter func72,ntmps72
 go_wp2;go_loop [11] (fun i=>∃k:Nat,k<=xs.length/\i=.int .i64 k/\(xs.take k).all (fun x=>eX x lo hi)=true) (fun i=>xs.length-(intOf i).toNat)
 case atStart=>exact⟨0,bf _,rfl,RS⟩
 case round=>
  obtain⟨k,J,rfl,D⟩:=hrel;have EP:=zH D;clear D;by_cases F:k<xs.length
  .obtain⟨x,z⟩:=aB F;obtain⟨b,o,rfl,E⟩:=h.here F;have I:=E k x z;have Hx:=zH z;clear z E h;cases hf:eX x lo hi
   .go_wp2_with (go_at_call 69;refine(aL _ _ _ _).mono ?_;rintro e w' ⟨rfl,rfl⟩;rw[hf])
    go_ret
    exact⟨aS (by rw[all_false _ _ _ _ Hx.o hf]),rfl⟩
   .go_wp2_with (go_at_call 69;refine(aL _ _ _ _).mono ?_;rintro e w' ⟨rfl,rfl⟩;rw[hf])
    exact YN
  .go_wp2;go_ret
   exact⟨aS (by rw[jL _ _ _ EP.o RU]),rfl⟩
def rn(p:Int)(A:an)(cap:Nat)(xs:aG)(w:aa)(h:aT w A xs)(D:xs.length<=maxLen)(E:2<=p)(F:p<=97):aw 75 #[p,.slice A xs cap] w fun e w'=>e=.returned (.bool (xs.all (jr p)))/\w=w':=by
 have e:∀x,eX x 0 (p-1)=jr p x:=fun x=>by
  unfold eX jr;congr 1
  exact decide_eq_decide.2 RU
 have z:=zH e;clear e;go_enter func75,ntmps75
 go_wp2_with (go_at_call 72;refine(j3 _ _ _ _ _ _ h D).mono ?_;rintro e w' ⟨rfl,rfl⟩)
 go_ret
 exact⟨aS (by congr 1;funext x;exact z x),rfl⟩
def zbB(p n:Int)(A:an)(cap:Nat)(rows:aE)(w:aa)(h:aX w A rows)(ab:rows.length<=maxLen)(O:∀r∈rows,r.length<=maxLen)(Q:2<=p)(R:p<=97):aw 70 (ae p n A rows cap) w fun e w'=>e=.returned (.bool (sM p rows n))/\w=w':=by
 unfold maxLen at ab;go_enter func70,ntmps70
 go_wp2;go_loop [11] (fun i=>∃k:Nat,k<=rows.length/\i=.int .i64 k/\(rows.take k).all (fun r=>oX p r n)=true) (fun i=>rows.length-(intOf i).toNat)
 case atStart=>exact⟨0,bf _,rfl,RS⟩
 case round=>
  obtain⟨k,ao,rfl,F⟩:=hrel;have EP:=zH F;clear F;by_cases J:k<rows.length
  .obtain⟨r,D⟩:=aB J;obtain⟨b,o,rfl,H⟩:=h.here J;obtain⟨ac,ad,am,I⟩:=H k r D;have U:=O r (a_ D);have E:=zH D;clear D H h O;by_cases hn:(r:Int)=n
   .have Z:((r:Int)!=n)=false:=R_;have Y:=zH hn;clear hn;cases z:r.all (jr p)
    .go_wp2_with (go_at_call 75;refine(rn _ _ _ _ _ I U Q R).mono ?_;rintro e w' ⟨rfl,rfl⟩;rw[z])
     go_ret
     exact⟨aS (by rw[sM,all_false _ _ _ _ E.o (by rw[oX,z];simp)]),rfl⟩
    .go_wp2_with (go_at_call 75;refine(rn _ _ _ _ _ I U Q R).mono ?_;rintro e w' ⟨rfl,rfl⟩;rw[z])
     go_round
     case rel=>exact⟨k+1,RU,RW,by rw[gk _ _ _ _ E.o,EP.o,oX,z,Y.o];simp⟩
     case measure=>simp[intOf];omega
   .have Z:((r:Int)!=n)=true:=R_;go_wp2;go_ret
    exact⟨aS (by rw[sM,all_false _ _ _ _ E.o (by rw[oX];simp[hn])]),rfl⟩
  .exact XK
def k_(p q:Int):Bool:=decide (p%q=0)&&decide (p≠q)
def px(k:Nat)(z:k<4)(h:k_ p ([(2:Int),3,5,7].getD k 0)=true):dr p=false:=by
 unfold dr k_ at *;rw[Bool.and_eq_false_iff];right;rw[List.all_eq_false]
 match k,z with
 |0,_=>exact⟨2,RS,So⟩
 |1,_=>exact⟨3,RS,So⟩
 |2,_=>exact⟨5,RS,So⟩
 |3,_=>exact⟨7,RS,So⟩
def Dx(H:2<=p)(I:p<=97)(h:∀j,j<4->k_ p ([(2:Int),3,5,7].getD j 0)=false):dr p=true:=by have z:=h 0 RU;have D:=h 1 RU;have E:=h 2 RU;have F:=h 3 RU;simp only[k_,List.getD_cons_zero,List.getD_cons_succ]at z D E F;simp only[dr,eX,vH,List.all_nil,z,D,E,F];simp[H,I]
def mj(p:Int)(w:aa)(h:dm w):aw 64 (bg p) w fun e w'=>e=.returned (.bool (dr p))/\w=w':=by
 obtain⟨H,c1,c2,c3⟩:=h;by_cases I:p<2
 .exact XZ
 by_cases J:97<p
 .exact XZ
 go_enter func64,ntmps64
 go_wp2;have Q:∀w,(Instr.index 124 (.agg vm) (zI 0)).run prog w=.ok (zI 2) w:=fun _=>Si
 have R:∀w,(Instr.index 124 (.agg vm) (zI 1)).run prog w=.ok (zI 3) w:=fun _=>Si
 have U:∀w,(Instr.index 124 (.agg vm) (zI 2)).run prog w=.ok (zI 5) w:=fun _=>Si
 have Y:∀w,(Instr.index 124 (.agg vm) (zI 3)).run prog w=.ok (zI 7) w:=fun _=>Si
 go_loop [12] (fun i=>∃k:Nat,k<=4/\i=.int .i64 k/\∀j,j<k->k_ p ([(2:Int),3,5,7].getD j 0)=false) (fun i=>4-(intOf i).toNat)
 case atStart=>exact⟨0,RU,rfl,fun j hj=>RU⟩
 case round=>
  obtain⟨k,O,rfl,F⟩:=hrel;have EP:=zH F;clear F;rcases(RU:k=4∨k=0∨k=1∨k=2∨k=3)with rfl|rfl|rfl|rfl|rfl
  .go_wp2;go_ret
   exact⟨aS (by rw[Dx RU RU EP]),rfl⟩
  .by_cases m:p%2=0
   .have D:(p%2==0)=true:=R3;by_cases e:p=2
    .have z:k_ p 2=false:=Sm;have HB:=zH z;clear z;have E:(p !=2)=false:=R0;clear m e;exact Zc
    .have E:(p !=2)=true:=R0;have z:k_ p 2=true:=SS;have HB:=zH z;clear z m e;go_wp2;go_ret
     exact⟨aS (by rw[px 0 RU HB]),rfl⟩
   .have D:(p%2==0)=false:=R3;have z:k_ p 2=false:=Sl;have HB:=zH z;clear z m;exact Zc
  .by_cases m:p%3=0
   .have D:(p%3==0)=true:=R3;by_cases e:p=3
    .have z:k_ p 3=false:=Sm;have HB:=zH z;clear z;have E:(p !=3)=false:=R0;clear m e;exact Zb
    .have E:(p !=3)=true:=R0;have z:k_ p 3=true:=SS;have HB:=zH z;clear z m e;go_wp2;go_ret
     exact⟨aS (by rw[px 1 RU HB]),rfl⟩
   .have D:(p%3==0)=false:=R3;have z:k_ p 3=false:=Sl;have HB:=zH z;clear z m;exact Zb
  .by_cases m:p%5=0
   .have D:(p%5==0)=true:=R3;by_cases e:p=5
    .have z:k_ p 5=false:=Sm;have HB:=zH z;clear z;have E:(p !=5)=false:=R0;clear m e;exact Za
    .have E:(p !=5)=true:=R0;have z:k_ p 5=true:=SS;have HB:=zH z;clear z m e;go_wp2;go_ret
     exact⟨aS (by rw[px 2 RU HB]),rfl⟩
   .have D:(p%5==0)=false:=R3;have z:k_ p 5=false:=Sl;have HB:=zH z;clear z m;exact Za
  .by_cases m:p%7=0
   .have D:(p%7==0)=true:=R3;by_cases e:p=7
    .have z:k_ p 7=false:=Sm;have HB:=zH z;clear z;have E:(p !=7)=false:=R0;clear m e;exact Y_
    .have E:(p !=7)=true:=R0;have z:k_ p 7=true:=SS;have HB:=zH z;clear z m e;go_wp2;go_ret
     exact⟨aS (by rw[px 3 RU HB]),rfl⟩
   .have D:(p%7==0)=false:=R3;have z:k_ p 7=false:=Sl;have HB:=zH z;clear z m;exact Y_
def zV:((List.range 98).all fun p=>(List.range 10).all fun k=>decide (p<2)||decide (k<2)||decide (p<k*k)||decide (p%k≠0)||!dr (p:Nat))=true:=SP
def xf:((List.range 98).all fun p=>(List.range 11).all fun k=>decide (p<2)||decide (k<2)||decide (k*k<=p)||((List.range k).any fun j=>decide (2<=j)&&decide (p%j=0))||dr (p:Nat))=true:=SP
def zW(p:Nat)(z:p<98)(k:Nat)(D:k<10)(F:2<=p)(H:2<=k)(I:k*k<=p)(E:p%k=0):dr (p:Nat)=false:=by
 have:=fp.1 (fp.1 zV p (et.2 z)) k (et.2 D);simp only[lQ,cK,Bool.not_eq_true']at this;rcases this with(((h|h)|h)|h)|h
 .omega
 .omega
 .omega
 .exact absurd E h
 .exact h
def xg(p:Nat)(D:p<98)(k:Nat)(z:k<11)(H:2<=p)(I:2<=k)(J:p<k*k)(E:∀j,j<k->2<=j->p%j≠0):dr (p:Nat)=true:=by
 have:=fp.1 (fp.1 xf p (et.2 D)) k (et.2 z);simp only[lQ,cK,lT,bC,et]at this;rcases this with(((h|h)|h)|⟨j,F,z,h⟩)|h
 .omega
 .omega
 .omega
 .exact absurd h (E j F z)
 .exact h
def zc5{k:Int}(E:2<=p)(F:p<=97)(H:2<=k)(I:k<=9)(z:k*k<=p)(D:p%k=0):dr p=false:=by obtain⟨p,rfl⟩:=fX (RU:0<=p);obtain⟨k,rfl⟩:=fX (RU:0<=k);exact zW p RU k RU RU RU (by exact_mod_cast z) (by exact_mod_cast D)
def Dy{k:Int}(E:2<=p)(F:p<=97)(H:2<=k)(I:k<=10)(z:p<k*k)(D:∀j,2<=j->j<k->p%j≠0):dr p=true:=by
 obtain⟨p,rfl⟩:=fX (RU:0<=p);obtain⟨k,rfl⟩:=fX (RU:0<=k);exact xg p RU k RU RU RU (by exact_mod_cast z) fun j J O=>by
  have:=D j RU RU
  exact_mod_cast this
def ziH{k:Int}(z:2<=k)(D:k<=10):0<=k*k/\k*k<=100/\(k=10->k*k=100):=by obtain⟨k,rfl⟩:=fX (RU:0<=k);have h:k<11:=RU;have:∀k,k<11->k*k<=100:=RX;have:=this k h;refine⟨RU,by exact_mod_cast this,fun e=>?_⟩;obtain rfl:k=10:=RU;rfl
def kK(p:Int)(w:aa):aw 43 (bg p) w fun e w'=>e=.returned (.bool (dr p))/\w=w':=by
 cases hi:eX p 2 97
 .go_enter func43,ntmps43
  go_wp2_with (go_at_call 69;refine(aL _ _ _ _).mono ?_;rintro e w' ⟨rfl,rfl⟩;rw[hi])
  go_ret
  exact⟨aS (by rw[dr,hi];rfl),rfl⟩
 have U:2<=p/\p<=97:=Tr;obtain⟨I,J⟩:=U;go_enter func43,ntmps43
 go_wp2_with (go_at_call 69;refine(aL _ _ _ _).mono ?_;rintro e w' ⟨rfl,rfl⟩;rw[hi])
 go_loop [3] (fun i=>∃k:Int,2<=k/\k<=10/\i=.int .i64 k/\∀j,2<=j->j<k->p%j≠0) (fun i=>10-(intOf i).toNat)
 case atStart=>exact⟨2,RU,RU,rfl,fun j _ _=>RU⟩
 case round=>
  obtain⟨k,z,H,rfl,F⟩:=hrel;have E:=zH F;clear F;obtain⟨Z,ab,D⟩:=ziH z H;by_cases Y:k*k<=p
  .have R:k<=9:=by
    rcases(RU:k<=9∨k=10)with h|h
    .exact h
    .have:=D h;omega
   clear D;by_cases m:p%k=0
   .have O:(p%k==0)=true:=R3;have M:=zH m;clear m;go_wp2;go_ret
    exact⟨aS (by rw[zc5 I J z R Y M.o]),rfl⟩
   .have O:(p%k==0)=false:=R3;have M:=zH m;clear m;go_wp2;go_round
    case rel=>exact⟨k+1,RU,RU,RW,fun j a b=>by
     by_cases Q:j<k
     .exact E.o j a Q
     .obtain rfl:j=k:=RU;exact M.o⟩
    case measure=>simp[intOf];omega
  .clear D;go_wp2;go_ret
   exact⟨aS (by rw[Dy I J z H RU E.o]),rfl⟩
def oV(v h:Int)(z:au)(w:aa)(F:0<=v)(H:v<=1000)(D:0<=h)(E:h<=1000):aw 66 (cJ (dE v h z)) w fun e w'=>e=.returned (zI (v+h))/\ai w w':=by
 go_enter func66,ntmps66
 go_wp2;go_ret
 exact⟨rfl,(aj _ _).alloc (ag _) _⟩
def jV(p v h:Int)(A:an)(cap:Nat)(rows:aE)(w:aa)(z:dm w)(E:aX w A rows)(Q:rows.length<=maxLen)(R:∀r∈rows,r.length<=maxLen):aw 33 #[p,.agg (ae v h A rows cap)] w (fC w (fZ p v h rows)):=by
 have Y:∀W:Ext (w.alloc (.cells (ae v h A rows cap) 26)),ah W.W w 0 (zI v):=fun W=>W.cell RS
 have Z:∀W:Ext (w.alloc (.cells (ae v h A rows cap) 26)),ah W.W w 1 (zI h):=fun W=>W.cell RS
 have ab:∀W:Ext (w.alloc (.cells (ae v h A rows cap) 26)),ah W.W w 2 (.slice A rows cap):=fun W=>W.cell RS
 have D:∀W:Ext (w.alloc (.cells (ae v h A rows cap) 26)),dm W.W:=fun W=>z.ext W.old
 have F:∀W:Ext (w.alloc (.cells (ae v h A rows cap) 26)),aX W.W A rows:=fun W=>E.ext W.old
 obtain⟨HP,I⟩:=bS D F;clear z E D F;cases hf:dr p
 .go_enter func33,ntmps33
  go_wp2;refine bV Si Si ?_
  repeat (go_big_quiet_step ((go_at_call 64;exact Calls.cQ (v:=.bool false) U1)))
  refine dF ?_;rintro _ ⟨W,rfl⟩;go_wp2;go_ret
  exact⟨aS (by rw[fZ,hf];rfl),W.old⟩
 cases hv:eX v 0 24
 .go_enter func33,ntmps33
  go_wp2;refine bV Si Si ?_
  repeat (go_big_quiet_step (first|(go_at_call 64;exact Calls.cQ (v:=.bool true) U1)|(go_at_call_of 39 v;exact Calls.cQ (v:=.bool false) UH)))
  refine dF ?_;rintro _ ⟨W,rfl⟩;go_wp2;go_ret
  exact⟨aS (by rw[fZ,hf,hv];rfl),W.old⟩
 cases hh:eX h 0 100
 .go_enter func33,ntmps33
  go_wp2;refine bV Si Si ?_
  repeat (go_big_quiet_step (first|(go_at_call 64;exact Calls.cQ (v:=.bool true) U1)|(go_at_call_of 39 v;exact Calls.cQ (v:=.bool true) UH)|(go_at_call_of 39 h;exact Calls.cQ (v:=.bool false) UG)))
  refine dF ?_;rintro _ ⟨W,rfl⟩;go_wp2;go_ret
  exact⟨aS (by rw[fZ,hf,hv,hh];rfl),W.old⟩
 obtain⟨v1,v2⟩:0<=v/\v<=24:=by simpa[eX]using hv
 obtain⟨J,U⟩:0<=h/\h<=100:=by simpa[eX]using hh
 by_cases H:rows.length<=160
 .have O:decide ((rows:Int)<=160)=true:=Sk;go_enter func33,ntmps33
  go_wp2;refine bV Si Si ?_
  repeat (go_big_quiet_step (first|(go_at_call 64;exact Calls.cQ (v:=.bool true) U1)|(go_at_call_of 39 v;exact Calls.cQ (v:=.bool true) UH)|(go_at_call_of 39 h;exact Calls.cQ (v:=.bool true) UG)|(go_at_call 66;exact Calls.eJ (oV v h _ _ v1 RU J RU))|(go_at_call 65;exact Calls.cQ (zv _ _ _ _ _ _ (I.o _) Q R))))
  refine dF ?_;rintro _ ⟨W,rfl⟩;go_wp2;go_ret
  exact⟨aS (by simp[fZ,hf,hv,hh,H]),W.old⟩
 .have O:decide ((rows:Int)<=160)=false:=Sk;go_enter func33,ntmps33
  go_wp2;refine bV Si Si ?_
  repeat (go_big_quiet_step (first|(go_at_call 64;exact Calls.cQ (v:=.bool true) U1)|(go_at_call_of 39 v;exact Calls.cQ (v:=.bool true) UH)|(go_at_call_of 39 h;exact Calls.cQ (v:=.bool true) UG)))
  refine dF ?_;rintro _ ⟨W,rfl⟩;go_wp2;go_ret
  exact⟨aS (by simp[fZ,H]),W.old⟩
def pv(p v h:Int)(A:an)(cap:Nat)(rows:aE)(w:aa)(I:aX w A rows)(Q:rows.length<=maxLen)(R:∀r∈rows,r.length<=maxLen):aw 35 #[p,.agg (ae v h A rows cap)] w (fC w (fZ p v h rows)):=by
 have Y:=I.ext ((aj w w).alloc (ag _) (.cells (ae v h A rows cap) 26));clear I;have F:=(aj w w).alloc (ag _) (.cells (ae v h A rows cap) 26);cases z:dr p
 .go_enter func35,ntmps35
  go_wp2_with ((go_at_call 43;refine(Calls.dQ (kK _ _) z).mono ?_;rintro e w' ⟨rfl,rfl⟩))
  go_ret
  exact⟨aS (by rw[fZ,z];rfl),F⟩
 cases D:eX v 0 24
 .go_enter func35,ntmps35
  go_wp2_with (first|(go_at_call 43;refine(Calls.dQ (kK _ _) z).mono ?_;rintro e w' ⟨rfl,rfl⟩)|(go_at_call_of 69 v;refine(Calls.dQ (aL _ _ _ _) D).mono ?_;rintro e w' ⟨rfl,rfl⟩))
  go_ret
  exact⟨aS (by rw[fZ,z,D];rfl),F⟩
 cases E:eX h 0 100
 .go_enter func35,ntmps35
  go_wp2_with (first|(go_at_call 43;refine(Calls.dQ (kK _ _) z).mono ?_;rintro e w' ⟨rfl,rfl⟩)|(go_at_call_of 69 v;refine(Calls.dQ (aL _ _ _ _) D).mono ?_;rintro e w' ⟨rfl,rfl⟩)|(go_at_call_of 69 h;refine(Calls.dQ (aL _ _ _ _) E).mono ?_;rintro e w' ⟨rfl,rfl⟩))
  go_ret
  exact⟨aS (by rw[fZ,z,D,E];rfl),F⟩
 obtain⟨U,p2⟩:2<=p/\p<=97:=by have H:=z;unfold dr at H;rw[bC]at H;simpa[eX]using H.1
 obtain⟨v1,v2⟩:0<=v/\v<=24:=by simpa[eX]using D
 obtain⟨Z,ab⟩:0<=h/\h<=100:=by simpa[eX]using E
 by_cases J:rows.length<=160
 .have O:decide ((rows:Int)<=160)=true:=Sk;go_enter func35,ntmps35
  go_wp2_with (first|(go_at_call 43;refine(Calls.dQ (kK _ _) z).mono ?_;rintro e w' ⟨rfl,rfl⟩)|(go_at_call_of 69 v;refine(Calls.dQ (aL _ _ _ _) D).mono ?_;rintro e w' ⟨rfl,rfl⟩)|(go_at_call_of 69 h;refine(Calls.dQ (aL _ _ _ _) E).mono ?_;rintro e w' ⟨rfl,rfl⟩)|(go_at_call 70;refine(zbB _ _ _ _ _ _ Y Q R U p2).mono ?_;rintro e w' ⟨rfl,rfl⟩))
  go_ret
  exact⟨aS (by simp[fZ,z,D,E,J]),F⟩
 .have O:decide ((rows:Int)<=160)=false:=Sk;go_enter func35,ntmps35
  go_wp2_with (first|(go_at_call 43;refine(Calls.dQ (kK _ _) z).mono ?_;rintro e w' ⟨rfl,rfl⟩)|(go_at_call_of 69 v;refine(Calls.dQ (aL _ _ _ _) D).mono ?_;rintro e w' ⟨rfl,rfl⟩)|(go_at_call_of 69 h;refine(Calls.dQ (aL _ _ _ _) E).mono ?_;rintro e w' ⟨rfl,rfl⟩))
  go_ret
  exact⟨aS (by simp[fZ,J]),F⟩
def yN{z:Type}{xs:List z}{x:z}(h:xs[k]?=some x):xs.zipIdx[k]?=some (x,k):=by rw[CP,h];simp
def dV(v h a:Int)(A:an)(n cap:Nat)(w:aa)(D:n<=maxLen):aw 209 (iU (dj v h A n cap) a) w fun e w'=>e=.returned (.bool (eX a 0 ((n:Int)-1)))/\ai w w':=by
 unfold maxLen at D;have z:=(aj w w).alloc (ag _) (.cells (dj v h A n cap) 26);go_enter func209,ntmps209
 go_wp2_with (go_at_call 39;refine(ez _ _ _ _).mono ?_;rintro e w' ⟨rfl,rfl⟩)
 go_ret
 exact⟨rfl,z⟩
def ky(v h b:Int)(z:au)(w:aa)(E:0<=h)(F:h<=100):aw 233 (iU (dE v h z) b) w (fC w (eX b 0 (h-1))):=by
 have D:=(aj w w).alloc (ag _) (.cells (dE v h z) 26);go_enter func233,ntmps233
 go_wp2_with (go_at_call 39;refine(ez _ _ _ _).mono ?_;rintro e w' ⟨rfl,rfl⟩)
 go_ret
 exact⟨rfl,D⟩
def oZ(rows:aE)(c:Nat)(z:Int):Bool:=rows.zipIdx.all fun x=>decide ((x.2:Int)=z)||decide (x.1.getD c 0=0)
def yO(v h b z:Int)(A:an)(cap:Nat)(rows:aE)(w:aa)(D:aX w A rows)(ao:rows.length<=maxLen)(bi:0<=v)(bm:v<=24)(ba:h<=100)(a6:0<=b)(a7:b<h)(Z:∀r∈rows,(r.length:Int)=v+h):aw 234 #[.agg (ae v h A rows cap),b,z] w (fC w (oZ rows (v+b).toNat z)):=by
 unfold maxLen at ao;have I:=(aj w w).alloc (ag _) (.cells (ae v h A rows cap) 26)
 replace D:=D.ext I
 go_enter func234,ntmps234
 go_wp2;go_loop [12] (fun i=>∃k:Nat,k<=rows.length/\i=.int .i64 k/\(rows.zipIdx.take k).all (fun x=>decide ((x.2:Int)=z)||decide (x.1.getD (v+b).toNat 0=0))=true) (fun i=>rows.length-(intOf i).toNat)
 case atStart=>exact⟨0,bf _,rfl,RS⟩
 case round=>
  obtain⟨k,be,rfl,Q⟩:=hrel;have F:=zH Q;clear Q;by_cases ab:k<rows.length
  .obtain⟨r,E⟩:=aB ab;obtain⟨a3,o,rfl,R⟩:=D.here ab;obtain⟨a1,a4,a8,Y⟩:=R k r E;have a0:=Z r (a_ E);have ac:(v+b).toNat<r.length:=RU;obtain⟨x,J⟩:=aB ac;obtain⟨a2,bo,rfl,U⟩:=Y.here ac;have a9:=U _ _ J;obtain⟨H,O⟩:=bS (yN E) J;clear E R Z D Y U J;have bb:0<=v+b:=RU;have bd:v+b < (r:Int):=RU;clear a0;by_cases hn:(k:Int)=z
   .have ap:((k:Int)!=z)=false:=R_;have am:=zH hn;clear hn;go_wp2;go_round
    case rel=>exact⟨k+1,RU,RW,by rw[gk _ _ _ _ H.o,F.o];simp[am.o]⟩
    case measure=>simp[intOf];omega
   .have ap:((k:Int)!=z)=true:=R_;by_cases h0:x=0
    .subst h0;go_wp2;go_round
     case rel=>exact⟨k+1,RU,RW,by rw[gk _ _ _ _ H.o,F.o];simp[O.o]⟩
     case measure=>simp[intOf];omega
    .have a5:(x !=0)=true:=Sd;have ad:=zH h0;clear h0;go_wp2;go_ret
     exact⟨aS (by rw[oZ,all_false _ _ _ _ H.o (by simp[hn,O.o,ad.o])]),I⟩
  .go_wp2;go_ret
   exact⟨aS (by rw[oZ,jL _ _ _ F.o Sk]),I⟩
def ql(xs:aG):Nat:=(xs.takeWhile (fun x=>decide (x=0))).length
def za5{x:Int}(h:(xs.take k).all (fun x=>decide (x=0))=true)(hx:xs[k]?=some x)(z:x≠0):ql xs=k:=by
 induction xs generalizing k with
 |nil=>simp at hx
 |cons y ys ih=>
  cases k with
  |zero=>simp at hx;subst hx;simp[ql,z]
  |succ k=>
   simp only[xY,vH,bC,cK]at h;have:=ih h.2 SM;simp[ql,h.1]at this ⊢;exact this
def Bd(h:xs.all (fun x=>decide (x=0))=true):ql xs=xs.length:=by
 induction xs with
 |nil=>rfl
 |cons y ys ih=>
  simp only[vH,bC,cK]at h;have:=ih h.2;simp[ql,h.1]at this ⊢;exact this
def ziK(xs:aG):ql xs<=xs.length:=(List.takeWhile_prefix _).length_le
def zdh(e:ql xs=xs.length):xs.all (fun x=>decide (x=0))=true:=by
 induction xs with
 |nil=>rfl
 |cons y ys ih=>
  by_cases z:y=0
  .have:ql ys=ys.length:=by simpa[ql,z]using e
   simp only[vH,z,ih this];rfl
  .simp[ql,z]at e
def ze5(xs:aG):((ql xs:Int)==(xs:Int))=xs.all (fun x=>decide (x=0)):=by
 cases h:xs.all (fun x=>decide (x=0))
 .rw[beq_eq_false_iff_ne];intro e;rw[zdh RU]at h;cases h
 .rw[pZ,Bd h]
def ze6(A:an)(cap:Nat)(xs:aG)(w:aa)(h:aT w A xs)(O:xs.length<=maxLen):aw 221 (bL A xs cap) w fun e w'=>e=.returned (zI (ql xs))/\w=w':=by
 unfold maxLen at O;go_enter func221,ntmps221
 go_wp2;go_loop [7] (fun i=>∃k:Nat,k<=xs.length/\i=.int .i64 k/\(xs.take k).all (fun x=>decide (x=0))=true) (fun i=>xs.length-(intOf i).toNat)
 case atStart=>exact⟨0,bf _,rfl,RS⟩
 case round=>
  obtain⟨k,U,rfl,F⟩:=hrel;have z:=zH F;clear F;by_cases I:k<xs.length
  .obtain⟨x,D⟩:=aB I;obtain⟨b,o,rfl,H⟩:=h.here I;have R:=H k x D;have E:=zH D;clear D H h;by_cases h0:x=0
   .subst h0;go_wp2;go_round
    case rel=>exact⟨k+1,RU,RW,by rw[gk _ _ _ _ E.o,z.o];rfl⟩
    case measure=>simp[intOf];omega
   .have Q:(x !=0)=true:=Sd;have J:=zH h0;clear h0;go_wp2;go_ret
    exact⟨mO (by rw[za5 z E.o J.o]),rfl⟩
  .go_wp2;go_ret
   exact⟨mO (by rw[Bd (jL _ _ _ z RU)]),rfl⟩
def wU(xs:aG):Bool:=xs.all fun x=>decide (x=0)
def za6(A:an)(cap:Nat)(xs:aG)(w:aa)(h:aT w A xs)(D:xs.length<=maxLen):aw 219 (bL A xs cap) w fun e w'=>e=.returned (.bool (wU xs))/\w=w':=by
 have z:=zH (ze5 xs);go_enter func219,ntmps219
 go_wp2_with (go_at_call 221;refine(ze6 _ _ _ _ h D).mono ?_;rintro e w' ⟨rfl,rfl⟩)
 go_ret
 exact⟨aS (by rw[wU,<-z.o]),rfl⟩
def nB(xs:aG)(a:Int):Bool:=xs.zipIdx.all fun x=>decide ((x.2:Int)=a)==decide (x.1≠0)
def wV(a:Int)(A:an)(cap:Nat)(xs:aG)(w:aa)(h:aT w A xs)(J:xs.length<=maxLen):aw 73 #[.slice A xs cap,a] w fun e w'=>e=.returned (.bool (nB xs a))/\w=w':=by
 unfold maxLen at J;go_enter func73,ntmps73
 go_wp2;go_loop [9] (fun i=>∃k:Nat,k<=xs.length/\i=.int .i64 k/\(xs.zipIdx.take k).all (fun x=>decide ((x.2:Int)=a)==decide (x.1≠0))=true) (fun i=>xs.length-(intOf i).toNat)
 case atStart=>exact⟨0,bf _,rfl,RS⟩
 case round=>
  obtain⟨k,Q,rfl,F⟩:=hrel;have EP:=zH F;clear F;by_cases I:k<xs.length
  .obtain⟨x,E⟩:=aB I;obtain⟨b,o,rfl,H⟩:=h.here I;have O:=H k x E;have Hx:=zH (yN E);clear E H h;by_cases hn:(k:Int)=a <;>by_cases h0:x=0
   .have D:((k:Int)==a)=true:=R_;have z:(x !=0)=false:=Sd;exact YL
   .have D:((k:Int)==a)=true:=R_;have z:(x !=0)=true:=Sd;exact Y9
   .have D:((k:Int)==a)=false:=R_;have z:(x !=0)=false:=Sd;exact Y9
   .have D:((k:Int)==a)=false:=R_;have z:(x !=0)=true:=Sd;exact YL
  .go_wp2;go_ret
   exact⟨aS (by rw[nB,jL _ _ _ EP.o Sk]),rfl⟩
def fI:(prog.info? 3).map (fun i=>(i.zero,i.size,i.bytes))=some (some (.int .i64 0),1,8):=Si
def ar(w:aa)(B:Nat)(v:au)(xs:aG):Prop:=w.ownsRow B 3 1 v xs.length (xs.map (Value.int .i64))
def ar.view(h:ar w B v xs):∃A cap,v=.slice A xs cap/\aT w A xs/\xs.length<=cap/\cap<=maxLen:=by
 have D:=fun g=>pX h (g:=g)
 obtain⟨H,z⟩:=h;rcases z with⟨rfl,hn⟩|⟨g,cap,cur,rfl,I,J,hn,F,O⟩
 .exact Xr
 .refine⟨_,cap,rfl,aA ⟨g,0,rfl,fun k x E=>?_⟩,hn,F⟩;have:=D g rfl k (zI x) (by rw[cp,E];rfl);have e:(⟨g,0,none⟩:dD).add k=⟨g,0+k,none⟩:=by unfold Addr.add;split <;>simp_all
  rwa[e]at this
def ar.nil(w:aa)(B:Nat):ar w B (.slice none 0 0) []:=m_ _ _ _ _
def ar.ext(h:ar w B v xs)(z:ai w w'):ar w' B v xs:=by refine hJ h (row:=none) ⟨z.os,z.tape,z.output,z.size,fun k D _=>z.block k D⟩ ?_;cases v.ownBlock <;>simp
def ny(O:o.guard=none)(s x:js)(U:o.op=.call {callee:=.builtin .append,args:=#[s,x],argTypes:=#[27,27]})(B:Nat)(W:aa)(v:au)(xs:aG)(y:Int)(Z:a.eval s=v)(ab:a.eval x=.slice (aY W) 1 1)(F:ar W B v xs)(ap:xs.length+1<=1099511627776)(I:B<=(W:Nat))(h:∀v' w',ar w' B v' (xs++[y])->W.grownBy w' v.ownBlock->Below B W w'->wpList prog J Q rest (a.put o.dst v') w'):wpList prog J Q (o::rest) a (W.alloc (.cells (bg y) 3)):=by
 obtain⟨ao,hi,ac,ad,am⟩:=cU fI;have Y:=m5 F (.cells (bg y) 3);refine vC _ O s x 27 U B 3 ao (zI 0) 1 8 dS hi ac ad am rfl RX v _ _ Z Y ⟨W,0,none⟩ 1 1 [.int .i64 y] ab rfl ?_ ?_ ?_ ?_ ?_ ?_
 .intro j u z
  match j,z with
  |0,z=>simp at z;subst z;simp[Addr.add]
  |j+1,z=>simp at z
 .intro u H;simp at H;subst H;rfl
 .unfold maxLen;omega
 .omega
 .simp;omega
 .intro v' w' Fj EE _;have E:W.grownBy w' v.ownBlock:=⟨EE.os,EE.tape,EE.output,V_,fun k D R=>(EE.block k Sk R).trans (pY W _ D)⟩;refine h v' w' T7 E ?_;exact(aj _ _).grown E I fun k D=>(bZ F k D).1
def fF(rows:aE)(c:Nat):List Int:=rows.map fun r=>r.getD c 0
def zU{rows:aE}{r:aG}{x:Int}(z:rows[k]?=some r)(D:r[c]?=some x):(fF rows c).take (k+1)=(fF rows c).take k++[x]:=by rw[gK];simp[fF,z,D]
def zgz(rows:aE)(c k:Nat)(z:k<=rows.length):((fF rows c).take k).length=k:=by simp[fF];omega
def pw(v h b:Int)(A:an)(cap:Nat)(rows:aE)(w:aa)(I:aX w A rows)(bd:rows.length<=1000)(be:0<=v)(bi:v<=24)(a9:h<=100)(a5:0<=b)(a6:b<h)(R:∀r∈rows,(r.length:Int)=v+h):aw 74 (iU (ae v h A rows cap) b) w fun e w'=>∃u,e=.returned u/\ar w' ((w:Nat)+1) u (fF rows (v+b).toNat)/\ai w w':=by
 obtain⟨bv,hi,bo,bp,br⟩:=cU fI;have H:=(aj w w).alloc (ag _) (.cells (ae v h A rows cap) 26);go_enter func74,ntmps74
 go_wp2;go_loopw [5,11] (fun u i wr=>∃k:Nat,k<=rows.length/\i=.int .i64 k/\ar wr ((w:Nat)+1) u ((fF rows (v+b).toNat).take k)/\Below ((w:Nat)+1) (w.alloc (.cells (ae v h A rows cap) 26)) wr)
  (fun _ i _=>rows.length-(intOf i).toNat)
 case atStart=>exact⟨0,bf _,rfl,by simpa using ar.nil _ _,aj _ _⟩
 case round=>
  obtain⟨k,am,rfl,Z,z⟩:=hrel;have F:=zH Z;clear Z;have bm:ah wr w 0 (zI v):=(z.cell (p:=⟨w,0,none⟩) RS).trans RS;by_cases U:k<rows.length
  .obtain⟨r,D⟩:=aB U;have ad:ai w wr:=H.trans (z.mono RU);obtain⟨a3,o,rfl,J⟩:=(I.ext ad).here U;obtain⟨a1,a4,a7,Q⟩:=J k r D;have ap:=R r (a_ D);have Y:(v+b).toNat<r.length:=RU;obtain⟨x,E⟩:=aB Y;obtain⟨a2,bz,rfl,O⟩:=Q.here Y;have a8:=O _ _ E;have ab:=zH (zU D E);clear D J R I Q O E;have ba:0<=v+b:=RU;have bb:v+b < (r:Int):=RU;clear ap;have HL:=zH (zgz rows (v+b).toNat k am);have a0:=z.size;simp only[cg]at a0;go_wp2_with ((at_builtin;refine ny rfl _ _ rfl _ wr _ _ _ rfl rfl F.o SY RU ?_;intro b0 b1 ao _ ac))
   go_roundw
   case rel=>exact⟨k+1,RU,RW,by rw[ab.o];exact ao,z.trans ac⟩
   case measure=>simp[intOf];omega
  .go_wp2;go_ret
   exact⟨_,rfl,by have h:=F.o;rwa[gq (by simp[fF];omega)]at h,H.trans (z.mono RU)⟩
def jm{P:kR}(D:Nat)(t ty e:dG)(i:TypeInfo)(size:Nat)(z:P.underlying t=some (.slice e))(hi:P.info? e=some i)(v:au)(n c:Nat)(xs:bG)(F:w.ownsRow D e size v n xs):(Builtin.append_ #[t,t] ty #[v,.slice none 0 c]).run P w=.ok v w:=by
 rcases F.2 with⟨rfl,rfl⟩|⟨g,cap,cur,rfl,_,_,E,_⟩
 .simp[Builtin.append_,ya z,sizeOf,typeInfo,hi,Builtin.lenOf,Builtin.firstCells]
 .simp[Builtin.append_,ya z,sizeOf,typeInfo,hi,Builtin.lenOf,Builtin.firstCells,E,storeCells]
def dM(b o j:Nat):(⟨b,o,none⟩:dD).add j=⟨b,o+j,none⟩:=by unfold Addr.add;split<;>simp_all
def vc(D:o.guard=none)(s x:js)(F:o.op=.call {callee:=.builtin .append,args:=#[s,x],argTypes:=#[27,27]})(B:Nat)(W:aa)(v:au)(xs ys:aG)(A:an)(c:Nat)(H:a.eval s=v)(z:a.eval x=.slice A ys c)(Eo:ar W B v xs)(Fi:aT W A ys)(am:xs.length+ys<=1099511627776)(R:B<=(W:Nat))(h:∀v' w',ar w' B v' (xs++ys)->W.grownBy w' v.ownBlock->Below B W w'->wpList prog J Q rest (a.put o.dst v') w'):wpList prog J Q (o::rest) a W:=by
 obtain⟨I,hi,ab,ac,ad⟩:=cU fI;cases A with
 |none=>
  have hy:ys=[]:=Xh;subst hy;refine qd D fun K hK=>?_
  have Y:=jm (P:=prog) (w:=W) B 27 o.type 3 I 1 dS hi v _ c _ Eo;unfold Oper.wp;simp only[ix]at z;simp[execOp,F,resolve,invoke,builtin,H,z,Y,Result.andThen];exact hK _ _ (h v W S7 ⟨rfl,rfl,rfl,ag _,fun _ _ _=>rfl⟩ (aj _ _))
 |some O=>
  refine vC _ D s x 27 F B 3 I (zI 0) 1 8 dS hi ab ac ad rfl RX v _ _ H Eo O ys c (ys.map (Value.int .i64)) z RS ?_ ?_ ?_ ?_ ?_ ?_
  .exact YU
  .intro u Z;obtain⟨y,_,rfl⟩:=cf.1 Z;rfl
  .unfold maxLen;omega
  .omega
  .omega
  .intro v' w' Fj E _;exact h v' w' T7 E ((aj _ _).grown E R fun k U=>(bZ Eo k U).1)
def ar.lit(W:aa)(B:Nat)(z:B<=(W:Nat)):ar (W.alloc (.cells #[] 3)) B (.slice (aY W) 0 0) []:=qe W #[] 0 z RX rfl
def rO(A:an)(cap:Nat)(xs:aG)(w:aa)(h:aT w A xs)(F:xs.length<=1099511627776):aw 121 (bL A xs cap) w fun e w'=>∃u,e=.returned u/\ar w' w u xs/\ai w w':=by
 have z:=(aj w w).alloc (ag _) (.cells #[] 3);have D:=h.ext z;go_enter func121,ntmps121
 go_wp2_with ((at_builtin;refine vc rfl _ _ rfl w _ _ [] xs A cap rfl rfl (ar.lit _ _ (ag _)) D (by simpa using F) RS ?_;intro I J H _ E))
 go_ret
 exact⟨_,rfl,H,z.trans E⟩
def iH(A:an)(cap:Nat)(xs:aG)(w:aa)(h:aT w A xs)(F:xs.length<=1099511627776):aw 80 (bL A xs cap) w fun e w'=>∃u,e=.returned u/\ar w' w u xs/\ai w w':=by
 have z:=(aj w w).alloc (ag _) (.cells #[] 3);have D:=h.ext z;go_enter func80,ntmps80
 go_wp2_with ((at_builtin;refine vc rfl _ _ rfl w _ _ [] xs A cap rfl rfl (ar.lit _ _ (ag _)) D (by simpa using F) RS ?_;intro I J H _ E))
 go_ret
 exact⟨_,rfl,H,z.trans E⟩
def ig(n:Nat):(madeCells (Value.int .i64 0).cells (n*1)).toList=(List.replicate n (0:Int)).map (Value.int .i64):=Y3
def cd(h:w.grownBy w' none):ai w w':=⟨h.os,h.tape,h.output,h.size,fun k z=>h.block k z RS⟩
def rP(n:Nat)(w:aa)(I:n<=1099511627776):aw 114 (bg n) w fun e w'=>∃u,e=.returned u/\ar w' w u (List.replicate n 0)/\ai w w':=by
 obtain⟨H,hi,E,F,Es⟩:=cU fI;go_enter func114,ntmps114
 go_wp2_with ((at_make;refine jg _ rfl _ _ 27 rfl w.heap.size 3 H (zI 0) 1 dS hi E F .i64 .i64 n n n rfl rfl rfl rfl SW TS (ag _) ?_;intro J z D))
 go_ret
 refine⟨_,rfl,?_,cd D⟩;rw[ig]at z;simpa[ar]using z
def fh{z:Type}(xs:List z)(D:z)(k:Nat):List z:=xs.take k++List.replicate (xs.length-k) D
def jT{D:Type}(xs:List D)(z:D):fh xs z 0=List.replicate xs z:=by simp[fh]
def kN{z:Type}(xs:List z)(D:z)(k:Nat)(h:xs.length<=k):fh xs D k=xs:=by simp[fh,gq h];omega
def nK{D:Type}(xs:List D)(z:D)(k:Nat)(h:k<xs.length):(fh xs z k)[k]?=some z:=by rw[fh,gv Sk,ie,ay Sk]
def kO{D:Type}(xs:List D)(z x:D)(k:Nat)(h:xs[k]?=some x):(fh xs z k).set k x=fh xs z (k+1):=by have H:k<xs.length:=(bA.1 h).1;unfold fh;rw[sq _ _ Sk,gK,h];have E:xs.length-k=(xs.length-(k+1))+1:=RU;have F:k-(xs.take k).length=0:=Sk;rw[E,F,List.replicate_succ,jA];simp
def i_:(prog.info? 27).map (fun i=>(i.zero,i.size,i.bytes))=some (some (.slice none 0 0),1,24):=Si
structure bh(w:aa)(B:Nat)(v:au)(rows:aE)(us:bG):Prop where
 outer:w.ownsRow B 27 1 v rows.length us
 each:∀(k:Nat) (u:au) (r:aG),us[k]?=some u->rows[k]?=some r->ar w B u r
 apart:∀(i j:Nat) (u u':au) (b:Nat),us[i]?=some u->us[j]?=some u'->u.ownBlock=some b->u'.ownBlock=some b->i=j
def aJ(w:aa)(B:Nat)(v:au)(rows:aE):Prop:=∃us,bh w B v rows us
def bh.len{rows:aE}(h:bh w B v rows us):us.length=rows:=by simpa using h.outer.1
def bh.get{rows:aE}(h:bh w B v rows us){r:aG}(z:rows[k]?=some r):∃u,us[k]?=some u/\ar w B u r:=by
 have:k<us.length:=by rw[h.len];exact(bA.1 z).1
 obtain⟨u,D⟩:=aB this;exact⟨u,D,h.each k u r D z⟩
def bh.kU{rows:aE}(h:bh w B v rows us)(D:us[k]?=some u):∃r,rows[k]?=some r/\ar w B u r:=by
 have:k<rows.length:=by rw[<-h.len];exact(bA.1 D).1
 obtain⟨r,z⟩:=aB this;exact⟨r,z,h.each k u r D z⟩
def ar.lt(h:ar w B v xs):∀k,v.ownBlock=some k->B<=k/\k < (w:Nat):=bZ h
def eV(D:w.ownsRow B 27 1 v n us)(h:ar w B' u xs):u.ownBlock=none∨u.ownBlock≠v.ownBlock:=by
 rcases h.2 with⟨rfl,_⟩|⟨g,cap,cur,rfl,_,z,_⟩
 .exact aF rfl
 .right;rcases D.2 with⟨rfl,_⟩|⟨I,F,H,rfl,_,E,_⟩
  .simp[Value.ownBlock]
  .intro e;simp only[Value.ownBlock,dX]at e;rw[e,E]at z;simp at z
def ar.kept(h:ar w B u xs)(z:w.grownBy w' row)(D:u.ownBlock=none∨u.ownBlock≠row):ar w' B u xs:=hJ h z D
def bh.ext{w w':aa}{B:Nat}{v:au}{rows:aE}{us:bG}(h:bh w B v rows us)(z:ai w w'):bh w' B v rows us:=⟨hJ h.outer (row:=none) ⟨z.os,z.tape,z.output,z.size,fun k D _=>z.block k D⟩ Uu,fun k u r F E=>(h.each k u r F E).ext z,h.apart⟩
def aJ.ext{rows:aE}(h:aJ w B v rows)(hb:ai w w'):aJ w' B v rows:=Xc
def aJ.view{rows:aE}(h:aJ w B v rows):∃A cap,v=.slice A rows cap/\aX w A rows/\rows.length<=cap/\cap<=maxLen:=by
 obtain⟨us,h⟩:=h;have E:=fun g=>pX h.outer (g:=g)
 rcases h.outer.2 with⟨rfl,hn⟩|⟨g,cap,cur,rfl,O,Q,hn,H,R⟩
 .exact Xr
 .refine⟨_,cap,rfl,aA ⟨g,0,rfl,fun k r F=>?_⟩,hn,H⟩;obtain⟨u,J,I⟩:=h.get F;obtain⟨z,D,rfl,hi,_⟩:=I.view;have:=E g rfl k _ J;rw[dM]at this;exact⟨z,D,this,hi⟩
def ar.same(h:ar w B v xs)(hs:∀k,B<=k->w'.heap[k]?=w.heap[k]?):ar w' B v xs:=⟨h.1,h.2.imp id fun⟨g,cap,cur,z,a2,a3,D⟩=>⟨g,cap,cur,z,a2,T_,D⟩⟩
def aJ.same{w w':aa}{B:Nat}{v:au}{rows:aE}(h:aJ w B v rows)(hs:∀k,B<=k->w'.heap[k]?=w.heap[k]?):aJ w' B v rows:=by obtain⟨us,h⟩:=h;exact⟨us,⟨h.outer.1,h.outer.2.imp id fun⟨g,cap,cur,z,a2,a3,D⟩=>⟨g,cap,cur,z,a2,T_,D⟩⟩,fun k u r F E=>(h.each k u r F E).same hs,h.apart⟩
def ar.mono(h:ar w B v xs)(F:B'<=B):ar w B' v xs:=⟨h.1,h.2.imp id fun⟨g,cap,cur,z,E,D⟩=>⟨g,cap,cur,z,RU,D⟩⟩
def aJ.mono{w:aa}{B B':Nat}{v:au}{rows:aE}(h:aJ w B v rows)(E:B'<=B):aJ w B' v rows:=by obtain⟨us,h⟩:=h;exact⟨us,⟨h.outer.1,h.outer.2.imp id fun⟨g,cap,cur,z,I,D⟩=>⟨g,cap,cur,z,RU,D⟩⟩,fun k u r H F=>(h.each k u r H F).mono E,h.apart⟩
def aJ.setCell{rows:aE}(h:aJ w B v rows){a:dD}(z:a.block<B)(u:au):aJ (w.setCell a u) B v rows:=h.same fun k D=>bw _ _ _ _ RU
def ar.setCell(h:ar w B v xs){a:dD}(z:a.block<B)(u:au):ar (w.setCell a u) B v xs:=h.same fun k D=>bw _ _ _ _ RU
def mL(F:o.guard=none)(s x:js)(I:o.op=.call {callee:=.builtin .append,args:=#[s,x],argTypes:=#[24,24]})(B:Nat)(z W:aa)(v u:au)(rows:aE)(r:aG)(Eo:aJ z B v rows)(D:ai z W)(hu:ar W z u r)(am:rows.length+1<=1073741824)(E:B<=(z:Nat))(U:a.eval s=v)(Y:a.eval x=.slice (aY W) 1 1)(h:∀v' w',aJ w' B v' (rows++[r])->Below B z w'->wpList prog J Q rest (a.put o.dst v') w'):wpList prog J Q (o::rest) a (W.alloc (.cells #[u] 27)):=by
 obtain⟨ad,hi,Z,ab,ac⟩:=cU i_;obtain⟨us,Eo⟩:=Eo;have hW:=Eo.ext D;have O:=m5 hW.outer (.cells #[u] 27);have ao:=D.size;refine vC _ F s x 24 I B 27 ad (.slice none 0 0) 1 24 gx hi Z ab ac rfl RX v _ _ U O ⟨W,0,none⟩ 1 1 [u] Y rfl ?_ ?_ ?_ ?_ ?_ ?_
 .exact Yt
 .exact XT
 .unfold maxLen;omega
 .omega
 .simp;omega
 .intro v' w' R EE _;have hg:W.grownBy w' v.ownBlock:=⟨EE.os,EE.tape,EE.output,V_,fun k hk H=>(EE.block k Sk H).trans (pY W _ hk)⟩;refine h v' w' ⟨us++[u],?_,?_,?_⟩ (D.mono E |>.trans ((aj _ _).grown hg RU fun k hk=>(bZ hW.outer k hk).1))
  .simpa using R
  .exact Zz
  .exact ZQ
def bh.set{g cap:Nat}{rows:aE}{r:aG}(ad:n=rows.length)(h:bh E B (.slice (aY g) n cap) rows us)(Q:ai E W)(J:ar W E u r)(ab:B<=(E:Nat))(hk:k<n):bh (W.setCell ⟨g,k,none⟩ u) B (.slice (aY g) n cap) (rows.set k r) (us.set k u)/\Below B E (W.setCell ⟨g,k,none⟩ u)/\(∃v0,ah W g k v0)/\W.frozen? ⟨g,k,none⟩=false:=by
 subst ad;have z:=h.ext Q;have I:=z.outer.stored k u;have ac:=bZ z.outer g rfl;refine⟨⟨by simpa using I.1,?_,?_⟩,(Q.mono ab).trans ((aj _ _).setCell ac.1 u),?_,z.outer.frozenAt k⟩
 .intro j D r' H F;by_cases R:k=j
  .subst R;rw[eu TI]at H;rw[eu hk]at F;cases H;cases F
   have U:=ar.kept J I.2 (eV z.outer J);exact⟨U.1,U.2.imp id fun⟨g,cap,cur,O,Y,Z⟩=>⟨g,cap,cur,O,RU,Z⟩⟩
  .rw[dz R]at H F;exact ar.kept (z.each j D r' H F) I.2 (eV z.outer (z.each j D r' H F))
 .have new:∀(i:Nat) (D:au) (b:Nat),us[i]?=some D->D.ownBlock=some b->u.ownBlock=some b->False:=fun i D b h1 h2 h3=>by obtain⟨r',_,am⟩:=h.kU h1;have O:=(am.lt b h2).2;have Y:=(J.lt b h3).1;omega
  intro i j u1 u2 b h1 h2 h3 h4;by_cases ci:k=i <;>by_cases cj:k=j
  .omega
  .subst ci;rw[eu TI]at h1;rw[dz cj]at h2;cases h1
   exact(new j u2 b h2 h4 h3).elim
  .subst cj;rw[eu TI]at h2;rw[dz ci]at h1;cases h2
   exact(new i u1 b h1 h3 h4).elim
  .exact XN
 .obtain⟨u0,ao⟩:=aB (TI:k<us.length);exact⟨u0,by rw[z.outer.cellAt k RU];exact ao⟩
def aJ.empty(h:w.ownsRow B 27 1 v 0 []):aJ w B v []:=⟨[],h,fun k u r hu=>Sg,fun i j u z b hu=>Sg⟩
def tI(A:an)(cap:Nat)(rows:aE)(w:aa)(H:aX w A rows)(ad:rows.length<=1048576)(R:∀r∈rows,r.length<=1048576):aw 111 (bL A rows cap) w fun e w'=>∃u,e=.returned u/\aJ w' w u rows/\ai w w':=by
 obtain⟨a0,hi,ao,ap,Es⟩:=cU i_;go_enter func111,ntmps111
 go_wp2_with ((at_make;refine wpList_make_own _ rfl _ _ 24 rfl w.heap.size 27 a0 (.slice none 0 0) 1 gx hi ao ap .i64 .i64 rows.length rows.length rfl rfl rfl SW TS (ag _) ?_;intro a1 z O))
 have I:=cd O;have E:=zH (aJ.empty z);clear z O;go_loopw [3,11] (fun u i wr=>∃k:Nat,k<=rows.length/\i=.int .i64 k/\aJ wr w u (rows.take k)/\ai w wr)
  (fun _ i _=>rows.length-(intOf i).toNat)
 case atStart=>exact⟨0,bf _,rfl,E.o,I⟩
 case round=>
  obtain⟨k,a6,rfl,z,EO⟩:=hrel;have F:=zH z;clear z E I;by_cases Q:k<rows.length
  .obtain⟨r,D⟩:=aB Q;obtain⟨a3,o,rfl,J⟩:=(H.ext EO).here Q;obtain⟨a2,a4,a5,ac⟩:=J k r D;obtain⟨Y,HT⟩:=bS (show r.length<=1099511627776 by have:=R r (a_ D);omega) (by rw[gK,D];rfl:rows.take (k+1)=rows.take k++[r]);have am:=EO.size;have Z:=zH (Sk:(rows.take k).length+1<=1073741824);have a7:rows.length<9223372036854775807:=RU;clear D J H R ad;go_wp2_with (first|(go_at_call 121;refine(rO _ _ _ _ ac Y.o).mono ?_;rintro e w' ⟨u2,rfl,U,ab⟩;obtain⟨A2,c2,rfl,_⟩:=U.view)|(at_builtin;refine mL rfl _ _ rfl w wr _ _ _ _ _ F ab U Z.o am rfl rfl ?_;intro a8 a1 Ff Fg))
   exact YQ
  .go_wp2;go_ret
   have h:=F.o;rw[gq RU]at h;exact⟨_,rfl,h,EO⟩
def zd8(n:Nat):(madeCells (Value.slice none 0 0).cells (n*1)).toList=List.replicate n (Value.slice none 0 0):=Y3
def bh.made(h:w.ownsRow B 27 1 v n (madeCells (Value.slice none 0 0).cells (n*1)).toList):bh w B v (List.replicate n []) (List.replicate n (.slice none 0 0)):=by
 rw[zd8]at h;refine⟨So,?_,?_⟩
 .exact YT
 .exact YH
def lp(v h:Int)(A:an)(cap:Nat)(rows:aE)(w:aa)(U:aX w A rows)(F:rows.length<=1048576)(Y:∀r∈rows,r.length<=1048576):aw 91 (cJ (ae v h A rows cap)) w fun e w'=>∃u,e=.returned (.agg (dE v h u))/\aJ w' w u rows/\ai w w':=by
 have O:=zH F;clear F;go_enter func91,ntmps91
 go_wp2;go_region_held3 (fun w'=>ah w' w 0 (zI v)/\ah w' w 1 (zI h)/\ah w' w 2 (.slice A rows cap)) (first|go_keep|exact⟨av z RS,av z RS,av z RS⟩)
  ((go_at_call 111;refine(tI _ _ _ _ (U.ext ?_) O Y).mono ?_;exact(((aj _ _).alloc (ag _) _).alloc RS _).drew;rintro e w' ⟨u2,rfl,D,z⟩;obtain⟨A2,c2,rfl,_⟩:=D.view;have Q:=av z (p:=⟨(w:Nat)+1,0,none⟩) (v:=()) RS;have c1:=av z (p:=⟨(w:Nat)+1,1,none⟩) (v:=()) RS;have R:=av z (p:=⟨(w:Nat)+1,2,none⟩) (v:=fe) RS;have f0:=gO z (p:=⟨(w:Nat)+1,0,none⟩) RS RS;have f1:=gO z (p:=⟨(w:Nat)+1,1,none⟩) RS RS;have f2:=gO z (p:=⟨(w:Nat)+1,2,none⟩) RS RS))
 simp only[xR,cg]at D z;have H:=((D.setCell (a:=⟨(w:Nat)+1,0,none⟩) RS (zI v)).setCell (a:=⟨(w:Nat)+1,1,none⟩) RS (zI h)).setCell (a:=⟨(w:Nat)+1,2,none⟩) RS (.slice A2 rows c2);have E:=(((((((aj w w).alloc (ag _) _).alloc RS _).drew).trans (z.mono RU)).setCell (p:=⟨(w:Nat)+1,0,none⟩) RS (zI v)).setCell (p:=⟨(w:Nat)+1,1,none⟩) RS (zI h)).setCell (p:=⟨(w:Nat)+1,2,none⟩) RS (.slice A2 rows c2);obtain⟨I,J⟩:=bS H E;clear D H E z;go_wp2;refine ax (v:=.agg (ae v h A2 rows c2)) (by simp[results,results91,go_sem,Q,c1,R]) rfl ⟨_,rfl,I.mono RU,J.o⟩
def qD(w:aa)(n:Nat):Below w w (w.drewN n):=by
 induction n with
 |zero=>exact aj _ _
 |succ n ih=>exact ih.trans ⟨rfl,rfl,rfl,ag _,fun _ _=>rfl⟩
def zeG{D:Type}{xs ys:List D}{x y:D}(E:xs[k]?=some x)(z:ys[k]?=some y)(h:x≠y):xs≠ys:=by intro e;subst e;rw[E]at z;cases z;exact h rfl
def pq{z:Type}{xs ys:List z}{x:z}(h:xs.take k=ys.take k)(D:xs[k]?=some x)(E:ys[k]?=some x):xs.take (k+1)=ys.take (k+1):=by rw[gK,gK,h,D,E]
def tf{E:Type}{xs ys:List E}(h:xs.take k=ys.take k)(z:xs.length<=k)(D:ys.length<=k):xs=ys:=by rwa[gq z,gq D]at h

def eW(cur:bG)(o:Nat)(z:bG)(h:o+z.length<=cur):(splice cur o z).length=cur:=length_splice cur o z h
def zaP(cur:bG)(o:Nat)(v:au)(z:bG)(h:o+1+z.length<=cur):splice (cur.set o v) (o+1) z=splice cur o (v::z):=by
 unfold splice;have D:(cur.set o v).take (o+1)=cur.take o++[v]:=by rw[gK,List.take_set_of_le (ag _),eu RU];rfl
 have E:(cur.set o v).drop (o+1+z.length)=cur.drop (o+(v::z).length):=by rw[List.drop_set_of_lt RU];simp[pW,Nat.add_comm 1]
 rw[D,E];simp
def dB(g:Nat)(E:dG):∀(z:bG) (o:Nat) (w:aa) (cur:gh),aU w g cur E->o+z.length<=cur.size->(w.setCells g o z).heap[g]?=some (.cells (splice cur.toList o z).toArray E (0,0))/\w.grownBy (w.setCells g o z) (some g)
 |[],o,w,cur,h,_=>by refine⟨?_,⟨rfl,rfl,rfl,ag _,fun _ _ _=>rfl⟩⟩;simp only[World.setCells,splice,r_,ix,jz,CQ];simpa using h
 |v::z,o,w,cur,h,J=>by
  simp only[lU]at J;have Q:=(aM.1 h).1;have h':(w.setCell ⟨g,o,none⟩ v).heap[g]?=some (.cells (cur.setIfInBounds o v) E (0,0)):=by
   have:=(aM.1 h).2
   show(w.heap.modify g _)[g]?=_
   rw[Array.getElem?_modify,ay rfl,h];simp
  obtain⟨O,D⟩:=dB g E z (o+1) _ _ h' Sk;refine⟨?_,?_⟩
  .show((w.setCell ⟨g,o,none⟩ v).setCells g (o+1) z).heap[g]?=_
   rw[O,Array.toList_setIfInBounds,zaP _ _ _ _ Sk]
  .refine⟨D.os,D.tape,D.output,by have:=D.size;rw[World.size_setCell]at this;exact this,fun k H F=>?_⟩;have I:k < (w.setCell ⟨g,o,none⟩ v:Nat):=by rw[World.size_setCell];exact H
   exact(D.block k I F).trans (bw _ _ _ _ (by intro e;exact F RV))
def bx{a b c:aa}(h:a.grownBy b row)(k:b.grownBy c row):a.grownBy c row:=⟨k.os.trans h.os,k.tape.trans h.tape,k.output.trans h.output,bc h.size k.size,fun i hi z=>(k.block i (gZ hi h.size) z).trans (h.block i hi z)⟩
def dP(w:aa)(row:Option Nat):w.grownBy w.drew row:=⟨rfl,rfl,rfl,ag _,fun _ _ _=>rfl⟩
def aW{g:Nat}{cur:gh}(h:aU w g cur RQ)(j:Nat):w.cell? ⟨g,j,none⟩=cur.toList[j]?:=by simp[World.cell?,h]
def aP{g:Nat}{cur:gh}(h:aU w g cur RQ)(j:Nat):w.frozen? ⟨g,j,none⟩=false:=by simp[World.frozen?,h]
def wK(cur:bG)(o:Nat)(z:bG)(h:o<=cur.length):(splice cur o z).take o=cur.take o:=by unfold splice;rw[vF Sk,kH];simp
def iD(cur:bG)(o:Nat)(z:bG)(h:o<=cur.length):(splice cur o z).take (o+z.length)=cur.take o++z:=by unfold splice;rw[<-kI,vF Sk];rw[gq Sk]
def Dq(cur us z I:bG)(n k m:Nat)(H:cur.take n=us)(R:n<=cur.length)(J:k<n)(F:z=us.drop (k+1))(Q:m+1=n)(O:z.length=n-(k+1)):(splice (splice cur k z) m I).take (n-1)=us.eraseIdx k:=by have D:n-1=m:=RU;have E:m=k+z.length:=RU;rw[D,wK _ _ _ (by rw[eW _ _ _ RU];omega),E,iD _ _ _ RU,F,xQ,<-H,kH,iM RU]
def k7(w:aa){P:kR}(E:o.guard=none)(d s:js)(t z:dG)(F:o.op=.call {callee:=.builtin .copy,args:=#[d,s],argTypes:=#[t,z]})(v u:au)(D:a.eval d=v)(I:a.eval s=u)(H:(Builtin.copy_ #[t,z] o.type #[v,u]).run P w=.ok v' w')(h:wpList P J Q rest (a.put o.dst v') w'):wpList P J Q (o::rest) a w:=by
 refine qd E fun K hK=>?_
 unfold Oper.wp execOp;simp only[F,resolve,invoke,builtin,Sem.run_bind,Sem.run_pure,Result.andThen_ok,List.map_toArray,List.map_cons,List.map_nil,D,I,H];exact hK _ _ h
def mM{P:kR}{K:mK}{E:Prop}(H:o.guard=none)(d x:js)(z D:dG)(I:o.op=Op.call {callee:=Callee.builtin Builtin.copy,args:=#[d,x],argTypes:=#[z,D]})(v u:au)(F:a.eval d=v)(R:a.eval x=u)(O:(Builtin.copy_ #[z,D] o.type #[v,u]).run P w=.ok v' w')(hK:K (a.put o.dst v') w'):if Region.wanted o (yielded J a.tmps)=true then Oper.wp P o a w K Q else E:=by rw[ay (by simp[Region.wanted,H]:Region.wanted o (yielded J a.tmps)=true)];unfold Oper.wp execOp;simp only[I,resolve,invoke,builtin,Sem.run_bind,Sem.run_pure,Result.andThen_ok,List.map_toArray,List.map_cons,List.map_nil,F,R,O];exact hK
def bK{z:Type}(us:List z)(k:Nat)(x:z):List z:=us.take k++x::us.drop k
def Dr(cur us ds:bG)(n k:Nat)(x:au)(z:cur.take n=us)(Q:n+1<=cur.length)(J:k<n)(E7:ds=us.drop k):(splice (splice cur (k+1) ds) k [x]).take (n+1)=bK us k x:=by
 have O:us.length=n:=by rw[<-z];simp;omega
 have I:ds.length=n-k:=T3;have H:us.take k=cur.take k:=by rw[<-z,kH,iM RU]
 have D:(splice cur (k+1) ds).take k=cur.take k:=by have:=mX (List.take k) (wK cur (k+1) ds RU);rwa[kH,kH,iM RU]at this
 have E:(splice cur (k+1) ds).drop (k + [x].length)=ds++cur.drop (k+1+ds.length):=by unfold splice;rw[List.drop_append_of_le_length Sk];simp
 have F:splice (splice cur (k+1) ds) k [x]=(cur.take k++x::ds)++cur.drop (k+1+ds.length):=by
  show(splice cur (k+1) ds).take k++([x]++(splice cur (k+1) ds).drop (k + [x].length))=_
  rw[D,E];simp
 rw[F,vF Sk,gq Sk,bK,H,E7]
def AN(row us ds:bG)(n k:Nat)(x:au)(J:us.length=n)(O:n+1<=row.length)(I:k<n)(E7:ds=us.drop k)(F:row.take k=us.take k):(splice (splice row k [x]) (k+1) ds).take (n+1)=bK us k x:=by have H:ds.length=n-k:=T3;have z:=iD row k [x] RU;have D:=iD (splice row k [x]) (k+1) ds (by rw[eW _ _ _ Sk];omega);have E:k+1+ds.length=n+1:=RU;rw[E]at D;rw[D];simp only[lU,ix,iw]at z;rw[z,F,bK,E7];simp
def zaQ{g:Nat}{cur:gh}(h:aU w g cur RQ):w.cell? ⟨g,0,none⟩=cur.toList[0]?/\w.cell? ⟨g,1,none⟩=cur.toList[1]?:=⟨aW h 0,aW h 1⟩
def bT{g:Nat}{cur:gh}(h:aU w g cur RQ):w.cell? ⟨g,0,none⟩=cur.toList[0]?/\w.cell? ⟨g,1,none⟩=cur.toList[1]?/\w.cell? ⟨g,2,none⟩=cur.toList[2]?:=⟨aW h 0,aW h 1,aW h 2⟩
def tg{g:Nat}{cur:gh}(h:aU w g cur RQ):w.cell? ⟨g,0,none⟩=cur.toList[0]?/\w.cell? ⟨g,1,none⟩=cur.toList[1]?/\w.cell? ⟨g,2,none⟩=cur.toList[2]?/\w.cell? ⟨g,3,none⟩=cur.toList[3]?:=⟨aW h 0,aW h 1,aW h 2,aW h 3⟩
def bU{g:Nat}{cur:gh}(h:aU w g cur RQ):w.frozen? ⟨g,0,none⟩=false/\w.frozen? ⟨g,1,none⟩=false/\w.frozen? ⟨g,2,none⟩=false:=⟨aP h 0,aP h 1,aP h 2⟩
def yT(B g n cap:Nat)(i:Int)(us:bG)(w:aa)(h:w.ownsRow B 3 1 (.slice (aY g) n cap) n us)(h1:∀u∈us,u.oneCell'=true)(hi:0<=i)(ac:i<n)(be:n<=1048576):aw 236 #[.slice (aY g) n cap,i,.int .i64 (i+1)] w fun e w'=>e=.returned (.slice (aY g) (n-1) cap)/\w'.ownsRow B 3 1 (.slice (aY g) (n-1) cap) (n-1) (us.eraseIdx i.toNat)/\w.grownBy w' (some g):=by
 obtain⟨k,rfl⟩:=fX hi;obtain⟨a1,ab,bp,a0,br⟩:=cU fI;obtain⟨F,ad⟩:=h;rcases ad with⟨ap,_⟩|⟨a6,a5,cur,ao,Z,I,bi,H,FA,EW⟩
 .cases ap
 cases ao
 simp only[eT]at F FA EW;have O:k<n:=RU;obtain⟨j,J⟩:=aO (k+1);rw[show((k:Int)+1)=(j:Int) by omega];have ES:∀t,t<n->cur.toList[t]?=us[t]?:=fun t ht=>Ud
 have FB:aU w.drew g cur 3:=I;obtain⟨Fy,Fh⟩:=aO (us.drop j);have Ev:Fy.length=n-j:=by rw[Fh];simp;omega
 obtain⟨A,a7,am⟩:∃A:dD,(if cap=j then some (⟨g,0,none⟩:dD) else some ⟨g,j,none⟩)=some A/\Hd (∀t u,Fy[t]?=some u->w.drew.cell? (A.add t)=some u):=Zq;have a2:Hd (Fy.length=(n-j)*1):=Ts;have a3:Hd (∀u∈Fy,u.oneCell'=true):=Xe;have a4:Hd (∀t,t<Fy.length->(w.drew.cell? ⟨g,0+k*1+t,none⟩).isSome=true/\w.drew.frozen? ⟨g,0+k*1+t,none⟩=false):=X7;obtain⟨z,E⟩:=aO (w.drew.setCells g (0+k*1) Fy);obtain⟨b1,D⟩:=dB g 3 Fy (0+k*1) w.drew cur FB SZ;rw[<-E]at b1 D;have Fz:(splice cur.toList (0+k*1) Fy).length=cap:=Ww;have a8:∀ty,(Builtin.clear_ #[27] ty #[.slice (some ⟨g,k+(n-j),none⟩) (n-(k+(n-j))) (cap-(k+(n-j)))]).run prog z=.ok (.tuple #[]) (z.setCells g (k+(n-j)) (List.replicate (n-(k+(n-j))) (zI 0))):=
  fun ty=>Lib.run_clear_slice (P:=prog) z 27 3 ty (zI 0) dS (fun _=>Si) rfl rfl g (k+(n-j)) _ _ RU
   (fun t ht=>WJ) (fun t ht=>aP b1 _)
 obtain⟨c1,c2⟩:=dB g 3 (List.replicate (n-(k+(n-j))) (zI 0)) (k+(n-j)) z _ b1 Vo;have U:=zH (show(z.setCells g (k+(n-j)) (List.replicate (n-(k+(n-j))) (zI 0))).ownsRow B 3 1 (.slice (aY g) (n-1) cap) (n-1) (us.eraseIdx k) by
  refine⟨by simp[m6,F,O],aA ⟨g,cap,_,rfl,Z,c1,RU,H,?_,?_⟩⟩
  .exact XS
  .skip
   simp only[eT,iw];exact Dq cur.toList us Fy _ n k (k+(n-j)) EW Sk O (by rw[Fh,J]) RU SZ)
 obtain⟨R,Y⟩:=bS (bx (dP w (some g)) (bx D c2)) E;have bd:k<j:=RU;have ba:j<=n:=RU;have a9:j<=cap:=RU;have bb:k<=cap:=RU;have bm:k+(n-j)<cap:=RU;have bo:k+(n-j)<=n:=RU;have Q:k+(n-j)+1=n:=RU;have HX:=zH Q;unfold maxLen at H;clear F FA EW I FB h1 hi ES Fh Ev E b1 D Fz c1 c2 ac J Q;go_enter func236,ntmps236
 go_wp2_with fail
 go_region_law (refine si rfl (.tmp 22) (.tmp 25) 27 rfl 3 a1 1 dS ab a0 g 0 k cap Ul A (n-j) (cap-j) Fy Ul a2.o am.o a3.o RU a4.o ?_;rw[<-Y.o])
 go_wp2;go_ret
 refine⟨?_,?_,R.o⟩
 .exact Xj
 .exact U.o
def qN(B g n cap:Nat)(i:Int)(us:bG)(w:aa)(h:w.ownsRow B 27 1 (.slice (aY g) n cap) n us)(h1:∀u∈us,u.oneCell'=true)(hi:0<=i)(ac:i<n)(be:n<=1048576):aw 220 #[.slice (aY g) n cap,i,.int .i64 (i+1)] w fun e w'=>e=.returned (.slice (aY g) (n-1) cap)/\w'.ownsRow B 27 1 (.slice (aY g) (n-1) cap) (n-1) (us.eraseIdx i.toNat)/\w.grownBy w' (some g):=by
 obtain⟨k,rfl⟩:=fX hi;obtain⟨a1,ab,bp,a0,br⟩:=cU i_;obtain⟨F,ad⟩:=h;rcases ad with⟨ap,_⟩|⟨a6,a5,cur,ao,Z,I,bi,H,FA,EW⟩
 .cases ap
 cases ao
 simp only[eT]at F FA EW;have O:k<n:=RU;obtain⟨j,J⟩:=aO (k+1);rw[show((k:Int)+1)=(j:Int) by omega];have ES:∀t,t<n->cur.toList[t]?=us[t]?:=fun t ht=>Ud
 have FB:aU w.drew g cur 27:=I;obtain⟨Fy,Fh⟩:=aO (us.drop j);have Ev:Fy.length=n-j:=by rw[Fh];simp;omega
 obtain⟨A,a7,am⟩:∃A:dD,(if cap=j then some (⟨g,0,none⟩:dD) else some ⟨g,j,none⟩)=some A/\Hd (∀t u,Fy[t]?=some u->w.drew.cell? (A.add t)=some u):=Zq;have a2:Hd (Fy.length=(n-j)*1):=Ts;have a3:Hd (∀u∈Fy,u.oneCell'=true):=Xe;have a4:Hd (∀t,t<Fy.length->(w.drew.cell? ⟨g,0+k*1+t,none⟩).isSome=true/\w.drew.frozen? ⟨g,0+k*1+t,none⟩=false):=X7;obtain⟨z,E⟩:=aO (w.drew.setCells g (0+k*1) Fy);obtain⟨b1,D⟩:=dB g 27 Fy (0+k*1) w.drew cur FB SZ;rw[<-E]at b1 D;have Fz:(splice cur.toList (0+k*1) Fy).length=cap:=Ww;have a8:∀ty,(Builtin.clear_ #[24] ty #[.slice (some ⟨g,k+(n-j),none⟩) (n-(k+(n-j))) (cap-(k+(n-j)))]).run prog z=.ok (.tuple #[]) (z.setCells g (k+(n-j)) (List.replicate (n-(k+(n-j))) (.slice none 0 0))):=
  fun ty=>Lib.run_clear_slice (P:=prog) z 24 27 ty (.slice none 0 0) gx (fun _=>Si) rfl rfl g (k+(n-j)) _ _ RU
   (fun t ht=>WJ) (fun t ht=>aP b1 _)
 obtain⟨c1,c2⟩:=dB g 27 (List.replicate (n-(k+(n-j))) (.slice none 0 0)) (k+(n-j)) z _ b1 Vo;have U:=zH (show(z.setCells g (k+(n-j)) (List.replicate (n-(k+(n-j))) (.slice none 0 0))).ownsRow B 27 1 (.slice (aY g) (n-1) cap) (n-1) (us.eraseIdx k) by
  refine⟨by simp[m6,F,O],aA ⟨g,cap,_,rfl,Z,c1,RU,H,?_,?_⟩⟩
  .exact XS
  .skip
   simp only[eT,iw];exact Dq cur.toList us Fy _ n k (k+(n-j)) EW Sk O (by rw[Fh,J]) RU SZ)
 obtain⟨R,Y⟩:=bS (bx (dP w (some g)) (bx D c2)) E;have bd:k<j:=RU;have ba:j<=n:=RU;have a9:j<=cap:=RU;have bb:k<=cap:=RU;have bm:k+(n-j)<cap:=RU;have bo:k+(n-j)<=n:=RU;have Q:k+(n-j)+1=n:=RU;have HX:=zH Q;unfold maxLen at H;clear F FA EW I FB h1 hi ES Fh Ev E b1 D Fz c1 c2 ac J Q;go_enter func220,ntmps220
 go_wp2_with fail
 go_region_law (refine si rfl (.tmp 22) (.tmp 25) 24 rfl 27 a1 1 gx ab a0 g 0 k cap Ul A (n-j) (cap-j) Fy Ul a2.o am.o a3.o RU a4.o ?_;rw[<-Y.o])
 go_wp2;go_ret
 refine⟨?_,?_,R.o⟩
 .exact Xj
 .exact U.o
end Go.Proofs.YtdpgblncijojiaaGreatDoor
