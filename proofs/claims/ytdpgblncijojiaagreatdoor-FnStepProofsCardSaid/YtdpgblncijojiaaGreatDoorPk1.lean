/- Parts of the walks. Conditions: as stated with each. -/
import Derived.Test.YtdpgblncijojiaaGreatDoorMc
namespace Go.Proofs.YtdpgblncijojiaaGreatDoor
open Go.RowKit Tryz
set_option linter.all false
set_option maxHeartbeats 1000000
set_option maxRecDepth 100000
variable{A:aq}{B' D b c k n:Nat}{E W w w':aa}{H u v v' y:av}{Q:iF}{R:ir}{Rv t:dE}{a:Act}{args:gq}{o:ie}{p:Int}{rest:List Oper}{row:Option Nat}{us:bN}{xs:aH}
def aU(w:aa)(A:aq)(xs:aH):Prop:=
 xs=[]∨∃b o,A=some ⟨b,o,none⟩/\∀k x,xs[k]?=some x->af w b (o+k) (zI x)
def aL(w:aa)(A:aq)(rows:aC):Prop:=
 rows=[]∨∃b o,A=some ⟨b,o,none⟩/\∀k r,rows[k]?=some r->∃z cap,af w b (o+k) (.slice z r.length cap)/\aU w z r
def Below.zdO(h:Below D w w'){p:dw}(z:w.cell? p=some v)(B:p.block<D):w'.cell? p=some v:=(h.cell B).trans z
def ag(h:aj w w'){p:dw}(z:w.cell? p=some v):w'.cell? p=some v:=Below.zdO h z (iK w p z)
def gP(h:aj w w'){p:dw}(z:w.frozen? p=false)(B:p.block < (w:Nat)):w'.frozen? p=false:=(h.frozen B).trans z
def aU.ext(h:aU w A xs)(B:aj w w'):aU w' A xs:=by
 rcases h with h|⟨b,o,z,D⟩
 .exact aG h
 .exact aB ⟨b,o,z,fun k x E=>ag B (D k x E)⟩
def aL.ext{rows:aC}(h:aL w A rows)(z:aj w w'):aL w' A rows:=by
 rcases h with h|⟨b,o,F,H⟩
 .exact aG h
 .refine aB ⟨b,o,F,fun k r I=>?_⟩;obtain⟨B,cap,D,E⟩:=H k r I;exact⟨B,cap,ag z D,E.ext z⟩
structure Ext(w:aa) where
 W:World
 ok:aj w W
instance (w:aa):Nonempty (Ext w):=⟨⟨w,ai _ _⟩⟩
def an{a b:aa}(h:aj w a)(k:aj a b):aj w b:=h.trans (k.mono h.size)
def xf{x:av}(z:aj W w')(h:aW W b #[x,y,H] t):af w' b 0 x/\af w' b 1 y/\af w' b 2 H/\w'.frozen? ⟨b,0,none⟩=false/\w'.frozen? ⟨b,1,none⟩=false/\w'.frozen? ⟨b,2,none⟩=false:=by have h':aW w' b #[x,y,H] t:=(z.block b (aP.1 h).1).trans h;simp[World.cell?,World.frozen?,h']
def m6{x:av}(z:aj W w')(h:aW W b #[x,y,H,u,v] t):(af w' b 0 x/\af w' b 1 y/\af w' b 2 H/\af w' b 3 u/\af w' b 4 v)/\w'.frozen? ⟨b,0,none⟩=false/\w'.frozen? ⟨b,1,none⟩=false/\w'.frozen? ⟨b,2,none⟩=false/\w'.frozen? ⟨b,3,none⟩=false/\w'.frozen? ⟨b,4,none⟩=false:=by have h':aW w' b #[x,y,H,u,v] t:=(z.block b (aP.1 h).1).trans h;simp[World.cell?,World.frozen?,h']
def aD(w:aa)(o:Obj)(h:n=(w:Nat)):(w.alloc o).heap[n]?=some o:=by subst h;show(w.heap.push o)[w.heap.size]?=_;simp
def bZ(w:aa)(o:Obj)(h:k < (w:Nat)):(w.alloc o).heap[k]?=w.heap[k]?:=by
 show(w.heap.push o)[k]?=_
 rw[Array.getElem?_push,ak Ry]
def bM{P:lk}{id:Nat}{l:List Oper}(D:P.follows .mixedOrders=true)(B:Region.lexB .any l.toArray=true)(h:wpQuiet P l.toArray (fun w'=>∃W:Ext w,w'=W.W) (fun z=>∀w',(∃W:Ext w,w'=W.W)->R .normal z w') l a):(Code.region id l.toArray true).wp P R a w:=wp_region_quiet (C:=fun w'=>∃W:Ext w,w'=W.W) D B ⟨⟨_,(ai _ _).drew⟩,rfl⟩ R3
def mS{P:lk}{H:iF}{C:iQ}{F:Act->Prop}{E:ir}(B:∀a w,C w->F a->E .normal a w):∀(l:List Oper) (a:Act) (w:aa),C w->wpQuiet P H C F l a->wpList P H E l a w
 |[],a,w,z,h=>B a w z h
 |o::l,a,w,z,h=>by
  unfold wpQuiet at h;unfold wpList;split
  .rename_i D;rw[ar D]at h;exact aG (Oper.wp_of_quiet z (fun I w' J h'=>mS B l I w' J h') h)
  .rename_i D;rw[ak D]at h;exact mS B l _ w z h
def cL{P:lk}{id:Nat}{l:List Oper}(h:wpQuiet P l.toArray (fun w'=>∃W:Ext w,w'=W.W) (fun z=>∀w',(∃W:Ext w,w'=W.W)->R .normal z w') l a):(Code.region id l.toArray false).wp P R a w:=wp_region_lit (mS (C:=fun w'=>∃W:Ext w,w'=W.W) (fun _ w' B h=>h w' B) l a w ⟨⟨w,ai _ _⟩,rfl⟩ h)
def Ext.cell(W:Ext w){p:dw}(z:w.cell? p=some v):W.W.cell? p=some v:=ag W.ok z
def Ext.old{o:Obj}(W:Ext (w.alloc o)):Below w w W.W:=an ((ai _ _).alloc (ah _) _) W.ok
def Calls.eF{P:lk}{f:FuncId}{W:Ext w}(h:Calls P f args W.W fun e w'=>e=.returned v/\Below W.W W.W w'):Calls P f args W.W fun e E=>e=.returned v/\∃z:Ext w,E=z.W:=h.mono fun _ _ ⟨B,D⟩=>⟨B,⟨_,an W.ok D⟩,rfl⟩
def Calls.cC{P:lk}{f:FuncId}{W:Ext w}(h:Calls P f args W.W fun e w'=>e=.returned v/\W.W=w'):Calls P f args W.W fun e E=>e=.returned v/\∃z:Ext w,E=z.W:=h.mono fun _ _ ⟨B,D⟩=>⟨B,W,D.symm⟩
def Calls.dN{P:lk}{f:FuncId}{x y:Bool}(h:Calls P f args w fun e w'=>e=.returned (.bool x)/\w=w')(e:x=y):Calls P f args w fun e w'=>e=.returned (.bool y)/\w=w':=e ▸ h
def Calls.bj{P:lk}{f:FuncId}{x y:Bool}(h:Calls P f args w (fp w x))(e:x=y):Calls P f args w (fp w y):=e ▸ h
def aO{a b:Bool}(h:a=b):Ending.returned (.bool a)=.returned (.bool b):=by rw[h]
def lC{a b:Int}(h:a=b):Ending.returned (zI a)=.returned (zI b):=by rw[h]
def gv{z:Type}(f:z->Bool)(xs:List z)(k:Nat)(x:z)(h:xs[k]?=some x):(xs.take (k+1)).all f=((xs.take k).all f&&f x):=by rw[fZ,h];simp
def all_false{z:Type}(f:z->Bool)(xs:List z)(k:Nat)(x:z)(h:xs[k]?=some x)(B:f x=false):xs.all f=false:=by rw[List.all_eq_false];exact⟨x,aR h,by simp[B]⟩
def jT{z:Type}(f:z->Bool)(xs:List z)(k:Nat)(h:(xs.take k).all f=true)(B:xs.length<=k):xs.all f=true:=by rwa[fO B]at h
def aw{z:Type}{xs:List z}(h:k<xs.length):∃x,xs[k]?=some x:=⟨_,dq h⟩
def aU.here(h:aU w A xs)(z:k<xs.length):∃b o,A=some ⟨b,o,none⟩/\∀k x,xs[k]?=some x->af w b (o+k) (zI x):=by
 rcases h with h|h
 .simp[h]at z
 .exact h
def aL.here{rows:aC}(h:aL w A rows)(B:k<rows.length):∃b o,A=some ⟨b,o,none⟩/\∀k r,rows[k]?=some r->∃z cap,af w b (o+k) (.slice z r.length cap)/\aU w z r:=by
 rcases h with h|h
 .simp[h]at B
 .exact h
def eW(n lo hi:Int):Bool:=decide (lo<=n)&&decide (n<=hi)
def jD(p a:Int):Bool:=decide (0<=a)&&decide (a<p)
def pE(p:Int)(xs:aH)(n:Int):Bool:=decide ((xs:Int)=n)&&xs.all (jD p)
def tI(p:Int)(rows:aC)(n:Int):Bool:=rows.all fun r=>pE p r n
def cP(p:Int):Bool:=eW p 2 97&&[(2:Int),3,5,7].all fun q=>!(decide (p%q=0)&&decide (p≠q))
def gg(p v h:Int)(rows:aC):Bool:=cP p&&(eW v 0 24&&(eW h 0 100&&(decide (rows.length<=160)&&tI p rows (v+h))))
structure cU(w:aa):Prop where
 c0:af w 0 0 (zI 2)
 c1:af w 0 1 (zI 3)
 c2:af w 0 2 (zI 5)
 c3:af w 0 3 (zI 7)
def cU.ext(h:cU w)(z:aj w w'):cU w':=⟨ag z h.c0,ag z h.c1,ag z h.c2,ag z h.c3⟩
def eB(n lo hi:Int)(w:aa):ax 39 (fe n lo hi) w fun e w'=>e=.returned (.bool (eW n lo hi))/\w=w':=by
 unfold eW;by_cases z:lo<=n <;>by_cases B:n<=hi
 all_goals
  go_enter func39,ntmps39
  go_wp2;go_ret
  exact⟨by simp[z,B],rfl⟩
def aM(n lo hi:Int)(w:aa):ax 69 (fe n lo hi) w fun e w'=>e=.returned (.bool (eW n lo hi))/\w=w':=by
 unfold eW;by_cases z:lo<=n <;>by_cases B:n<=hi
 all_goals
  go_enter func69,ntmps69
  go_wp2;go_ret
  exact⟨by simp[z,B],rfl⟩
def kS(p a:Int)(w:aa):ax 131 (bI p a) w fun e w'=>e=.returned (.bool (jD p a))/\w=w':=by
 unfold jD;by_cases z:0<=a <;>by_cases B:a<p
 all_goals
  go_enter func131,ntmps131
  go_wp2;go_ret
  exact⟨by simp[z,B],rfl⟩
def nf(p n:Int)(A:aq)(cap:Nat)(xs:aH)(w:aa)(h:aU w A xs)(I:xs.length<=maxLen):ax 107 (wB p A xs cap n) w fun e w'=>e=.returned (.bool (pE p xs n))/\w=w':=by
 unfold maxLen at I;by_cases hn:(xs:Int)=n
 .have H:((xs:Int)!=n)=false:=RN;have F:=zH hn;clear hn;go_enter func107,ntmps107
  go_wp2;go_loop [15] (fun i=>∃k:Nat,k<=xs.length/\i=.int .i64 k/\(xs.take k).all (jD p)=true) (fun i=>xs.length-(intOf i).toNat)
  case atStart=>exact⟨0,aT _,rfl,Rx⟩
  case round=>
   obtain⟨k,O,rfl,B⟩:=hrel;have EB:=zH B;clear B;by_cases E:k<xs.length
   .obtain⟨x,z⟩:=aw E;obtain⟨b,o,rfl,D⟩:=h.here E;have J:=D k x z;have Hx:=zH z;clear z D h;cases hf:jD p x
    .go_wp2_with (go_at_call 131;refine(kS _ _ _).mono ?_;rintro e w' ⟨rfl,rfl⟩;rw[hf])
     go_ret
     exact⟨by rw[pE,all_false _ _ _ _ Hx.o hf];simp,rfl⟩
    .go_wp2_with (go_at_call 131;refine(kS _ _ _).mono ?_;rintro e w' ⟨rfl,rfl⟩;rw[hf])
     exact YE
   .go_wp2;go_ret
    exact⟨by rw[pE,<-F.o,jT _ _ _ EB.o Ry];simp,rfl⟩
 .have H:((xs:Int)!=n)=true:=RN;go_enter func107,ntmps107
  go_wp2;go_ret
  exact⟨by simp[pE,hn],rfl⟩
def AP(p n:Int)(A:aq)(cap:Nat)(rows:aC)(w:aa)(h:aL w A rows)(Q:rows.length<=maxLen)(J:∀r∈rows,r.length<=maxLen):ax 65 (wB p A rows cap n) w fun e w'=>e=.returned (.bool (tI p rows n))/\w=w':=by
 unfold maxLen at Q;go_enter func65,ntmps65
 go_wp2;go_loop [11] (fun i=>∃k:Nat,k<=rows.length/\i=.int .i64 k/\(rows.take k).all (fun r=>pE p r n)=true) (fun i=>rows.length-(intOf i).toNat)
 case atStart=>exact⟨0,aT _,rfl,Rx⟩
 case round=>
  obtain⟨k,Z,rfl,E⟩:=hrel;have EB:=zH E;clear E;by_cases I:k<rows.length
  .obtain⟨r,B⟩:=aw I;obtain⟨b,o,rfl,F⟩:=h.here I;obtain⟨R,T,U,H⟩:=F k r B;have O:=J r (aR B);have D:=zH B;clear B F h J;cases z:pE p r n
   .go_wp2_with (go_at_call 107;refine(nf _ _ _ _ _ _ H O).mono ?_;rintro e w' ⟨rfl,rfl⟩;rw[z])
    go_ret
    exact⟨aO (by rw[tI,all_false _ _ _ _ D.o z]),rfl⟩
   .go_wp2_with (go_at_call 107;refine(nf _ _ _ _ _ _ H O).mono ?_;rintro e w' ⟨rfl,rfl⟩;rw[z])
    go_round
    case rel=>exact⟨k+1,Ry,RB,by rw[gv _ _ _ _ D.o,EB.o,z];rfl⟩
    case measure=>simp[intOf];omega
  .exact Xu
def kg(lo hi:Int)(A:aq)(cap:Nat)(xs:aH)(w:aa)(h:aU w A xs)(F:xs.length<=maxLen):ax 72 #[.slice A xs cap,lo,hi] w fun e w'=>e=.returned (.bool (xs.all fun x=>eW x lo hi))/\w=w':=by
 unfold maxLen at F;go_enter func72,ntmps72
 go_wp2;go_loop [11] (fun i=>∃k:Nat,k<=xs.length/\i=.int .i64 k/\(xs.take k).all (fun x=>eW x lo hi)=true) (fun i=>xs.length-(intOf i).toNat)
 case atStart=>exact⟨0,aT _,rfl,Rx⟩
 case round=>
  obtain⟨k,I,rfl,B⟩:=hrel;have EB:=zH B;clear B;by_cases E:k<xs.length
  .obtain⟨x,z⟩:=aw E;obtain⟨b,o,rfl,D⟩:=h.here E;have H:=D k x z;have Hx:=zH z;clear z D h;cases hf:eW x lo hi
   .go_wp2_with (go_at_call 69;refine(aM _ _ _ _).mono ?_;rintro e w' ⟨rfl,rfl⟩;rw[hf])
    go_ret
    exact⟨aO (by rw[all_false _ _ _ _ Hx.o hf]),rfl⟩
   .go_wp2_with (go_at_call 69;refine(aM _ _ _ _).mono ?_;rintro e w' ⟨rfl,rfl⟩;rw[hf])
    exact YE
  .go_wp2;go_ret
   exact⟨aO (by rw[jT _ _ _ EB.o Ry]),rfl⟩
def rY(p:Int)(A:aq)(cap:Nat)(xs:aH)(w:aa)(h:aU w A xs)(B:xs.length<=maxLen)(D:2<=p)(E:p<=97):ax 75 #[p,.slice A xs cap] w fun e w'=>e=.returned (.bool (xs.all (jD p)))/\w=w':=by
 have e:∀x,eW x 0 (p-1)=jD p x:=fun x=>by
  unfold eW jD;congr 1
  exact decide_eq_decide.2 Ry
 have z:=zH e;clear e;go_enter func75,ntmps75
 go_wp2_with (go_at_call 72;refine(kg _ _ _ _ _ _ h B).mono ?_;rintro e w' ⟨rfl,rfl⟩)
 go_ret
 exact⟨aO (by congr 1;funext x;exact z x),rfl⟩
def zb_(p n:Int)(A:aq)(cap:Nat)(rows:aC)(w:aa)(h:aL w A rows)(Z:rows.length<=maxLen)(J:∀r∈rows,r.length<=maxLen)(O:2<=p)(Q:p<=97):ax 70 (ae p n A rows cap) w fun e w'=>e=.returned (.bool (tI p rows n))/\w=w':=by
 unfold maxLen at Z;go_enter func70,ntmps70
 go_wp2;go_loop [11] (fun i=>∃k:Nat,k<=rows.length/\i=.int .i64 k/\(rows.take k).all (fun r=>pE p r n)=true) (fun i=>rows.length-(intOf i).toNat)
 case atStart=>exact⟨0,aT _,rfl,Rx⟩
 case round=>
  obtain⟨k,am,rfl,E⟩:=hrel;have EB:=zH E;clear E;by_cases I:k<rows.length
  .obtain⟨r,B⟩:=aw I;obtain⟨b,o,rfl,F⟩:=h.here I;obtain⟨ab,ac,ad,H⟩:=F k r B;have R:=J r (aR B);have D:=zH B;clear B F h J;by_cases hn:(r:Int)=n
   .have U:((r:Int)!=n)=false:=RN;have T:=zH hn;clear hn;cases z:r.all (jD p)
    .go_wp2_with (go_at_call 75;refine(rY _ _ _ _ _ H R O Q).mono ?_;rintro e w' ⟨rfl,rfl⟩;rw[z])
     go_ret
     exact⟨aO (by rw[tI,all_false _ _ _ _ D.o (by rw[pE,z];simp)]),rfl⟩
    .go_wp2_with (go_at_call 75;refine(rY _ _ _ _ _ H R O Q).mono ?_;rintro e w' ⟨rfl,rfl⟩;rw[z])
     go_round
     case rel=>exact⟨k+1,Ry,RB,by rw[gv _ _ _ _ D.o,EB.o,pE,z,T.o];simp⟩
     case measure=>simp[intOf];omega
   .have U:((r:Int)!=n)=true:=RN;go_wp2;go_ret
    exact⟨aO (by rw[tI,all_false _ _ _ _ D.o (by rw[pE];simp[hn])]),rfl⟩
  .exact Xu
def lB(p q:Int):Bool:=decide (p%q=0)&&decide (p≠q)
def p_(k:Nat)(z:k<4)(h:lB p ([(2:Int),3,5,7].getD k 0)=true):cP p=false:=by
 unfold cP lB at *;rw[Bool.and_eq_false_iff];right;rw[List.all_eq_false]
 match k,z with
 |0,_=>exact⟨2,Rx,R3⟩
 |1,_=>exact⟨3,Rx,R3⟩
 |2,_=>exact⟨5,Rx,R3⟩
 |3,_=>exact⟨7,Rx,R3⟩
def Eh(F:2<=p)(H:p<=97)(h:∀j,j<4->lB p ([(2:Int),3,5,7].getD j 0)=false):cP p=true:=by have z:=h 0 Ry;have B:=h 1 Ry;have D:=h 2 Ry;have E:=h 3 Ry;simp only[lB,List.getD_cons_zero,List.getD_cons_succ]at z B D E;simp only[cP,eW,wL,List.all_nil,z,B,D,E];simp[F,H]
def mI(p:Int)(w:aa)(h:cU w):ax 64 (bc p) w fun e w'=>e=.returned (.bool (cP p))/\w=w':=by
 obtain⟨F,c1,c2,c3⟩:=h;by_cases H:p<2
 .exact XK
 by_cases I:97<p
 .exact XK
 go_enter func64,ntmps64
 go_wp2;have O:∀w,(Instr.index 124 (.agg wj) (zI 0)).run prog w=.ok (zI 2) w:=fun _=>RU
 have Q:∀w,(Instr.index 124 (.agg wj) (zI 1)).run prog w=.ok (zI 3) w:=fun _=>RU
 have R:∀w,(Instr.index 124 (.agg wj) (zI 2)).run prog w=.ok (zI 5) w:=fun _=>RU
 have T:∀w,(Instr.index 124 (.agg wj) (zI 3)).run prog w=.ok (zI 7) w:=fun _=>RU
 go_loop [12] (fun i=>∃k:Nat,k<=4/\i=.int .i64 k/\∀j,j<k->lB p ([(2:Int),3,5,7].getD j 0)=false) (fun i=>4-(intOf i).toNat)
 case atStart=>exact⟨0,Ry,rfl,fun j hj=>Ry⟩
 case round=>
  obtain⟨k,J,rfl,E⟩:=hrel;have EB:=zH E;clear E;rcases(Ry:k=4∨k=0∨k=1∨k=2∨k=3)with rfl|rfl|rfl|rfl|rfl
  .go_wp2;go_ret
   exact⟨aO (by rw[Eh Ry Ry EB]),rfl⟩
  .by_cases m:p%2=0
   .have B:(p%2==0)=true:=RH;by_cases e:p=2
    .have z:lB p 2=false:=RZ;have HB:=zH z;clear z;have D:(p !=2)=false:=RG;clear m e;exact Y6
    .have D:(p !=2)=true:=RG;have z:lB p 2=true:=Sx;have HB:=zH z;clear z m e;go_wp2;go_ret
     exact⟨aO (by rw[p_ 0 Ry HB]),rfl⟩
   .have B:(p%2==0)=false:=RH;have z:lB p 2=false:=RY;have HB:=zH z;clear z m;exact Y6
  .by_cases m:p%3=0
   .have B:(p%3==0)=true:=RH;by_cases e:p=3
    .have z:lB p 3=false:=RZ;have HB:=zH z;clear z;have D:(p !=3)=false:=RG;clear m e;exact Y5
    .have D:(p !=3)=true:=RG;have z:lB p 3=true:=Sx;have HB:=zH z;clear z m e;go_wp2;go_ret
     exact⟨aO (by rw[p_ 1 Ry HB]),rfl⟩
   .have B:(p%3==0)=false:=RH;have z:lB p 3=false:=RY;have HB:=zH z;clear z m;exact Y5
  .by_cases m:p%5=0
   .have B:(p%5==0)=true:=RH;by_cases e:p=5
    .have z:lB p 5=false:=RZ;have HB:=zH z;clear z;have D:(p !=5)=false:=RG;clear m e;exact Y4
    .have D:(p !=5)=true:=RG;have z:lB p 5=true:=Sx;have HB:=zH z;clear z m e;go_wp2;go_ret
     exact⟨aO (by rw[p_ 2 Ry HB]),rfl⟩
   .have B:(p%5==0)=false:=RH;have z:lB p 5=false:=RY;have HB:=zH z;clear z m;exact Y4
  .by_cases m:p%7=0
   .have B:(p%7==0)=true:=RH;by_cases e:p=7
    .have z:lB p 7=false:=RZ;have HB:=zH z;clear z;have D:(p !=7)=false:=RG;clear m e;exact Y3
    .have D:(p !=7)=true:=RG;have z:lB p 7=true:=Sx;have HB:=zH z;clear z m e;go_wp2;go_ret
     exact⟨aO (by rw[p_ 3 Ry HB]),rfl⟩
   .have B:(p%7==0)=false:=RH;have z:lB p 7=false:=RY;have HB:=zH z;clear z m;exact Y3
def Bh:((List.range 98).all fun p=>(List.range 10).all fun k=>decide (p<2)||decide (k<2)||decide (p<k*k)||decide (p%k≠0)||!cP (p:Nat))=true:=Su
def yp:((List.range 98).all fun p=>(List.range 11).all fun k=>decide (p<2)||decide (k<2)||decide (k*k<=p)||((List.range k).any fun j=>decide (2<=j)&&decide (p%j=0))||cP (p:Nat))=true:=Su
def Bi(p:Nat)(z:p<98)(k:Nat)(B:k<10)(E:2<=p)(F:2<=k)(H:k*k<=p)(D:p%k=0):cP (p:Nat)=false:=by
 have:=eD.1 (eD.1 Bh p (dQ.2 z)) k (dQ.2 B);simp only[mg,cw,Bool.not_eq_true']at this;rcases this with(((h|h)|h)|h)|h
 .omega
 .omega
 .omega
 .exact absurd D h
 .exact h
def yq(p:Nat)(B:p<98)(k:Nat)(z:k<11)(F:2<=p)(H:2<=k)(I:p<k*k)(D:∀j,j<k->2<=j->p%j≠0):cP (p:Nat)=true:=by
 have:=eD.1 (eD.1 yp p (dQ.2 B)) k (dQ.2 z);simp only[mg,cw,mn,bn,dQ]at this;rcases this with(((h|h)|h)|⟨j,E,z,h⟩)|h
 .omega
 .omega
 .omega
 .exact absurd h (D j E z)
 .exact h
def zdI{k:Int}(D:2<=p)(E:p<=97)(F:2<=k)(H:k<=9)(z:k*k<=p)(B:p%k=0):cP p=false:=by obtain⟨p,rfl⟩:=fW (Ry:0<=p);obtain⟨k,rfl⟩:=fW (Ry:0<=k);exact Bi p Ry k Ry Ry Ry (by exact_mod_cast z) (by exact_mod_cast B)
def Ei{k:Int}(D:2<=p)(E:p<=97)(F:2<=k)(H:k<=10)(z:p<k*k)(B:∀j,2<=j->j<k->p%j≠0):cP p=true:=by
 obtain⟨p,rfl⟩:=fW (Ry:0<=p);obtain⟨k,rfl⟩:=fW (Ry:0<=k);exact yq p Ry k Ry Ry Ry (by exact_mod_cast z) fun j I J=>by
  have:=B j Ry Ry
  exact_mod_cast this
def zi4{k:Int}(z:2<=k)(B:k<=10):0<=k*k/\k*k<=100/\(k=10->k*k=100):=by obtain⟨k,rfl⟩:=fW (Ry:0<=k);have h:k<11:=Ry;have:∀k,k<11->k*k<=100:=RC;have:=this k h;refine⟨Ry,by exact_mod_cast this,fun e=>?_⟩;obtain rfl:k=10:=Ry;rfl
def kZ(p:Int)(w:aa):ax 43 (bc p) w fun e w'=>e=.returned (.bool (cP p))/\w=w':=by
 cases hi:eW p 2 97
 .go_enter func43,ntmps43
  go_wp2_with (go_at_call 69;refine(aM _ _ _ _).mono ?_;rintro e w' ⟨rfl,rfl⟩;rw[hi])
  go_ret
  exact⟨aO (by rw[cP,hi];rfl),rfl⟩
 have R:2<=p/\p<=97:=S8;obtain⟨H,I⟩:=R;go_enter func43,ntmps43
 go_wp2_with (go_at_call 69;refine(aM _ _ _ _).mono ?_;rintro e w' ⟨rfl,rfl⟩;rw[hi])
 go_loop [3] (fun i=>∃k:Int,2<=k/\k<=10/\i=.int .i64 k/\∀j,2<=j->j<k->p%j≠0) (fun i=>10-(intOf i).toNat)
 case atStart=>exact⟨2,Ry,Ry,rfl,fun j _ _=>Ry⟩
 case round=>
  obtain⟨k,z,F,rfl,E⟩:=hrel;have D:=zH E;clear E;obtain⟨U,Z,B⟩:=zi4 z F;by_cases T:k*k<=p
  .have Q:k<=9:=by
    rcases(Ry:k<=9∨k=10)with h|h
    .exact h
    .have:=B h;omega
   clear B;by_cases m:p%k=0
   .have J:(p%k==0)=true:=RH;have M:=zH m;clear m;go_wp2;go_ret
    exact⟨aO (by rw[zdI H I z Q T M.o]),rfl⟩
   .have J:(p%k==0)=false:=RH;have M:=zH m;clear m;go_wp2;go_round
    case rel=>exact⟨k+1,Ry,Ry,RB,fun j a b=>by
     by_cases O:j<k
     .exact D.o j a O
     .obtain rfl:j=k:=Ry;exact M.o⟩
    case measure=>simp[intOf];omega
  .clear B;go_wp2;go_ret
   exact⟨aO (by rw[Ei H I z F Ry D.o]),rfl⟩
def pC(v h:Int)(z:av)(w:aa)(E:0<=v)(F:v<=1000)(B:0<=h)(D:h<=1000):ax 66 (cB (dz v h z)) w fun e w'=>e=.returned (zI (v+h))/\aj w w':=by
 go_enter func66,ntmps66
 go_wp2;go_ret
 exact⟨rfl,(ai _ _).alloc (ah _) _⟩
def jg(p v h:Int)(A:aq)(cap:Nat)(rows:aC)(w:aa)(z:cU w)(D:aL w A rows)(O:rows.length<=maxLen)(Q:∀r∈rows,r.length<=maxLen):ax 33 (iH p (ae v h A rows cap)) w (fp w (gg p v h rows)):=by
 have T:∀W:Ext (w.alloc (.cells (ae v h A rows cap) 26)),af W.W w 0 (zI v):=fun W=>W.cell Rx
 have U:∀W:Ext (w.alloc (.cells (ae v h A rows cap) 26)),af W.W w 1 (zI h):=fun W=>W.cell Rx
 have Z:∀W:Ext (w.alloc (.cells (ae v h A rows cap) 26)),af W.W w 2 (.slice A rows cap):=fun W=>W.cell Rx
 have B:∀W:Ext (w.alloc (.cells (ae v h A rows cap) 26)),cU W.W:=fun W=>z.ext W.old
 have E:∀W:Ext (w.alloc (.cells (ae v h A rows cap) 26)),aL W.W A rows:=fun W=>D.ext W.old
 obtain⟨HP,H⟩:=bL B E;clear z D B E;cases hf:cP p
 .go_enter func33,ntmps33
  go_wp2;refine bM RU RU ?_
  repeat (go_big_quiet_step ((go_at_call 64;exact Calls.cC (v:=.bool false) UG)))
  refine dm ?_;rintro _ ⟨W,rfl⟩;go_wp2;go_ret
  exact⟨aO (by rw[gg,hf];rfl),W.old⟩
 cases hv:eW v 0 24
 .go_enter func33,ntmps33
  go_wp2;refine bM RU RU ?_
  repeat (go_big_quiet_step (first|(go_at_call 64;exact Calls.cC (v:=.bool true) UG)|(go_at_call_of 39 v;exact Calls.cC (v:=.bool false) Uo)))
  refine dm ?_;rintro _ ⟨W,rfl⟩;go_wp2;go_ret
  exact⟨aO (by rw[gg,hf,hv];rfl),W.old⟩
 cases hh:eW h 0 100
 .go_enter func33,ntmps33
  go_wp2;refine bM RU RU ?_
  repeat (go_big_quiet_step (first|(go_at_call 64;exact Calls.cC (v:=.bool true) UG)|(go_at_call_of 39 v;exact Calls.cC (v:=.bool true) Uo)|(go_at_call_of 39 h;exact Calls.cC (v:=.bool false) Un)))
  refine dm ?_;rintro _ ⟨W,rfl⟩;go_wp2;go_ret
  exact⟨aO (by rw[gg,hf,hv,hh];rfl),W.old⟩
 obtain⟨v1,v2⟩:0<=v/\v<=24:=by simpa[eW]using hv
 obtain⟨I,R⟩:0<=h/\h<=100:=by simpa[eW]using hh
 by_cases F:rows.length<=160
 .have J:decide ((rows:Int)<=160)=true:=RX;go_enter func33,ntmps33
  go_wp2;refine bM RU RU ?_
  repeat (go_big_quiet_step (first|(go_at_call 64;exact Calls.cC (v:=.bool true) UG)|(go_at_call_of 39 v;exact Calls.cC (v:=.bool true) Uo)|(go_at_call_of 39 h;exact Calls.cC (v:=.bool true) Un)|(go_at_call 66;exact Calls.eF (pC v h _ _ v1 Ry I Ry))|(go_at_call 65;exact Calls.cC (AP _ _ _ _ _ _ (H.o _) O Q))))
  refine dm ?_;rintro _ ⟨W,rfl⟩;go_wp2;go_ret
  exact⟨aO (by simp[gg,hf,hv,hh,F]),W.old⟩
 .have J:decide ((rows:Int)<=160)=false:=RX;go_enter func33,ntmps33
  go_wp2;refine bM RU RU ?_
  repeat (go_big_quiet_step (first|(go_at_call 64;exact Calls.cC (v:=.bool true) UG)|(go_at_call_of 39 v;exact Calls.cC (v:=.bool true) Uo)|(go_at_call_of 39 h;exact Calls.cC (v:=.bool true) Un)))
  refine dm ?_;rintro _ ⟨W,rfl⟩;go_wp2;go_ret
  exact⟨aO (by simp[gg,F]),W.old⟩
def ud(p v h:Int)(A:aq)(cap:Nat)(rows:aC)(w:aa)(H:aL w A rows)(O:rows.length<=maxLen)(Q:∀r∈rows,r.length<=maxLen):ax 35 (iH p (ae v h A rows cap)) w (fp w (gg p v h rows)):=by
 have T:=H.ext ((ai w w).alloc (ah _) (.cells (ae v h A rows cap) 26));clear H;have E:=(ai w w).alloc (ah _) (.cells (ae v h A rows cap) 26);cases z:cP p
 .go_enter func35,ntmps35
  go_wp2_with ((go_at_call 43;refine(Calls.dN (kZ _ _) z).mono ?_;rintro e w' ⟨rfl,rfl⟩))
  go_ret
  exact⟨aO (by rw[gg,z];rfl),E⟩
 cases B:eW v 0 24
 .go_enter func35,ntmps35
  go_wp2_with (first|(go_at_call 43;refine(Calls.dN (kZ _ _) z).mono ?_;rintro e w' ⟨rfl,rfl⟩)|(go_at_call_of 69 v;refine(Calls.dN (aM _ _ _ _) B).mono ?_;rintro e w' ⟨rfl,rfl⟩))
  go_ret
  exact⟨aO (by rw[gg,z,B];rfl),E⟩
 cases D:eW h 0 100
 .go_enter func35,ntmps35
  go_wp2_with (first|(go_at_call 43;refine(Calls.dN (kZ _ _) z).mono ?_;rintro e w' ⟨rfl,rfl⟩)|(go_at_call_of 69 v;refine(Calls.dN (aM _ _ _ _) B).mono ?_;rintro e w' ⟨rfl,rfl⟩)|(go_at_call_of 69 h;refine(Calls.dN (aM _ _ _ _) D).mono ?_;rintro e w' ⟨rfl,rfl⟩))
  go_ret
  exact⟨aO (by rw[gg,z,B,D];rfl),E⟩
 obtain⟨R,p2⟩:2<=p/\p<=97:=by have F:=z;unfold cP at F;rw[bn]at F;simpa[eW]using F.1
 obtain⟨v1,v2⟩:0<=v/\v<=24:=by simpa[eW]using B
 obtain⟨U,Z⟩:0<=h/\h<=100:=by simpa[eW]using D
 by_cases I:rows.length<=160
 .have J:decide ((rows:Int)<=160)=true:=RX;go_enter func35,ntmps35
  go_wp2_with (first|(go_at_call 43;refine(Calls.dN (kZ _ _) z).mono ?_;rintro e w' ⟨rfl,rfl⟩)|(go_at_call_of 69 v;refine(Calls.dN (aM _ _ _ _) B).mono ?_;rintro e w' ⟨rfl,rfl⟩)|(go_at_call_of 69 h;refine(Calls.dN (aM _ _ _ _) D).mono ?_;rintro e w' ⟨rfl,rfl⟩)|(go_at_call 70;refine(zb_ _ _ _ _ _ _ T O Q R p2).mono ?_;rintro e w' ⟨rfl,rfl⟩))
  go_ret
  exact⟨aO (by simp[gg,z,B,D,I]),E⟩
 .have J:decide ((rows:Int)<=160)=false:=RX;go_enter func35,ntmps35
  go_wp2_with (first|(go_at_call 43;refine(Calls.dN (kZ _ _) z).mono ?_;rintro e w' ⟨rfl,rfl⟩)|(go_at_call_of 69 v;refine(Calls.dN (aM _ _ _ _) B).mono ?_;rintro e w' ⟨rfl,rfl⟩)|(go_at_call_of 69 h;refine(Calls.dN (aM _ _ _ _) D).mono ?_;rintro e w' ⟨rfl,rfl⟩))
  go_ret
  exact⟨aO (by simp[gg,I]),E⟩
def zX{z:Type}{xs:List z}{x:z}(h:xs[k]?=some x):xs.zipIdx[k]?=some (x,k):=by rw[DE,h];simp
def dL(v h a:Int)(A:aq)(n cap:Nat)(w:aa)(B:n<=maxLen):ax 209 (jG (dp v h A n cap) a) w fun e w'=>e=.returned (.bool (eW a 0 ((n:Int)-1)))/\aj w w':=by
 unfold maxLen at B;have z:=(ai w w).alloc (ah _) (.cells (dp v h A n cap) 26);go_enter func209,ntmps209
 go_wp2_with (go_at_call 39;refine(eB _ _ _ _).mono ?_;rintro e w' ⟨rfl,rfl⟩)
 go_ret
 exact⟨rfl,z⟩
def kK(v h b:Int)(z:av)(w:aa)(D:0<=h)(E:h<=100):ax 233 (jG (dz v h z) b) w (fp w (eW b 0 (h-1))):=by
 have B:=(ai w w).alloc (ah _) (.cells (dz v h z) 26);go_enter func233,ntmps233
 go_wp2_with (go_at_call 39;refine(eB _ _ _ _).mono ?_;rintro e w' ⟨rfl,rfl⟩)
 go_ret
 exact⟨rfl,B⟩
def pF(rows:aC)(c:Nat)(z:Int):Bool:=rows.zipIdx.all fun x=>decide ((x.2:Int)=z)||decide (x.1.getD c 0=0)
def zY(v h b z:Int)(A:aq)(cap:Nat)(rows:aC)(w:aa)(B:aL w A rows)(am:rows.length<=maxLen)(be:0<=v)(bi:v<=24)(a9:h<=100)(a5:0<=b)(a6:b<h)(U:∀r∈rows,(r.length:Int)=v+h):ax 234 #[.agg (ae v h A rows cap),b,z] w (fp w (pF rows (v+b).toNat z)):=by
 unfold maxLen at am;have H:=(ai w w).alloc (ah _) (.cells (ae v h A rows cap) 26)
 replace B:=B.ext H
 go_enter func234,ntmps234
 go_wp2;go_loop [12] (fun i=>∃k:Nat,k<=rows.length/\i=.int .i64 k/\(rows.zipIdx.take k).all (fun x=>decide ((x.2:Int)=z)||decide (x.1.getD (v+b).toNat 0=0))=true) (fun i=>rows.length-(intOf i).toNat)
 case atStart=>exact⟨0,aT _,rfl,Rx⟩
 case round=>
  obtain⟨k,bd,rfl,O⟩:=hrel;have E:=zH O;clear O;by_cases Z:k<rows.length
  .obtain⟨r,D⟩:=aw Z;obtain⟨a2,o,rfl,Q⟩:=B.here Z;obtain⟨a0,a3,a7,T⟩:=Q k r D;have ap:=U r (aR D);have ab:(v+b).toNat<r.length:=Ry;obtain⟨x,I⟩:=aw ab;obtain⟨a1,bm,rfl,R⟩:=T.here ab;have a8:=R _ _ I;obtain⟨F,J⟩:=bL (zX D) I;clear D Q U B T R I;have ba:0<=v+b:=Ry;have bb:v+b < (r:Int):=Ry;clear ap;by_cases hn:(k:Int)=z
   .have ao:((k:Int)!=z)=false:=RN;have ad:=zH hn;clear hn;go_wp2;go_round
    case rel=>exact⟨k+1,Ry,RB,by rw[gv _ _ _ _ F.o,E.o];simp[ad.o]⟩
    case measure=>simp[intOf];omega
   .have ao:((k:Int)!=z)=true:=RN;by_cases h0:x=0
    .subst h0;go_wp2;go_round
     case rel=>exact⟨k+1,Ry,RB,by rw[gv _ _ _ _ F.o,E.o];simp[J.o]⟩
     case measure=>simp[intOf];omega
    .have a4:(x !=0)=true:=RP;have ac:=zH h0;clear h0;go_wp2;go_ret
     exact⟨aO (by rw[pF,all_false _ _ _ _ F.o (by simp[hn,J.o,ac.o])]),H⟩
  .go_wp2;go_ret
   exact⟨aO (by rw[pF,jT _ _ _ E.o RX]),H⟩
def qP(xs:aH):Nat:=(xs.takeWhile (fun x=>decide (x=0))).length
def zbA{x:Int}(h:(xs.take k).all (fun x=>decide (x=0))=true)(hx:xs[k]?=some x)(z:x≠0):qP xs=k:=by
 induction xs generalizing k with
 |nil=>simp at hx
 |cons y ys ih=>
  cases k with
  |zero=>simp at hx;subst hx;simp[qP,z]
  |succ k=>
   simp only[List.take_succ_cons,wL,bn,cw]at h;have:=ih h.2 Ss;simp[qP,h.1]at this ⊢;exact this
def BV(h:xs.all (fun x=>decide (x=0))=true):qP xs=xs.length:=by
 induction xs with
 |nil=>rfl
 |cons y ys ih=>
  simp only[wL,bn,cw]at h;have:=ih h.2;simp[qP,h.1]at this ⊢;exact this
def zi7(xs:aH):qP xs<=xs.length:=(List.takeWhile_prefix _).length_le
def zdR(e:qP xs=xs.length):xs.all (fun x=>decide (x=0))=true:=by
 induction xs with
 |nil=>rfl
 |cons y ys ih=>
  by_cases z:y=0
  .have:qP ys=ys.length:=by simpa[qP,z]using e
   simp only[wL,z,ih this];rfl
  .simp[qP,z]at e
def zfy(xs:aH):((qP xs:Int)==(xs:Int))=xs.all (fun x=>decide (x=0)):=by
 cases h:xs.all (fun x=>decide (x=0))
 .rw[beq_eq_false_iff_ne];intro e;rw[zdR Ry]at h;cases h
 .rw[qF,BV h]
def zfz(A:aq)(cap:Nat)(xs:aH)(w:aa)(h:aU w A xs)(J:xs.length<=maxLen):ax 221 (bJ A xs cap) w fun e w'=>e=.returned (zI (qP xs))/\w=w':=by
 unfold maxLen at J;go_enter func221,ntmps221
 go_wp2;go_loop [7] (fun i=>∃k:Nat,k<=xs.length/\i=.int .i64 k/\(xs.take k).all (fun x=>decide (x=0))=true) (fun i=>xs.length-(intOf i).toNat)
 case atStart=>exact⟨0,aT _,rfl,Rx⟩
 case round=>
  obtain⟨k,R,rfl,E⟩:=hrel;have z:=zH E;clear E;by_cases H:k<xs.length
  .obtain⟨x,B⟩:=aw H;obtain⟨b,o,rfl,F⟩:=h.here H;have Q:=F k x B;have D:=zH B;clear B F h;by_cases h0:x=0
   .subst h0;go_wp2;go_round
    case rel=>exact⟨k+1,Ry,RB,by rw[gv _ _ _ _ D.o,z.o];rfl⟩
    case measure=>simp[intOf];omega
   .have O:(x !=0)=true:=RP;have I:=zH h0;clear h0;go_wp2;go_ret
    exact⟨lC (by rw[zbA z D.o I]),rfl⟩
  .go_wp2;go_ret
   exact⟨lC (by rw[BV (jT _ _ _ z Ry)]),rfl⟩
def x_(xs:aH):Bool:=xs.all fun x=>decide (x=0)
def zbB(A:aq)(cap:Nat)(xs:aH)(w:aa)(h:aU w A xs)(B:xs.length<=maxLen):ax 219 (bJ A xs cap) w fun e w'=>e=.returned (.bool (x_ xs))/\w=w':=by
 have z:=zH (zfy xs);go_enter func219,ntmps219
 go_wp2_with (go_at_call 221;refine(zfz _ _ _ _ h B).mono ?_;rintro e w' ⟨rfl,rfl⟩)
 go_ret
 exact⟨aO (by rw[x_,<-z.o]),rfl⟩
def oc(xs:aH)(a:Int):Bool:=xs.zipIdx.all fun x=>decide ((x.2:Int)=a)==decide (x.1≠0)
def ya(a:Int)(A:aq)(cap:Nat)(xs:aH)(w:aa)(h:aU w A xs)(I:xs.length<=maxLen):ax 73 #[.slice A xs cap,a] w fun e w'=>e=.returned (.bool (oc xs a))/\w=w':=by
 unfold maxLen at I;go_enter func73,ntmps73
 go_wp2;go_loop [9] (fun i=>∃k:Nat,k<=xs.length/\i=.int .i64 k/\(xs.zipIdx.take k).all (fun x=>decide ((x.2:Int)=a)==decide (x.1≠0))=true) (fun i=>xs.length-(intOf i).toNat)
 case atStart=>exact⟨0,aT _,rfl,Rx⟩
 case round=>
  obtain⟨k,O,rfl,E⟩:=hrel;have EB:=zH E;clear E;by_cases H:k<xs.length
  .obtain⟨x,D⟩:=aw H;obtain⟨b,o,rfl,F⟩:=h.here H;have J:=F k x D;have Hx:=zH (zX D);clear D F h;by_cases hn:(k:Int)=a <;>by_cases h0:x=0
   .have B:((k:Int)==a)=true:=RN;have z:(x !=0)=false:=RP;exact YC
   .have B:((k:Int)==a)=true:=RN;have z:(x !=0)=true:=RP;exact Y0
   .have B:((k:Int)==a)=false:=RN;have z:(x !=0)=false:=RP;exact Y0
   .have B:((k:Int)==a)=false:=RN;have z:(x !=0)=true:=RP;exact YC
  .go_wp2;go_ret
   exact⟨aO (by rw[oc,jT _ _ _ EB.o RX]),rfl⟩
def fq:(prog.info? 3).map (fun i=>(i.zero,i.size,i.bytes))=some (some (.int .i64 0),1,8):=RU
def au(w:aa)(z:Nat)(v:av)(xs:aH):Prop:=w.ownsRow z 3 1 v xs.length (xs.map (Value.int .i64))
def au.view(h:au w D v xs):∃A cap,v=.slice A xs cap/\aU w A xs/\xs.length<=cap/\cap<=maxLen:=by
 have B:=fun g=>pc h (g:=g)
 obtain⟨H,z⟩:=h;rcases z with⟨rfl,hn⟩|⟨g,cap,cur,rfl,I,J,hn,F,O⟩
 .exact Xc
 .refine⟨_,cap,rfl,aB ⟨g,0,rfl,fun k x E=>?_⟩,hn,F⟩;have:=B g rfl k (zI x) (by rw[bR,E];rfl);have e:(⟨g,0,none⟩:dw).add k=⟨g,0+k,none⟩:=by unfold Addr.add;split <;>simp_all
  rwa[e]at this
def au.nil(w:aa)(z:Nat):au w z (.slice none 0 0) []:=kX _ _ _ _
def au.ext(h:au w D v xs)(z:aj w w'):au w' D v xs:=by refine ic h (row:=none) ⟨z.os,z.tape,z.output,z.size,fun k B _=>z.block k B⟩ ?_;cases v.ownBlock <;>simp
def nZ(J:o.guard=none)(s x:kE)(T:o.op=.call {callee:=.builtin .append,args:=#[s,x],argTypes:=#[27,27]})(B:Nat)(W:aa)(v:av)(xs:aH)(y:Int)(Z:a.eval s=v)(ab:a.eval x=.slice (aX W) 1 1)(F:au W B v xs)(ap:xs.length+1<=1099511627776)(I:B<=(W:Nat))(h:∀v' w',au w' B v' (xs++[y])->W.grownBy w' v.ownBlock->Below B W w'->wpList prog Q R rest (a.put o.dst v') w'):wpList prog Q R (o::rest) a (W.alloc (.cells (bc y) 3)):=by
 obtain⟨ao,hi,ac,ad,am⟩:=cM fq;have U:=mq F (.cells (bc y) 3);refine wH _ J s x 27 T B 3 ao (zI 0) 1 8 dA hi ac ad am rfl RC v _ _ Z U ⟨W,0,none⟩ 1 1 [.int .i64 y] ab rfl ?_ ?_ ?_ ?_ ?_ ?_
 .intro j u z
  match j,z with
  |0,z=>simp at z;subst z;simp[Addr.add]
  |j+1,z=>simp at z
 .intro u H;simp at H;subst H;rfl
 .unfold maxLen;omega
 .omega
 .simp;omega
 .intro v' w' Ft EJ _;have E:W.grownBy w' v.ownBlock:=⟨EJ.os,EJ.tape,EJ.output,VF,fun k D O=>(EJ.block k RX O).trans (qE W _ D)⟩;refine h v' w' TP E ?_;exact(ai _ _).grown E I fun k D=>(b_ F k D).1
def fD(rows:aC)(c:Nat):List Int:=rows.map fun r=>r.getD c 0
def Bg{rows:aC}{r:aH}{x:Int}(z:rows[k]?=some r)(B:r[c]?=some x):(fD rows c).take (k+1)=(fD rows c).take k++[x]:=by rw[fZ];simp[fD,z,B]
def zgY(rows:aC)(c k:Nat)(z:k<=rows.length):((fD rows c).take k).length=k:=by simp[fD];omega
def pZ(v h b:Int)(A:aq)(cap:Nat)(rows:aC)(w:aa)(H:aL w A rows)(bb:rows.length<=1000)(bd:0<=v)(be:v<=24)(a8:h<=100)(a4:0<=b)(a5:b<h)(Q:∀r∈rows,(r.length:Int)=v+h):ax 74 (jG (ae v h A rows cap) b) w fun e w'=>∃u,e=.returned u/\au w' ((w:Nat)+1) u (fD rows (v+b).toNat)/\aj w w':=by
 obtain⟨br,hi,bm,bo,bp⟩:=cM fq;have F:=(ai w w).alloc (ah _) (.cells (ae v h A rows cap) 26);go_enter func74,ntmps74
 go_wp2;go_loopw [5,11] (fun u i wr=>∃k:Nat,k<=rows.length/\i=.int .i64 k/\au wr ((w:Nat)+1) u ((fD rows (v+b).toNat).take k)/\Below ((w:Nat)+1) (w.alloc (.cells (ae v h A rows cap) 26)) wr)
  (fun _ i _=>rows.length-(intOf i).toNat)
 case atStart=>exact⟨0,aT _,rfl,by simpa using au.nil _ _,ai _ _⟩
 case round=>
  obtain⟨k,ad,rfl,U,z⟩:=hrel;have E:=zH U;clear U;have bi:af wr w 0 (zI v):=(z.cell (p:=⟨w,0,none⟩) Rx).trans Rx;by_cases R:k<rows.length
  .obtain⟨r,B⟩:=aw R;have ac:aj w wr:=F.trans (z.mono Ry);obtain⟨a2,o,rfl,I⟩:=(H.ext ac).here R;obtain⟨a0,a3,a6,O⟩:=I k r B;have ao:=Q r (aR B);have T:(v+b).toNat<r.length:=Ry;obtain⟨x,D⟩:=aw T;obtain⟨a1,bv,rfl,J⟩:=O.here T;have a7:=J _ _ D;have Z:=zH (Bg B D);clear B I Q H O J D;have a9:0<=v+b:=Ry;have ba:v+b < (r:Int):=Ry;clear ao;have HL:=zH (zgY rows (v+b).toNat k ad);have ap:=z.size;simp only[cx]at ap;go_wp2_with ((at_builtin;refine nZ rfl _ _ rfl _ wr _ _ _ rfl rfl E.o SE Ry ?_;intro bz b0 am _ ab))
   go_roundw
   case rel=>exact⟨k+1,Ry,RB,by rw[Z.o];exact am,z.trans ab⟩
   case measure=>simp[intOf];omega
  .go_wp2;go_ret
   exact⟨_,rfl,by have h:=E.o;rwa[fO (by simp[fD];omega)]at h,F.trans (z.mono Ry)⟩
def jx{P:lk}(B:Nat)(t ty e:dE)(i:TypeInfo)(size:Nat)(z:P.underlying t=some (.slice e))(hi:P.info? e=some i)(v:av)(n c:Nat)(xs:bN)(E:w.ownsRow B e size v n xs):(Builtin.append_ #[t,t] ty #[v,.slice none 0 c]).run P w=.ok v w:=by
 rcases E.2 with⟨rfl,rfl⟩|⟨g,cap,cur,rfl,_,_,D,_⟩
 .simp[Builtin.append_,zm z,sizeOf,typeInfo,hi,Builtin.lenOf,Builtin.firstCells]
 .simp[Builtin.append_,zm z,sizeOf,typeInfo,hi,Builtin.lenOf,Builtin.firstCells,D,storeCells]
def dy(b o j:Nat):(⟨b,o,none⟩:dw).add j=⟨b,o+j,none⟩:=by unfold Addr.add;split<;>simp_all
def vW(D:o.guard=none)(s x:kE)(F:o.op=.call {callee:=.builtin .append,args:=#[s,x],argTypes:=#[27,27]})(z:Nat)(W:aa)(v:av)(xs ys:aH)(A:aq)(c:Nat)(H:a.eval s=v)(B:a.eval x=.slice A ys c)(Es:au W z v xs)(Fs:aU W A ys)(am:xs.length+ys<=1099511627776)(O:z<=(W:Nat))(h:∀v' w',au w' z v' (xs++ys)->W.grownBy w' v.ownBlock->Below z W w'->wpList prog Q R rest (a.put o.dst v') w'):wpList prog Q R (o::rest) a W:=by
 obtain⟨I,hi,ab,ac,ad⟩:=cM fq;cases A with
 |none=>
  have hy:ys=[]:=WT;subst hy;refine qH D fun K hK=>?_
  have U:=jx (P:=prog) (w:=W) z 27 o.type 3 I 1 dA hi v _ c _ Es;unfold Oper.wp;simp only[h_]at B;simp[execOp,F,resolve,invoke,builtin,H,B,U,Result.andThen];exact hK _ _ (h v W SG ⟨rfl,rfl,rfl,ah _,fun _ _ _=>rfl⟩ (ai _ _))
 |some J=>
  refine wH _ D s x 27 F z 3 I (zI 0) 1 8 dA hi ab ac ad rfl RC v _ _ H Es J ys c (ys.map (Value.int .i64)) B Rx ?_ ?_ ?_ ?_ ?_ ?_
  .exact YL
  .intro u Z;obtain⟨y,_,rfl⟩:=cd.1 Z;rfl
  .unfold maxLen;omega
  .omega
  .omega
  .intro v' w' Ft E _;exact h v' w' TP E ((ai _ _).grown E O fun k T=>(b_ Es k T).1)
def au.lit(W:aa)(z:Nat)(B:z<=(W:Nat)):au (W.alloc (.cells #[] 3)) z (.slice (aX W) 0 0) []:=tg W #[] 0 B RC rfl
def xN(A:aq)(cap:Nat)(xs:aH)(w:aa)(h:aU w A xs)(E:xs.length<=1099511627776):ax 121 (bJ A xs cap) w fun e w'=>∃u,e=.returned u/\au w' w u xs/\aj w w':=by
 have z:=(ai w w).alloc (ah _) (.cells #[] 3);have B:=h.ext z;go_enter func121,ntmps121
 go_wp2_with ((at_builtin;refine vW rfl _ _ rfl w _ _ [] xs A cap rfl rfl (au.lit _ _ (ah _)) B (by simpa using E) Rx ?_;intro H I F _ D))
 go_ret
 exact⟨_,rfl,F,z.trans D⟩
def ig(A:aq)(cap:Nat)(xs:aH)(w:aa)(h:aU w A xs)(E:xs.length<=1099511627776):ax 80 (bJ A xs cap) w fun e w'=>∃u,e=.returned u/\au w' w u xs/\aj w w':=by
 have z:=(ai w w).alloc (ah _) (.cells #[] 3);have B:=h.ext z;go_enter func80,ntmps80
 go_wp2_with ((at_builtin;refine vW rfl _ _ rfl w _ _ [] xs A cap rfl rfl (au.lit _ _ (ah _)) B (by simpa using E) Rx ?_;intro H I F _ D))
 go_ret
 exact⟨_,rfl,F,z.trans D⟩
def gl(n:Nat):(madeCells (Value.int .i64 0).cells (n*1)).toList=(List.replicate n (0:Int)).map (Value.int .i64):=YS
def bT(h:w.grownBy w' none):aj w w':=⟨h.os,h.tape,h.output,h.size,fun k z=>h.block k z Rx⟩
def sU(n:Nat)(w:aa)(H:n<=1099511627776):ax 114 (bc n) w fun e w'=>∃u,e=.returned u/\au w' w u (List.replicate n 0)/\aj w w':=by
 obtain⟨F,hi,D,E,Ev⟩:=cM fq;go_enter func114,ntmps114
 go_wp2_with ((at_make;refine iJ _ rfl _ _ 27 rfl w.heap.size 3 F (zI 0) 1 dA hi D E .i64 .i64 n n n rfl rfl rfl rfl SB TB (ah _) ?_;intro I z B))
 go_ret
 refine⟨_,rfl,?_,bT B⟩;rw[gl]at z;simpa[au]using z
def eV{z:Type}(xs:List z)(B:z)(k:Nat):List z:=xs.take k++List.replicate (xs.length-k) B
def jd{B:Type}(xs:List B)(z:B):eV xs z 0=List.replicate xs z:=by simp[eV]
def j3{z:Type}(xs:List z)(B:z)(k:Nat)(h:xs.length<=k):eV xs B k=xs:=by simp[eV,fO h];omega
def l7{B:Type}(xs:List B)(z:B)(k:Nat)(h:k<xs.length):(eV xs z k)[k]?=some z:=by rw[eV,gD RX,fR,ar RX]
def j4{B:Type}(xs:List B)(z x:B)(k:Nat)(h:xs[k]?=some x):(eV xs z k).set k x=eV xs z (k+1):=by have F:k<xs.length:=(bs.1 h).1;unfold eV;rw[tj _ _ RX,fZ,h];have D:xs.length-k=(xs.length-(k+1))+1:=Ry;have E:k-(xs.take k).length=0:=RX;rw[D,E,List.replicate_succ,jK];simp
def jf:(prog.info? 27).map (fun i=>(i.zero,i.size,i.bytes))=some (some (.slice none 0 0),1,24):=RU
structure a_(w:aa)(B:Nat)(v:av)(rows:aC)(us:bN):Prop where
 outer:w.ownsRow B 27 1 v rows.length us
 each:∀(k:Nat) (u:av) (r:aH),us[k]?=some u->rows[k]?=some r->au w B u r
 apart:∀(i j:Nat) (u u':av) (b:Nat),us[i]?=some u->us[j]?=some u'->u.ownBlock=some b->u'.ownBlock=some b->i=j
def aI(w:aa)(z:Nat)(v:av)(rows:aC):Prop:=∃us,a_ w z v rows us
def a_.len{rows:aC}(h:a_ w D v rows us):us.length=rows:=by simpa using h.outer.1
def a_.get{rows:aC}(h:a_ w D v rows us){r:aH}(z:rows[k]?=some r):∃u,us[k]?=some u/\au w D u r:=by
 have:k<us.length:=by rw[h.len];exact(bs.1 z).1
 obtain⟨u,B⟩:=aw this;exact⟨u,B,h.each k u r B z⟩
def a_.lp{rows:aC}(h:a_ w D v rows us)(B:us[k]?=some u):∃r,rows[k]?=some r/\au w D u r:=by
 have:k<rows.length:=by rw[<-h.len];exact(bs.1 B).1
 obtain⟨r,z⟩:=aw this;exact⟨r,z,h.each k u r B z⟩
def au.lt(h:au w D v xs):∀k,v.ownBlock=some k->D<=k/\k < (w:Nat):=b_ h
def eT(B:w.ownsRow D 27 1 v n us)(h:au w B' u xs):u.ownBlock=none∨u.ownBlock≠v.ownBlock:=by
 rcases h.2 with⟨rfl,_⟩|⟨g,cap,cur,rfl,_,z,_⟩
 .exact aG rfl
 .right;rcases B.2 with⟨rfl,_⟩|⟨I,F,H,rfl,_,E,_⟩
  .simp[Value.ownBlock]
  .intro e;simp only[Value.ownBlock,dt]at e;rw[e,E]at z;simp at z
def au.kept(h:au w D u xs)(z:w.grownBy w' row)(B:u.ownBlock=none∨u.ownBlock≠row):au w' D u xs:=ic h z B
def a_.ext{w w':aa}{B:Nat}{v:av}{rows:aC}{us:bN}(h:a_ w B v rows us)(z:aj w w'):a_ w' B v rows us:=⟨ic h.outer (row:=none) ⟨z.os,z.tape,z.output,z.size,fun k D _=>z.block k D⟩ Ud,fun k u r F E=>(h.each k u r F E).ext z,h.apart⟩
def aI.ext{rows:aC}(h:aI w D v rows)(hb:aj w w'):aI w' D v rows:=WM
def aI.view{rows:aC}(h:aI w D v rows):∃A cap,v=.slice A rows cap/\aL w A rows/\rows.length<=cap/\cap<=maxLen:=by
 obtain⟨us,h⟩:=h;have E:=fun g=>pc h.outer (g:=g)
 rcases h.outer.2 with⟨rfl,hn⟩|⟨g,cap,cur,rfl,O,Q,hn,H,R⟩
 .exact Xc
 .refine⟨_,cap,rfl,aB ⟨g,0,rfl,fun k r F=>?_⟩,hn,H⟩;obtain⟨u,J,I⟩:=h.get F;obtain⟨z,B,rfl,hi,_⟩:=I.view;have:=E g rfl k _ J;rw[dy]at this;exact⟨z,B,this,hi⟩
def au.same(h:au w D v xs)(hs:∀k,D<=k->w'.heap[k]?=w.heap[k]?):au w' D v xs:=⟨h.1,h.2.imp id fun⟨g,cap,cur,z,a2,a3,B⟩=>⟨g,cap,cur,z,a2,TT,B⟩⟩
def aI.same{w w':aa}{z:Nat}{v:av}{rows:aC}(h:aI w z v rows)(hs:∀k,z<=k->w'.heap[k]?=w.heap[k]?):aI w' z v rows:=by obtain⟨us,h⟩:=h;exact⟨us,⟨h.outer.1,h.outer.2.imp id fun⟨g,cap,cur,B,a2,a3,D⟩=>⟨g,cap,cur,B,a2,TT,D⟩⟩,fun k u r F E=>(h.each k u r F E).same hs,h.apart⟩
def au.mono(h:au w D v xs)(F:B'<=D):au w B' v xs:=⟨h.1,h.2.imp id fun⟨g,cap,cur,z,E,B⟩=>⟨g,cap,cur,z,Ry,B⟩⟩
def aI.mono{w:aa}{z B':Nat}{v:av}{rows:aC}(h:aI w z v rows)(E:B'<=z):aI w B' v rows:=by obtain⟨us,h⟩:=h;exact⟨us,⟨h.outer.1,h.outer.2.imp id fun⟨g,cap,cur,B,I,D⟩=>⟨g,cap,cur,B,Ry,D⟩⟩,fun k u r H F=>(h.each k u r H F).mono E,h.apart⟩
def aI.setCell{rows:aC}(h:aI w D v rows){a:dw}(z:a.block<D)(u:av):aI (w.setCell a u) D v rows:=h.same fun k B=>bx _ _ _ _ Ry
def au.setCell(h:au w D v xs){a:dw}(z:a.block<D)(u:av):au (w.setCell a u) D v xs:=h.same fun k B=>bx _ _ _ _ Ry
def j5(F:o.guard=none)(s x:kE)(I:o.op=.call {callee:=.builtin .append,args:=#[s,x],argTypes:=#[24,24]})(z:Nat)(B W:aa)(v u:av)(rows:aC)(r:aH)(Es:aI B z v rows)(D:aj B W)(hu:au W B u r)(am:rows.length+1<=1073741824)(E:z<=(B:Nat))(T:a.eval s=v)(U:a.eval x=.slice (aX W) 1 1)(h:∀v' w',aI w' z v' (rows++[r])->Below z B w'->wpList prog Q R rest (a.put o.dst v') w'):wpList prog Q R (o::rest) a (W.alloc (.cells #[u] 27)):=by
 obtain⟨ad,hi,Z,ab,ac⟩:=cM jf;obtain⟨us,Es⟩:=Es;have hW:=Es.ext D;have J:=mq hW.outer (.cells #[u] 27);have ao:=D.size;refine wH _ F s x 24 I z 27 ad (.slice none 0 0) 1 24 gE hi Z ab ac rfl RC v _ _ T J ⟨W,0,none⟩ 1 1 [u] U rfl ?_ ?_ ?_ ?_ ?_ ?_
 .exact Yi
 .exact XE
 .unfold maxLen;omega
 .omega
 .simp;omega
 .intro v' w' O EJ _;have hg:W.grownBy w' v.ownBlock:=⟨EJ.os,EJ.tape,EJ.output,VF,fun k hk H=>(EJ.block k RX H).trans (qE W _ hk)⟩;refine h v' w' ⟨us++[u],?_,?_,?_⟩ (D.mono E |>.trans ((ai _ _).grown hg Ry fun k hk=>(b_ hW.outer k hk).1))
  .simpa using O
  .exact Zx
  .exact ZR
def a_.set{g cap:Nat}{rows:aC}{r:aH}(ad:n=rows.length)(h:a_ E D (.slice (aX g) n cap) rows us)(Q:aj E W)(J:au W E u r)(ab:D<=(E:Nat))(hk:k<n):a_ (W.setCell ⟨g,k,none⟩ u) D (.slice (aX g) n cap) (rows.set k r) (us.set k u)/\Below D E (W.setCell ⟨g,k,none⟩ u)/\(∃v0,af W g k v0)/\W.frozen? ⟨g,k,none⟩=false:=by
 subst ad;have z:=h.ext Q;have I:=z.outer.stored k u;have ac:=b_ z.outer g rfl;refine⟨⟨by simpa using I.1,?_,?_⟩,(Q.mono ab).trans ((ai _ _).setCell ac.1 u),?_,z.outer.frozenAt k⟩
 .intro j B r' H F;by_cases R:k=j
  .subst R;rw[dJ Ts]at H;rw[dJ hk]at F;cases H;cases F
   have T:=au.kept J I.2 (eT z.outer J);exact⟨T.1,T.2.imp id fun⟨g,cap,cur,O,U,Z⟩=>⟨g,cap,cur,O,Ry,Z⟩⟩
  .rw[df R]at H F;exact au.kept (z.each j B r' H F) I.2 (eT z.outer (z.each j B r' H F))
 .have new:∀(i:Nat) (B:av) (b:Nat),us[i]?=some B->B.ownBlock=some b->u.ownBlock=some b->False:=fun i B b h1 h2 h3=>by obtain⟨r',_,am⟩:=h.lp h1;have O:=(am.lt b h2).2;have U:=(J.lt b h3).1;omega
  intro i j u1 u2 b h1 h2 h3 h4;by_cases ci:k=i <;>by_cases cj:k=j
  .omega
  .subst ci;rw[dJ Ts]at h1;rw[df cj]at h2;cases h1
   exact(new j u2 b h2 h4 h3).elim
  .subst cj;rw[dJ Ts]at h2;rw[df ci]at h1;cases h2
   exact(new i u1 b h1 h3 h4).elim
  .exact Xx
 .obtain⟨u0,ao⟩:=aw (Ts:k<us.length);exact⟨u0,by rw[z.outer.cellAt k Ry];exact ao⟩
def aI.empty(h:w.ownsRow D 27 1 v 0 []):aI w D v []:=⟨[],h,fun k u r hu=>RS,fun i j u z b hu=>RS⟩
def uT(A:aq)(cap:Nat)(rows:aC)(w:aa)(F:aL w A rows)(ac:rows.length<=1048576)(Q:∀r∈rows,r.length<=1048576):ax 111 (bJ A rows cap) w fun e w'=>∃u,e=.returned u/\aI w' w u rows/\aj w w':=by
 obtain⟨ap,hi,am,ao,Ev⟩:=cM jf;go_enter func111,ntmps111
 go_wp2_with ((at_make;refine wpList_make_own _ rfl _ _ 24 rfl w.heap.size 27 ap (.slice none 0 0) 1 gE hi am ao .i64 .i64 rows.length rows.length rfl rfl rfl SB TB (ah _) ?_;intro a0 z J))
 have H:=bT J;have D:=zH (aI.empty z);clear z J;go_loopw [3,11] (fun u i wr=>∃k:Nat,k<=rows.length/\i=.int .i64 k/\aI wr w u (rows.take k)/\aj w wr)
  (fun _ i _=>rows.length-(intOf i).toNat)
 case atStart=>exact⟨0,aT _,rfl,D.o,H⟩
 case round=>
  obtain⟨k,a5,rfl,z,Ey⟩:=hrel;have E:=zH z;clear z D H;by_cases O:k<rows.length
  .obtain⟨r,B⟩:=aw O;obtain⟨a2,o,rfl,I⟩:=(F.ext Ey).here O;obtain⟨a1,a3,a4,ab⟩:=I k r B;obtain⟨T,HT⟩:=bL (show r.length<=1099511627776 by have:=Q r (aR B);omega) (by rw[fZ,B];rfl:rows.take (k+1)=rows.take k++[r]);have ad:=Ey.size;have U:=zH (RX:(rows.take k).length+1<=1073741824);have a6:rows.length<9223372036854775807:=Ry;clear B I F Q ac;go_wp2_with (first|(go_at_call 121;refine(xN _ _ _ _ ab T).mono ?_;rintro e w' ⟨u2,rfl,R,Z⟩;obtain⟨A2,c2,rfl,_⟩:=R.view)|(at_builtin;refine j5 rfl _ _ rfl w wr _ _ _ _ _ E.o Z R U.o ad rfl rfl ?_;intro a7 a0 Fe Ff))
   exact YG
  .go_wp2;go_ret
   have h:=E.o;rw[fO Ry]at h;exact⟨_,rfl,h,Ey⟩
def zeK(n:Nat):(madeCells (Value.slice none 0 0).cells (n*1)).toList=List.replicate n (Value.slice none 0 0):=YS
def a_.made(h:w.ownsRow D 27 1 v n (madeCells (Value.slice none 0 0).cells (n*1)).toList):a_ w D v (List.replicate n []) (List.replicate n (.slice none 0 0)):=by
 rw[zeK]at h;refine⟨R3,?_,?_⟩
 .exact YK
 .exact Yw
def lL(v h:Int)(A:aq)(cap:Nat)(rows:aC)(w:aa)(R:aL w A rows)(E:rows.length<=1048576)(T:∀r∈rows,r.length<=1048576):ax 91 (cB (ae v h A rows cap)) w fun e w'=>∃u,e=.returned (.agg (dz v h u))/\aI w' w u rows/\aj w w':=by
 have J:=zH E;clear E;go_enter func91,ntmps91
 go_wp2;go_region_held3 (fun w'=>af w' w 0 (zI v)/\af w' w 1 (zI h)/\af w' w 2 (.slice A rows cap)) (first|go_keep|exact⟨ag z Rx,ag z Rx,ag z Rx⟩)
  ((go_at_call 111;refine(uT _ _ _ _ (R.ext ?_) J.o T).mono ?_;exact(((ai _ _).alloc (ah _) _).alloc Rx _).drew;rintro e w' ⟨u2,rfl,B,z⟩;obtain⟨A2,c2,rfl,_⟩:=B.view;have O:=ag z (p:=⟨(w:Nat)+1,0,none⟩) (v:=()) Rx;have c1:=ag z (p:=⟨(w:Nat)+1,1,none⟩) (v:=()) Rx;have Q:=ag z (p:=⟨(w:Nat)+1,2,none⟩) (v:=fA) Rx;have f0:=gP z (p:=⟨(w:Nat)+1,0,none⟩) Rx Rx;have f1:=gP z (p:=⟨(w:Nat)+1,1,none⟩) Rx Rx;have f2:=gP z (p:=⟨(w:Nat)+1,2,none⟩) Rx Rx))
 simp only[World.size_drew,cx]at B z;have F:=((B.setCell (a:=⟨(w:Nat)+1,0,none⟩) Rx (zI v)).setCell (a:=⟨(w:Nat)+1,1,none⟩) Rx (zI h)).setCell (a:=⟨(w:Nat)+1,2,none⟩) Rx (.slice A2 rows c2);have D:=(((((((ai w w).alloc (ah _) _).alloc Rx _).drew).trans (z.mono Ry)).setCell (p:=⟨(w:Nat)+1,0,none⟩) Rx (zI v)).setCell (p:=⟨(w:Nat)+1,1,none⟩) Rx (zI h)).setCell (p:=⟨(w:Nat)+1,2,none⟩) Rx (.slice A2 rows c2);obtain⟨H,I⟩:=bL F D;clear B F D z;go_wp2;refine az (v:=.agg (ae v h A2 rows c2)) (by simp[results,results91,go_sem,O,c1,Q]) rfl ⟨_,rfl,H.o.mono Ry,I⟩
def re(w:aa)(n:Nat):Below w w (w.drewN n):=by
 induction n with
 |zero=>exact ai _ _
 |succ n ih=>exact ih.trans ⟨rfl,rfl,rfl,ah _,fun _ _=>rfl⟩
def DW{B:Type}{xs ys:List B}{x y:B}(D:xs[k]?=some x)(z:ys[k]?=some y)(h:x≠y):xs≠ys:=by intro e;subst e;rw[D]at z;cases z;exact h rfl
def lu{z:Type}{xs ys:List z}{x:z}(h:xs.take k=ys.take k)(B:xs[k]?=some x)(D:ys[k]?=some x):xs.take (k+1)=ys.take (k+1):=by rw[fZ,fZ,h,B,D]
def nU{D:Type}{xs ys:List D}(h:xs.take k=ys.take k)(z:xs.length<=k)(B:ys.length<=k):xs=ys:=by rwa[fO z,fO B]at h

def eU(cur:bN)(o:Nat)(z:bN)(h:o+z.length<=cur):(splice cur o z).length=cur:=length_splice cur o z h
def zbl(cur:bN)(o:Nat)(v:av)(z:bN)(h:o+1+z.length<=cur):splice (cur.set o v) (o+1) z=splice cur o (v::z):=by
 unfold splice;have B:(cur.set o v).take (o+1)=cur.take o++[v]:=by rw[fZ,List.take_set_of_le (ah _),dJ Ry];rfl
 have D:(cur.set o v).drop (o+1+z.length)=cur.drop (o+(v::z).length):=by rw[List.drop_set_of_lt Ry];simp[qD,Nat.add_comm 1]
 rw[B,D];simp
def du(g:Nat)(D:dE):∀(z:bN) (o:Nat) (w:aa) (cur:gq),aW w g cur D->o+z.length<=cur.size->(w.setCells g o z).heap[g]?=some (.cells (splice cur.toList o z).toArray D (0,0))/\w.grownBy (w.setCells g o z) (some g)
 |[],o,w,cur,h,_=>by refine⟨?_,⟨rfl,rfl,rfl,ah _,fun _ _ _=>rfl⟩⟩;simp only[World.setCells,splice,tc,h_,jJ,DF];simpa using h
 |v::z,o,w,cur,h,I=>by
  simp only[mr]at I;have O:=(aP.1 h).1;have h':(w.setCell ⟨g,o,none⟩ v).heap[g]?=some (.cells (cur.setIfInBounds o v) D (0,0)):=by
   have:=(aP.1 h).2
   show(w.heap.modify g _)[g]?=_
   rw[Array.getElem?_modify,ar rfl,h];simp
  obtain⟨J,B⟩:=du g D z (o+1) _ _ h' RX;refine⟨?_,?_⟩
  .show((w.setCell ⟨g,o,none⟩ v).setCells g (o+1) z).heap[g]?=_
   rw[J,Array.toList_setIfInBounds,zbl _ _ _ _ RX]
  .refine⟨B.os,B.tape,B.output,by have:=B.size;rw[World.size_setCell]at this;exact this,fun k F E=>?_⟩;have H:k < (w.setCell ⟨g,o,none⟩ v:Nat):=by rw[World.size_setCell];exact F
   exact(B.block k H E).trans (bx _ _ _ _ (by intro e;exact E Rz))
def bq{a b c:aa}(h:a.grownBy b row)(k:b.grownBy c row):a.grownBy c row:=⟨k.os.trans h.os,k.tape.trans h.tape,k.output.trans h.output,bE h.size k.size,fun i hi z=>(k.block i (gz hi h.size) z).trans (h.block i hi z)⟩
def dG(w:aa)(row:Option Nat):w.grownBy w.drew row:=⟨rfl,rfl,rfl,ah _,fun _ _ _=>rfl⟩
def aV{g:Nat}{cur:gq}(h:aW w g cur Rv)(j:Nat):w.cell? ⟨g,j,none⟩=cur.toList[j]?:=by simp[World.cell?,h]
def aS{g:Nat}{cur:gq}(h:aW w g cur Rv)(j:Nat):w.frozen? ⟨g,j,none⟩=false:=by simp[World.frozen?,h]
def xV(cur:bN)(o:Nat)(z:bN)(h:o<=cur.length):(splice cur o z).take o=cur.take o:=by unfold splice;rw[wK RX,mu];simp
def iu(cur:bN)(o:Nat)(z:bN)(h:o<=cur.length):(splice cur o z).take (o+z.length)=cur.take o++z:=by unfold splice;rw[<-kW,wK RX];rw[fO RX]
def D9(cur us z H:bN)(n k m:Nat)(F:cur.take n=us)(Q:n<=cur.length)(I:k<n)(E:z=us.drop (k+1))(O:m+1=n)(J:z.length=n-(k+1)):(splice (splice cur k z) m H).take (n-1)=us.eraseIdx k:=by have B:n-1=m:=Ry;have D:m=k+z.length:=Ry;rw[B,xV _ _ _ (by rw[eU _ _ _ Ry];omega),D,iu _ _ _ Ry,E,y5,<-F,mu,iV Ry]
def lA(w:aa){P:lk}(D:o.guard=none)(d s:kE)(t z:dE)(E:o.op=.call {callee:=.builtin .copy,args:=#[d,s],argTypes:=#[t,z]})(v u:av)(B:a.eval d=v)(H:a.eval s=u)(F:(Builtin.copy_ #[t,z] o.type #[v,u]).run P w=.ok v' w')(h:wpList P Q R rest (a.put o.dst v') w'):wpList P Q R (o::rest) a w:=by
 refine qH D fun K hK=>?_
 unfold Oper.wp execOp;simp only[E,resolve,invoke,builtin,Sem.run_bind,Sem.run_pure,Result.andThen_ok,List.map_toArray,List.map_cons,List.map_nil,B,H,F];exact hK _ _ h
def mZ{P:lk}{K:oS}{D:Prop}(F:o.guard=none)(d x:kE)(z B:dE)(H:o.op=Op.call {callee:=Callee.builtin Builtin.copy,args:=#[d,x],argTypes:=#[z,B]})(v u:av)(E:a.eval d=v)(J:a.eval x=u)(I:(Builtin.copy_ #[z,B] o.type #[v,u]).run P w=.ok v' w')(hK:K (a.put o.dst v') w'):if Region.wanted o (yielded Q a.tmps)=true then Oper.wp P o a w K R else D:=by rw[ar (by simp[Region.wanted,F]:Region.wanted o (yielded Q a.tmps)=true)];unfold Oper.wp execOp;simp only[H,resolve,invoke,builtin,Sem.run_bind,Sem.run_pure,Result.andThen_ok,List.map_toArray,List.map_cons,List.map_nil,E,J,I];exact hK
def bK{z:Type}(us:List z)(k:Nat)(x:z):List z:=us.take k++x::us.drop k
def D_(cur us ds:bN)(n k:Nat)(x:av)(z:cur.take n=us)(O:n+1<=cur.length)(I:k<n)(Fh:ds=us.drop k):(splice (splice cur (k+1) ds) k [x]).take (n+1)=bK us k x:=by
 have J:us.length=n:=by rw[<-z];simp;omega
 have H:ds.length=n-k:=TL;have F:us.take k=cur.take k:=by rw[<-z,mu,iV Ry]
 have B:(splice cur (k+1) ds).take k=cur.take k:=by have:=ml (List.take k) (xV cur (k+1) ds Ry);rwa[mu,mu,iV Ry]at this
 have D:(splice cur (k+1) ds).drop (k + [x].length)=ds++cur.drop (k+1+ds.length):=by unfold splice;rw[List.drop_append_of_le_length RX];simp
 have E:splice (splice cur (k+1) ds) k [x]=(cur.take k++x::ds)++cur.drop (k+1+ds.length):=by
  show(splice cur (k+1) ds).take k++([x]++(splice cur (k+1) ds).drop (k + [x].length))=_
  rw[B,D];simp
 rw[E,wK RX,fO RX,bK,F,Fh]
def BD(row us ds:bN)(n k:Nat)(x:av)(I:us.length=n)(J:n+1<=row.length)(H:k<n)(Fh:ds=us.drop k)(E:row.take k=us.take k):(splice (splice row k [x]) (k+1) ds).take (n+1)=bK us k x:=by have F:ds.length=n-k:=TL;have z:=iu row k [x] Ry;have B:=iu (splice row k [x]) (k+1) ds (by rw[eU _ _ _ RX];omega);have D:k+1+ds.length=n+1:=Ry;rw[D]at B;rw[B];simp only[mr,h_,fY]at z;rw[z,E,bK,Fh];simp
def zbm{g:Nat}{cur:gq}(h:aW w g cur Rv):w.cell? ⟨g,0,none⟩=cur.toList[0]?/\w.cell? ⟨g,1,none⟩=cur.toList[1]?:=⟨aV h 0,aV h 1⟩
def bU{g:Nat}{cur:gq}(h:aW w g cur Rv):w.cell? ⟨g,0,none⟩=cur.toList[0]?/\w.cell? ⟨g,1,none⟩=cur.toList[1]?/\w.cell? ⟨g,2,none⟩=cur.toList[2]?:=⟨aV h 0,aV h 1,aV h 2⟩
def uc{g:Nat}{cur:gq}(h:aW w g cur Rv):w.cell? ⟨g,0,none⟩=cur.toList[0]?/\w.cell? ⟨g,1,none⟩=cur.toList[1]?/\w.cell? ⟨g,2,none⟩=cur.toList[2]?/\w.cell? ⟨g,3,none⟩=cur.toList[3]?:=⟨aV h 0,aV h 1,aV h 2,aV h 3⟩
def bt{g:Nat}{cur:gq}(h:aW w g cur Rv):w.frozen? ⟨g,0,none⟩=false/\w.frozen? ⟨g,1,none⟩=false/\w.frozen? ⟨g,2,none⟩=false:=⟨aS h 0,aS h 1,aS h 2⟩
def Ag(B g n cap:Nat)(i:Int)(us:bN)(w:aa)(h:w.ownsRow B 3 1 (.slice (aX g) n cap) n us)(h1:∀u∈us,u.oneCell'=true)(hi:0<=i)(ac:i<n)(be:n<=1048576):ax 236 #[.slice (aX g) n cap,i,.int .i64 (i+1)] w fun e w'=>e=.returned (.slice (aX g) (n-1) cap)/\w'.ownsRow B 3 1 (.slice (aX g) (n-1) cap) (n-1) (us.eraseIdx i.toNat)/\w.grownBy w' (some g):=by
 obtain⟨k,rfl⟩:=fW hi;obtain⟨a1,ab,bp,a0,br⟩:=cM fq;obtain⟨F,ad⟩:=h;rcases ad with⟨ap,_⟩|⟨a6,a5,cur,ao,Z,I,bi,H,FM,E0⟩
 .cases ap
 cases ao
 simp only[eP]at F FM E0;have O:k<n:=Ry;obtain⟨j,J⟩:=aK (k+1);rw[show((k:Int)+1)=(j:Int) by omega];have EU:∀t,t<n->cur.toList[t]?=us[t]?:=fun t ht=>TX
 have FN:aW w.drew g cur 3:=I;obtain⟨FK,Fq⟩:=aK (us.drop j);have Ex:FK.length=n-j:=by rw[Fq];simp;omega
 obtain⟨A,a7,am⟩:∃A:dw,(if cap=j then some (⟨g,0,none⟩:dw) else some ⟨g,j,none⟩)=some A/\Hd (∀t u,FK[t]?=some u->w.drew.cell? (A.add t)=some u):=Zm;have a2:Hd (FK.length=(n-j)*1):=S9;have a3:Hd (∀u∈FK,u.oneCell'=true):=WQ;have a4:Hd (∀t,t<FK.length->(w.drew.cell? ⟨g,0+k*1+t,none⟩).isSome=true/\w.drew.frozen? ⟨g,0+k*1+t,none⟩=false):=XP;obtain⟨z,E⟩:=aK (w.drew.setCells g (0+k*1) FK);obtain⟨b1,D⟩:=du g 3 FK (0+k*1) w.drew cur FN SF;rw[<-E]at b1 D;have FL:(splice cur.toList (0+k*1) FK).length=cap:=Wf;have a8:∀ty,(Builtin.clear_ #[27] ty #[.slice (some ⟨g,k+(n-j),none⟩) (n-(k+(n-j))) (cap-(k+(n-j)))]).run prog z=.ok (.tuple #[]) (z.setCells g (k+(n-j)) (List.replicate (n-(k+(n-j))) (zI 0))):=
  fun ty=>Lib.run_clear_slice (P:=prog) z 27 3 ty (zI 0) dA (fun _=>RU) rfl rfl g (k+(n-j)) _ _ Ry
   (fun t ht=>Ws) (fun t ht=>aS b1 _)
 obtain⟨c1,c2⟩:=du g 3 (List.replicate (n-(k+(n-j))) (zI 0)) (k+(n-j)) z _ b1 U8;have T:=zH (show(z.setCells g (k+(n-j)) (List.replicate (n-(k+(n-j))) (zI 0))).ownsRow B 3 1 (.slice (aX g) (n-1) cap) (n-1) (us.eraseIdx k) by
  refine⟨by simp[np,F,O],aB ⟨g,cap,_,rfl,Z,c1,Ry,H,?_,?_⟩⟩
  .exact XD
  .skip
   simp only[eP,fY];exact D9 cur.toList us FK _ n k (k+(n-j)) E0 RX O (by rw[Fq,J]) Ry SF)
 obtain⟨R,U⟩:=bL (bq (dG w (some g)) (bq D c2)) E;have bd:k<j:=Ry;have ba:j<=n:=Ry;have a9:j<=cap:=Ry;have bb:k<=cap:=Ry;have bm:k+(n-j)<cap:=Ry;have bo:k+(n-j)<=n:=Ry;have Q:k+(n-j)+1=n:=Ry;have HX:=zH Q;unfold maxLen at H;clear F FM E0 I FN h1 hi EU Fq Ex E b1 D FL c1 c2 ac J Q;go_enter func236,ntmps236
 go_wp2_with fail
 go_region_law (refine tf rfl (.tmp 22) (.tmp 25) 27 rfl 3 a1 1 dA ab a0 g 0 k cap T8 A (n-j) (cap-j) FK T8 a2.o am.o a3.o Ry a4.o ?_;rw[<-U.o])
 go_wp2;go_ret
 refine⟨?_,?_,R.o⟩
 .exact WX
 .exact T
def rE(B g n cap:Nat)(i:Int)(us:bN)(w:aa)(h:w.ownsRow B 27 1 (.slice (aX g) n cap) n us)(h1:∀u∈us,u.oneCell'=true)(hi:0<=i)(ac:i<n)(be:n<=1048576):ax 220 #[.slice (aX g) n cap,i,.int .i64 (i+1)] w fun e w'=>e=.returned (.slice (aX g) (n-1) cap)/\w'.ownsRow B 27 1 (.slice (aX g) (n-1) cap) (n-1) (us.eraseIdx i.toNat)/\w.grownBy w' (some g):=by
 obtain⟨k,rfl⟩:=fW hi;obtain⟨a1,ab,bp,a0,br⟩:=cM jf;obtain⟨F,ad⟩:=h;rcases ad with⟨ap,_⟩|⟨a6,a5,cur,ao,Z,I,bi,H,FM,E0⟩
 .cases ap
 cases ao
 simp only[eP]at F FM E0;have O:k<n:=Ry;obtain⟨j,J⟩:=aK (k+1);rw[show((k:Int)+1)=(j:Int) by omega];have EU:∀t,t<n->cur.toList[t]?=us[t]?:=fun t ht=>TX
 have FN:aW w.drew g cur 27:=I;obtain⟨FK,Fq⟩:=aK (us.drop j);have Ex:FK.length=n-j:=by rw[Fq];simp;omega
 obtain⟨A,a7,am⟩:∃A:dw,(if cap=j then some (⟨g,0,none⟩:dw) else some ⟨g,j,none⟩)=some A/\Hd (∀t u,FK[t]?=some u->w.drew.cell? (A.add t)=some u):=Zm;have a2:Hd (FK.length=(n-j)*1):=S9;have a3:Hd (∀u∈FK,u.oneCell'=true):=WQ;have a4:Hd (∀t,t<FK.length->(w.drew.cell? ⟨g,0+k*1+t,none⟩).isSome=true/\w.drew.frozen? ⟨g,0+k*1+t,none⟩=false):=XP;obtain⟨z,E⟩:=aK (w.drew.setCells g (0+k*1) FK);obtain⟨b1,D⟩:=du g 27 FK (0+k*1) w.drew cur FN SF;rw[<-E]at b1 D;have FL:(splice cur.toList (0+k*1) FK).length=cap:=Wf;have a8:∀ty,(Builtin.clear_ #[24] ty #[.slice (some ⟨g,k+(n-j),none⟩) (n-(k+(n-j))) (cap-(k+(n-j)))]).run prog z=.ok (.tuple #[]) (z.setCells g (k+(n-j)) (List.replicate (n-(k+(n-j))) (.slice none 0 0))):=
  fun ty=>Lib.run_clear_slice (P:=prog) z 24 27 ty (.slice none 0 0) gE (fun _=>RU) rfl rfl g (k+(n-j)) _ _ Ry
   (fun t ht=>Ws) (fun t ht=>aS b1 _)
 obtain⟨c1,c2⟩:=du g 27 (List.replicate (n-(k+(n-j))) (.slice none 0 0)) (k+(n-j)) z _ b1 U8;have T:=zH (show(z.setCells g (k+(n-j)) (List.replicate (n-(k+(n-j))) (.slice none 0 0))).ownsRow B 27 1 (.slice (aX g) (n-1) cap) (n-1) (us.eraseIdx k) by
  refine⟨by simp[np,F,O],aB ⟨g,cap,_,rfl,Z,c1,Ry,H,?_,?_⟩⟩
  .exact XD
  .skip
   simp only[eP,fY];exact D9 cur.toList us FK _ n k (k+(n-j)) E0 RX O (by rw[Fq,J]) Ry SF)
 obtain⟨R,U⟩:=bL (bq (dG w (some g)) (bq D c2)) E;have bd:k<j:=Ry;have ba:j<=n:=Ry;have a9:j<=cap:=Ry;have bb:k<=cap:=Ry;have bm:k+(n-j)<cap:=Ry;have bo:k+(n-j)<=n:=Ry;have Q:k+(n-j)+1=n:=Ry;have HX:=zH Q;unfold maxLen at H;clear F FM E0 I FN h1 hi EU Fq Ex E b1 D FL c1 c2 ac J Q;go_enter func220,ntmps220
 go_wp2_with fail
 go_region_law (refine tf rfl (.tmp 22) (.tmp 25) 24 rfl 27 a1 1 gE ab a0 g 0 k cap T8 A (n-j) (cap-j) FK T8 a2.o am.o a3.o Ry a4.o ?_;rw[<-U.o])
 go_wp2;go_ret
 refine⟨?_,?_,R.o⟩
 .exact WX
 .exact T
end Go.Proofs.YtdpgblncijojiaaGreatDoor
