/- Parts of the walks and laws (Nod1, Typ1, Typ2). Conditions: as stated with each. -/
import Derived.Test.YtpieilkmmiopfaaGreatDoorPk14
import Derived.Test.YtpieilkmmiopfaaGreatDoorPk16
namespace Go.Proofs.YtpieilkmmiopfaaGreatDoor
open Go.RowKit Tryz
set_option linter.all false
set_option maxHeartbeats 8000000
set_option maxRecDepth 100000
variable{A A1 Q9 Y:aq}{B H b c1 c2 hi hi' k lo lo' n s x:Nat}{QN:List Ed}{Rk:du}{S S':List Tm}{W w w':aa}{cs:eU}{e:Ed}{g:Gr}{l:bO}{row:Option Nat}{v v0 v1 v2 v3:ax}{xs:aH}
structure er where
 k:Int
 v:Int
 s:ByteArray
variable{L:List er}
def oy(h:er):M (#[.int .i64 h.k,.int .i64 h.v,.string h.s]:Array Value):=⟨⟩
def er.nd(x:er):Nd:=⟨x.k,x.v,x.s.toList.isEmpty⟩
def b_(L:List er):List Nd:=L.map er.nd
def iR(_:aa)(x:er)(c:bU):Prop:=c=[.int .i64 x.k,.int .i64 x.v,.string x.s]
theorem f_(G:bF 3 iR w A L){x:er}(F:L[k]?=some x):∃b o,A=some ⟨b,o,none⟩/\ae w b (o+k*3) (.int .i64 x.k)/\ae w b (o+k*3+1) (.int .i64 x.v)/\ae w b (o+k*3+2) (.string x.s):=by obtain⟨b,o,e,H⟩:=G.here (bG.1 F).1;obtain⟨c,h,D⟩:=H k x F;unfold iR at D;subst D;exact⟨b,o,e,h 0 _ rfl,h 1 _ rfl,h 2 _ rfl⟩
theorem bw(h:bF 3 iR w A L)(D:ag w w'):bF 3 iR w' A L:=bF.ext (fun _ _ h=>(h:iR w _ _)) h D
def hvB(k:Int):Bool:=decide (k=7)||decide (k=13)
theorem kN(k:Int)(w:aa):aw 162 (bs k) w fun e w'=>e=.returned (.bool (hvB k))/\w=w':=by
 unfold hvB;by_cases h1:k=7 <;>by_cases h2:k=13
 all_goals
  go_enter func162,ntmps162
  go_wp2;go_ret
  exact⟨R7,rfl⟩
def dlB(k:Int):Bool:=decide (k=8)||decide (k=14)
theorem ya(k:Int)(w:aa):aw 120 (bs k) w fun e w'=>e=.returned (.bool (dlB k))/\w=w':=by
 unfold dlB;by_cases h1:k=8 <;>by_cases h2:k=14
 all_goals
  go_enter func120,ntmps120
  go_wp2;go_ret
  exact⟨R7,rfl⟩
theorem mq(k:Int)(w:aa):aw 210 (bs k) w fun e w'=>e=.returned (.bool (et k 3 14))/\w=w':=by
 go_enter func210,ntmps210
 go_wp2_with (go_at_call 143;refine(da _ _ _ _).mono ?_;rintro e w' ⟨rfl,rfl⟩)
 go_ret
 exact⟨rfl,rfl⟩
def gvB(k v:Int):Bool:=if hvB k=true then et v 0 96 else decide (v=0)
theorem me(k v:Int)(w:aa):aw 211 (bf k v) w fun e w'=>e=.returned (.bool (gvB k v))/\w=w':=by
 unfold gvB;cases h:hvB k
 .by_cases h0:v=0
  all_goals
   go_enter func211,ntmps211
   go_wp2_with (go_at_call 162;refine(Calls.cT (kN _ _) h).mono ?_;rintro e w' ⟨rfl,rfl⟩)
   go_ret
   exact⟨RI,rfl⟩
 .go_enter func211,ntmps211
  go_wp2_with (first|(go_at_call 162;refine(Calls.cT (kN _ _) h).mono ?_;rintro e w' ⟨rfl,rfl⟩)|(go_at_call 143;refine(da _ _ _ _).mono ?_;rintro e w' ⟨rfl,rfl⟩))
  go_ret
  exact⟨rfl,rfl⟩
def lwA(k v:Int)(e:Bool):Int:=if e=false then 0 else if k=1 then v else if k=2 then 2 else if et k 3 14=true then gwI k else 0
def lwB(k v:Int)(e:Bool):Int:=if e=false then 0 else if k=1 then v else if k=2 then 2 else if et k 3 14=true then gwO k else 0
def lwO(k v:Int)(e:Bool):Bool:=if e=false then false else if k=1 then et v 0 12 else if k=2 then decide (v=0) else if et k 3 14=true then gvB k v else false
theorem DH(k v:Int)(e:Bool):lwO k v e=dh ⟨k,v,e⟩:=by
 unfold lwO dh gvB hvB et;cases e
 .simp
 .simp only[qz,jG,wO];by_cases h:k=1
  .simp[h]
  by_cases D:k=2
  .subst D;simp
  by_cases G:k=7∨k=13
  .have F:3<=k/\k<=14:=Rr;simp[h,D,G,F]
  .by_cases F:3<=k/\k<=14
   .have:2<=k:=Rr;simp[h,D,G,F,this]
   .have J:¬(2<=k/\k<=14):=Rr;have H:(decide (3<=k)&&decide (k<=14))=false:=by rw[wo];simpa using F
    have I:(decide (2<=k)&&(decide (k<=14)&&decide (v=0)))=false:=by rw[wo];simp only[ne_eq,bE,bX];omega
    rw[av h,av D,H,av h,av G,I];rfl
theorem za7{k v:Int}(h:dh ⟨k,v,true⟩=true):lwA k v true=(nW ⟨k,v,true⟩:Nat)/\lwB k v true=(qJ ⟨k,v,true⟩:Nat):=by
 rw[<-DH]at h;unfold lwO at h;unfold lwA lwB nW qJ gwI gwO;simp only[qz,jG]at h ⊢;by_cases D:k=1
 .simp[D,et]at h ⊢;omega
 by_cases F:k=2
 .simp[F]
 rw[av D,av F]at h;by_cases G:et k 3 14=true
 .rw[av D,av F,ay G,av D,av F,av D,av F,ay G,av D,av F];constructor
  .split
   .rfl
   split <;>rfl
  .split
   .rfl
   split <;>rfl
 .rw[av G]at h;cases h
theorem BP(k v:Int)(s:ByteArray)(w:aa):aw 220 (cy (dG k v s)) w (WTo (lwA k v s.toList.isEmpty) (lwB k v s.toList.isEmpty) (dh ⟨k,v,s.toList.isEmpty⟩) w):=by
 have D:=((aj w.heap.size w).alloc (af _) (.cells (dG k v s) 95)).alloc Rq (.cells eW 207);have F:=(bJ (w.alloc (.cells (dG k v s) 95)) (.cells eW 207) (k:=w.heap.size) Rq).trans (aC w _ rfl);have h:=aC (w.alloc (.cells (dG k v s) 95)) (.cells eW 207) (n:=w.heap.size+1) Rq;rw[<-DH];have ac:s.toList.isEmpty=(s.toList==[]):=by cases s.toList <;>rfl
 rw[ac];clear ac;cases he:(s.toList==[])
 .rw[show lwA k v false=0 by simp[lwA],show lwB k v false=0 by simp[lwB],show lwO k v false=false by simp[lwO]];have a5:(!s.toList==[])=true:=RW;go_enter func220,ntmps220
  go_upto_region 1 with(fail)
  generalize (w.alloc _).alloc _=W at D F h ⊢;obtain⟨N,c1,c2⟩:=aG F;obtain⟨O,R,f0,f1⟩:=dd h;have y:=fc (v0:=.int .i64 (0)) (v1:=.int .i64 (0)) h;obtain⟨H,I,-,-⟩:=dd y;unfold qU at H I;have HE:=zH (fe D (b:=w.heap.size+1) Rr (.int .i64 (0)) (.int .i64 (0)));clear y;clear D F h;go_wp2;exact X4
 have a5:(!s.toList==[])=false:=RW;by_cases h1:k=1
 .subst h1;rw[show lwA 1 v true=v by simp[lwA],show lwB 1 v true=v by simp[lwB],show lwO 1 v true=et v 0 12 by simp[lwO]];go_enter func220,ntmps220
  go_upto_region 1 with(fail)
  generalize (w.alloc _).alloc _=W at D F h ⊢;obtain⟨N,c1,c2⟩:=aG F;obtain⟨O,R,f0,f1⟩:=dd h;have y:=fc (v0:=.int .i64 (v)) (v1:=.int .i64 (v)) h;obtain⟨H,I,-,-⟩:=dd y;unfold qU at H I;have HE:=zH (fe D (b:=w.heap.size+1) Rr (.int .i64 (v)) (.int .i64 (v)));clear y;clear D F h;go_wp2_with fail
  go_region_held3 (fun w'=>ae w' w.heap.size 1 (.int .i64 v))
   (first|exact c1|exact js Sp c1) ((go_at_call 143;refine(da _ _ _ _).mono ?_;rintro e w' ⟨rfl,rfl⟩))
  go_wp2;exact aE (v:=.tuple (jy (bf (v) (v)) (et v 0 12))) UY rfl ⟨rfl,HE.o.drew⟩
 by_cases h2:k=2
 .subst h2;rw[show lwA 2 v true=2 by simp[lwA],show lwB 2 v true=2 by simp[lwB],show lwO 2 v true=decide (v=0) by simp[lwO]];have a6:(v==0)=decide (v=0):=R6;go_enter func220,ntmps220
  go_upto_region 1 with(fail)
  generalize (w.alloc _).alloc _=W at D F h ⊢;obtain⟨N,c1,c2⟩:=aG F;obtain⟨O,R,f0,f1⟩:=dd h;have y:=fc (v0:=.int .i64 (2)) (v1:=.int .i64 (2)) h;obtain⟨H,I,-,-⟩:=dd y;unfold qU at H I;have HE:=zH (fe D (b:=w.heap.size+1) Rr (.int .i64 (2)) (.int .i64 (2)));clear y;clear D F h;go_wp2_with fail
  go_region_held3 (fun w'=>ae w' w.heap.size 1 (.int .i64 v))
   (first|exact c1|exact js Sp c1) (fail)
  go_wp2;exact aE (v:=.tuple (jy (bf (2) (2)) (decide (v=0)))) UY rfl ⟨rfl,HE.o.drew⟩
 have a7:(k==1)=false:=Sl;have n2:(k==2)=false:=Sm;cases G:et k 3 14
 .rw[show lwA k v true=0 by simp[lwA,h1,h2,G],show lwB k v true=0 by simp[lwB,h1,h2,G],show lwO k v true=false by simp[lwO,h1,h2,G]];clear h1 h2;go_enter func220,ntmps220
  go_upto_region 1 with(fail)
  generalize (w.alloc _).alloc _=W at D F h ⊢;obtain⟨N,c1,c2⟩:=aG F;obtain⟨O,R,f0,f1⟩:=dd h;have y:=fc (v0:=.int .i64 (0)) (v1:=.int .i64 (0)) h;obtain⟨H,I,-,-⟩:=dd y;unfold qU at H I;have HE:=zH (fe D (b:=w.heap.size+1) Rr (.int .i64 (0)) (.int .i64 (0)));clear y;clear D F h;go_wp2_with (go_at_call 210;refine(Calls.cT (mq _ _) G).mono ?_;rintro e w' ⟨rfl,rfl⟩)
  exact X4
 .rw[show lwA k v true=gwI k by simp[lwA,h1,h2,G],show lwB k v true=gwO k by simp[lwB,h1,h2,G],show lwO k v true=gvB k v by simp[lwO,h1,h2,G]];have Z:3<=k/\k<=14:=by simpa[et]using G
  have V:=zH Z;clear h1 h2 Z;go_enter func220,ntmps220
  go_upto_region 1 with(fail)
  generalize (w.alloc _).alloc _=W at D F h ⊢;obtain⟨N,c1,c2⟩:=aG F;obtain⟨O,R,f0,f1⟩:=dd h;obtain⟨Y,ap⟩:=bD D h;clear D F h;go_wp2_with (go_at_call 210;refine(Calls.cT (mq _ _) G).mono ?_;rintro e w' ⟨rfl,rfl⟩)
  have T:=zH (fun(W:aa)=>h_ k W V.o.1 V.o.2);generalize ab:gwI k=a at T ⊢;generalize J:gwO k=b at T ⊢;obtain⟨ad,am⟩:=bD ab J;clear ab J;go_region_held3 (fun w'=>ae w' w.heap.size 0 (.int .i64 k)/\ae w' w.heap.size 1 (.int .i64 v))
   (first|exact⟨N,c1⟩|exact t1|exact⟨js Sp t1.1,js Sp t1.2⟩)
   ((first|(go_at_call 167;refine(T.o _).mono ?_;rintro e a8 ⟨rfl,J⟩;have ao:=zH (Y.o.drew.trans (J.mono Y.o.size));have t1:=aF (al J N) (al J c1);have U:=ah (w:=W.drew) ap.o J;obtain⟨a1,a2,a3,a4⟩:=dd U;have a0:=zH U;clear U J)|(go_at_call 211;refine(me _ _ _).mono ?_;rintro e w' ⟨rfl,rfl⟩)))
  have y:=fc (v0:=.int .i64 (a)) (v1:=.int .i64 (b)) a0.o;obtain⟨H,I,-,-⟩:=dd y;unfold qU at H I;have HE:=zH (fe ao.o (b:=w.heap.size+1) Rr (.int .i64 (a)) (.int .i64 (b)));clear y;clear O R f0 f1 a1 a2 a3 a4 N c1 t1;go_wp2;exact aE (v:=.tuple (jy (bf a b) (gvB k v))) UY rfl ⟨by rw[ad.o,am.o],HE.o⟩
def EWr(_:aa)(x:fQ)(c:bU):Prop:=c=[.int .i64 (x.1:Nat),.int .i64 (x.2:Nat)]
theorem rtW:RT prog 271 207 2 (.agg eW) 16:=⟨underlying271,RP,Rs,Rs,Rs⟩
def Ea(S:List Tm):List (Nat×Nat):=S.reverse.map fun t=>t.ty.getD (0,0)
theorem ox(S:List Tm):(Ea S).length=S.length:=by simp[Ea]
theorem uP{t:Tm}{c:fQ}(S:List Tm)(h:t.ty=some c):Ea (t::S)=Ea S++[c]:=by simp[Ea,h]
def jY(L:List Nd):Option Tm:=match eI L []with|some [t]=>some t|_=>none
def iQ(L:List Nd):Bool:=decide (1<=L.length)&&(decide (L.length<=400)&&(jY L).isSome)
theorem Cr{L:List Nd}(h:¬(1<=L.length/\L.length<=400)):iQ L=false:=by unfold iQ;rw[wo];simp only[ne_eq,bE,bX];exact fun⟨a,b,_⟩=>h ⟨a,b⟩
theorem zY{L:List Nd}(h:eI L []=none):iQ L=false:=by unfold iQ jY;rw[h];simp
theorem zdu{L:List Nd}(D:1<=L.length)(F:L.length<=400)(h:eI L []=some S):iQ L=decide (S.length=1):=by
 unfold iQ jY;rw[h]
 match S with
 |[]=>simp
 |[t]=>simp[D,F]
 |_::_::_=>simp
structure zZ(L:List er)(S:List Tm)(k:Nat):Prop where
 kl:k<=L.length
 rd:eI ((b_ L).drop k) S=eI (b_ L) []
 ty:∀t∈S,∃c,t.ty=some c
 ne:1<=k->S≠[]
 len:S.length<=k
theorem zZ.start(L:List er):zZ L [] 0:=⟨aX _,rfl,fun t h=>RM,fun h=>Rr,af _⟩
theorem jN{x:er}(h:L[k]?=some x):(b_ L).drop k=x.nd::(b_ L).drop (k+1):=by
 have D:=(bG.1 h).1;have:(b_ L)[k]?=some x.nd:=by simp[b_,h]
 rw[mT (by simpa[b_]using D)];congr 1
 rw[dL (by simpa[b_]using D)]at this;exact je this
theorem zZ.no{x:er}(h:zZ L S k)(F:L[k]?=some x)(D:stepT S x.nd=none):iQ (b_ L)=false:=by refine zY ?_;rw[<-h.rd,jN F,ic,D]
theorem zZ.step{x:er}(h:zZ L S k)(F:L[k]?=some x)(D:stepT S x.nd=some S')(I:S'≠[])(H:S'.length<=k+1):zZ L S' (k+1):=by
 have G:=(bG.1 F).1;have J:eI [x.nd] S=some S':=by rw[ic,D];rfl
 exact⟨G,by rw[<-h.rd,jN F,ic,D],Dn h.ty J,fun _=>I,H⟩
theorem zZ.stop(h:zZ L S k)(G:¬k<L.length)(D:1<=L.length)(F:L.length<=400):iQ (b_ L)=decide (S.length=1):=by have e:=h.rd;rw[iN SB]at e;exact zdu (by simpa[b_]using D) (by simpa[b_]using F) e.symm
theorem xi{x:er}(h:¬x.k=15)(D:¬x.k=16):stepT S x.nd=if dh x.nd=true then some (Tm.lf x.nd::S) else none:=by unfold stepT;rw[av (by simp[BD,er.nd,h,D])]
theorem ze4{x:er}(h1:x.k=15∨x.k=16)(h:¬x.v=0∨x.s.toList.isEmpty=false∨S.length<2):stepT S x.nd=none:=by
 unfold stepT;rw[ay Ve];split
 .rename_i D;rcases h with h|h|h
  .exact absurd D.1 h
  .have:=D.2;unfold er.nd at this;dsimp only at this;rw[h]at this;cases this
  .match S,h with
   |[],_=>rfl
   |[_],_=>rfl
 .rfl
theorem zf_{a b:Tm}{x:er}{c d:fQ}(h1:x.k=15∨x.k=16)(G:x.v=0)(F:x.s.toList.isEmpty=true)(h:a.ty=some c)(D:b.ty=some d):stepT (b::a::S) x.nd=if(fG x.k c d).isSome=true then some (Tm.op x.k a b::S) else none:=by
 unfold stepT;rw[ay Ve,ay ⟨G,F⟩];have:(Tm.op x.nd.k a b).ty=fG x.k c d:=by
  show(match a.ty,b.ty with|some H,some y=>fG x.nd.k H y|_,_=>none)=_
  rw[h,D];rfl
 show(if(Tm.op x.nd.k a b).ty.isSome=true then some (Tm.op x.nd.k a b::S) else none)=_
 rw[this];rfl
theorem Bx(k:Int)(F:k=15∨k=16)(c d:fQ)(G:c.1<=12/\c.2<=12)(H:d.1<=12/\d.2<=12):∃P Q:Int,(∀W,aw 223 (iK k (bf (c.1:Nat) (c.2:Nat)) (bf (d.1:Nat) (d.2:Nat))) W (WTo P Q (fG k c d).isSome W))/\∀z,fG k c d=some z->P=(z.1:Nat)/\Q=(z.2:Nat):=by
 rcases F with rfl|rfl
 .refine⟨((c.1:Nat):Int),((d.2:Nat):Int),fun W=>?_,fun z h=>?_⟩
  .have:=Bz (c.1:Nat) (c.2:Nat) (d.1:Nat) (d.2:Nat) W;have e:decide (((c.2:Nat):Int)=(d.1:Nat))=(fG 15 c d).isSome:=by
    unfold fG;rw[ay rfl];by_cases D:c.2=d.1
    .rw[ay D];simp[D]
    .rw[av D];simp;omega
   rw[e]at this;exact this
  .unfold fG at h;rw[ay rfl]at h;split at h
   .cases h;exact⟨rfl,rfl⟩
   .cases h
 .refine⟨((c.1:Nat):Int)+(d.1:Nat),((c.2:Nat):Int)+(d.2:Nat),fun W=>?_,fun z h=>?_⟩
  .have:=BA (c.1:Nat) (c.2:Nat) (d.1:Nat) (d.2:Nat) W Rr Rr Rr Rr Rr Rr Rr Rr;have e:jt ((c.1:Nat)+(d.1:Nat)) ((c.2:Nat)+(d.2:Nat))=(fG 16 c d).isSome:=by
    unfold fG jt;rw[av Rs,ay rfl];by_cases D:c.1+d.1<=12/\c.2+d.2<=12
    .rw[ay D];simp;omega
    .rw[av D];rw[Option.isSome_none,wo];simp only[ne_eq,bE,bX];omega
   rw[e]at this;exact this
  .unfold fG at h;rw[av Rs,ay rfl]at h;split at h
   .cases h;exact⟨Rq,Rq⟩
   .cases h
theorem zh2{k:Int}(h:k=15∨k=16):(k !=15)=false∨((k !=15)=true/\(k !=16)=false):=by
 rcases h with rfl|rfl
 .exact au rfl
 .exact an ⟨rfl,rfl⟩
def zh3(L:List er)(w:aa)(e:Ending)(w':aa):Prop:=∃a b:Int,e=.returned (.tuple (jy (bf a b) (iQ (b_ L))))/\ag w w'
theorem zdv(L:List er)(A:aq)(cap:Nat)(w:aa)(ei:bF 3 iR w A L)(bc:L.length<=1048576):aw 219 #[.slice A L.length cap,.func (.func 220) #[] #[]] w (zh3 L w):=by
 have am:=aC w (.cells eW 207) rfl;have a9:=(aj w.heap.size w).alloc (af _) (.cells eW 207);have ej:(b_ L).length=L.length:=by simp[b_]
 have fx:=zH ej;clear ej;cases b8:et L.length 1 400
 .have HT:=zH (Cr (L:=b_ L) (by rw[fx.o];intro⟨h1,h2⟩;have:et L.length 1 400=true:=SE;rw[b8]at this;cases this));go_enter func219,ntmps219
  go_upto_region 1 with(fail)
  generalize w.alloc _=W at a9 am ⊢;obtain⟨ch,ci,f0,f1⟩:=dd am;have y:=fc (v0:=.int .i64 (0)) (v1:=.int .i64 (0)) am;obtain⟨V,Y,-,-⟩:=dd y;unfold qU at V Y;have HE:=zH (fe a9 (b:=w.heap.size) Rr (.int .i64 (0)) (.int .i64 (0)));clear y;clear a9 am;go_wp2_with (go_at_call 143;refine(Calls.cT (da _ _ _ _) b8).mono ?_;rintro e w' ⟨rfl,rfl⟩)
  exact aE (v:=.tuple (mS eW)) (by simp[results,qA,go_sem, *]) rfl ⟨0,0,by rw[HT.o],HE.o⟩
 .have gd:1<=L.length/\L.length<=400:=by have:=b8;simp[et]at this;omega
  obtain⟨gn,gs⟩:=gd;have hd:L.length<9223372036854775807:=Rr;go_enter func219,ntmps219
  go_upto_region 1 with(fail)
  generalize w.alloc _=W at a9 am ⊢;obtain⟨fo,f3,dc⟩:=dO (show ∀wr,ag w wr->bF 3 iR wr A L from fun wr bq=>bw ei bq) am a9;have c3:w.heap.size<W.heap.size:=(aT.1 am).1;clear ei am a9 bc;go_upto_region 4 with(go_at_call 143;refine(Calls.cT (da _ _ _ _) b8).mono ?_;rintro e w' ⟨rfl,rfl⟩)
  obtain⟨dr,dl,d5⟩:=dO (aV.lit 207 2 EWr W (w.heap.size+1) Rr) (dc.o.alloc dc.o.size (.cells #[] 207)) ((bJ W (.cells #[] 207) c3).trans f3.o);go_wp2;go_loopw [6,22] (fun u i wr=>∃(k:Nat) (S:List Tm),i=.int .i64 k/\zZ L S k/\aV 207 2 EWr wr (w.heap.size+1) u (Ea S)/\aW wr w.heap.size eW 207/\ag w wr)
   (fun _ i _=>L.length-(intOf i).toNat)
  case atStart=>exact⟨0,[],rfl,zZ.start L,dr.o,d5.o,dl.o⟩
  case round=>
   obtain⟨k,S,rfl,ab,ce,bd,a2⟩:=hrel;clear dr dl d5 c3;by_cases b0:k<L.length
   .obtain⟨x,c6⟩:=aB b0;obtain⟨b,o,rfl,d9,c1,c2⟩:=f_ (fo.o wr a2) c6;have c3:=a2.size;have c5:w.heap.size<wr.heap.size:=(aT.1 bd).1;obtain⟨kk,vv,ss⟩:=x;dsimp only at d9 c1 c2;obtain⟨bo,HT,a6,a7,G⟩:=mD c6 ab (ce.ext ((aj _ _).alloc (af _) (.cells (dG kk vv ss) 95))) ((bJ wr (.cells (dG kk vv ss) 95) c5).trans bd) (a2.alloc a2.size (.cells (dG kk vv ss) 95));have b1:=aC wr (.cells (dG kk vv ss) 95) rfl;clear c6 ab ce bd a2;go_upto_region 7 with(fail)
    have c4:wr.heap.size < (wr.alloc (.cells (dG kk vv ss) 95)).heap.size:=(aT.1 b1).1;generalize wr.alloc _=U at a6 a7 G b1 c4 ⊢;clear d9 c1 c2;obtain⟨bg,c8,n2⟩:=aG b1;by_cases ad:kk=15∨kk=16
    .obtain⟨fa,ct,rfl,a1,br,-⟩:=aV.view a6.o;rw[ox]at a6 br ⊢;obtain⟨n,R⟩:=aM S.length;rw[<-R]at a6 br ⊢;have db:=zH a1;clear a1;go_cut [33] from 26 to 33 (fun z W=>z=.bool false/\U=W)
     case first=>
      rcases zh2 ad with ey|⟨ey,gg⟩
      all_goals
       clear ad;go_wp2;go_meet
       exact⟨rfl,rfl⟩
     case rest=>
      obtain⟨rfl,rfl⟩:=hcut;by_cases bb:vv=0/\ss.toList.isEmpty=true/\2<=n
      .obtain⟨rfl,cc,gi⟩:=bb;obtain⟨J,I,S',rfl⟩:∃J I S',S=J::I::S':=by
        match S,R with
        |[],bq=>simp at bq;omega
        |[_],bq=>simp at bq;omega
        |J::I::S',_=>exact⟨J,I,S',rfl⟩
       obtain⟨ca,bu⟩:=HT.o.ty I Rq;obtain⟨cb,bv⟩:=HT.o.ty J Rq;obtain⟨m,bc⟩:=aM S'.length;have e4:n=m+2:=by rw[R,bc];rfl
       obtain⟨ao,e0⟩:=aM (m+1);have b2:Ea (J::I::S')=Ea S'++[ca]++[cb]:=by rw[uP _ bv,uP _ bu]
       have ac:(Ea S').length=m:=by rw[ox,bc]
       obtain⟨N,go,rfl,ba⟩:=db.o.here (k:=0) (by rw[b2];simp);have es:(Ea (J::I::S'))[m]?=some ca:=by rw[b2,df (by rw[bx,ac];simp),ef Rr,ac];simp
       have ev:(Ea (J::I::S'))[ao]?=some cb:=by rw[e0,b2,ef (by rw[bx,ac];exact af _),bx,ac];simp
       obtain⟨gA,a4,bz⟩:=ba m ca es;obtain⟨hm,c7,eo⟩:=ba ao cb ev;unfold EWr at bz eo;subst bz eo;have a8:ae U N (go+m*2) (.int .i64 (ca.1:Nat)):=a4 0 _ rfl;have bp:=a4 1 _ rfl;have cq:ae U N (go+ao*2) (.int .i64 (cb.1:Nat)):=c7 0 _ rfl;have cr:=c7 1 _ rfl;have hf:n<=1048576:=by have h1:=HT.o.len;have h2:=HT.o.kl;rw[jc,jc,<-bc]at h1;omega
       have hh:IntKind.i64.wrap ((n:Int)-1)=(ao:Int):=Sq;have hj:IntKind.i64.wrap ((ao:Int)-1)=(m:Int):=Sq;have ha:m<n:=Rr;have hb:ao<n:=Rr;have fs:=zH e4;have e8:=Tm.CD bu;have e9:=Tm.CD bv;have HS:=zH (zf_ (S:=S') (x:=⟨kk,0,ss⟩) ad rfl cc bu bv);have dT:=zH (show ∀z,fG kk ca cb=some z->(Tm.op kk I J).ty=some z from fun z H=>by
        show(match I.ty,J.ty with|some gw,some y=>fG kk gw y|_,_=>none)=_
        rw[bu,bv];exact H)
       obtain⟨P,Q,eg,ek⟩:=Bx kk ad ca cb e8 e9;obtain⟨cn,d3,b7,b4⟩:=fU eg ek b2 ac;have e2:wr.heap.size<U.heap.size:=iC bg;have e3:N<U.heap.size:=iC a8;obtain⟨gL,fn⟩:=bD e2 e3;obtain⟨ok,Is⟩:=aM ((fG kk ca cb).isSome);rw[<-Is]at cn;obtain⟨GF,co⟩:=bD Is b0;have D:=aF bg (aF a8 (aF bp (aF cq cr)));clear Is e2 e3 ad e4 e0 eg ek b2 ac bu bv e8 e9 es ev a4 c7 ba db R bc b0 c5 c4 b1;go_upto_region 15 with(fail)
       go_cut [12,13] from 64 to 78 (fun gB gC W=>∃a0,gB=.pointer (some ⟨a0,0,none⟩)/\gC=.bool ok/\aW W a0 (bf P Q) 207/\U.heap.size<=a0/\ag U W)
       case first=>
        clear bg a8 bp cq cr;go_region_held3 (fun w'=>ae w' wr.heap.size 0 (.int .i64 kk)/\ae w' N (go+m*2) (.int .i64 (ca.1:Nat))/\ae w' N (go+m*2+1) (.int .i64 (ca.2:Nat))/\ae w' N (go+ao*2) (.int .i64 (cb.1:Nat))/\ae w' N (go+ao*2+1) (.int .i64 (cb.2:Nat)))
         (first|exact D|exact iS h.o D|exact iS (ak _ _).drew D|exact iS (h.o.alloc h.o.size _) D|exact iS ((h.o.setCell (af _) _).setCell (af _) _) D|exact iS (((h.o.alloc h.o.size _).setCell h.o.size _).setCell h.o.size _) D)
         ((go_at_call 223;refine(cn.o _).mono ?_;rintro e ap ⟨rfl,O⟩;have h:Hd (ag U ap):=(by first|exact zH ((az _).trans O)|exact zH ((ak _ _).drew.trans (O.mono Rq)));first|(have H:=ah (ja U _) O;obtain⟨g2,g3,g4,g5⟩:=dd H;have f7:=zH H;clear H)|skip;clear O))
        all_goals
         go_wp2_with fail
         go_meet
         first|exact⟨_,rfl,rfl,aC _ _ rfl,h.o.size,h.o.alloc h.o.size _⟩|exact⟨_,rfl,rfl,fc f7.o,af _,fe h.o (af _) _ _⟩
       case rest=>
        obtain⟨a0,rfl,rfl,H,gb,b9⟩:=hcut;obtain⟨ea,eb,-,-⟩:=dd H;obtain⟨b6,cj,f2,d7⟩:=fU (ah a7.o b9) (G.o.trans (b9.mono G.o.size)) (a6.o.ext b9) (show a0≠N by have:=fn.o;omega);clear bg c8 n2 a8 bp cq cr D H gb b9 cn;cases ok
        .have Iw:=zH (HT.o.no bo.o We);obtain⟨ch,ci,f0,f1⟩:=dd b6.o;have y:=fc (v0:=.int .i64 (0)) (v1:=.int .i64 (0)) b6.o;obtain⟨V,Y,-,-⟩:=dd y;unfold qU at V Y;have HE:=zH (fe cj.o (b:=w.heap.size) Rr (.int .i64 (0)) (.int .i64 (0)));clear y;exact X8
        .obtain⟨z,H⟩:=wm.1 GF.o.symm;obtain⟨FQ,f6,d4⟩:=dO (HT.o.step bo.o (S':=Tm.op kk I J::S') We Rq (by have:=HT.o.len;simp at this ⊢;omega)) (uP S' (dT.o z H)) (d3.o z H);have c0:=f2.o.pop (n:=m) (by rw[ox];have:=fs.o;have:=b4.o;rw[ox]at this;simp;omega) Rr;rw[show(Ea (J::I::S')).take m=Ea S' by rw[b7.o,fj,lM (by rw[b4.o];exact af _),cY (by rw[b4.o];exact af _)]]at c0;have d2:=zH (fun W (ga:ag wc W)=>c0.ext ga);have em:w.heap.size+1<=wc.heap.size:=(aT.1 b6.o).1;have d8:=zH em;have D:=aF ea eb;have he:m<=ct:=Rr;clear c0 H GF HS dT d3 b7 ea eb em;go_upto_region 18 with(fail)
         go_region_held3 (fun w'=>ae w' a0 0 (.int .i64 P)/\ae w' a0 1 (.int .i64 Q))
          (first|exact D|exact ju (ak _ _) D|exact ju (ak _ _).drew D|exact f8)
          ((refine fN rtW rfl (.tmp 85) (.tmp 87) rfl (w.heap.size+1) (wc.alloc (.cells (bf P Q) 207)).drew (.slice (some ⟨N,go,none⟩) m ct) (Ea S') z [.int .i64 P,.int .i64 Q] wc.heap.size (d2.o _ (ak _ _).drew) rfl TK (iV.flat (d2.o _ (ak _ _).drew) (by have:=d8.o;simp;omega) fun W=>by unfold EWr;rw[d4.o.1,d4.o.2]) (by rw[b4.o];omega) (by have:=d8.o;simp;omega) rfl rfl (ja _ _) ?_;intro g6 g0 hk e5 cI gc cB;have b5:=zH e5;have cp:=zH ((cB.block _ (gq _)).trans (ah b6.o (ak _ _).drew));have ck:=zH ((cj.o.trans ((ak _ _).drew.mono cj.o.size)).trans (cB.mono (wN _)));have f8:=aF (jd cI (ju (ak _ _).drew D).1 (fun e=>d7.o (by simpa[Value.ownBlock]using e))) (jd cI (ju (ak _ _).drew D).2 (fun e=>d7.o (by simpa[Value.ownBlock]using e)));clear e5 cI gc cB))
         have hc:=co.o;go_wp2;go_roundw
         case rel=>exact⟨k+1,_,by have:=co.o;go_num,FQ.o,by rw[f6.o];exact b5.o,cp.o,ck.o⟩
         case measure=>have:=co.o;simp[intOf];omega
      .have Iw:=zH (HT.o.no bo.o (ze4 ad (by show ¬vv=0∨ss.toList.isEmpty=false∨S.length<2;rw[<-R];by_cases h1:vv=0<;>by_cases h2:ss.toList.isEmpty=true<;>simp[h1,h2]at bb ⊢;omega)));obtain⟨ch,ci,f0,f1⟩:=dd a7.o;have y:=fc (v0:=.int .i64 (0)) (v1:=.int .i64 (0)) a7.o;obtain⟨V,Y,-,-⟩:=dd y;unfold qU at V Y;have HE:=zH (fe G.o (b:=w.heap.size) Rr (.int .i64 (0)) (.int .i64 (0)));clear y;have gi:n<=1048576:=Vl;clear R b0 c5 c4 b1 ad;by_cases h1:vv=0
       .subst h1;by_cases h2:ss.toList.isEmpty=true
        .have g9:n<2:=by simp[h2]at bb;omega
         clear bb;exact X8
        .have g8:ss.toList.isEmpty=false:=Sm;clear bb h2;exact X8
       .have g7:(vv !=0)=true:=Sl;clear bb h1;exact X8
    .have ey:(kk !=15)=true:=RS;have gg:(kk !=16)=true:=RS;obtain⟨FQ,bi⟩:=bD (xi (S:=S) (x:=⟨kk,vv,ss⟩) (by show ¬kk=15;omega) (by show ¬kk=16;omega)) (fun W=>BP kk vv ss W);obtain⟨a,cz⟩:=aM (lwA kk vv ss.toList.isEmpty);obtain⟨F,cA⟩:=aM (lwB kk vv ss.toList.isEmpty);obtain⟨fb,fl⟩:=bD cz cA;rw[<-cz,<-cA]at bi;clear ad cz cA;cases Is:dh ⟨kk,vv,ss.toList.isEmpty⟩
     .rw[Is]at bi;have Iw:=zH (HT.o.no bo.o Wg);clear Is;go_upto_region 9 with(go_at_call 220;refine(bi.o _).mono ?_;rintro e ap ⟨rfl,O⟩;have h:=zH O;clear O)
      have a3:=ah a7.o h.o;have T:=(bJ ap (.cells (bf a F) 207) (aT.1 a3).1).trans a3;have Z:=(G.o.trans (h.o.mono G.o.size)).alloc (G.o.trans (h.o.mono G.o.size)).size (.cells (bf a F) 207);generalize ap.alloc _=b3 at T Z ⊢;obtain⟨ch,ci,f0,f1⟩:=dd T;have y:=fc (v0:=.int .i64 (0)) (v1:=.int .i64 (0)) T;obtain⟨V,Y,-,-⟩:=dd y;unfold qU at V Y;have HE:=zH (fe Z (b:=w.heap.size) Rr (.int .i64 (0)) (.int .i64 (0)));clear y;clear a3 T Z bg c8 n2;exact X8
     .rw[Is]at bi;have f5:=zH (HT.o.step bo.o (S':=Tm.lf ⟨kk,vv,ss.toList.isEmpty⟩::S) Wg Rq (by simp;exact HT.o.len));have cc:ss.toList.isEmpty=true:=by have:=Is;unfold dh at this;rw[bE]at this;exact this.1
      have b7:=zH (show Ea (Tm.lf ⟨kk,vv,ss.toList.isEmpty⟩::S)=Ea S++[(nW ⟨kk,vv,ss.toList.isEmpty⟩,qJ ⟨kk,vv,ss.toList.isEmpty⟩)] from uP S (by unfold Tm.ty;rw[ay Is]));have c9:=zH (show a=(nW ⟨kk,vv,ss.toList.isEmpty⟩:Nat)/\F=(qJ ⟨kk,vv,ss.toList.isEmpty⟩:Nat) by rw[fb.o,fl.o];rw[cc]at Is ⊢;exact za7 Is)
      clear Is cc;go_upto_region 11 with(go_at_call 220;refine(bi.o _).mono ?_;rintro e ap ⟨rfl,O⟩;have h:=zH O;clear O)
      have Z:=(G.o.trans (h.o.mono G.o.size)).alloc (G.o.trans (h.o.mono G.o.size)).size (.cells (bf a F) 207);have a3:=ah a7.o h.o;have T:=(bJ ap (.cells (bf a F) 207) (aT.1 a3).1).trans a3;have cO:=(a6.o.ext h.o).ext ((aj _ _).alloc (af _) (.cells (bf a F) 207));obtain⟨d0,d1,-,-⟩:=dd (aC ap (.cells (bf a F) 207) rfl);generalize ap.alloc _=b3 at T Z cO d0 d1 ⊢;have hg:w.heap.size<b3.heap.size:=(aT.1 T).1;obtain⟨cp,b5,ck,d6⟩:=fU (ah T ((aj _ _).alloc (af _) (.cells (bf a F) 207))) (cO.ext ((aj _ _).alloc (af _) (.cells (bf a F) 207))) (Z.alloc Z.size (.cells (bf a F) 207)) (RS:w.heap.size+1<=(b3.alloc (.cells (bf a F) 207)).heap.size);clear a3 T Z cO bg c8 n2;go_wp2_with ((at_builtin;refine cL rtW rfl _ _ rfl (w.heap.size+1) (b3.alloc (.cells (bf a F) 207)) _ (Ea S) (nW ⟨kk,vv,ss.toList.isEmpty⟩,qJ ⟨kk,vv,ss.toList.isEmpty⟩) [.int .i64 a,.int .i64 F] b3.heap.size b5.o rfl TK (iV.flat b5.o d6.o fun W=>by unfold EWr;rw[c9.o.1,c9.o.2]) (by rw[ox];have:=HT.o.len;omega) d6.o rfl rfl (aC _ _ rfl) ?_;intro g g1 hl e6 gf a1 cF;have fz:=zH e6;have f4:=zH ((cF.block _ (gq _)).trans cp.o);have fd:=zH (ck.o.trans (cF.mono (wN _)));clear e6 gf a1 cF))
      go_roundw
      case rel=>exact⟨k+1,_,Rt,f5.o,by rw[b7.o];exact fz.o,f4.o,fd.o⟩
      case measure=>simp[intOf];omega
   .have dq:=zH (ab.stop b0 gn gs);have e1:=ab.ne (by have:=ab.kl;omega);obtain⟨fa,ct,rfl,a1,br,-⟩:=aV.view ce;rw[ox]at br ⊢;have cu:0<S.length:=List.length_pos_iff.2 e1;have f9:S.length<=1048576:=by have:=ab.len;have:=ab.kl;omega
    obtain⟨N,go,rfl,ba⟩:=a1.here (k:=0) (by rw[ox];exact cu);obtain⟨a5,e7⟩:=aB (by rw[ox];exact cu:0 < (Ea S).length);obtain⟨gA,a4,bz⟩:=ba 0 a5 e7;unfold EWr at bz;subst bz;have a8:=a4 0 _ rfl;have bp:=a4 1 _ rfl;simp only[Nat.zero_mul,iM]at a8 bp;have ac:((S.length:Int)==1)=decide (S.length=1):=by rw[jz];simp;omega
    obtain⟨n,R⟩:=aM S.length;obtain⟨ok,Is⟩:=aM (decide (S.length=1));rw[<-Is,<-R]at ac;rw[<-Is]at dq;rw[<-R]at cu f9 br ⊢;obtain⟨ch,ci,f0,f1⟩:=dd bd;have y:=fc (v0:=.int .i64 ((a5.1:Nat))) (v1:=.int .i64 ((a5.2:Nat))) bd;obtain⟨V,Y,-,-⟩:=dd y;unfold qU at V Y;have HE:=zH (fe a2 (b:=w.heap.size) Rr (.int .i64 ((a5.1:Nat))) (.int .i64 ((a5.2:Nat))));clear y;clear Is R ba a4 e7 e1 ab a1 ce bd a2;go_wp2;exact aE (v:=.tuple (jy (bf (a5.1:Nat) (a5.2:Nat)) ok)) (by simp[results,qA,go_sem, *]) rfl ⟨_,_,by rw[dq.o],HE.o⟩
theorem BM(L:List er)(A:aq)(cap:Nat)(w:aa)(N:bF 3 iR w A L)(Y:L.length<=1048576):aw 204 (cy (aO A L cap)) w (zh3 L w):=by
 have h:=((aj w.heap.size w).alloc (af _) (.cells (aO A L cap) 35)).alloc Rq (.cells eW 207);have G:=(bJ (w.alloc (.cells (aO A L cap) 35)) (.cells eW 207) (k:=w.heap.size) Rq).trans (aC w _ rfl);have H:=aC (w.alloc (.cells (aO A L cap) 35)) (.cells eW 207) (n:=w.heap.size+1) Rq;have D:=bw N h;clear N;go_enter func204,ntmps204
 go_upto_region 1 with(fail)
 generalize (w.alloc _).alloc _=W at h G H D ⊢;have ac:=aI G 0 rfl;obtain⟨J,U,T⟩:=dO h H D;clear h G H D;go_wp2_with (go_at_call 219;refine(zdv L A cap _ T.o Y).mono ?_;rintro e a0 ⟨a,b,rfl,F⟩;have I:=ah U.o F;obtain⟨ad,am,ao,ap⟩:=dd I;have V:=zH I;have O:=zH (J.o.trans (F.mono J.o.size));clear I F)
 have y:=fc (v0:=.int .i64 (a)) (v1:=.int .i64 (b)) V.o;obtain⟨Z,ab,-,-⟩:=dd y;unfold qU at Z ab;have R:=zH (fe O.o (b:=w.heap.size+1) Rr (.int .i64 (a)) (.int .i64 (b)));clear y;exact aE (v:=.tuple (jy (bf a b) (iQ (b_ L)))) (by simp[results,results204,go_sem, *]) rfl ⟨a,b,rfl,R.o⟩
theorem vH(L:List er)(A:aq)(cap:Nat)(w:aa)(I:bF 3 iR w A L)(O:L.length<=1048576):aw 161 (cy (aO A L cap)) w (dM w (iQ (b_ L))):=by
 have h:=(aj w.heap.size w).alloc (af _) (.cells (aO A L cap) 35);have F:=aC w (.cells (aO A L cap) 35) rfl;have D:=bw I h;clear I;go_enter func161,ntmps161
 go_upto_region 1 with(fail)
 generalize w.alloc _=W at h F D ⊢;have R:=aI F 0 rfl;obtain⟨G,N⟩:=bD h D;clear h F D;go_wp2_with (go_at_call 204;refine(BM L A cap _ N.o O).mono ?_;rintro e T ⟨a,b,rfl,J⟩;have H:=zH (G.o.trans (J.mono G.o.size));clear J)
 go_ret
 exact⟨rfl,H.o.alloc H.o.size _⟩
def ovB(p:Int)(x:er):Bool:=!hvB x.k||decide (x.v<p)
theorem zcO(p:Int)(L:List er):L.all (ovB p)=nv p (b_ L):=by unfold nv b_;rw[List.all_map];rfl
def ntB(x:er):Bool:=!dlB x.k
theorem zgo(L:List er):L.all ntB=n_ (b_ L):=by
 unfold n_ b_;rw[List.all_map];congr 1
 funext x
 show(!(decide (x.k=8)||decide (x.k=14)))=(decide (x.k≠8)&&decide (x.k≠14))
 rw[Bool.not_or];simp
def vI(p:Int)(L:List er):Bool:=cN p&&(iQ (b_ L)&&nv p (b_ L))
theorem AX(p:Int)(L:List er)(A:aq)(cap:Nat)(w:aa)(ad:eB w)(ac:bF 3 iR w A L)(am:L.length<=1048576):aw 119 (gD (aO A L cap) p) w (dM w (vI p L)):=by
 unfold vI;have R:=(aj w.heap.size w).alloc (af _) (.cells (aO A L cap) 35);have T:=aC w (.cells (aO A L cap) 35) rfl;obtain⟨V,O⟩:=bD (show ∀W,ag w W->bF 3 iR W A L from fun W ap=>bw ac ap) (ad.ext R);clear ac ad;go_enter func119,ntmps119
 go_upto_region 1 with(fail)
 generalize w.alloc _=W at R T O ⊢;have H:=aI T 0 rfl;obtain⟨h,a2⟩:=bD R T;clear R T;cases hf:cN p
 .go_wp2_with (go_at_call 142;refine(Calls.cT (iX _ _ O.o) hf).mono ?_;rintro e w' ⟨rfl,rfl⟩)
  go_ret
  exact⟨aL RZ,h.o⟩
 cases J:iQ (b_ L)
 .go_wp2_with (first|(go_at_call 142;refine(Calls.cT (iX _ _ O.o) hf).mono ?_;rintro e w' ⟨rfl,rfl⟩)|(go_at_call 161;refine(Calls.be (vH L A cap _ (V.o _ h.o) am) J).mono ?_;rintro e ao ⟨rfl,F⟩;have U:=zH (h.o.trans (F.mono h.o.size));clear F))
  go_ret
  exact⟨aL (by rw[hf,J];rfl),U.o⟩
 have ab:=zH (zcO p L);go_upto_region 3 with(first|(go_at_call 142;refine(Calls.cT (iX _ _ O.o) hf).mono ?_;rintro e w' ⟨rfl,rfl⟩)|(go_at_call 161;refine(Calls.be (vH L A cap _ (V.o _ h.o) am) J).mono ?_;rintro e ao ⟨rfl,F⟩;have d0:=al F H;have U:=zH (h.o.trans (F.mono h.o.size));clear F))
 clear H;go_wp2;go_loopw [18] (fun i wr=>∃k:Nat,k<=L.length/\i=.int .i64 k/\Hd ((L.take k).all (ovB p)=true)/\ag w wr) (fun i _=>L.length-(intOf i).toNat)
 case atStart=>exact⟨0,aX _,rfl,zH Rq,U.o⟩
 case round=>
  obtain⟨k,a3,rfl,Fl,I⟩:=hrel;clear d0;by_cases a0:k<L.length
  .obtain⟨x,Z⟩:=aB a0;obtain⟨b,o,rfl,H,c1,c2⟩:=f_ (V.o wr I) Z;obtain⟨G,D,N⟩:=x;dsimp only at H c1 c2;obtain⟨HX,EP⟩:=bD Z (I.alloc I.size (.cells (dG G D N) 95));have Y:=aC wr (.cells (dG G D N) 95) rfl;clear Z I;go_upto_region 6 with(fail)
   generalize wr.alloc _=ao at EP Y ⊢;obtain⟨a5,a6,n2⟩:=aG Y;clear H c1 c2 Y;cases hv:hvB G
   .have HF:=zH (by unfold ovB;rw[hv];rfl:ovB p ⟨G,D,N⟩=true);exact Za
   .by_cases a1:D<p
    .have HF:=zH (by unfold ovB;simp[a1]:ovB p ⟨G,D,N⟩=true);exact Za
    .have HF:=zH (by unfold ovB;rw[hv];simp;omega:ovB p ⟨G,D,N⟩=false);have a4:p<=D:=Rr;go_wp2_with (go_at_call 162;refine(Calls.cT (kN _ _) hv).mono ?_;rintro e w' ⟨rfl,rfl⟩)
     go_ret
     exact⟨aL (by rw[<-ab.o,hf,J,all_false _ _ _ _ HX.o HF.o];rfl),EP.o⟩
  .go_wp2;go_ret
   exact⟨aL (by rw[<-ab.o,hf,J,gx _ _ _ Fl.o Rr];rfl),I⟩
def yk(p:Int)(L:List er):Bool:=vI p L&&n_ (b_ L)
theorem BN(p:Int)(L:List er)(A:aq)(cap:Nat)(w:aa)(ad:eB w)(ac:bF 3 iR w A L)(am:L.length<=1048576):aw 84 (gD (aO A L cap) p) w (dM w (yk p L)):=by
 unfold yk;have I:=(aj w.heap.size w).alloc (af _) (.cells (aO A L cap) 35);have J:=aC w (.cells (aO A L cap) 35) rfl;obtain⟨U,V⟩:=bD (show ∀W,ag w W->bF 3 iR W A L from fun W ap=>bw ac ap) (ad.ext I);clear ac ad;go_enter func84,ntmps84
 go_upto_region 1 with(fail)
 generalize w.alloc _=W at I J V ⊢;have F:=aI J 0 rfl;obtain⟨h,a1⟩:=bD I J;clear I J;cases hf:vI p L
 .go_wp2_with (go_at_call 119;refine(Calls.be (AX p L A cap _ V.o (U.o _ h.o) am) hf).mono ?_;rintro e ao ⟨rfl,D⟩;have T:=zH (h.o.trans (D.mono h.o.size));clear D)
  go_ret
  exact⟨aL RZ,T.o⟩
 have ab:=zH (zgo L);go_upto_region 3 with(go_at_call 119;refine(Calls.be (AX p L A cap _ V.o (U.o _ h.o) am) hf).mono ?_;rintro e ao ⟨rfl,D⟩;have d0:=al D F;have T:=zH (h.o.trans (D.mono h.o.size));clear D)
 clear F;go_wp2;go_loopw [14] (fun i wr=>∃k:Nat,k<=L.length/\i=.int .i64 k/\Hd ((L.take k).all ntB=true)/\ag w wr) (fun i _=>L.length-(intOf i).toNat)
 case atStart=>exact⟨0,aX _,rfl,zH Rq,T.o⟩
 case round=>
  obtain⟨k,a2,rfl,Fl,G⟩:=hrel;clear d0;by_cases a0:k<L.length
  .obtain⟨x,Z⟩:=aB a0;obtain⟨b,o,rfl,F,c1,c2⟩:=f_ (U.o wr G) Z;obtain⟨H,R,O⟩:=x;dsimp only at F c1 c2;obtain⟨HX,EP⟩:=bD Z (G.alloc G.size (.cells (dG H R O) 95));have Y:=aC wr (.cells (dG H R O) 95) rfl;clear Z G;go_upto_region 6 with(fail)
   generalize wr.alloc _=ao at EP Y ⊢;obtain⟨a3,a4,n2⟩:=aG Y;clear F c1 c2 Y;cases N:dlB H
   .have HF:=zH (by unfold ntB;rw[N];rfl:ntB ⟨H,R,O⟩=true);go_wp2_with (go_at_call 120;refine(Calls.cT (ya _ _) N).mono ?_;rintro e w' ⟨rfl,rfl⟩)
    exact YM
   .have HF:=zH (by unfold ntB;rw[N];rfl:ntB ⟨H,R,O⟩=false);go_wp2_with (go_at_call 120;refine(Calls.cT (ya _ _) N).mono ?_;rintro e w' ⟨rfl,rfl⟩)
    go_ret
    exact⟨aL (by rw[<-ab.o,hf,all_false _ _ _ _ HX.o HF.o];rfl),EP.o⟩
  .go_wp2;go_ret
   exact⟨aL (by rw[<-ab.o,hf,gx _ _ _ Fl.o Rr];rfl),G⟩
def bt(l:bO):List Int:=l.map fun x:Nat=>(x:Int)
theorem aQ(l:bO):(bt l).length=l.length:=RK
theorem dJ(h:l[k]?=some x):(bt l)[k]?=some (x:Int):=by simp[bt,h]
theorem zdg(n:Nat):iota n=bt (List.range n):=rfl
theorem kI(a b:bO):bt (a++b)=bt a++bt b:=RK
def yp(w:aa)(e:Ed)(c:bU):Prop:=∃A1 c1 h c2,c=[.int .i64 e.k,.int .i64 e.v,.slice A1 e.i.length c1,.slice h e.o.length c2]/\aJ w A1 (bt e.i)/\aJ w h (bt e.o)
theorem yp.ext{a b:aa}{c:bU}(h:ag a b)(F:yp a e c):yp b e c:=by obtain⟨A1,c1,D,c2,G,H,I⟩:=F;exact⟨A1,c1,D,c2,G,H.ext h,I.ext h⟩
theorem zf0:RT prog 52 155 4 (.agg #[(),(),bW,bW]) 64:=⟨underlying52,RP,Rs,Rs,Rs⟩
theorem zg4:RT prog 163 54 4 (.agg bQ) 80:=⟨underlying163,RP,Rs,Rs,Rs⟩
structure j6(w:aa)(A1 A2 A3:aq)(g:Gr):Prop where
 es:bF 4 yp w A1 g.es
 i:aJ w A2 (bt g.i)
 o:aJ w A3 (bt g.o)
theorem j6.ext{a b:aa}(h:j6 a A1 Y Q9 g)(D:ag a b):j6 b A1 Y Q9 g:=⟨bF.ext (fun _ _ h=>h.ext D) h.es D,h.i.ext D,h.o.ext D⟩
def EGr(w:aa)(g:Gr)(c:bU):Prop:=∃A1 c1 h c2 D F,c=[.int .i64 (g.w:Nat),.slice A1 g.es.length c1,.slice h g.i.length c2,.slice D g.o.length F]/\j6 w A1 h D g
theorem EGr.ext{a b:aa}{c:bU}(J:ag a b)(G:EGr a g c):EGr b g c:=by obtain⟨A1,c1,h,c2,D,F,H,I⟩:=G;exact⟨A1,c1,h,c2,D,F,H,I.ext J⟩
def sL(g:Gr)(w:aa)(e:Ending)(w':aa):Prop:=∃A1 c1 h c2 D F,e=.returned (.agg (bl g A1 c1 h c2 D F))/\Fr w' w.heap.size w'.heap.size (fun W=>j6 W A1 h D g)/\ag w w'
theorem gZ(H:bF 4 yp w A QN)(F:QN[k]?=some e):∃b o A1 c1 h c2,A=some ⟨b,o,none⟩/\ae w b (o+k*4) (.int .i64 e.k)/\ae w b (o+k*4+1) (.int .i64 e.v)/\ae w b (o+k*4+2) (.slice A1 e.i.length c1)/\ae w b (o+k*4+3) (.slice h e.o.length c2)/\aJ w A1 (bt e.i)/\aJ w h (bt e.o):=by obtain⟨b,o,G,O⟩:=H.here (bG.1 F).1;obtain⟨c,D,A1,c1,h,c2,I,J,N⟩:=O k e F;subst I;exact⟨b,o,A1,c1,h,c2,G,D 0 _ rfl,D 1 _ rfl,D 2 _ rfl,D 3 _ rfl,J,N⟩
def eC(a n:Nat):List Nat:=(List.range n).map (· +a)
theorem dw(a n:Nat):(eC a n).length=n:=by simp[eC]
theorem xd{a:Nat}(h:k<n):(eC a n)[k]?=some (k+a):=by simp[eC,h]
def sW(a n k:Nat):List Int:=(bt (eC a n)).take k++(iota n).drop k
theorem zbp(a n:Nat):sW a n 0=iota n:=by simp[sW]
theorem zdh(a n:Nat):sW a n n=bt (eC a n):=by unfold sW;rw[cY (by rw[aQ,dw];exact af _),iN (by rw[ee];exact af _),k9]
theorem zdi{a:Nat}(h:k<n):(sW a n k)[k]?=some (k:Int):=by unfold sW;rw[ef (by rw[cG,aQ,dw];omega),cG,aQ,dw,eX,gR Rr,oK,iM,rn h]
theorem zdj{a:Nat}(h:k<n):(sW a n k).set k ((k:Int)+a)=sW a n (k+1):=by unfold sW;rw[lI _ _ (by rw[cG,aQ,dw];omega),cG,aQ,dw,gR Rr,oK];rw[dH,dJ (xd h),mT (by rw[ee];exact h),oM];simp
theorem uF(a n:Nat)(w:aa)(J:n<=1048576)(N:a<=1048576):aw 66 (bf a n) w fun e w'=>∃u,e=.returned u/\aD w' w.heap.size u (bt (eC a n))/\ag w w':=by
 go_enter func66,ntmps66
 go_upto_region 3 with(go_at_call 62;refine(pr n _ J).mono ?_;rintro e V ⟨u,rfl,h,G⟩;obtain⟨A,c,rfl,_⟩:=h.view;rw[ee]at h ⊢;have F:=zH h;have HB:=zH G;clear h G)
 have h1:=F.o;unfold aD at h1;rw[ee,<-zbp a n]at h1;have D:=zH h1;clear h1 F;go_wp2;go_loopw [11] (fun i wr=>∃k:Nat,k<=n/\i=.int .i64 k/\wr.ownsRow w.heap.size 3 1 (.slice A n c) n ((sW a n k).map (Value.int .i64))/\ag w wr)
  (fun i _=>n-(intOf i).toNat)
 case atStart=>exact⟨0,aX _,rfl,D.o,HB.o⟩
 case round=>
  obtain⟨k,T,rfl,EF,H⟩:=hrel;clear D HB;by_cases I:k<n
  .obtain⟨g,rfl⟩:∃g,A=some ⟨g,0,none⟩:=Xu;have O:ae wr g k (.int .i64 k):=by rw[EF.cellAt k Rr,cC,zdi I];rfl
   have R:=EF.frozenAt k;have Fg:=(EF.stored k (.int .i64 ((k:Int)+a))).1;rw[<-fh,zdj I]at Fg;obtain⟨HS,HB⟩:=bD Fg (H.setCell (p:=⟨g,k,none⟩) ((bL EF g rfl).1) (.int .i64 ((k:Int)+a)));have U:IntKind.i64.wrap ((k:Int)+a)=(k:Int)+a:=Sq;exact Yu
  .obtain rfl:k=n:=Rr;go_wp2;go_ret
   rw[zdh]at EF;exact⟨_,rfl,by unfold aD;rw[aQ,dw];exact EF,H⟩
theorem zbq(v:aH)(A:aq)(cap:Nat)(h:aH)(D:aq)(F:Nat)(w:aa)(H:aJ w A v)(G:aJ w D h)(V:v.length<=1048576)(U:h.length<=1048576)(J:∀i∈h,0<=i/\i<v.length):aw 164 (lH D h F A v cap) w fun e w'=>∃u,e=.returned u/\aD w' w.heap.size u (og v h)/\ag w w':=by
 have O:=zH (zbs v A cap h D F w H G V U J);clear H G J;go_enter func164,ntmps164
 go_wp2_with (go_at_call 206;refine O.o.mono ?_;rintro e Y ⟨u,rfl,N,I⟩;have T:=zH N;have R:=zH I;clear N I)
 go_ret
 exact⟨_,rfl,T.o,R.o⟩
theorem zM{rows:aN}{r:aH}(h:rows[k]?=some r):(rows.take (k+1)).flatten=(rows.take k).flatten++r:=by rw[dH,h];simp
theorem tz(rows:aN)(A:aq)(cap:Nat)(w:aa)(J:bk w A rows)(a4:rows.length<=1048576)(T:∀k,k<=rows.length->(rows.take k).flatten.length<=1048576):aw 65 (aO A rows cap) w fun e w'=>∃u,e=.returned u/\aD w' w.heap.size u rows.flatten/\ag w w':=by
 obtain⟨ao,ac⟩:=bD J T;clear J T;go_enter func65,ntmps65
 go_wp2;obtain⟨H,G⟩:=bD (aD.lit w w.heap.size (af _)) ((aj w.heap.size w).alloc (af _) (.cells #[] 3));go_loopw [3,9] (fun u i wr=>∃k:Nat,k<=rows.length/\i=.int .i64 k/\aD wr w.heap.size u (rows.take k).flatten/\ag w wr)
  (fun _ i _=>rows.length-(intOf i).toNat)
 case atStart=>exact⟨0,aX _,rfl,by simpa using H.o,G.o⟩
 case round=>
  obtain⟨k,a3,rfl,U,EL⟩:=hrel;have F9:=zH U;clear U H G;by_cases D:k<rows.length
  .obtain⟨r,F⟩:=aB D;obtain⟨a1,o,rfl,O⟩:=(ao.o.ext EL).here D;obtain⟨Y,ap,a2,R⟩:=O k r F;obtain⟨ab,I⟩:=bD R (zM F);have ad:=zH (show(rows.take k).flatten.length+r.length<=1099511627776 by have:=ac.o (k+1) D;rw[I.o,bx]at this;omega);have a0:=EL.size;clear F O R;go_wp2_with ((at_builtin;refine pK rfl (.tmp 13) (.tmp 14) rfl w.heap.size wr u3 (rows.take k).flatten r Y ap rfl rfl F9.o ab.o ad.o a0 ?_;intro a5 a6 V _ N;have am:=zH V;have Z:=zH N;clear V N))
   go_roundw
   case rel=>exact⟨k+1,Rr,Rt,by rw[I.o];exact am.o,EL.trans Z.o⟩
   case measure=>simp[intOf];omega
  .exact Xs
theorem Fr.later{P:iT}(F:Fr w lo hi P)(h:ag w w')(D:hi<=w.heap.size):Fr w' lo w'.heap.size P:=(F.ext h D).mono (af _) (aR D h.size)
theorem Fr.dC{P:iT}(h:Fr w lo hi P)(D:b<lo):Fr (dC w b v0 v1 v2 v3) lo hi P:=h.same fun k a _=>nr Rr
theorem Fr.to{P:iT}(h:Fr w lo hi P)(D:lo'<=lo)(F:hi<=hi'):Fr w lo' hi' P:=h.mono D F
theorem Bv(D:Fr w lo hi fun W=>bF 4 yp W A1 g.es)(F:Fr w lo hi fun W=>aJ W Y (bt g.i))(G:Fr w lo hi fun W=>aJ W Q9 (bt g.o)):Fr w lo hi fun W=>j6 W A1 Y Q9 g:=fun W h=>⟨D W h,F W h,G W h⟩
theorem uM(n:Nat)(w:aa)(V:n<=1048576):aw 166 (bs n) w (sL ⟨n,[],List.range n,List.range n⟩ w):=by
 have I:=aC w (.cells bQ 54) rfl;have O:=(aj w.heap.size w).alloc (af _) (.cells bQ 54);go_enter func166,ntmps166
 go_upto_region 1 with(fail)
 generalize w.alloc _=W at O I ⊢;have Y:w.heap.size<W.heap.size:=(aT.1 I).1;obtain⟨G,ac,U⟩:=dO O I Y;clear O I Y;go_wp2_with fail
 refine(pr n _ V).mono ?_;rintro e bb ⟨u1,rfl,J,R⟩;obtain⟨A1,c1,rfl,-⟩:=J.view;rw[ee]at J ⊢;obtain⟨ad,H⟩:=bD (J.fr R.size) R;clear J R;go_wp2_with fail
 refine(pr n _ V).mono ?_;rintro e Z ⟨u2,rfl,N,F⟩;obtain⟨h,c2,rfl,-⟩:=N.view;rw[ee]at N ⊢;obtain⟨am,T⟩:=bD (N.fr F.size) F;have D:=ah (ah ac.o H.o) F;obtain⟨a4,a5,a6,a7⟩:=aA D;obtain⟨f0,f1,f2,f3⟩:=bZ D;have y:=cd (v0:=.int .i64 n) (v1:=bW) (v2:=.slice A1 n c1) (v3:=.slice h n c2) D;obtain⟨a0,a1,a2,a3⟩:=aA y;unfold dC at a0 a1 a2 a3;have ab:=zH (bI ((G.o.trans (H.o.mono G.o.size)).trans (F.mono ((G.o.trans (H.o.mono G.o.size)).size))) (af _) (.int .i64 n) (.slice none 0 0) (.slice A1 n c1) (.slice h n c2));clear N F D y;go_wp2;refine aE (v:=.agg #[n,bW,.slice A1 n c1,.slice h n c2]) (by simp[results,results166,go_sem, *]) rfl ⟨none,0,A1,c1,h,c2,?_,?_,ab.o⟩
 .rw[show(List.range n).length=n from fX ..];rfl
 .have a9:=H.o.size;have ba:=T.o.size;have a8:=U.o;have ao:=(ad.o.later T.o (af _)).dC (v0:=.int .i64 n) (v1:=bW) (v2:=.slice A1 n c1) (v3:=.slice h n c2) U.o;have ap:=am.o.dC (v0:=.int .i64 n) (v1:=bW) (v2:=.slice A1 n c1) (v3:=.slice h n c2) (b:=w.heap.size) Rr;have D:Z.heap.size=(dC Z w.heap.size (.int .i64 n) (.slice none 0 0) (.slice A1 n c1) (.slice h n c2)).heap.size:=dV.symm;exact Bv (Fr.all fun _=>au rfl) (ao.to Rr (fD D)) (ap.to Rr (fD D))
theorem zcu{E:Nat}(I:aW W E (uQ e A1 c1 Y c2) 155)(G:lo<=E)(H:E<hi)(f1:Fr W lo hi fun h=>aJ h A1 (bt e.i))(f2:Fr W lo hi fun h=>aJ h Y (bt e.o)):Fr W lo hi fun h=>bF 4 yp h (some ⟨E,0,none⟩) [e]:=fun h F=>by
 refine an ⟨E,0,rfl,fun k x D=>?_⟩
 match k,D with
 |0,D=>
  simp at D;subst D;refine⟨_,fun j y J=>?_,A1,c1,Y,c2,rfl,f1 h F,f2 h F⟩;rw[show 0+0*4+j=j by omega,a_ ((F E G H).trans I) j];exact J
 |k+1,D=>simp at D
theorem iP(h:aW W b cs 3)(e:cs.toList=xs.map (Value.int .i64)):aJ W (some ⟨b,0,none⟩) xs:=an ⟨b,0,rfl,fun k x D=>by rw[iO,a_ h k,e,cC,D];rfl⟩
theorem uN(D:aW W b cs 3)(e:cs.toList=xs.map (Value.int .i64))(F:lo<=b)(G:b<hi):Fr W lo hi fun h=>aJ h (some ⟨b,0,none⟩) xs:=fun h H=>iP ((H b F G).trans D) e
theorem Bw(k v:Int)(s:ByteArray)(w:aa)(hl:dh ⟨k,v,s.toList.isEmpty⟩=true):aw 123 (cy (dG k v s)) w (sL (eY ⟨k,v,s.toList.isEmpty⟩) w):=by
 have U:=((aj w.heap.size w).alloc (af _) (.cells (dG k v s) 95)).alloc Rq (.cells bQ 54);have N:=(bJ (w.alloc (.cells (dG k v s) 95)) (.cells bQ 54) (k:=w.heap.size) Rq).trans (aC w _ rfl);have Y:=aC (w.alloc (.cells (dG k v s) 95)) (.cells bQ 54) (n:=w.heap.size+1) Rq;have d8:s.toList.isEmpty=true:=Vq;rw[d8]at hl ⊢;by_cases h1:k=1
 .subst h1;obtain⟨m,rfl⟩:∃m:Nat,v=(m:Int):=⟨v.toNat,TS⟩;have e3:m<=12:=TS;rw[show eY ⟨1,(m:Int),true⟩=⟨m,[],List.range m,List.range m⟩ from rfl];clear hl;go_enter func123,ntmps123
  go_upto_region 1 with(fail)
  generalize (w.alloc _).alloc _=W at U N Y ⊢;obtain⟨bo,c1,c2⟩:=aG N;obtain⟨a1,bg⟩:=bD U Y;clear U N Y;go_wp2_with (go_at_call 166;refine(uM m _ Rr).mono ?_;rintro e w2 ⟨A1,d1,A2,d2,A3,d3,rfl,a5,F⟩;have hz:=ah bg.o F;obtain⟨ce,ch,ci,cj⟩:=aA hz;obtain⟨f0,f1,f2,f3⟩:=bZ hz;have bi:=zH hz;have HF:=zH a5;have bb:=zH (a1.o.trans (F.mono a1.o.size));have dr:=zH F.size;clear hz a5 F)
  have y:=cd (v0:=.int .i64 m) (v1:=.slice A1 ([]:List Ed).length d1) (v2:=.slice A2 (List.range m).length d2) (v3:=.slice A3 (List.range m).length d3) bi.o;obtain⟨a7,a8,a9,ba⟩:=aA y;unfold dC at a7 a8 a9 ba;simp only[il,fX]at a7 a8 a9 ba;refine aE (v:=.agg #[m,.slice A1 0 d1,.slice A2 m d2,.slice A3 m d3]) U4 rfl ⟨A1,d1,A2,d2,A3,d3,by rw[fX];rfl,?_,bI bb.o (b:=w.heap.size+1) Rr _ _ _ _⟩;have s0:=(aT.1 bg.o).1;have e6:=dr.o;exact Y5
 by_cases h2:k=2
 .subst h2;rw[show eY ⟨2,v,true⟩=⟨2,[],[0,1],[1,0]⟩ from rfl];clear hl;go_enter func123,ntmps123
  go_upto_region 1 with(fail)
  generalize (w.alloc _).alloc _=W at U N Y ⊢;obtain⟨bo,c1,c2⟩:=aG N;have s0:=(aT.1 Y).1;have ct:=(U.alloc U.size (.cells jx 3)).alloc (by have:=U.size;simp;omega) (.cells ki 3);have cA:=(bJ (W.alloc (.cells jx 3)) (.cells ki 3) (k:=W.heap.size) Rq).trans (aC W _ rfl);have cB:=aC (W.alloc (.cells jx 3)) (.cells ki 3) (n:=W.heap.size+1) Rq;have hz:=(bJ (W.alloc (.cells jx 3)) (.cells ki 3) (k:=w.heap.size+1) RS).trans ((bJ W (.cells jx 3) s0).trans Y);have JD:W.heap.size+2=((W.alloc (.cells jx 3)).alloc (.cells ki 3)).heap.size:=Rq;clear U N Y;obtain⟨ce,ch,ci,cj⟩:=aA hz;obtain⟨f0,f1,f2,f3⟩:=bZ hz;have y:=cd (v0:=.int .i64 2) (v1:=bW) (v2:=.slice (some ⟨W.heap.size,0,none⟩) 2 2) (v3:=.slice (some ⟨W.heap.size+1,0,none⟩) 2 2) hz;obtain⟨a7,a8,a9,ba⟩:=aA y;unfold dC at a7 a8 a9 ba;obtain⟨c5,HF,F0,JC⟩:=fU (bI ct (b:=w.heap.size+1) Rr (.int .i64 2) (.slice none 0 0) (.slice (some ⟨W.heap.size,0,none⟩) 2 2) (.slice (some ⟨W.heap.size+1,0,none⟩) 2 2)) (Bv (g:=⟨2,[],[0,1],[1,0]⟩) (A1:=none) (Fr.all fun _=>au rfl) (uN (xs:=bt [0,1]) cA rfl (af _) (Rr:W.heap.size<W.heap.size+2)) (uN (xs:=bt [1,0]) cB rfl Rr Rr)) JD s0;clear y hz cA cB ct JD s0;go_wp2;refine aE (v:=.agg #[.int .i64 2,bW,.slice (some ⟨W.heap.size,0,none⟩) 2 2,.slice (some ⟨W.heap.size+1,0,none⟩) 2 2]) U4 rfl ⟨none,0,_,2,_,2,rfl,?_,c5.o⟩;exact Yi
 .obtain⟨a,bu⟩:=aM (nW ⟨k,v,true⟩);obtain⟨b,F⟩:=aM (qJ ⟨k,v,true⟩);have bq:3<=k/\k<=14:=by
   have:=hl;rw[<-DH]at this;unfold lwO at this;simp only[qz,jG,av h1,av h2]at this;by_cases cr:et k 3 14=true
   .simpa[et]using cr
   .rw[av cr]at this;cases this
  have ca:et k 3 14=true:=by simpa[et]using bq
  have cu:gwI k=(a:Nat):=by have:=(za7 hl).1;unfold lwA at this;simp only[qz,jG,av h1,av h2,ay ca]at this;rw[bu,this]
  have cz:gwO k=(b:Nat):=by have:=(za7 hl).2;unfold lwB at this;simp only[qz,jG,av h1,av h2,ay ca]at this;rw[F,this]
  have cb:=pT hl;have e2:a<=12:=by rw[bu];exact cb.1
  have E9:b<=12:=by rw[F];exact cb.2
  have c9:=zH (show eY ⟨k,v,true⟩=⟨a+b,[⟨k,v,List.range a,eC a b⟩],List.range a,eC a b⟩ by unfold eY eC;rw[av h1,av h2,bu,F])
  have db:=zH (fun(W:aa)=>(by have:=h_ k W bq.1 bq.2;rw[cu,cz]at this;exact this:aw 167 (bs k) W fun e w'=>e=.returned (.agg (gl a b))/\ag W w'));have e5:(k==1)=false:=Sl;have n2:(k==2)=false:=Sm;have e4:IntKind.i64.wrap ((a:Int)+b)=((a+b:Nat):Int):=Sq;clear cu cz bu F cb ca bq hl h1 h2;go_enter func123,ntmps123
  go_upto_region 1 with(fail)
  generalize (w.alloc _).alloc _=W at U N Y ⊢;obtain⟨bo,c1,c2⟩:=aG N;obtain⟨a1,bg⟩:=bD U Y;clear U N Y;go_upto_region 7 with(go_at_call 167;refine(db.o _).mono ?_;rintro e w2 ⟨rfl,F⟩;have hz:=ah bg.o F;have a0:=al F bo;have J:=al F c1;have bi:=zH hz;have bb:=zH (a1.o.trans (F.mono a1.o.size));clear hz F)
  have cc:=aC w2 (.cells (gl a b) 207) rfl;have b3:=bb.o.alloc bb.o.size (.cells (gl a b) 207);have br:=ah bi.o (ak w2 (.cells (gl a b) 207));have d0:=al (ak w2 (.cells (gl a b) 207)) a0;have d1:=al (ak w2 (.cells (gl a b) 207)) J;generalize w2.alloc _=ao at cc b3 br d0 d1 ⊢;obtain⟨cq,bp,-,-⟩:=dd cc;obtain⟨ck,dc⟩:=bD b3 br;have cF:w.heap.size+1<ao.heap.size:=(aT.1 br).1;have co:=zH cF;clear bo c1 c2 a0 J cc b3 br cF;have a3:=aF cq (aF bp (aF d0 d1));clear cq bp d0 d1;go_cut [4,5] from 21 (fun es ev h=>∃Z J ab ac,es=.slice Z a J/\ev=.slice ab b ac/\Fr h ao.heap.size h.heap.size (fun T=>aJ T Z (bt (List.range a)))/\Fr h ao.heap.size h.heap.size (fun T=>aJ T ab (bt (eC a b)))/\ag ao h)
  case first=>
   go_region_held3 (fun h=>ae h w2.heap.size 0 (.int .i64 (a:Nat))/\ae h w2.heap.size 1 (.int .i64 (b:Nat))/\ae h w.heap.size 0 (.int .i64 k)/\ae h w.heap.size 1 (.int .i64 v))
    (first|exact a3|exact fJ Fh.o a3|exact fJ D.o a3)
    ((first|(go_at_call 62;refine(pr a _ Rr).mono ?_;rintro e a6 ⟨u1,rfl,ad,EG⟩;obtain⟨Z,J,rfl,-⟩:=ad.view;rw[ee]at ad ⊢;have dT:=zH (ad.fr EG.size);have Fh:=zH ((az ao).trans EG);clear ad EG)|(go_at_call 66;refine(uF a b _ Rr Rr).mono ?_;rintro e ap ⟨u2,rfl,am,E9⟩;obtain⟨ab,ac,rfl,-⟩:=am.view;rw[aQ,dw]at am ⊢;have d4:=zH (am.fr E9.size);have a2:=zH E9;have D:=zH (Fh.o.trans (E9.mono Fh.o.size));clear am E9)))
   all_goals
    go_wp2_with fail
    go_meet
    exact⟨Z,J,ab,ac,rfl,rfl,(dT.o.later a2.o (af _)).to (af _) (af _),d4.o.to Fh.o.size (af _),D.o⟩
  case rest=>
   obtain⟨Z,J,ab,ac,rfl,rfl,b6,b7,a4⟩:=hcut;obtain⟨c7,c8,cn,dl⟩:=fU b6 b7 (ck.o.trans (a4.mono ck.o.size)) (ah dc.o a4);have G:=fJ a4 a3;have dq:=zH a4.size;have b8:=b6.now;have b9:=b7.now;obtain⟨ey,e0,c3,c4⟩:=fU b8 b9 (fun(h:aa) (b4:ag wc h)=>(by have:=ls Z J (bt (List.range a)) h (b8.ext b4) (by rw[aQ,fX];omega);rw[aQ,fX]at this;exact this:aw 71 (cg Z a J) h fun e w'=>∃u,e=.returned u/\aD w' h.heap.size u (bt (List.range a))/\ag h w')) (fun(h:aa) (b4:ag wc h)=>(by have:=ls ab ac (bt (eC a b)) h (b9.ext b4) SW;rw[aQ,dw]at this;exact this:aw 71 (cg ab b ac) h fun e w'=>∃u,e=.returned u/\aD w' h.heap.size u (bt (eC a b))/\ag h w'));clear b6 b7 a4 b8 b9 a3;obtain⟨bc,bd⟩:=bD (show w2.heap.size≠w.heap.size+1 by have:=(aT.1 bi.o).1;omega) (Rr:w.heap.size≠w.heap.size+1);have b0:=zH (show ∀(X:aa) (E:Nat) (O:aq) (H:Nat) (R:aq) (I:Nat),ag wc X->aW X (w.heap.size+1) bQ 54->
     aW X E (sx k v Z a J ab b ac) 155->wc.heap.size<=E->Fr X wc.heap.size X.heap.size (fun T=>aJ T O (bt (List.range a)))->Fr X wc.heap.size X.heap.size (fun T=>aJ T R (bt (eC a b)))->
     ∃A1 c1 A2 c2 A3 a0,(dC X (w.heap.size+1) (.int .i64 ((a:Int)+(b:Int))) (.slice (some ⟨E,0,none⟩) 1 1) (.slice O a H) (.slice R b I)).heap[w.heap.size+1]?=some (.cells #[.int .i64 ((a:Int)+(b:Int)),.slice A1 1 c1,.slice A2 a c2,.slice A3 b a0] 54 (0,0))/\
      Fr (dC X (w.heap.size+1) (.int .i64 ((a:Int)+(b:Int))) (.slice (some ⟨E,0,none⟩) 1 1) (.slice O a H) (.slice R b I)) ao.heap.size (dC X (w.heap.size+1) (.int .i64 ((a:Int)+(b:Int))) (.slice (some ⟨E,0,none⟩) 1 1) (.slice O a H) (.slice R b I)).heap.size (fun T=>j6 T A1 A2 A3 ⟨a+b,[⟨k,v,List.range a,eC a b⟩],List.range a,eC a b⟩)/\
      Below w.heap.size w (dC X (w.heap.size+1) (.int .i64 ((a:Int)+(b:Int))) (.slice (some ⟨E,0,none⟩) 1 1) (.slice O a H) (.slice R b I)) from fun X E O H R I b5 d7 V e1 d9 ea=>by
    have d6:=(aT.1 V).1;have e7:=co.o;have cO:=dq.o;have bp:Fr X ao.heap.size X.heap.size (fun h=>bF 4 yp h (some ⟨E,0,none⟩) [⟨k,v,List.range a,eC a b⟩]):=
     zcu (e:=⟨k,v,List.range a,eC a b⟩) (c1:=J) (c2:=ac) (by rw[show(List.range a).length=a from fX ..,show(eC a b).length=b from dw ..];exact V) Rr d6 (c7.o.later b5 (af _)) (c8.o.later b5 (af _))
    have g:=Bv (g:=⟨a+b,[⟨k,v,List.range a,eC a b⟩],List.range a,eC a b⟩) bp (d9.to cO (af _)) (ea.to cO (af _));refine⟨_,1,O,H,R,I,cd d7,?_,bI (cn.o.trans (b5.mono cn.o.size)) Rr _ _ _ _⟩;rw[dV];exact g.dC Rr)
   go_upto_region 8 with(fail)
   go_cut [] from 29 (fun h=>∃A1 c1 A2 c2 A3 a0,aW h (w.heap.size+1) #[.int .i64 ((a:Int)+(b:Int)),.slice A1 1 c1,.slice A2 a c2,.slice A3 b a0] 54/\Fr h ao.heap.size h.heap.size (fun T=>j6 T A1 A2 A3 ⟨a+b,[⟨k,v,List.range a,eC a b⟩],List.range a,eC a b⟩)/\ag w h)
   case first=>
    go_region_held3 (fun h=>ae h w2.heap.size 0 (.int .i64 (a:Nat))/\ae h w2.heap.size 1 (.int .i64 (b:Nat))/\ae h w.heap.size 0 (.int .i64 k)/\ae h w.heap.size 1 (.int .i64 v))
     (first|with_reducible exact G|with_reducible exact fJ (az _) G|with_reducible exact fJ (ak _ _).drew G|with_reducible exact fJ Fh.o G|with_reducible exact fJ (Fh.o.alloc Fh.o.size _) G|with_reducible exact fJ D.o G|with_reducible exact fJ (D.o.alloc D.o.size _) G|with_reducible exact⟨dg bc.o (fJ D.o G).1,dg bc.o (fJ D.o G).2.1,dg bd.o (fJ D.o G).2.2.1,dg bd.o (fJ D.o G).2.2.2⟩|with_reducible exact⟨dg bc.o (fJ (D.o.alloc D.o.size _) G).1,dg bc.o (fJ (D.o.alloc D.o.size _) G).2.1,dg bd.o (fJ (D.o.alloc D.o.size _) G).2.2.1,dg bd.o (fJ (D.o.alloc D.o.size _) G).2.2.2⟩)
     ((first|(go_at_call 71;refine(c3.o _ V8).mono ?_;rintro e a6 ⟨u1,rfl,ad,EG⟩;obtain⟨O,H,rfl,-⟩:=ad.view;have Fh:Hd (ag wc a6):=Wj;have b1:=zH ((ad.fr EG.size).to (lo':=wc.heap.size) Rq (af _));(first|(have V:=ah (ja wc _) EG;have c6:=zH V;clear V)|skip);rw[aQ,fX]at ad ⊢;clear ad EG)|(go_at_call 71;refine(c4.o _ Wd).mono ?_;rintro e ap ⟨u2,rfl,am,E9⟩;obtain⟨R,I,rfl,-⟩:=am.view;have D:Hd (ag wc ap):=Wk;have a2:Hd (ag a6 ap):=Wi;have b2:=zH ((am.fr E9.size).to (lo':=wc.heap.size) (by have:=Fh.o.size;(try simp)<;>omega) (af _));(first|(have V:=ah c6.o E9;have bz:=zH V;clear V)|(have V:=ah (aC a6 _ rfl) E9;have bz:=zH V;clear V)|skip);have hz:=ah dl.o D.o;obtain⟨ce,ch,ci,cj⟩:=aA hz;obtain⟨f0,f1,f2,f3⟩:=bZ hz;have bv:=ah hz (ak ap (.cells (sx k v Z a J ab b ac) 155));obtain⟨eb,eg,p2,ei⟩:=aA bv;obtain⟨ej,ek,em,eo⟩:=bZ bv;have cp:=zH hz;have d5:=zH bv;rw[aQ,dw]at am ⊢;clear hz bv am E9)))
    all_goals
     clear eb eg p2 ei ej ek em eo ce ch ci cj f0 f1 f2 f3;go_wp2_with fail
     go_meet
     first
      |with_reducible exact b0.o ap wc.heap.size O H R I D.o cp.o bz.o (af _) (b1.o.later a2.o (af _)) b2.o
      |with_reducible exact b0.o ap a6.heap.size O H R I D.o cp.o bz.o Fh.o.size (b1.o.later a2.o (af _)) b2.o
      |with_reducible exact b0.o _ ap.heap.size O H R I (D.o.alloc D.o.size _) d5.o (aC ap _ rfl) D.o.size ((b1.o.later a2.o (af _)).later (ak _ _) (af _)) (b2.o.later (ak _ _) (af _))
   case rest=>
    obtain⟨A1,H,A2,I,A3,cI,N,a5,F⟩:=hcut;obtain⟨a7,a8,a9,ba⟩:=aA N;obtain⟨HF,c0⟩:=bD a5 F;clear N a5 F;go_wp2;refine aE (v:=.agg #[.int .i64 ((a:Int)+(b:Int)),.slice A1 1 H,.slice A2 a I,.slice A3 b cI]) U4 rfl ?_;rw[c9.o];refine⟨A1,H,A2,I,A3,cI,?_,HF.o.to (by have:=co.o;omega) (af _),c0.o⟩;exact XM
def qQ(w:aa)(B h:Nat)(P:iT):Prop:=∃lo hi,B<=lo/\hi<=w.heap.size/\(h<lo∨hi<=h)/\Fr w lo hi P
theorem qQ.ext{P:iT}(h:qQ w B H P)(hb:ag w w'):qQ w' B H P:=XN
theorem qQ.set{a:dk}{P:iT}(h:qQ w B a.block P):qQ (w.setCell a v) B a.block P:=by obtain⟨lo,hi,D,h2,F,G⟩:=h;exact⟨lo,hi,D,Sm,F,G.same fun k a b=>aZ _ _ _ _ Rr⟩
theorem qQ.zcl{P:iT}(h:qQ w B H P)(J:b<B):qQ (dC w b v0 v1 v2 v3) B H P:=by obtain⟨lo,hi,D,F,G,I⟩:=h;exact⟨lo,hi,D,by rw[dV];exact F,G,I.same fun k a b=>nr Rr⟩
theorem qQ.mk{P:iT}(h:Fr w lo hi P)(D:B<=lo)(F:hi<=w.heap.size)(G:H<lo∨hi<=H):qQ w B H P:=⟨lo,hi,D,F,G,h⟩
theorem qQ.mk4{P:iT}(h:Fr w lo hi P)(D:B<=lo)(F:hi<=w.heap.size)(G:H<lo∨hi<=H):qQ (dC w H v0 v1 v2 v3) B H P:=⟨lo,hi,D,by rw[dV];exact F,G,h.same fun k a b=>nr Rr⟩
theorem qQ.late{P:iT}(D:qQ w B H P)(h:bn H (H+1) w w')(N:B<=H):qQ w' B H P:=by obtain⟨lo,hi,F,G,I,J⟩:=D;exact⟨lo,hi,F,aR G h.size,I,J.same fun k a b=>h.block k Rr Rr⟩
theorem qQ.all{P:iT}(h:qQ w B H P):Fr w B w.heap.size P:=by obtain⟨lo,hi,D,F,I,G⟩:=h;exact G.to D F
theorem qQ.grown{P:iT}(F:qQ w B H P)(D:w.grownBy w' row)(N:∀g,row=some g->w.heap.size<=g):qQ w' B H P:=by obtain⟨lo,hi,G,h,I,J⟩:=F;exact⟨lo,hi,G,aR h D.size,I,J.grown D h fun g e=>by have:=N g e;omega⟩
theorem bn.low{a b c:aa}(h:bn lo hi a b)(k:Below a.heap.size b c):bn lo hi a c:=⟨k.os.trans h.os,k.tape.trans h.tape,k.output.trans h.output,aR h.size k.size,fun i D F=>(k.block i D).trans (h.block i D F)⟩
theorem zbe{G:Type}{F:du}{E:World->G->List Value->Prop}{xs:List G}(h:aV Rk s E w B v xs)(J:aW w H cs F)(I:Rk≠F):v.ownBlock≠some H:=by
 obtain⟨cs,h⟩:=h;rcases h.outer.2 with⟨rfl,_⟩|⟨g,cap,N,rfl,_,D,_⟩
 .simp[Value.ownBlock]
 .intro e;simp only[Value.ownBlock,dZ]at e;rw[e,J]at D;simp only[dZ,Obj.cells.injEq]at D;exact I D.2.1.symm
def zez(g:Gr)(w:aa)(e:Ending)(w':aa):Prop:=∃A1 c1 h c2 D F,e=.returned (.agg (bl g A1 c1 h c2 D F))/\
 aV 155 4 yp w' w.heap.size (.slice A1 g.es.length c1) g.es/\Fr w' w.heap.size w'.heap.size (fun W=>aJ W h (bt g.i))/\Fr w' w.heap.size w'.heap.size (fun W=>aJ W D (bt g.o))/\ag w w'
theorem zez.gr{e:Ending}(h:zez g w e w'):sL g w e w':=by obtain⟨A1,c1,F,c2,G,H,I,J,N,O,D⟩:=h;exact⟨A1,c1,F,c2,G,H,I,Bv (J.fr (fun _ _ _ _ R h=>h.ext R) D.size) N O,D⟩
def Ei(t:aH)(f:ir)(g:Gr):Prop:=∀x,g.On x->t[x]?=some ((f x:Nat):Int)
theorem tu{t:aH}{f:ir}(h:∀x∈l,t[x]?=some ((f x:Nat):Int)):og t (bt l)=bt (l.map f):=by
 unfold og bt;rw[oP,oP];refine kZ fun x D=>?_
 simp[h x D]
theorem zv{t:aH}{f:ir}(h:∀x∈l,t[x]?=some ((f x:Nat):Int)):∀i∈bt l,0<=i/\i<t.length:=fun i hi=>by obtain⟨x,D,rfl⟩:=cM.1 hi;have:=(bG.1 (h x D)).1;omega
theorem pF(t:aH)(f:ir)(l:bO)(A:aq)(cap n:Nat)(D:aq)(H:Nat)(w:aa)(R:n=t.length)(O:aJ w A t)(N:aJ w D (bt l))(T:t.length<=1048576)(hm:l.length<=1048576)(J:∀x∈l,t[x]?=some ((f x:Nat):Int)):aw 164 #[.slice D l.length H,.slice A n cap] w fun e w'=>∃h F,e=.returned (.slice h l.length F)/\Fr w' w.heap.size w'.heap.size (fun W=>aJ W h (bt (l.map f)))/\ag w w':=by subst R;have:=zbq t A cap (bt l) D H w O N T SP (zv J);rw[aQ]at this;refine this.mono ?_;rintro e w' ⟨u,rfl,G,I⟩;rw[tu J]at G;obtain⟨h,F,rfl,-⟩:=G.view;refine⟨h,F,RR,G.fr I.size,I⟩
theorem wU(g:Gr)(N:Nat)(t:aH)(f:ir)(A1 O R Y:aq)(c1 c2 ab a0:Nat)(w:aa)(bc:j6 w A1 O R g)(bd:aJ w Y t)(a2:Ei t f g)(ct:t.length<=65536)(c4:g.w<=65536)(c0:N<=65536)(ad:g.es.length<=65536)(hi:g.i.length<=65536)(ho:g.o.length<=65536)(bv:∀e∈g.es,e.i.length<=65536/\e.o.length<=65536):aw 205 #[.agg (bl g A1 c1 O c2 R ab),N,.slice Y t.length a0] w (zez (g.map N f) w):=by
 obtain⟨bb,es,G,go⟩:=g;dsimp only at *;have bq:∀x∈G,t[x]?=some ((f x:Nat):Int):=fun x U=>a2 x (au U)
 have br:∀x∈go,t[x]?=some ((f x:Nat):Int):=fun x U=>a2 x (an (au U))
 have LE:∀e∈es,(∀x∈e.i,t[x]?=some ((f x:Nat):Int))/\∀x∈e.o,t[x]?=some ((f x:Nat):Int):=fun e b2=>⟨fun x U=>a2 x (an (an ⟨e,b2,au U⟩)),fun x U=>a2 x (an (an ⟨e,b2,an U⟩))⟩
 have a1:=((aj w.heap.size w).alloc (af _) (.cells (oF bb A1 es c1 O G c2 R go ab) 54)).alloc Rq (.cells bQ 54);have a7:=(bJ (w.alloc (.cells (oF bb A1 es c1 O G c2 R go ab) 54)) (.cells bQ 54) (k:=w.heap.size) Rq).trans (aC w _ rfl);have a8:=aC (w.alloc (.cells (oF bb A1 es c1 O G c2 R go ab) 54)) (.cells bQ 54) (n:=w.heap.size+1) Rq;obtain⟨ao,ap,ci,cb⟩:=fU (bc.ext a1) (bd.ext a1) LE bv;have cq:G.length<=1048576:=Rr;have cr:go.length<=1048576:=Rr;have a6:t.length<=1048576:=Rr;obtain⟨ch,bp⟩:=bD bc bd;clear bc bd a2 LE bv hi ho ct;go_enter func205,ntmps205
 go_upto_region 1 with(fail)
 generalize (w.alloc _).alloc _=W at a1 a7 a8 ao ap ⊢;obtain⟨x0,x1,x2,x3⟩:=aA a7;obtain⟨a3,cn,ck,Fb,bi,bo⟩:=kE a1 a8 a7 (show w.heap.size+2<=W.heap.size from(aT.1 a8).1) (fun(V:aa) (hV:ag W V)=>pF t f G Y a0 t.length O c2 V rfl (ap.o.ext hV) (ao.o.i.ext hV) a6 cq bq) (fun(V:aa) (hV:ag W V)=>pF t f go Y a0 t.length R ab V rfl (ap.o.ext hV) (ao.o.o.ext hV) a6 cr br);have S0:=aF x2 x3;clear a1 a8 a7 x0 x1 x2 x3 bq br;go_cut [7] from 10 (fun cu V=>∃Z D I F J,cu=.pointer (some ⟨Z,0,none⟩)/\aW V Z #[.int .i64 N,.slice none 0 0,.slice D G.length I,.slice F go.length J] 54/\W.heap.size<=Z/\qQ V W.heap.size Z (fun ba=>aJ ba D (bt (G.map f)))/\qQ V W.heap.size Z (fun ba=>aJ ba F (bt (go.map f)))/\ag W V)
 case first=>
  go_region_held3 (fun V=>ae V w.heap.size 2 (.slice O G.length c2)/\ae V w.heap.size 3 (.slice R go.length ab))
   (first|with_reducible exact S0|with_reducible exact ju (az _) S0|with_reducible exact ju (ak _ _).drew S0|with_reducible exact ju Fh.o S0|with_reducible exact ju (Fh.o.alloc Fh.o.size _) S0|with_reducible exact ju Hp.o S0|with_reducible exact ju (Hp.o.alloc Hp.o.size _) S0|with_reducible exact ju (bI Hp.o (af _) _ _ _ _) S0|with_reducible exact ju (bI Hp.o Fh.o.size _ _ _ _) S0)
   ((first|(go_at_call 164;refine(bi.o _ V8).mono ?_;rintro e w7 ⟨D,I,rfl,FJ,EG⟩;have Fh:Hd (ag W w7):=Wj;have FI:=zH FJ;have FU:=zH EG;clear FJ EG)|(go_at_call 164;refine(bo.o _ Wd).mono ?_;rintro e w8 ⟨F,J,rfl,Fa,E9⟩;have Hp:Hd (ag W w8):=Wk;have Hs:Hd (ag w7 w8):=Wi;have FK:=zH Fa;have cB:=zH E9;(first|(have H:=ah (ah (ja W _) FU.o) E9;obtain⟨b5,b6,b7,b8⟩:=aA H;obtain⟨f0,f1,f2,f3⟩:=bZ H;have HZ:=zH H;clear H)|(have H:=ah (aC w7 _ rfl) E9;obtain⟨b5,b6,b7,b8⟩:=aA H;obtain⟨f0,f1,f2,f3⟩:=bZ H;have HZ:=zH H;clear H)|skip);clear Fa E9)))
  all_goals
   go_wp2_with fail
   go_meet
   first
    |with_reducible exact⟨w8.heap.size,D,I,F,J,rfl,aC w8 _ rfl,Hp.o.size,qQ.mk ((FI.o.ext Hs.o (af _)).ext (ak _ _) Hs.o.size) (af _) (aR Hs.o.size (ak _ _).size) (an Hs.o.size),qQ.mk (FK.o.ext (ak _ _) (af _)) Fh.o.size (ak _ _).size (an (af _)),Hp.o.alloc Hp.o.size _⟩
    |with_reducible exact⟨w7.heap.size,D,I,F,J,rfl,cd HZ.o,Fh.o.size,qQ.mk4 (FI.o.ext Hs.o (af _)) (af _) Hs.o.size (an (af _)),qQ.mk4 FK.o (aR Fh.o.size (ak _ _).size) (af _) (au Rq),bI Hp.o Fh.o.size _ _ _ _⟩
    |with_reducible exact⟨W.heap.size,D,I,F,J,rfl,cd HZ.o,af _,qQ.mk4 (FI.o.ext Hs.o (af _)) (ak _ _).drew.size Hs.o.size (au Rq),qQ.mk4 FK.o Fh.o.size (af _) (au Vh),bI Hp.o (af _) _ _ _ _⟩
 case rest=>
  obtain⟨Z,D,I,F,J,rfl,H,bu,bz,b0,ac⟩:=hcut;obtain⟨cc,ce,bg,HZ,co⟩:=mD bz b0 ac bu (ah cn.o ac);have b4:=(aT.1 H).1;have Hu:=zH b4;have S1:=(aA (ah ck.o ac)).2.1;obtain⟨z0,z1,z2,z3⟩:=aA H;obtain⟨cz,cF⟩:=bD (ao.o.ext ac) (ap.o.ext ac);clear bz b0 ac bu b4 bi bo S0 ao ap;have cA:=zH (show(es.map (Ed.map f)).length=es.length from bh ..);go_wp2;go_loopw [23] (fun i wr=>∃k:Nat,k<=es.length/\i=.int .i64 k/\(∃C1 m1,aW wr Z #[.int .i64 N,.slice C1 k m1,.slice D G.length I,.slice F go.length J] 54/\aV 155 4 yp wr wc.heap.size (.slice C1 k m1) ((es.map (Ed.map f)).take k))/\bn Z (Z+1) wc wr) (fun i _=>es.length-(intOf i).toNat)
  case atStart=>exact⟨0,aX _,rfl,⟨none,0,H,aV.nil _ _ _ _ _⟩,bn.refl _ _ _⟩
  case round=>
   obtain⟨k,c3,rfl,⟨C1,m1,am,EF⟩,T⟩:=hrel;clear z0 z1 z2 z3 H S1;have a5:ag w wr:=(a3.o.trans (bg.o.mono a3.o.size)).trans (T.below UN (a3.o.trans (bg.o.mono a3.o.size)).size);have FO:=T.size;by_cases cp:k<es.length
   .obtain⟨e,ad⟩:=aB cp;obtain⟨cI,cO,D1,d1,D2,d2,rfl,x0,x1,x2,x3,hi1,hi2⟩:=gZ ((ch.o.ext a5).es) ad;obtain⟨L1,L2⟩:=ci.o e (aY ad);obtain⟨N1,N2⟩:=cb.o e (aY ad);have E_:=zH (by rw[dH,cC,ad];rfl:(es.map (Ed.map f)).take (k+1)=(es.map (Ed.map f)).take k++[e.map f]);have b1:((es.map (Ed.map f)).take k).length=k:=by rw[cG,bh];omega
    obtain⟨Hw,a4,Gs,H8,Ho⟩:=mD b1 a5 T EF am;have c5:=(aT.1 am).1;obtain⟨ek,ev,ei,FR⟩:=e;dsimp only at x0 x1 x2 x3 hi1 hi2 L1 L2 N1 N2;obtain⟨FC,FT⟩:=bA wr (.cells (eD ek ev D1 ei d1 D2 FR d2) 155);have c6:Z≠wr.heap.size:=Rr;clear ad b1 EF T am a5;go_upto_region 5 with(fail)
    generalize wr.alloc _=w2 at FC FT ⊢;obtain⟨Gq,H7,Fv⟩:=dO FC (fun(V:aa) (hV:ag wr V)=>pF t f ei Y a0 t.length D1 d1 V rfl (bp.o.ext (a4.o.trans (hV.mono a4.o.size))) (hi1.ext hV) a6 Rr L1) (fun(V:aa) (hV:ag wr V)=>pF t f FR Y a0 t.length D2 d2 V rfl (bp.o.ext (a4.o.trans (hV.mono a4.o.size))) (hi2.ext hV) a6 Rr L2);exact Z8
   .obtain rfl:k=es.length:=Rr;obtain⟨z0,z1,z2,z3⟩:=aA am;have a9:=iY co.o T (au UN);have c7:Z<wr.heap.size:=(aT.1 am).1;obtain⟨b5,b6,b7,b8⟩:=aA a9;obtain⟨f0,f1,f2,f3⟩:=bZ a9;have y:=cd (v0:=.int .i64 N) (v1:=.slice C1 es.length m1) (v2:=.slice D G.length I) (v3:=.slice F go.length J) a9;obtain⟨y0,y1,y2,y3⟩:=aA y;obtain⟨ca,Gs⟩:=bD (bI a5 (b:=w.heap.size+1) Rr (.int .i64 N) (.slice C1 es.length m1) (.slice D G.length I) (.slice F go.length J)) T;have b3:aV 155 4 yp wr wc.heap.size (.slice C1 es.length m1) (es.map (Ed.map f)):=WI;have cj:=zH b3;clear y am a9 T EF b3;go_wp2;have c8:=Fb.o;have b9:=HZ.o;have c9:=Hu.o;refine aE (v:=.agg (oF N C1 es m1 D G I F go J)) (by simp[results,results205,go_sem, *]) rfl ⟨C1,m1,D,I,F,J,?_,?_,?_,?_,ca.o⟩
    .show Ending.returned (Value.agg #[_,Value.slice C1 _ m1,Value.slice D _ I,Value.slice F _ J])=Ending.returned (Value.agg #[_,Value.slice C1 (es.map (Ed.map f)).length m1,Value.slice D (G.map f).length I,Value.slice F (go.map f).length J])
     rw[bh,bh,bh];rfl
    .show aV _ _ _ _ _ (Value.slice C1 (es.map (Ed.map f)).length m1) (es.map (Ed.map f))
     rw[bh];exact(((((cj.o.setCell (a:=⟨w.heap.size+1,0,none⟩) (by show w.heap.size+1<_;omega) _).setCell (a:=⟨w.heap.size+1,1,none⟩) (by show w.heap.size+1<_;omega) _).setCell (a:=⟨w.heap.size+1,2,none⟩) (by show w.heap.size+1<_;omega) _).setCell (a:=⟨w.heap.size+1,3,none⟩) (by show w.heap.size+1<_;omega) _).mono Rr)
    .exact((cc.o.late Gs.o b9).zcl (b:=w.heap.size+1) Rr).all.to Rr (af _)
    .exact((ce.o.late Gs.o b9).zcl (b:=w.heap.size+1) Rr).all.to Rr (af _)
end Go.Proofs.YtpieilkmmiopfaaGreatDoor
