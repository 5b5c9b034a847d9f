/- Parts of the walks. Conditions: as stated with each. -/
import Derived.Test.YtdpgblncijojiaaGreatDoorPk26
import Derived.Test.YtdpgblncijojiaaGreatDoorPk31
import Derived.Test.YtdpgblncijojiaaGreatDoorPk32
import Derived.Test.YtdpgblncijojiaaGreatDoorPk34
import Derived.Test.YtdpgblncijojiaaGreatDoorPk35
namespace Go.Proofs.YtdpgblncijojiaaGreatDoor
open Go.RowKit Tryz
set_option linter.all false
set_option maxHeartbeats 4000000
set_option maxRecDepth 100000
variable{A RJ:an}{B b c k n r:Nat}{g:Gr}{p:Int}{q:Sy×List cS}{s:Sy}{w w':aa}{xs:aG}
def rC.of(h:g.okB=true):rC g:=by
 have z:=(Gr.nv h);have D:mH g=true:=by rw[<-z.okB];exact h
 unfold mH at D;simp only[bC,cK]at D;exact⟨z.inr,RU,RU,RU,RU,fun e E=>by have:=G1.el z e E;omega⟩
def zbz(L:List jJ)(A:an)(cap:Nat)(w:aa)(ao:dp 3 nl w A L)(be:L.length<=1048576):aw 174 (cJ (bL A L cap)) w (zg1 L w):=by
 have U:=((aj w w).alloc (ag _) (.cells (bL A L cap) 176)).alloc RS (.cells ow 202);have Z:=(b_ (w.alloc (.cells (bL A L cap) 176)) (.cells ow 202) (k:=w.heap.size) RS).trans (az w _ rfl);have D:=az (w.alloc (.cells (bL A L cap) 176)) (.cells ow 202) (n:=(w:Nat)+1) RS;have a1:=zH (fun V (bb:ai w V)=>zbi L A cap V (dI ao bb) be);clear ao;go_enter func174,ntmps174
 go_upto_region 1 with(fail)
 generalize (w.alloc _).alloc _=W at U Z D ⊢;have bv:=du Z 0 rfl;obtain⟨F,a3,a4⟩:=d_ U D (show(w:Nat)+1<W from(aM.1 D).1);clear U Z D;go_wp2_with ((go_at_call 185;(with_reducible refine(a1.o _ F.o).mono ?_);intro e br h;unfold zg1 at h;obtain⟨E,ab,J,H,ac,O,I,ad,Q,a5,Y,ap⟩:=h;subst a5;have z:=ak a3 Y;obtain⟨bm,bo,bp⟩:=aq z;have f0:=aP z 0;have f1:=aP z 1;have f2:=aP z 2;have y:=f_ (v0:=.slice E ab J) (v1:=.slice H ac O) (v2:=.slice I ad Q) z;obtain⟨u0,u1,u2⟩:=aq y;have a2:=zH ap;have a0:=zH (cC F Y);clear Y z y ap))
 refine ax (v:=.tuple #[.agg #[.slice E ab J,.slice H ac O,.slice I ad Q],.bool (pc (dY L))]) (by simp[results,results174,go_sem, *]) rfl ⟨E,ab,J,H,ac,O,I,ad,Q,rfl,((a0.setCell (p:=⟨(w:Nat)+1,0,none⟩) (by show(w:Nat)<=w+1;omega) _).setCell (p:=⟨(w:Nat)+1,1,none⟩) (by show(w:Nat)<=w+1;omega) _).setCell (p:=⟨(w:Nat)+1,2,none⟩) (by show(w:Nat)<=w+1;omega) _,fun h=>?_⟩;obtain⟨s,T,a6,a7,a8,a9,am,R⟩:=a2 h;refine⟨s,T,a6,a7,a8,a9,fun a e=>bc F.size (am a e),?_⟩;rcases R with R|⟨b,o,e,bd⟩
 .exact aF R
 .subst e;refine BE (aA ⟨b,o,rfl,bd⟩) fun e=>?_
  have ba:=am _ rfl;have bi:=a4.o;cases e
  dsimp only at ba;omega



def jX.ext{rows:aE}(h:jX w A rows)(z:ai w w'):jX w' A rows:=h.imp id fun⟨b,o,e,I⟩=>⟨b,o,e,fun k r J=>by obtain⟨D,cap,E,F,H⟩:=I k r J;exact⟨D,cap,av z E,F,H.ext z⟩⟩
def eE.frC{rows:aE}(h:eE w B A rows)(z:B<=(w:Nat)):Fr w B w (fun W=>jX W A rows):=nH (fun W D=>h W D) (fun _ _ E h=>h.ext E) z


def mN(h:aT w RJ xs)(l:Nat):aT w RJ (xs.take l):=by
 rcases h with h|⟨b,o,e,z⟩
 .exact aF (by rw[h];simp)
 .exact aA ⟨b,o,e,fun k x D=>z k x (ot D)⟩
def Cb{o:Nat}(h:aT w (some ⟨b,o,none⟩) xs)(l:Nat):aT w (some ⟨b,o+l,none⟩) (xs.drop l):=by
 rcases h with h|⟨E,F,e,D⟩
 .exact aF (by rw[h];simp)
 .cases e
  refine aA ⟨b,o+l,rfl,fun k x z=>?_⟩;rw[fL]at z;have:=D _ x z;rwa[<-pW]at this

def BO{p:Int}{x:cS}:∀(X:List cS) (s:Sy),bO p s X=X.length->eI p (dC p s X X) x=true->bO p s (X++[x])=X.length+1/\dC p s (X++[x]) (X.length+1)=cE p (dC p s X X) x
 |[],s,_,z=>by
  have z:eI p s x=true:=z;refine⟨?_,rfl⟩
  show bO p s [x]=1
  unfold bO;rw[ay z];rfl
 |y::X,s,hb,z=>by
  unfold bO at hb;split at hb
  .rename_i I;have F:bO p (cE p s y) X=X.length:=Sr;have H:eI p (dC p (cE p s y) X X) x=true:=z;obtain⟨D,E⟩:=BO X _ F H;refine⟨?_,E⟩
   show bO p s (y::(X++[x]))=_
   unfold bO;rw[ay I,D];rfl
  .simp at hb
structure zf5(p:Int)(s:Sy)(q:Sy×List cS):Prop where
 bad:bO p s q.2=q.2.length
 sys:dC p s q.2 q.2=q.1
def zbG(p:Int)(s:Sy):zf5 p s (s,[]):=⟨rfl,rfl⟩
def zd9{x:cS}(h:zf5 p s q)(E:eI p q.1 x=true):zf5 p s (push p q x):=by
 obtain⟨D,z⟩:=BO q.2 s h.bad (by rw[h.sys];exact E);rw[h.sys]at z;refine⟨?_,?_⟩
 .show bO p s (q.2++[x])=(q.2++[x]).length
  rw[D];simp
 .show dC p s (q.2++[x]) (q.2++[x])=cE p q.1 x
  rw[bQ];exact z
def zd_{v:Int}(h:Inv2 p v c r s)(H:dU s c r=s.rows.length):Inv2 p v (c+1) r s:=by
 obtain⟨f1,f2,f3,_⟩:=gy s c r h.hr;refine⟨h.ok,h.hh,h.hv,h.hr,fun d F j z E=>?_⟩;by_cases D:d=c
 .subst D;exact f3 j z RU
 .exact h.z d RU j z E

def zD(A A2:an)(cap z:Nat)(xs ys:aG)(w:aa)(h:aT w A xs)(h2:aT w A2 ys)(E:xs.length<=maxLen)(F:ys.length<=maxLen):aw 120 (rV A xs cap A2 ys z) w (fC w (decide (xs=ys))):=by
 unfold maxLen at E F;by_cases hn:xs.length=ys
 .have D:((xs:Int)!=(ys:Int))=false:=R_;have Hn:=zH hn;clear hn;go_enter func120,ntmps120
  exact Z3
 .have D:((xs:Int)!=(ys:Int))=true:=Sk;go_enter func120,ntmps120
  exact XH
def kE(x y:cS):Bool:=decide (x.k=y.k)&&(decide (x.a=y.a)&&(decide (x.b=y.b)&&(decide (x.c=y.c)&&decide (x.row=y.row))))
def vg(p:Int)(l:List (cS×Sy))(x:cS)(t:Sy):List (cS×Sy):=
 match l.getLast? with
 |some q=>if kE (dL p q.2 q.1) x=true then l.dropLast else l++[(x,t)]
 |none=>[(x,t)]
def j5(p:Int)(s:Sy)(xs:List cS):Nat->List (cS×Sy)
 |0=>[]
 |k+1=>match xs[k]? with
  |some x=>vg p (j5 p s xs k) x (dC p s xs k)
  |none=>j5 p s xs k
def rQ{xs:List cS}{x:cS}(h:xs[k]?=some x):j5 p s xs (k+1)=vg p (j5 p s xs k) x (dC p s xs k):=by rw[j5,h]
def zef(p:Int)(l:List (cS×Sy))(x:cS)(t:Sy):(vg p l x t).length<=l+1:=by
 unfold vg;split
 .split
  .simp;omega
  .simp
 .simp
def vh(p:Int)(s:Sy)(xs:List cS):∀k,(j5 p s xs k).length<=k
 |0=>ag _
 |k+1=>by
  have:=vh p s xs k;rw[j5];split
  .rename_i x _;have:=zef p (j5 p s xs k) x (dC p s xs k);omega
  .omega
def zeg{l:List (cS×Sy)}{x:cS}{t:Sy}{q:cS×Sy}(h:q∈vg p l x t):q∈l∨q=(x,t):=by
 unfold vg at h;split at h
 .split at h
  .exact aF (List.dropLast_subset _ h)
  .simpa using h
 .exact aA So
def zK{p:Int}{s:Sy}{xs:List cS}(D:s.Ok p):∀(k:Nat),k<=bO p s xs->∀q∈j5 p s xs k,q.1∈xs/\q.2.Ok p/\eI p q.2 q.1=true
 |0,_,q,h=>by simp[j5]at h
 |k+1,E,q,h=>by
  have F:=fj p xs s;obtain⟨x,z⟩:=aB (RU:k<xs.length);rw[rQ z]at h;rcases zeg h with h|h
  .exact zK D k RU q h
  .subst h;exact⟨a_ z,jG D RU,vP RU z⟩
def BV(p:Int)(x:cS)(t:Sy):vg p [] x t=[(x,t)]:=rfl
def zL{l:List (cS×Sy)}{x:cS}{t:Sy}{q:cS×Sy}(z:l.length=n+1)(D:l[n]?=some q):vg p l x t=if kE (dL p q.2 q.1) x=true then l.take n else l++[(x,t)]:=by unfold vg;rw[List.getLast?_eq_getElem?,z,Nat.add_sub_cancel,D,List.dropLast_eq_take,z,Nat.add_sub_cancel]
def zM(x y:cS)(A A2:an)(cap Q:Nat)(w:aa)(h:aT w A x.row)(Y:aT w A2 y.row)(a0:x.row.length<=maxLen)(a1:y.row.length<=maxLen):aw 93 (kg (bB x.k x.a x.b x.c A x.row cap) (bB y.k y.a y.b y.c A2 y.row Q)) w (fC w (kE x y)):=by
 have J:=((aj w w).alloc RS (.cells (bB x.k x.a x.b x.c A x.row cap) 29)).alloc RS (.cells (bB y.k y.a y.b y.c A2 y.row Q) 29);obtain⟨H,U⟩:=bS J (zD A A2 cap Q x.row y.row _ (h.ext J) (Y.ext J) a0 a1);clear J h Y;by_cases hk:x.k=y.k
 .have ap:(x.k==y.k)=true:=Sb;have z:=zH (iy hk);clear hk;by_cases D:x.a=y.a
  .have ad:(x.a==y.a)=true:=by simp[D]
   have F:=zH (iy D);clear D;by_cases E:x.b=y.b
   .have am:(x.b==y.b)=true:=by simp[E]
    have I:=zH (iy E);clear E;by_cases hc:x.c=y.c
    .have ao:(x.c==y.c)=true:=Sc;have O:=zH (iy hc);clear hc;obtain⟨q,R⟩:=aO (decide (x.row=y.row));rw[<-R]at U;have ac:=zH R;clear R;go_enter func93,ntmps93
     go_wp2_with (go_at_call 120;refine U.o.mono ?_;rintro e a2 ⟨rfl,Z⟩;have ab:=zH (af H.o Z);clear Z)
     go_ret
     exact⟨aS (by rw[kE,z.o,F.o,I.o,O.o,<-ac.o];rfl),ab⟩
    .have ao:(x.c==y.c)=false:=Sc;have O:=zH (gM hc);clear hc;go_enter func93,ntmps93
     go_wp2;go_ret
     exact⟨aS (by rw[kE,z.o,F.o,I.o,O.o];rfl),H.o⟩
   .have am:(x.b==y.b)=false:=by simp[E]
    have I:=zH (gM E);clear E;go_enter func93,ntmps93
    go_wp2;go_ret
    exact⟨aS (by rw[kE,z.o,F.o,I.o];rfl),H.o⟩
  .have ad:(x.a==y.a)=false:=by simp[D]
   have F:=zH (gM D);clear D;go_enter func93,ntmps93
   go_wp2;go_ret
   exact⟨aS (by rw[kE,z.o,F.o];rfl),H.o⟩
 .have ap:(x.k==y.k)=false:=Sb;have z:=zH (gM hk);clear hk;go_enter func93,ntmps93
  go_wp2;go_ret
  exact⟨aS (by rw[kE,z.o];rfl),H.o⟩
def mT(x:cS)(A:an)(cap:Nat)(w:aa)(O:aT w A x.row)(Q:x.row.length<=1048576):aw 94 (cJ (bB x.k x.a x.b x.c A x.row cap)) w fun e w'=>∃A2 c2,e=.returned (.agg (bB x.k x.a x.b x.c A2 x.row c2))/\ar w' w (.slice A2 x.row c2) x.row/\ai w w':=by
 have J:=zH (RU:x.row.length<=1099511627776);clear Q;go_enter func94,ntmps94
 go_wp2_with fail
 refine(rO _ _ _ _ (O.ext ((aj _ _).alloc RS _ |>.alloc RS _)) J.o).mono ?_;rintro e w' ⟨u2,rfl,D,z⟩;obtain⟨A2,c2,rfl,_⟩:=D.view;obtain⟨⟨R,U,Y,Z,ab⟩,ac,ad,am,ao,ap⟩:=jk z (b:=(w:Nat)+1) (az _ _ RS);obtain⟨⟨a0,a1,a2,a3,a4⟩,a5,a6,a7,a8,a9⟩:=jk z (b:=w.heap.size) ((b_ _ _ RS).trans (az _ _ RS));simp only[cg]at D;have F:=z.mono (B':=w.heap.size) SJ;have E:=((aj w w).alloc RS _ |>.alloc RS _).trans F;obtain⟨H,I⟩:=bS D E;clear D E F z;go_wp2;refine ax (v:=.agg (bB x.k x.a x.b x.c A2 x.row c2)) (by simp[results,results94,go_sem, *]) rfl ⟨_,_,rfl,?_,?_⟩
 .exact((((((H.o.setCell SJ _).setCell SJ _).setCell SJ _).setCell SJ _).setCell SJ _).setCell SJ _).mono RU
 .exact(((((I.setCell SJ _).setCell SJ _).setCell SJ _).setCell SJ _).setCell SJ _).setCell SJ _
def zaH{x y:cS}(h:kE x y=true):x=y:=by obtain⟨a,b,c,d,e⟩:=x;obtain⟨I,J,O,Q,R⟩:=y;unfold kE at h;simp only[bC,cK]at h;obtain⟨z,D,E,F,H⟩:=h;subst z D E F H;rfl
inductive Trk (p:Int) (s:Sy):List (cS×Sy)->Sy->Prop
 |nil:Trk p s [] s
 |snoc {l:List (cS×Sy)} {t:Sy} {x:cS} (h:Trk p s l t) (ho:eI p t x=true):Trk p s (l++[(x,t)]) (cE p t x)
def Trk.runs{t:Sy}{l:List (cS×Sy)}(h:Trk p s l t):zf5 p s (t,l.map Prod.fst):=by
 induction h with
 |nil=>exact zbG p s
 |snoc h z ih=>
  have:=zd9 ih z;unfold push at this;rw[gu];exact this
def Trk.last{t:Sy}{l:List (cS×Sy)}{q:cS×Sy}(h:Trk p s l t)(D:l.length=n+1)(z:l[n]?=some q):Trk p s (l.take n) q.2/\eI p q.2 q.1=true/\t=cE p q.2 q.1:=by
 cases h with
 |nil=>simp at D
 |snoc h F=>
  rename_i l t x;have E:l.length=n:=by simpa using D
  subst E;rw[gv (ag _)]at z;simp at z;subst z;rw[List.take_left']
  .exact⟨h,F,rfl⟩
  .rfl
def De{p:Int}{s:Sy}{xs:List cS}(J:s.Ok p):∀(k:Nat),k<=bO p s xs->Trk p s (j5 p s xs k) (dC p s xs k)
 |0,_=>by rw[gg];exact .nil
 |k+1,ab=>by
  have ac:=fj p xs s;obtain⟨x,D⟩:=aB (RU:k<xs.length);have ih:=De (xs:=xs) J k RU;have z:=vP (RU:k<bO p s xs) D;rw[rQ D,dk D];generalize j5 p s xs k=l at ih;generalize dC p s xs k=t at ih z;rcases pP l with E|E
  .have:l=[]:=eS E;subst this;rw[BV];exact .snoc (l:=[]) ih z
  .obtain⟨n,H⟩:∃n,l.length=n+1:=⟨l.length-1,RU⟩;obtain⟨q,I⟩:=aB (RU:n<l.length);rw[zL H I];split
   .rename_i Y;obtain⟨F,R,U⟩:=ih.last H I;have Z:q.2.Ok p:=by obtain⟨O,Q⟩:=F.runs;dsimp only at O Q;rw[<-Q];exact jG J (by rw[O];exact ag _)
    have:=(rR Z R).2;rw[zaH Y,<-U]at this;rw[this];exact F
   .exact .snoc ih z
def zeK{xs:List cS}(z:s.Ok p)(D:bO p s xs=xs.length):zf5 p s (dC p s xs xs,(j5 p s xs xs).map Prod.fst):=(De z xs RU).runs
end Go.Proofs.YtdpgblncijojiaaGreatDoor
