/- Parts of the walks. Conditions: as stated with each. -/
import Derived.Test.YtdpgblncijojiaaGreatDoorPk23
import Derived.Test.YtdpgblncijojiaaGreatDoorPk24
import Derived.Test.YtdpgblncijojiaaGreatDoorPk27
namespace Go.Proofs.YtdpgblncijojiaaGreatDoor
open Go.RowKit Tryz
set_option linter.all false
set_option maxHeartbeats 4000000
set_option maxRecDepth 100000
variable{A2:an}{B B' D b c2 k n:Nat}{E w w' wr:aa}{J:iq}{Q:gU}{T:dG}{Y:aE}{a:Act}{e:Ending}{h' p:Int}{o:gI}{rest:List Oper}{s:Sy}{u v':au}
def zf9:(prog.info? 26).map (fun i=>(i.zero,i.size,i.bytes))=some (some (.agg aQ),3,40):=Si
def aJ.ep{w w':aa}{B s:Nat}{v:au}{rows:aE}{xs:bG}(h:aJ w B u rows)(I:27≠T)(J:3≠T)(F:w.ownsRow B' T s v n xs)(z:w.grownBy w' v.ownBlock):aJ w' B u rows:=by obtain⟨us,h⟩:=h;exact⟨us,hJ h.outer z (iI I h.outer F),fun k H r E D=>ar.kept (h.each k H r E D) z (iI J (h.each k H r E D) F),h.apart⟩
def fW(x:Sy)(u:au):List Value:=[.int .i64 x.v,.int .i64 x.h,u]
def mz:List Sy->List Value->List Value
 |x::xs,u::us=>fW x u++mz xs us
 |_,_=>[]
def pn{j:Nat}(D:j<3):∀{xs:List Sy} {us:bG} {k:Nat} {x:Sy} {u:au},xs[k]?=some x->us[k]?=some u->(mz xs us)[k*3+j]?=(fW x u)[j]?
 |[],us,k,x,u,h,_=>Sf
 |x::xs,[],k,_,_,_,h=>Sf
 |x::xs,u::us,0,y,t,h,z=>by simp at h z;subst h z;rw[mz,dx (by simp[fW];omega)];simp
 |x::xs,u::us,k+1,y,t,h,z=>by simp only[cZ]at h z;have:=pn D h z;rw[mz,gv (by simp[fW];omega)];rw[<-this];congr 1;simp[fW];omega
def tM:∀{xs:List Sy} {us:bG} (x:Sy) (u:au),us.length=xs->mz (xs++[x]) (us++[u])=mz xs us++fW x u
 |[],us,x,u,h=>Xs
 |x::xs,[],_,_,h=>Sf
 |x::xs,u::us,y,t,h=>by have:=tM (xs:=xs) (us:=us) y t So;simp[mz,this]
structure jU(w:aa)(B:Nat)(v:au)(xs:List Sy)(us:bG):Prop where
 len:us.length=xs
 outer:w.ownsRow B 26 3 v xs.length (mz xs us)
 each:∀(k:Nat) (u:au) (x:Sy),us[k]?=some u->xs[k]?=some x->aJ w B u x.rows
def lq(w:aa)(B:Nat)(v:au)(xs:List Sy):Prop:=∃us,jU w B v xs us
def ziU(w:aa)(A:an)(xs:List Sy):Prop:=
 xs=[]∨∃b o,A=some ⟨b,o,none⟩/\∀(k:Nat) (x:Sy),xs[k]?=some x->∃z cap,(ah w b (o+k*3) (zI x.v)/\ah w b (o+k*3+1) (zI x.h)/\ah w b (o+k*3+2) (.slice z x.rows cap))/\aX w z x.rows
section
variable{w w':aa}{B:Nat}{v:au}{xs:List Sy}{us:bG}
def jU.get(h:jU w B v xs us){x:Sy}(hx:xs[k]?=some x):∃u,us[k]?=some u/\aJ w B u x.rows:=Yz
def lq.view(h:lq w B v xs):∃A cap,v=.slice A xs cap/\ziU w A xs/\xs.length<=cap/\cap<=maxLen:=by
 obtain⟨us,h⟩:=h;have I:=fun g=>pX h.outer (g:=g)
 rcases h.outer.2 with⟨rfl,hn⟩|⟨g,cap,cur,rfl,U,Y,hn,J,Z⟩
 .exact Xr
 .refine⟨_,cap,rfl,aA ⟨g,0,rfl,fun k x F=>?_⟩,hn,J⟩;obtain⟨u,Q,O⟩:=h.get F;obtain⟨D,E,rfl,hi,_⟩:=O.view;have z:∀(j:Nat) (y:au),j<3->(fW x (.slice D x.rows E))[j]?=some y->ah w g (0+k*3+j) y:=fun j y H R=>by have:=I g rfl (k*3+j) y (by rw[pn H F Q];exact R);rwa[dM,<-pW]at this
  exact⟨D,E,⟨z 0 _ RX rfl,z 1 _ RX rfl,z 2 _ RX rfl⟩,hi⟩
def jU.ext(h:jU w B v xs us)(z:ai w w'):jU w' B v xs us:=⟨h.len,hJ h.outer (row:=none) ⟨z.os,z.tape,z.output,z.size,fun k D _=>z.block k D⟩ Uu,fun k u r F E=>(h.each k u r F E).ext z⟩
def lq.ext(h:lq w B v xs)(hb:ai w w'):lq w' B v xs:=Xc
def jU.mono{B':Nat}(h:jU w B v xs us)(E:B'<=B):jU w B' v xs us:=⟨h.len,⟨h.outer.1,h.outer.2.imp id fun⟨g,cap,cur,z,I,D⟩=>⟨g,cap,cur,z,RU,D⟩⟩,fun k u r H F=>(h.each k u r H F).mono E⟩
def lq.mono(h:lq w B v xs)(z:B'<=B):lq w B' v xs:=by obtain⟨us,h⟩:=h;exact⟨us,h.mono z⟩
def lq.nil(w:aa)(B:Nat):lq w B (.slice none 0 0) []:=⟨[],rfl,m_ _ _ _ _,fun k u r hu=>Sg⟩
def lq.lit(W:aa)(B:Nat)(z:B<=(W:Nat)):lq (W.alloc (.cells #[] 26)) B (.slice (aY W) 0 0) []:=⟨[],rfl,qe W #[] 0 z RX rfl,fun k u r hu=>Sg⟩
def lq.one(W:aa)(B:Nat)(x:Sy)(u:au)(E:B<=(W:Nat))(F:aJ W B u x.rows):lq (W.alloc (.cells #[x.v,x.h,u] 26)) B (.slice (aY W) 1 1) [x]:=by
 refine⟨[u],rfl,?_,fun k H I z D=>?_⟩
 .exact⟨rfl,aA ⟨W,1,#[.int .i64 x.v,.int .i64 x.h,u],rfl,E,az _ _ rfl,ag _,RX,rfl,rfl⟩⟩
 .cases k with
  |zero=>simp at z D;subst z D;exact F.ext ((aj _ _).alloc (ag _) _)
  |succ k=>simp at z
def jU.snoc{x:Sy}(h:jU w B v xs us)(H:aJ w B u x.rows)(F:w'.ownsRow B 26 3 v' (xs.length+1) (mz xs us++fW x u))(D:w.grownBy w' v.ownBlock):jU w' B v' (xs++[x]) (us++[u]):=by
 refine⟨Sn,by rw[tM _ _ h.len];simpa using F,?_⟩;intro k I J Eu z;by_cases hk:k<us.length
 .rw[dx hk]at Eu;rw[dx T8]at z;exact aJ.ep (h.each k I J Eu z) RX RX h.outer D
 .have E:k=us.length:=Xb;subst E;simp at Eu;rw[h.len]at z;simp at z;subst Eu z;exact aJ.ep H RX RX h.outer D
end
def AB{K:mK}{R:Prop}(Y:o.guard=none)(s x:js)(ab:o.op=.call {callee:=.builtin .append,args:=#[s,x],argTypes:=#[79,79]})(B:Nat)(W:aa)(v u:au)(xs:List Sy)(y:Sy)(ad:lq W B v xs)(O:aJ W B u y.rows)(a4:xs.length+1<=1048576)(U:B<=(W:Nat))(ao:a.eval s=v)(ap:a.eval x=.slice (aY W) 1 1)(h:∀g cap w',lq w' B (.slice (aY g) (xs.length+1) cap) (xs++[y])->W.grownBy w' v.ownBlock->Below B W w'->K (a.put o.dst (.slice (aY g) (xs.length+1) cap)) w'):if Region.wanted o (yielded J a.tmps)=true then Oper.wp prog o a (W.alloc (.cells #[y.v,y.h,u] 26)) K Q else R:=by
 obtain⟨a3,hi,a0,a1,a2⟩:=cU zf9;obtain⟨us,D⟩:=ad;obtain⟨H,I,rfl,_⟩:=O.view;have ac:=m5 D.outer (.cells (ae y.v y.h H y.rows I) 26);refine sm _ Y s x 79 ab B 26 a3 (.agg aQ) 3 40 underlying79 hi a0 a1 a2 rfl RX v _ _ ao ac ⟨W,0,none⟩ 1 1 (fW y (.slice H y.rows I)) ap rfl ?_ ?_ RX ?_ ?_ ?_ _ rfl ?_
 .intro j u' z
  match j,z with
  |0,z=>simp[fW]at z;subst z;simp[Addr.add]
  |1,z=>simp[fW]at z;subst z;simp[Addr.add]
  |2,z=>simp[fW]at z;subst z;simp[Addr.add]
  |j+3,z=>simp[fW]at z
 .exact XO
 .unfold maxLen;omega
 .omega
 .simp;omega
 .intro g cap w' am EE _ _;have E:W.grownBy w' v.ownBlock:=⟨EE.os,EE.tape,EE.output,V_,fun k F Z=>(EE.block k Sk Z).trans (pY W _ F)⟩;exact h g cap w' ⟨_,D.snoc O am E⟩ E ((aj _ _).grown E U fun k F=>(bZ D.outer k F).1)
def zN{K:mK}{E:Prop}(F:o.guard=none)(s x:js)(H:o.op=.call {callee:=.builtin .append,args:=#[s,x],argTypes:=#[44,44]})(B:Nat)(W:aa)(v u:au)(xs:List cS)(us:bG)(y:cS)(hW:bq W B v xs us)(hu:ar W B u y.row)(hd:∀b,u.ownBlock=some b->∀u'∈us,u'.ownBlock≠some b)(ac:xs.length+1<=1048576)(hB:B<=(W:Nat))(O:a.eval s=v)(R:a.eval x=.slice (aY W) 1 1)(h:∀g cap w',bq w' B (.slice (aY g) (xs.length+1) cap) (xs++[y]) (us++[u])->W.grownBy w' v.ownBlock->Below B W w'->K (a.put o.dst (.slice (aY g) (xs.length+1) cap)) w'):if Region.wanted o (yielded J a.tmps)=true then Oper.wp prog o a (W.alloc (.cells (BZ y u) 29)) K Q else E:=by
 obtain⟨ab,hi,U,Y,Z⟩:=cU xt;obtain⟨z,D,rfl,_⟩:=hu.view;have I:=m5 hW.outer (.cells (bB y.k y.a y.b y.c z y.row D) 29);refine sm _ F s x 44 H B 29 ab (.agg df) 5 56 sx hi U Y Z rfl RX v _ _ O I ⟨W,0,none⟩ 1 1 (dq y (.slice z y.row D)) R rfl ?_ ?_ RX ?_ ?_ ?_ _ rfl ?_
 .exact Zp
 .exact X6
 .unfold maxLen;omega
 .omega
 .simp;omega
 .exact Zn
def mU(E:o.guard=none)(s x:js)(F:o.op=.call {callee:=.builtin .append,args:=#[s,x],argTypes:=#[44,44]})(B:Nat)(W:aa)(v u:au)(xs:List cS)(us:bG)(y:cS)(hW:bq W B v xs us)(hu:ar W B u y.row)(hd:∀b,u.ownBlock=some b->∀u'∈us,u'.ownBlock≠some b)(ab:xs.length+1<=1048576)(hB:B<=(W:Nat))(I:a.eval s=v)(O:a.eval x=.slice (aY W) 1 1)(h:∀g cap w',bq w' B (.slice (aY g) (xs.length+1) cap) (xs++[y]) (us++[u])->W.grownBy w' v.ownBlock->Below B W w'->wpList prog J Q rest (a.put o.dst (.slice (aY g) (xs.length+1) cap)) w'):wpList prog J Q (o::rest) a (W.alloc (.cells (BZ y u) 29)):=by
 obtain⟨Z,hi,R,U,Y⟩:=cU xt;obtain⟨z,D,rfl,_⟩:=hu.view;have H:=m5 hW.outer (.cells (bB y.k y.a y.b y.c z y.row D) 29);refine vJ _ E s x 44 F B 29 Z (.agg df) 5 56 sx hi R U Y rfl RX v _ _ I H ⟨W,0,none⟩ 1 1 (dq y (.slice z y.row D)) O rfl ?_ ?_ RX ?_ ?_ ?_ _ rfl ?_
 .exact Zp
 .exact X6
 .unfold maxLen;omega
 .omega
 .simp;omega
 .exact Zn
def CH(p:Int)(s:Sy)(x:cS)(A:an)(cap:Nat)(w:aa)(z:an)(I:Nat)(U:dm w)(Y:aX w A s.rows)(Z:aT w z x.row)(ac:x.row.length<=1048576)(ad:s.Ok p)(D:eI p s x=true):aw 34 (eB p (ae s.v s.h A s.rows cap) (bB x.k x.a x.b x.c z x.row I)) w fun e w'=>∃A2 c2,e=.returned (.tuple (dN (dj (cE p s x).v (cE p s x).h A2 (cE p s x).rows c2)))/\aJ w' w (.slice A2 (cE p s x).rows c2) (cE p s x).rows/\ai w w':=by
 have:=yU p s.v s.h x.k x.a x.b x.c A cap s.rows w z x.row I U Y Z ac ad;refine this.mono fun e w' ab=>?_
 obtain⟨v2,ao,A2,n2,c2,F,Q,am,R⟩:=ab;unfold eI at D;rw[D]at F;obtain⟨J,O,E⟩:=Q D;obtain⟨A3,c3,H,_⟩:=E.view;simp only[fO]at H;obtain⟨rfl,rfl,rfl⟩:=H;subst J O;exact⟨A2,c2,F,E,R⟩
def zfX(p:Int)(s:Sy)(x:cS)(A:an)(cap:Nat)(w:aa)(z:an)(F:Nat)(J:dm w)(O:aX w A s.rows)(Q:aT w z x.row)(U:x.row.length<=1048576)(Y:s.Ok p)(D:eI p s x=false):aw 34 (eB p (ae s.v s.h A s.rows cap) (bB x.k x.a x.b x.c z x.row F)) w fun e w'=>e=.returned (.tuple (dy aQ))/\ai w w':=by
 have:=yU p s.v s.h x.k x.a x.b x.c A cap s.rows w z x.row F J O Q U Y;refine this.mono fun e w' R=>?_
 obtain⟨v2,ab,A2,n2,c2,E,Z,H,I⟩:=R;unfold eI at D;rw[D]at E;obtain⟨rfl,rfl,rfl,rfl,rfl⟩:=H D;exact⟨E,I⟩
def zac(p:Int)(s:Sy)(xs:List cS)(w:aa)(e:Ending)(w':aa):Prop:=
 (bO p s xs<xs.length->e=.returned (.tuple (iU aQ (bO p s xs:Nat))))/\
 (bO p s xs=xs.length->∃A2 c2,e=.returned (.tuple (iU (dj (dC p s xs xs).v (dC p s xs xs).h A2 (dC p s xs xs).rows c2) (-1)))/\aJ w' w (.slice A2 (dC p s xs xs).rows c2) (dC p s xs xs).rows)/\
 ai w w'
def zu(p:Int)(s:Sy)(xs:List cS)(w:aa)(z k:Nat)(wr:aa):Prop:=
 k<=bO p s xs/\(∃A2 c2,aU wr z (dj (dC p s xs k).v (dC p s xs k).h A2 (dC p s xs k).rows c2) 26/\aJ wr ((w:Nat)+2) (.slice A2 (dC p s xs k).rows c2) (dC p s xs k).rows)/\
 aU wr ((w:Nat)+1) aQ 26/\ai w wr
def zu.next{xs:List cS}{x:cS}{o:Obj}(h:zu p s xs w D k wr)(Z:(w:Nat)+2<=D)(H:xs[k]?=some x)(U:eI p (dC p s xs k) x=true)(z:ai wr E)(Y:aJ E wr (.slice A2 (cE p (dC p s xs k) x).rows c2) (cE p (dC p s xs k) x).rows):zu p s xs w D (k+1) ((((E.alloc o).setCell ⟨D,0,none⟩ (zI (cE p (dC p s xs k) x).v)).setCell ⟨D,1,none⟩ (zI (cE p (dC p s xs k) x).h)).setCell ⟨D,2,none⟩ (.slice A2 (cE p (dC p s xs k) x).rows c2)):=by
 obtain⟨O,⟨A1,c1,J,ac⟩,Q,F⟩:=h;have ab:D < (wr:Nat):=(aM.1 J).1;have R:Below w w (E.alloc o):=(af F z).alloc (af F z).size _;have I:Below wr wr (E.alloc o):=z.alloc z.size _;refine⟨tN O H U,⟨A2,c2,?_,?_⟩,?_,dJ R RU _ _ _⟩
 .rw[dk H];exact gQ (ak J I)
 .rw[dk H];exact((((Y.ext ((aj _ _).alloc (ag _) o)).setCell SJ _).setCell SJ _).setCell SJ _).mono (by have:=F.size;omega)
 .have:=ak Q I;rw[cm _ _ _ _ SJ,cm _ _ _ _ SJ,cm _ _ _ _ SJ];exact this
def zcy(p:Int)(s:Sy)(A:an)(cap:Nat)(xs:List cS)(w:aa)(F:an)(ab:Nat)(cc:dm w)(ce:aX w A s.rows)(ch:eD w F xs)(bb:s.Ok p)(d3:xs.length<=3000)(ct:∀x∈xs,x.row.length<=1048576):aw 48 (jv p (ae s.v s.h A s.rows cap) F xs ab) w (zac p s xs w):=by
 have hs:=bb.small;obtain⟨b0,c8,bz,Ft,c4,br,bp⟩:=zH7 ce ch cc bb ct (show s.rows.length<=1048576 by have:=hs.n;omega) (show ∀r∈s.rows,r.length<=1048576 from fun r hr=>Uy);clear ce ch cc bb ct hs;have ca:Below w w ((w.alloc (.cells (ae s.v s.h A s.rows cap) 26)).alloc (.cells aQ 26)):=((aj w w).alloc RS _).alloc RS _;have cR:((w.alloc (.cells (ae s.v s.h A s.rows cap) 26)).alloc (.cells aQ 26)).heap[(w:Nat)+1]?=some (.cells aQ 26 (0,0)):=az _ _ RS;obtain⟨a4,b6⟩:=bS ca cR;clear ca cR;go_enter func48,ntmps48
 go_wp2_with (go_at_call 91;refine(lp _ _ _ _ _ _ (b0.ext a4) br bp).mono ?_;rintro e be ⟨u,rfl,I,ci⟩;obtain⟨A1,c1,rfl,_⟩:=I.view;have b4:=zH I;have ac:=zH ci;clear I ci)
 have da:=ac.size;simp only[cg]at da;have cO:zu p s xs w be 0 (be.alloc (.cells (ae s.v s.h A1 s.rows c1) 26)):=by
  have cb:=a4.trans (ac.mono (B':=w.heap.size) SJ);refine⟨bf _,⟨A1,c1,?_,?_⟩,?_,cb.alloc cb.size _⟩
  .rw[gg];exact az _ _ rfl
  .rw[gg];exact(b4.ext ((aj _ _).alloc (ag _) _)).mono RS
  .exact ak (ak b6 ac) ((aj _ _).alloc (ag _) _)
 have b3:=zH cO;clear cO b4 ac b6 a4 b0 br bp;go_loopw [17] (fun i wr=>∃k:Nat,k<=xs.length/\i=.int .i64 k/\zu p s xs w be k wr)
  (fun i _=>xs.length-(intOf i).toNat)
 case atStart=>exact⟨0,bf _,rfl,b3⟩
 case round=>
  obtain⟨k,dT,rfl,hrel⟩:=hrel;clear b3;have c5:=zH hrel;obtain⟨E4,⟨A2,c2,cz,cy⟩,b9,cj⟩:=hrel;obtain⟨ad,am,bm,Q⟩:=fU cy cz b9 cj;obtain⟨E,Fs⟩:=aO (dC p s xs k);obtain⟨Fv,bv⟩:=bS Fs (UM:E.Ok p);rw[<-Fs]at ad am;clear cz cy b9 cj Fs;by_cases cr:k<xs.length
  .obtain⟨x,a1⟩:=aB cr;obtain⟨b,o,rfl,ck⟩:=(c8.ext Q.o).here cr;obtain⟨bi,b8,⟨U,Y,Z,a2,a3⟩,cn⟩:=ck k x a1;obtain⟨b1,bo,b5⟩:=d_ (c4 x (a_ a1)) cn a1;clear ck cn a1;go_upto_region 5 with(fail)
   obtain⟨b7,En⟩:=aO (wr.alloc (.cells (bB x.k x.a x.b x.c bi x.row b8) 29));rw[<-En];have ba:ai wr b7:=Wc;have cF:aU b7 wr (bB x.k x.a x.b x.c bi x.row b8) 29:=UF;have z:=zH ba;clear U Y Z a2 a3;obtain⟨d0,d1,d2,_⟩:=cL (ak am ba);obtain⟨U,Y,Z,a2,a3⟩:=bH cF;clear ba cF En;cases a0:eI p E x with
   |true=>
    have HO:=zH a0;clear a0;obtain⟨D,bd⟩:=aO (cE p E x);obtain⟨b2,ao⟩:=bS bd (fun(A cap W F ab a7 a8 a9)=>CH p E x A cap W F ab a7 a8 a9 b1 bv HO);rw[<-bd]at ao;clear bd;go_upto_region 6 with(go_at_call 34;refine(ao.o _ _ _ _ _ (bz.ext (af Q.o z)) ((xq ad).ext z) (bo.ext z)).mono ?_;rintro e J ⟨A3,a6,rfl,I,R⟩;clear d0 d1 d2 U Y Z a2 a3;have O:=zH (cC z R);have c6:=zH (I.mono z.size);clear I R)
    obtain⟨ap,Fw⟩:=aO (J.alloc (.cells (ae D.v D.h A3 D.rows a6) 26));rw[<-Fw];have H:ai J ap:=VY;have cI:aU ap J (ae D.v D.h A3 D.rows a6) 26:=UB;obtain⟨d0,d1,d2,f0,f1,f2⟩:=cL (ak (ak am O) H);obtain⟨U,Y,Z⟩:=aq cI;have c7:=zH Fw;clear H cI Fw;go_wp2;go_roundw
    case rel=>
     have cu:=c5.next (o:=.cells (ae D.v D.h A3 D.rows a6) 26) (x:=x) RU b5 Un O (by rw[<-Fv.o,<-b2.o];exact c6);rw[<-Fv.o,<-b2.o,<-c7.o]at cu;exact⟨k+1,RU,RW,cu⟩
    case measure=>simp[intOf];omega
   |false=>
    have HO:=zH a0;clear a0;have ao:=zH (fun(A cap W F ab a7 a8 a9)=>zfX p E x A cap W F ab a7 a8 a9 b1 bv HO);go_upto_region 6 with(go_at_call 34;refine(ao.o _ _ _ _ _ (bz.ext (af Q.o z)) ((xq ad).ext z) (bo.ext z)).mono ?_;rintro e J ⟨rfl,R⟩;clear d0 d1 d2 U Y Z a2 a3;have O:=zH (cC z R);clear R)
    obtain⟨ap,Fw⟩:=aO (J.alloc (.cells aQ 26));rw[<-Fw];have H:ai J ap:=VY;obtain⟨d0,d1,d2,f0,f1,f2⟩:=cL (ak (ak bm O) H);have c0:=zH (af (af Q.o O) H);clear H Fw;go_wp2;have c9:=tO E4 b5 Un;refine ax (v:=.tuple (iU aQ k)) Vu rfl ⟨fun _=>by rw[c9],fun h=>RU,?_⟩;exact dJ c0 RU _ _ _
  .have co:k=xs.length:=RU;have a5:=zH co;obtain⟨d0,d1,d2,_⟩:=cL am;obtain⟨db,dc,dl,f0,f1,f2⟩:=cL bm;clear co;go_wp2;refine ax (v:=.tuple (iU (ae E.v E.h A2 E.rows c2) (-1))) Vu rfl ⟨fun h=>by have:=a5.o;omega,fun _=>⟨A2,c2,?_,?_⟩,?_⟩
   .rw[<-a5.o,<-Fv.o]
   .rw[<-a5.o,<-Fv.o];exact(((ad.setCell SJ _).setCell SJ _).setCell SJ _).mono RU
   .exact dJ Q.o RU _ _ _
def zE(p v h k a b c:Int)(A:an)(cap:Nat)(rows:aE)(w:aa)(D:an)(row:aG)(E:Nat)(H:aX w A rows)(am:aT w D row)(s:Sys p v h rows)(ap:ja p v h rows k a b c row=true):aw 37 (eB p (ae v h A rows cap) (bB k a b c D row E)) w fun e w'=>∃u,e=.returned (.agg (dE v (dO k h) u))/\aJ w' w u (bE p v rows k a b c row (v+h).toNat)/\ai w w':=by
 have a0:=s.p2;have a1:=s.p97;have a2:=s.v0;have a3:=s.v24;have a4:=s.h0;have a5:=s.h100;have F:=s.n;have I:∀r∈rows,r.length<=1000:=fun r hr=>Ur
 have J:∀r∈rows,∀x∈r,0<=x/\x<=1000:=fun r hr x hx=>US
 have ao:∀r∈rows,r.length=(v+h).toNat:=fun r hr=>Ur
 have z:=ap;unfold ja at z;rw[bC]at z
 replace z:=z.2
 by_cases O:k=1
 .subst O;simp[bk]at z;rw[show dO 1 h=h by simp[dO],show bE p v rows 1 a b c row (v+h).toNat=((rows.set a.toNat (rows.getD b.toNat [])).set b.toNat (rows.getD a.toNat [])) by simp[bE]];exact zg9 p v h a b c A cap rows w D row E H F I RU RU RU RU RU
 by_cases Q:k=2
 .subst Q;simp[bk]at z;rw[show dO 2 h=h by simp[dO],show bE p v rows 2 a b c row (v+h).toNat=(rows.set a.toNat (gz p c (rows.getD a.toNat []))) by simp[bE]];exact zf6 p v h a b c A cap rows w D row E H F I RU RU RU RU RU RU J
 by_cases R:k=3
 .subst R;simp[bk]at z;rw[show dO 3 h=h by simp[dO],show bE p v rows 3 a b c row (v+h).toNat=(rows.set b.toNat (dw p c (rows.getD b.toNat []) (rows.getD a.toNat []))) by simp[bE]];exact zh3 p v h a b c A cap rows w D row E H F I RU RU RU RU RU RU RU RU RU J (v+h).toNat ao
 by_cases U:k=4
 .subst U;simp[bk]at z;rw[show dO 4 h=h by simp[dO],show bE p v rows 4 a b c row (v+h).toNat=(rows.eraseIdx a.toNat) by simp[bE]];exact zg_ p v h a b c A cap rows w D row E H F I RU RU
 by_cases Y:k=5
 .subst Y;simp[bk]at z;rw[show dO 5 h=h by simp[dO],show bE p v rows 5 a b c row (v+h).toNat=(bK rows a.toNat (List.replicate (v+h).toNat 0)) by simp[bE]];exact zij p v h a b c A cap rows w D row E H F I RU RU RU RU RU RU
 by_cases Z:k=6
 .subst Z;simp[bk]at z;rw[show dO 6 h=h-1 by simp[dO],show bE p v rows 6 a b c row (v+h).toNat=((rows.map (fun r=>r.eraseIdx (v+b).toNat)).eraseIdx a.toNat) by simp[bE]];exact zeR p v h a b c A cap rows w D row E H F I RU RU RU RU RU RU RU RU (fun r hr=>Ur)
 by_cases ab:k=7
 .subst ab;simp[bk]at z;rw[show dO 7 h=h+1 by simp[dO],show bE p v rows 7 a b c row (v+h).toNat=(bK (rows.map (fun r=>bK r (v+b).toNat 0)) a.toNat row) by simp[bE]];exact zfI p v h a b c A cap rows w D row E H F I RU RU RU RU RU RU (fun r hr=>Ur) RU RU row am rfl RU
 by_cases ac:k=8
 .subst ac;simp[bk]at z;rw[show dO 8 h=h-1 by simp[dO],show bE p v rows 8 a b c row (v+h).toNat=(rows.map (fun r=>r.eraseIdx (v+b).toNat)) by simp[bE]];exact zcZ p v h a b c A cap rows w D row E H F I RU RU RU RU RU RU (fun r hr=>Ur)
 by_cases ad:k=9
 .subst ad;simp[bk]at z;rw[show dO 9 h=h+1 by simp[dO],show bE p v rows 9 a b c row (v+h).toNat=(rows.map (fun r=>bK r (v+b).toNat 0)) by simp[bE]];exact zdI p v h a b c A cap rows w D row E H F I RU RU RU RU RU RU (fun r hr=>Ur)
 simp[*]at z
def aV(ok:Bool)(v:Int):Int:=if ok=true then v else 0
def aH(ok:Bool)(k h:Int):Int:=if ok=true then dO k h else 0
def aR(ok:Bool)(p v h:Int)(rows:aE)(k a b c:Int)(row:aG):List (List Int):=if ok=true then bE p v rows k a b c row (v+h).toNat else[]
def fV(v' h':Int)(z:aE)(ok:Bool)(w:aa)(e:Ending)(w':aa):Prop:=
 ∃u,e=.returned (.tuple (lP (dE v' h' u) ok))/\aJ w' w u z/\ai w w'
def fV.mk{v':Int}{ok:Bool}(D:e=.returned (.tuple (lP (dE v' h' u) ok)))(E:aJ w' w u Y)(z:ai w w'):fV v' h' Y ok w e w':=⟨u,D,E,z⟩
def im(h:Below B w w')(z:B<=b)(v0 v1 v2:au):Below B w (((w'.setCell ⟨b,0,none⟩ v0).setCell ⟨b,1,none⟩ v1).setCell ⟨b,2,none⟩ v2):=((h.setCell z _).setCell z _).setCell z _
def Ax(p v h k a b c:Int)(A:an)(cap:Nat)(rows:aE)(w:aa)(I:an)(row:aG)(ab:Nat)(a5:aX w A rows)(ba:aT w I row)(bb:rows.length<=maxLen)(bd:∀r∈rows,r.length<=maxLen)(be:row.length<=1048576)(ok:Bool)(U:(fZ p v h rows&&ja p v h rows k a b c row)=ok):aw 8 (eB p (ae v h A rows cap) (bB k a b c I row ab)) w (fV (aV ok v) (aH ok k h) (aR ok p v h rows k a b c row) ok w):=by
 obtain⟨bz,b0,a8⟩:=d_ bb bd be;clear bb bd be;have a9:=below_alloc3 w (.cells (ae v h A rows cap) 26) (.cells (bB k a b c I row ab) 29) (.cells aQ 26);obtain⟨bi,bm,bo⟩:=cA w (.cells (ae v h A rows cap) 26) (.cells (bB k a b c I row ab) 29) (.cells aQ 26);obtain⟨a0,am,ao,Z⟩:=fU a9 bi bm bo;clear a9 bi bm bo;obtain⟨ad,a2,a4⟩:=d_ (pv p v h A cap rows _ (a5.ext a0) bz b0) a5 ba;clear a5 ba;cases Y:fZ p v h rows with
 |false=>
  rw[Y,ic]at U;subst U;rw[Y]at ad;clear Y;go_enter func8,ntmps8
  go_wp2_with (go_at_call 35;refine ad.mono ?_;rintro e bp ⟨rfl,z⟩;obtain⟨J,O,Q,_⟩:=kV z am;obtain⟨⟨d0,d1,d2,d3,d4⟩,_⟩:=jk z ao;obtain⟨F,c1,H,f0,f1,f2⟩:=kV z Z.o;have ap:=zH z;have E:=zH (a0.trans (z.mono (B':=w.heap.size) SJ));clear z)
  refine ax (v:=.tuple (dy aQ)) Vl rfl (fV.mk rfl (Has.nil _ _ 0).own ?_);exact im E.o RU _ _ _
 |true=>
  rw[Y,qc]at U;rw[Y]at ad;have a3:=zH (jI.1 Y);clear Y;cases ok with
  |false=>
   have a1:=zH U;clear U;go_enter func8,ntmps8
   go_wp2_with (first|(go_at_call 35;refine ad.mono ?_;rintro e bp ⟨rfl,z⟩;obtain⟨J,O,Q,_⟩:=kV z am;obtain⟨⟨d0,d1,d2,d3,d4⟩,_⟩:=jk z ao;obtain⟨F,c1,H,f0,f1,f2⟩:=kV z Z.o;have ap:=zH z;have E:=zH (a0.trans (z.mono (B':=w.heap.size) SJ));clear z)|(go_at_call 36;refine(Calls.bl (nm p v h k a b c A cap rows _ I row ab (a2.ext E.o) (a4.ext E.o) a8 a3) a1).mono ?_;rintro e b3 ⟨rfl,R⟩;clear J O Q d0 d1 d2 d3 d4 F c1 H f0 f1 f2;have D:=zH (af ap R);have ac:=zH (af E.o R);clear R;obtain⟨J,O,Q,_⟩:=kV D.o am;obtain⟨⟨d0,d1,d2,d3,d4⟩,_⟩:=jk D.o ao;obtain⟨F,c1,H,f0,f1,f2⟩:=kV D.o Z.o))
   refine ax (v:=.tuple (dy aQ)) Vl rfl (fV.mk rfl (Has.nil _ _ 0).own ?_);exact im ac RU _ _ _
  |true=>
   have a1:=zH U;clear U;go_enter func8,ntmps8
   go_wp2_with (first|(go_at_call 35;refine ad.mono ?_;rintro e bp ⟨rfl,z⟩;obtain⟨J,O,Q,_⟩:=kV z am;obtain⟨⟨d0,d1,d2,d3,d4⟩,_⟩:=jk z ao;obtain⟨F,c1,H,f0,f1,f2⟩:=kV z Z.o;have ap:=zH z;have E:=zH (a0.trans (z.mono (B':=w.heap.size) SJ));clear z)|(go_at_call 36;refine(Calls.bl (nm p v h k a b c A cap rows _ I row ab (a2.ext E.o) (a4.ext E.o) a8 a3) a1).mono ?_;rintro e b3 ⟨rfl,R⟩;clear J O Q d0 d1 d2 d3 d4 F c1 H f0 f1 f2;have D:=zH (af ap R);have ac:=zH (af E.o R);clear R;obtain⟨J,O,Q,_⟩:=kV D.o am;obtain⟨⟨d0,d1,d2,d3,d4⟩,_⟩:=jk D.o ao;obtain⟨F,c1,H,f0,f1,f2⟩:=kV D.o Z.o)|(go_at_call 37;refine(zE p v h k a b c A cap rows _ I row ab (a2.ext ac) (a4.ext ac) a3 a1).mono ?_;rintro e b4 ⟨u,rfl,a7,a6⟩;obtain⟨br,b1,rfl,_⟩:=a7.view;clear J O Q d0 d1 d2 d3 d4 F c1 H f0 f1 f2;obtain⟨F,c1,H,f0,f1,f2⟩:=kV (af D.o a6) Z.o;have HU:=zH a7;have bv:=zH (af ac a6);clear a7 a6))
   have b2:=D.o.size;simp only[cg]at b2;refine ax (v:=.tuple (dN (dj v (dO k h) br (bE p v rows k a b c row (v+h).toNat) b1))) Vl rfl (fV.mk rfl ?_ ?_)
   .exact YB
   .exact im bv RU _ _ _
def AA(p v h k a b c:Int)(A:an)(cap:Nat)(rows:aE)(w:aa)(E:an)(row:aG)(I:Nat)(Z:dm w)(ab:aX w A rows)(a2:aT w E row)(a3:rows.length<=maxLen)(a4:∀r∈rows,r.length<=maxLen)(a5:row.length<=1048576)(ok:Bool)(H:(fZ p v h rows&&ja p v h rows k a b c row)=ok):aw 7 (eB p (ae v h A rows cap) (bB k a b c E row I)) w (fV (aV ok v) (aH ok k h) (aR ok p v h rows k a b c row) ok w):=by
 obtain⟨bd,be,bo⟩:=d_ a3 a4 a5;clear a3 a4 a5;have a1:=below_alloc3 w (.cells (ae v h A rows cap) 26) (.cells (bB k a b c E row I) 29) (.cells aQ 26);obtain⟨a7,a8,a9⟩:=cA w (.cells (ae v h A rows cap) 26) (.cells (bB k a b c E row I) 29) (.cells aQ 26);obtain⟨J,bz,b0,ao⟩:=fU a1 a7 a8 a9;clear a1 a7 a8 a9;obtain⟨Q,bi,bm,br⟩:=fU (jV p v h A cap rows _ (Z.ext J.o) (ab.ext J.o) bd be) Z ab a2;clear Z ab a2;cases D:fZ p v h rows with
 |false=>
  rw[D,ic]at H;subst H;rw[D]at Q;clear D;go_enter func7,ntmps7
  go_wp2_with (go_at_call 33;refine Q.o.mono ?_;rintro e cb ⟨rfl,z⟩;obtain⟨b3,c1,b4,f0,f1,f2⟩:=kV z ao;have O:=zH (J.o.trans (z.mono (B':=w.heap.size) SJ));clear z)
  refine ax (v:=.tuple (dy aQ)) Vk rfl (fV.mk rfl (Has.nil _ _ 0).own ?_);exact im O RU _ _ _
 |true=>
  rw[D,qc]at H;rw[D]at Q;have bp:=zH (jI.1 D);clear D;have bv:=zH (fun(W:aa) (ac:ai w W)=>(by
   have:=yU p v h k a b c A cap rows W E row I (bi.ext ac) (bm.ext ac) (br.ext ac) bo bp;rw[H]at this;refine this.mono fun e w' b8=>?_
   obtain⟨v2,F,A2,n2,c2,ap,a0,b6,b7⟩:=b8;refine⟨v2,F,A2,n2,c2,ap,?_,b7⟩;cases ok with
   |true=>obtain⟨R,U,Y⟩:=a0 rfl;exact⟨R,U,Y⟩
   |false=>obtain⟨R,U,Y,b1,b2⟩:=b6 rfl;subst R U Y b1 b2;exact⟨rfl,rfl,(Has.nil _ _ 0).own⟩:
   aw 34 (eB p (ae v h A rows cap) (bB k a b c E row I)) W fun e w'=>∃(v2 F:Int) (A2:an) (n2 c2:Nat),e=.returned (.tuple (lP (dj v2 F A2 n2 c2) ok))/\(v2=aV ok v/\F=aH ok k h/\aJ w' W (.slice A2 n2 c2) (aR ok p v h rows k a b c row))/\ai W w'))
  clear H;go_enter func7,ntmps7
  go_wp2_with (first|(go_at_call 33;refine Q.o.mono ?_;rintro e cb ⟨rfl,z⟩;obtain⟨cc,ap,a0,_⟩:=kV z bz;obtain⟨⟨d0,d1,d2,d3,d4⟩,_⟩:=jk z b0;have am:=zH z;have O:=zH (J.o.trans (z.mono (B':=w.heap.size) SJ));clear z)|(go_at_call 34;refine(bv.o _ O.o).mono ?_;rintro e ce ⟨v2,F,ba,ca,b5,rfl,⟨rfl,rfl,a6⟩,ad⟩;clear d0 d1 d2 d3 d4;obtain⟨b3,c1,b4,f0,f1,f2⟩:=kV (af am ad) ao;have HU:=zH a6;have bb:=zH (af O ad);clear a6 ad))
  have b9:=am.size;simp only[cg]at b9;refine ax (v:=.tuple (lP (dj (aV ok v) (aH ok k h) ba ca b5) ok)) Vk rfl (fV.mk rfl ?_ ?_)
  .exact YB
  .exact im bb RU _ _ _
end Go.Proofs.YtdpgblncijojiaaGreatDoor
