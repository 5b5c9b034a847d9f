/- Parts of the walks. Conditions: as stated with each. -/
import Derived.Test.YtdpgblncijojiaaGreatDoorPk12
import Derived.Test.YtdpgblncijojiaaGreatDoorPk17
namespace Go.Proofs.YtdpgblncijojiaaGreatDoor
open Go.RowKit Tryz
set_option linter.all false
set_option maxHeartbeats 4000000
set_option maxRecDepth 100000
variable{H R u v:au}{N b d hi i j k lo n:Nat}{RC RM r':aG}{Rw Y:aE}{p:Int}{us:bG}{w w':aa}
section
variable{M:aE}
def iO.el(h:iO p N n M):∀r∈M,∀x∈r,0<=x/\x<p:=fun r D x H=>by obtain⟨i,hi⟩:=e_.1 D;obtain⟨d,z⟩:=e_.1 H;have F:=(bA.1 hi).1;have E:=(bA.1 z).1;have:=h.2.2 i d (by rw[<-h.1];exact F) (by rw[<-h.row r D];exact E);unfold eM at this;rwa[getD_some hi,getD_some z]at this
def pa.inner(h:pa w lo hi v M us)(D:us[k]?=some u)(z:w.grownBy w' u.ownBlock)(E:ar w' lo u r'):pa w' lo hi v (M.set k r') us:=⟨h.own.inner D z E,h.up,h.ups⟩
def pa.swap{g cap:Nat}(h:pa w lo hi (.slice (aY g) n cap) M us)(F:n=M.length)(hi':us[i]?=some H)(E:us[j]?=some R)(I:M[i]?=some RM)(J:M[j]?=some RC):pa ((w.setCell ⟨g,i,none⟩ R).setCell ⟨g,j,none⟩ H) lo hi (.slice (aY g) n cap) ((M.set i RC).set j RM) ((us.set i R).set j H):=
 ⟨h.own.swap F hi' E I J,h.up,fun u O b D=>by
  rcases mem_set O with z|rfl
  .rcases mem_set z with z|rfl
   .exact h.ups u z b D
   .exact h.ups _ (a_ E) b D
  .exact h.ups _ (a_ hi') b D⟩
def Chg(lo hi:Nat)(v:au)(M:aE)(w:aa)(e:Ending)(w':aa):Prop:=e=.returned (.tuple #[])/\Has w' lo hi v M/\dh lo hi w w'
def wY(p c:Int)(a b lo hi n cap:Nat)(A:an)(M:aE)(us:bG)(w:aa)(h:pa w lo hi (.slice A n cap) M us)(a9:hi<=(w:Nat))(ab:a<M.length)(ac:b<M.length)(a7:a≠b):aw 134 (pN (vq a b c) p A n cap) w (Chg lo hi (.slice A n cap) (zP M a b) w):=by
 obtain⟨R,E⟩:=aB ab;obtain⟨rb,F⟩:=aB ac;have EV:=zH (by unfold zP;rw[getD_some E,getD_some F]:zP M a b=(M.set a rb).set b R);have a1:n=M.length:=XX;subst a1;go_enter func134,ntmps134
 go_upto_region 3 with(fail)
 have D:Below w w (w.alloc (.cells (vq a b c) 161)):=(aj _ _).alloc (ag _) _;have z:=h.ext D;obtain⟨g,U,Y,rfl,O,ad,am,ap,a8,_⟩:=z.own.at E;obtain⟨a6,Ab,cb,Z,Q,Jw,ao,_⟩:=z.own.at F;cases Z
 have a0:=h.up g rfl;have H:(w.alloc (.cells (vq a b c) 161)).heap[w.heap.size]?=some (.cells (vq a b c) 161 (0,0)):=az _ _ rfl;obtain⟨W2,I⟩:=aO (w.alloc (.cells (vq a b c) 161));rw[<-I]at D z ad am Jw ao H ⊢;obtain⟨a2,a3,a4,a5⟩:=tg H;simp only[dt,cZ]at a2 a3 a4 a5;have J:=z.swap rfl O Q E F;obtain⟨HS,HE⟩:=bS J ((dh.iL (lo:=lo) (hi:=hi) D).trans ((dh.zk (b:=g) (w:=W2) (w':=(W2.setCell ⟨g,a,none⟩ (.slice Ab rb cb)).setCell ⟨g,b,none⟩ (.slice U R Y)) (bx (z.own.outer.stored a _).2 ((z.own.outer.stored a (.slice Ab rb cb)).1.stored b _).2) ap a0)));have ba:g≠w.heap.size:=RU;clear I J O Q E F H D z h;refine vG (S:=fun w'=>ah w' w 1 (zI a)/\ah w' w 2 (zI b)) Si R4 (fun hHeld=>?_);refine cW 0 ?_;refine cW 1 ?_;refine cW 2 ?_;refine cW 3 ?_;refine cW 4 ?_;refine cW 5 ?_;refine cW 6 ?_;refine cW 7 ?_;refine cW 8 ?_;refine cW 9 ?_;refine cW 11 ?_;refine cW 12 ?_;refine cW 13 ?_;refine cW 14 ?_;refine cq (rs:=[10,15]) Si RS ?_;refine di rfl (fun K hK=>?_) (di rfl (fun K hK=>?_) cv)
 .go_simp;refine hK.out _ _ Sh (fun hHeld=>?_);clear hK K;try simp only[Act.put,zA]
  refine cq (rs:=[15]) Si RS ?_;exact ZY
 .go_simp;refine hK.out _ _ Sh (fun hHeld=>?_);clear hK K;try simp only[Act.put,zA]
  refine cq (rs:=[10]) Si RS ?_;exact ZY
end
def tV(p c b:Int)(a lo hi n cap N m:Nat)(A:an)(M:aE)(us:bG)(w:aa)(h:pa w lo hi (.slice A n cap) M us)(b7:hi<=(w:Nat))(Z:dr p=true)(a6:1<=c)(a7:c<p)(bo:a<M.length)(a0:iO p N m M)(b8:m<=1048576):aw 134 (pN (vp a b c) p A n cap) w (Chg lo hi (.slice A n cap) (scL p (fD p c) M a) w):=by
 obtain⟨z,O⟩:=aB bo;obtain⟨f1,f2,f3⟩:=mf Z a6 a7;obtain⟨p2,ce⟩:=eY Z;have a2:=zH (a0.el z (a_ O));have b9:z.length<9223372036854775807:=by have:=a0.row z (a_ O);omega
 obtain⟨E,R⟩:=aO (fD p c);obtain⟨Hk,bi⟩:=bS (by unfold scL;rw[getD_some O,R]:scL p (fD p c) M a=M.set a (gz p E z)) (fun w=>(by rw[R];exact wL p c w Z a6 a7:aw 129 (bP p c) w fun e w'=>e=.returned (zI E)/\w=w'));rw[<-R]at f2 f3;clear f1 R a0 Z;have bv:n=M.length:=XX;subst bv;go_enter func134,ntmps134
 go_upto_region 5 with(fail)
 have Q:Below w w (w.alloc (.cells (vp a b c) 161)):=(aj _ _).alloc (ag _) _;have F:=h.ext Q;obtain⟨g,ap,I,rfl,a1,Y,bp,b2,b3,ab⟩:=F.own.at O;have b6:=h.up g rfl;have ac:(w.alloc (.cells (vp a b c) 161)).heap[w.heap.size]?=some (.cells (vp a b c) 161 (0,0)):=az _ _ rfl;obtain⟨bm,a5⟩:=aO (w.alloc (.cells (vp a b c) 161));rw[<-a5]at Q F Y bp ac ab ⊢;have ao:=aW ac 1;have a3:=aW ac 3;simp only[dt,cZ]at ao a3;have ba:=F.ups _ (a_ a1);obtain⟨bb,be,F5,bd,a4,Fx⟩:=mA F a1 ab Q ba (fA F.own.outer ab);clear a5 a1 ac Q F h O ab ba;go_wp2_with ((go_at_call 129;refine(bi.o _).mono ?_;rintro e w' ⟨rfl,rfl⟩))
 go_loopw [43] (fun i wr=>∃k:Nat,k<=z.length/\i=.int .i64 k/\wr.ownsRow lo 3 1 (.slice ap z I) z ((mI p E z k).map (Value.int .i64))/\bm.grownBy wr (Value.slice ap z I).ownBlock)
  (fun i _=>z.length-(intOf i).toNat)
 case atStart=>exact⟨0,bf _,rfl,TB,⟨rfl,rfl,rfl,ag _,fun _ _ _=>rfl⟩⟩
 case round=>
  obtain⟨k,a8,rfl,H,D⟩:=hrel;by_cases a9:k<z.length
  .obtain⟨x,am⟩:=aB a9;obtain⟨J,rfl,b4,_⟩:=kD F5 RU;have b5:=a4 J rfl;have ca:g≠J:=XF;have ch:ah wr w 1 (zI a):=D.cell ao UL;have ci:ah wr g a (.slice (aY J) z I):=D.cell Y UL;have b0:ah wr J k (zI x):=by rw[H.cellAt k RU,cp,vY _ _ _ _ a9,am];rfl
   have b1:=H.frozenAt k;obtain⟨v1,v2⟩:=a2 x (a_ am);have cb:0<=x*E:=xT v1 RU;have cc:x*E<=1000000:=by have:=Int.mul_le_mul (RU:x<=97) (RU:E<=97) RU RU;omega
   have ad:=H.stored k (zI (x*E%p));rw[<-h_,vZ _ _ _ _ _ am]at ad;obtain⟨HS,HG⟩:=bS ad.1 (bx D ad.2);have F:=iu (x*E) (RU:0<p);have bz:¬p=0:=RU;clear ad am H D ao a3 Y a2;go_wp2_with fail
   go_region_held3 (fun w'=>ah w' w 1 (zI a)/\ah w' g a (.slice (aY J) z I))
    (first|(simp[*];done)|(refine⟨?_,?_⟩<;>(first|(refine(eF SJ).trans ?_;assumption)|(refine(jZ SJ).trans ?_;assumption)))) (fail)
   exact YA
  .have br:k=z.length:=RU;subst br;rw[vX p E z z (ag _)]at H;have HN:=zH (bb.inner (r':=gz p E z) be D (by unfold ar;rw[show(gz p E z).length=z by simp[gz]];exact H));have HE:=zH (show dh lo hi w wr from(dh.iL bd).trans (by
    cases U:(Value.slice ap z I).ownBlock with
    |none=>rw[U]at D;exact dh.iL ⟨D.os,D.tape,D.output,D.size,fun k a8=>D.block k a8 RS⟩
    |some b=>rw[U]at D;exact dh.zk D (F5.lt b U).1 (a4 b U)))
   clear H D Y ao a3 a2;exact Xx
def uD(p c:Int)(a b lo hi n cap N m:Nat)(A:an)(M:aE)(us:bG)(w:aa)(h:pa w lo hi (.slice A n cap) M us)(cR:hi<=(w:Nat))(c5:2<=p)(c6:p<=97)(cu:0<=c)(cy:c<p)(b9:a<M.length)(cb:b<M.length)(ct:a≠b)(ad:iO p N m M)(cj:m<=1048576):aw 134 (pN (rS a b c) p A n cap) w (Chg lo hi (.slice A n cap) (M.set a (dw p (-c) (M.getD a []) (M.getD b []))) w):=by
 obtain⟨E,O⟩:=aB b9;obtain⟨H,Q⟩:=aB cb;obtain⟨Hk,R,ao,b6,b7⟩:=lv (by rw[getD_some O,getD_some Q]:M.set a (dw p (-c) (M.getD a []) (M.getD b []))=M.set a (dw p (-c) E H)) (ad.row E (a_ O)) (ad.row H (a_ Q)) (show ∀x∈E,0<=x/\x<=1000 from fun x bb=>by have:=ad.el E (a_ O) x bb;omega) (show ∀x∈H,0<=x/\x<=1000 from fun x bb=>by have:=ad.el H (a_ Q) x bb;omega);have ck:n=M.length:=XX;subst ck;clear ad;go_enter func134,ntmps134
 go_upto_region 12 with(fail)
 have U:Below w w (w.alloc (.cells (rS a b c) 161)):=(aj _ _).alloc (ag _) _;have F:=h.ext U;obtain⟨g,bd,ap,rfl,am,Z,cc,cz,cF,I⟩:=F.own.at O;obtain⟨cr,be,a0,b8,a1,ab,ce,_,_,ac⟩:=F.own.at Q;cases b8
 have cO:=h.up g rfl;have J:(w.alloc (.cells (rS a b c) 161)).heap[w.heap.size]?=some (.cells (rS a b c) 161 (0,0)):=az _ _ rfl;obtain⟨a7,ba⟩:=aO (w.alloc (.cells (rS a b c) 161));rw[<-ba]at U F Z cc ab ce J I ac ⊢;have a2:=aW J 1;have a3:=aW J 2;have a4:=aW J 3;simp only[dt,cZ]at a2 a3 a4;have c7:IntKind.i64.wrap (-c)=-c:=SQ;obtain⟨a6,bm,co,cn,bi,b5,ca⟩:=zH7 F am a1 I U (F.ups _ (a_ am)) (fA F.own.outer I);have c0:g≠w.heap.size:=RU;have Y:=ac.view;obtain⟨_,_,bo,Y,_⟩:=Y;simp only[fO]at bo;obtain⟨rfl,_,rfl⟩:=bo;rcases pP m with a9|a9
 .obtain rfl:E=[]:=eS (by rw[R.o];exact a9);obtain rfl:H=[]:=eS (by rw[ao.o];exact a9);have a5:=zH (uq p (-c) bd be ap a0 a7.drew);clear ba am a1 J U F h O Q I ac Y;simp only[ix]at Z ab;go_region_held3 (fun w'=>ah w' w 1 (zI a)/\ah w' w 2 (zI b)/\ah w' w 3 (zI c)/\ah w' g a (.slice bd 0 ap)/\ah w' g b (.slice be 0 a0))
   (first|exact⟨a2,a3,a4,Z,ab⟩)
   ((go_at_call 147;refine a5.mono ?_;rintro e wr ⟨rfl,rfl⟩))
  go_wp2;go_end0
  refine⟨rfl,⟨us,?_⟩,(dh.iL bi).trans (dh.iL (aj _ _).drew)⟩;rw[Hk.o,show dw p (-c) [] []=([]:aG) from rfl,nL (by
   obtain⟨r,h1,bv⟩:=a6.own.kU bm;have:=kG bv;obtain⟨_,_,e,_,_⟩:=bv.view;simp only[fO]at e;rw[h1,eS e.2.1.symm])]
  exact a6.ext (aj _ _).drew
 .obtain⟨z,rfl,ch,_⟩:=kD I (by have:=R.o;omega);obtain⟨a8,rfl,cI,_⟩:=kD ac (by have:=ao.o;omega);have ci:=b5 z rfl;have c4:a8≠z:=fun e=>by have:=F.own.apart _ _ _ _ z am a1 rfl (by rw[<-e];rfl);omega
  have br:g≠z:=by
   rcases ca.o with h1|h1
   .cases h1
   .exact W8
  have a5:=zH (um p (-c) lo z ap a0 (some ⟨a8,0,none⟩) E H a7.drew RU RU RU RU (vE I) (Y.ext (aj _ _).drew) (fun b o e=>by simp only[dX,su]at e;omega) (by rw[R.o,ao.o]) (by rw[R.o];exact cj) b6 b7);clear ba am a1 J U F h O Q I ac Y;go_region_held3 (fun w'=>ah w' w 1 (zI a)/\ah w' w 2 (zI b)/\ah w' w 3 (zI c)/\ah w' g a (.slice (aY z) E ap)/\ah w' g b (.slice (aY a8) H a0))
   (first|exact bp|exact⟨a2,a3,a4,Z,ab⟩)
   ((go_at_call 147;refine a5.mono ?_;rintro e wr ⟨rfl,bz,D⟩;have b0:=oq D (a:=⟨w,1,none⟩) a2 (RU:w.heap.size≠z);have b1:=oq D (a:=⟨w,2,none⟩) a3 (RU:w.heap.size≠z);have b2:=oq D (a:=⟨w,3,none⟩) a4 (RU:w.heap.size≠z);have b3:=oq D (a:=⟨g,a,none⟩) Z br;have b4:=oq D (a:=⟨g,b,none⟩) ab br;have bp:=bn b0 (bn b1 (bn b2 (bn b3 b4)))))
  have D:=bx (dP a7 (some z)) D;have HN:=zH (a6.inner (r':=dw p (-c) E H) bm D (by
   unfold ar;rw[show(dw p (-c) E H).length=E by simp[dw,R.o,ao.o]];exact bz))
  have HE:=zH (show dh lo hi w wr from(dh.iL bi).trans (dh.zk D ch ci));clear bz D bp b0 b1 b2 b3 b4;exact Xx
def zjg(D E F z:Nat)(v1 v2:au)(M X:aE)(w:aa)(e:Ending)(w':aa):Prop:=
 e=.returned (.tuple #[])/\Has w' D E v1 M/\Has w' F z v2 X/\dh D z w w'
def zdt(p k a b c:Int)(H E F z Q n2 O D J ab I:Nat)(A1 A2:an)(M X Y Z:aE)(us2:bG)(w:aa)(hp:ah w J 0 (zI p))(hr:ah w ab 0 (.slice A1 Q O))(ha:ah w I 0 (.slice A2 n2 D))(J_:J<H∨E<=J)(J8:I<H∨E<=I)(ac:pa w F z (.slice A2 n2 D) X us2)(h12:E<=F)(a1:F<=z)(a0:H<=E)(ap:z<=(w:Nat))(ao:¬k=0∨(k=0/\¬b=a))(R:∀W,ai w W->aw 134 (pN (mV k a b c) p A1 Q O) W (Chg H E (.slice A1 Q O) Y W))(U:∀W,z<=W.heap.size->pa W F z (.slice A2 n2 D) X us2->aw 134 (pN (mV k a b c) p A2 n2 D) W (Chg F z (.slice A2 n2 D) Z W)):aw 133 (rT (mV k a b c) (aY J) (aY ab) (aY I)) w (zjg H E F z (.slice A1 Q O) (.slice A2 n2 D) Y Z w):=by
 obtain⟨H1,H2⟩:=bS R U;clear R U;have J6:=zH ac;have a2:=jO hp;have a3:=jO hr;clear ac;have ad:Below w w (w.alloc (.cells (mV k a b c) 161)):=(aj _ _).alloc (ag _) _;obtain⟨HB,HQ⟩:=bS ad (show(w.alloc (.cells (mV k a b c) 161)).heap[w.heap.size]?=some (.cells (mV k a b c) 161 (0,0)) from az _ _ rfl);clear ad;rcases ao with am|⟨rfl,am⟩
 ·
  exact ZR
 ·
  exact ZR
structure yV(p:Int)(lo1 hi1 lo2 hi2 N cap1 cap2 bp br ba:Nat)(A1 A2:an)(w:aa):Prop where
 hp:ah w bp 0 (zI p)
 hr:ah w br 0 (.slice A1 N cap1)
 ha:ah w ba 0 (.slice A2 N cap2)
 bp1:hi2<=bp
 br1:hi2<=br
 ba1:hi2<=ba
 h12:hi1<=lo2
 hl1:lo1<=hi1
 hl2:lo2<=hi2
 h2w:hi2<=(w:Nat)
 f:dr p=true
structure vO(p:Int)(lo1 hi1 lo2 hi2 N n n2 cap1 cap2:Nat)(A1 A2:an)(M X:aE)(w wr:aa):Prop where
 h1:Has wr lo1 hi1 (.slice A1 N cap1) M
 h2:Has wr lo2 hi2 (.slice A2 N cap2) X
 s1:iO p N n M
 s2:iO p N n2 X
 wi:dh lo1 hi2 w wr
section
variable{p:Int}{lo1 hi1 lo2 hi2 N n n2 cap1 cap2 bp br ba:Nat}{A1 A2:an}{M X:aE}{w wr:aa}
def RTo(p:Int)(lo1 hi1 lo2 hi2 N n n2 cap1 cap2:Nat)(A1 A2:an)(M X:aE)(w:aa)(e:Ending)(w':aa):Prop:=
 e=.returned (.tuple #[])/\vO p lo1 hi1 lo2 hi2 N n n2 cap1 cap2 A1 A2 M X w w'
def yV.size(B:yV p lo1 hi1 lo2 hi2 N cap1 cap2 bp br ba A1 A2 w)(S:vO p lo1 hi1 lo2 hi2 N n n2 cap1 cap2 A1 A2 M X w wr):hi2<=(wr:Nat):=by have:=S.wi.size;have:=B.h2w;omega
def yV.cells(B:yV p lo1 hi1 lo2 hi2 N cap1 cap2 bp br ba A1 A2 w)(S:vO p lo1 hi1 lo2 hi2 N n n2 cap1 cap2 A1 A2 M X w wr):ah wr bp 0 (zI p)/\ah wr br 0 (.slice A1 N cap1)/\ah wr ba 0 (.slice A2 N cap2):=⟨S.wi.cell B.hp (aA B.bp1),S.wi.cell B.hr (aA B.br1),S.wi.cell B.ha (aA B.ba1)⟩
def vO.go{k a b c:Int}(B:yV p lo1 hi1 lo2 hi2 N cap1 cap2 bp br ba A1 A2 w)(S:vO p lo1 hi1 lo2 hi2 N n n2 cap1 cap2 A1 A2 M X w wr)(J:¬k=0∨(k=0/\¬b=a))(t1:iO p N n Y)(t2:iO p N n2 Rw)(D:∀us W,hi1<=W.heap.size->pa W lo1 hi1 (.slice A1 N cap1) M us->aw 134 (pN (mV k a b c) p A1 N cap1) W (Chg lo1 hi1 (.slice A1 N cap1) Y W))(E:∀us W,hi2<=W.heap.size->pa W lo2 hi2 (.slice A2 N cap2) X us->aw 134 (pN (mV k a b c) p A2 N cap2) W (Chg lo2 hi2 (.slice A2 N cap2) Rw W)):aw 133 (rT (mV k a b c) (aY bp) (aY br) (aY ba)) wr (RTo p lo1 hi1 lo2 hi2 N n n2 cap1 cap2 A1 A2 Y Rw w):=by obtain⟨Z,F⟩:=S.h1;obtain⟨us2,H⟩:=S.h2;obtain⟨c1,c2,c3⟩:=B.cells S;have O:=B.size S;have:=B.h12;have:=B.hl1;have:=B.hl2;have:=B.bp1;have:=B.ba1;refine(zdt p k a b c lo1 hi1 lo2 hi2 N N cap1 cap2 bp br ba A1 A2 M X Y Rw us2 wr c1 c2 c3 (aA RU) (aA RU) H B.h12 B.hl2 B.hl1 O J (fun W z=>D Z W (by have:=z.size;omega) (F.ext z)) (fun W z h=>E us2 W z h)).mono ?_;rintro e w' ⟨I,Q,R,U⟩;exact⟨I,Q,R,t1,t2,S.wi.trans U⟩
def vO.sw{a:Nat}(B:yV p lo1 hi1 lo2 hi2 N cap1 cap2 bp br ba A1 A2 w)(S:vO p lo1 hi1 lo2 hi2 N n n2 cap1 cap2 A1 A2 M X w wr)(ha:a<N)(z:b<N)(E:a≠b):aw 133 (rT (vo a b) (aY bp) (aY br) (aY ba)) wr (RTo p lo1 hi1 lo2 hi2 N n n2 cap1 cap2 A1 A2 (zP M a b) (zP X a b) w):=vO.go B S (aA ⟨rfl,RU⟩) (xB S.s1 ha z) (xB S.s2 ha z)
  (fun us W D h=>wY p 0 a b lo1 hi1 N cap1 A1 M us W h D TZ (by rw[S.s1.1];exact z) E)
  (fun us W D h=>wY p 0 a b lo2 hi2 N cap2 A2 X us W h D TY (by rw[S.s2.1];exact z) E)
def vO.dv{a:Nat}{c:Int}(B:yV p lo1 hi1 lo2 hi2 N cap1 cap2 bp br ba A1 A2 w)(S:vO p lo1 hi1 lo2 hi2 N n n2 cap1 cap2 A1 A2 M X w wr)(ha:a<N)(E:1<=c)(F:c<p)(H:n<=1048576)(I:n2<=1048576):aw 133 #[.agg #[.int .i64 1,a,(),c],.pointer (aY bp),.pointer (aY br),.pointer (aY ba)] wr (RTo p lo1 hi1 lo2 hi2 N n n2 cap1 cap2 A1 A2 (scL p (fD p c) M a) (scL p (fD p c) X a) w):=by
 have D:=(eY B.f).1;exact vO.go B S (aF RX) (xC D S.s1 ha) (xC D S.s2 ha)
  (fun us W z h=>tV p c 0 a lo1 hi1 N cap1 N n A1 M us W h z B.f E F TZ S.s1 H)
  (fun us W z h=>tV p c 0 a lo2 hi2 N cap2 N n2 A2 X us W h z B.f E F TY S.s2 I)
def vO.sb{a:Nat}{c:Int}(B:yV p lo1 hi1 lo2 hi2 N cap1 cap2 bp br ba A1 A2 w)(S:vO p lo1 hi1 lo2 hi2 N n n2 cap1 cap2 A1 A2 M X w wr)(ha:a<N)(D:b<N)(F:a≠b)(H:0<=c)(I:c<p)(J:n<=1048576)(O:n2<=1048576):aw 133 (rT (rS a b c) (aY bp) (aY br) (aY ba)) wr (RTo p lo1 hi1 lo2 hi2 N n n2 cap1 cap2 A1 A2 (M.set a (dw p (-c) (M.getD a []) (M.getD b []))) (X.set a (dw p (-c) (X.getD a []) (X.getD b []))) w):=by
 have z:=eY B.f;exact vO.go B S (aF RX) (xD z.1 S.s1 ha D).1 (xD z.1 S.s2 ha D).1
  (fun us W E h=>uD p c a b lo1 hi1 N cap1 N n A1 M us W h E z.1 z.2 H I TZ (by rw[S.s1.1];exact D) F S.s1 J)
  (fun us W E h=>uD p c a b lo2 hi2 N cap2 N n2 A2 X us W h E z.1 z.2 H I TY (by rw[S.s2.1];exact D) F S.s2 O)
def vO.sw0{a:Nat}(B:yV p lo1 hi1 lo2 hi2 N cap1 cap2 bp br ba A1 A2 w)(S:vO p lo1 hi1 lo2 hi2 N n n2 cap1 cap2 A1 A2 M X w wr):aw 133 (rT (vo a a) (aY bp) (aY br) (aY ba)) wr (RTo p lo1 hi1 lo2 hi2 N n n2 cap1 cap2 A1 A2 M X w):=by
 have z:Below wr wr (wr.alloc (.cells (vo a a) 161)):=(aj _ _).alloc (ag _) _;have D:Hd (RTo p lo1 hi1 lo2 hi2 N n n2 cap1 cap2 A1 A2 M X w (.returned (.tuple #[])) (wr.alloc (.cells (vo a a) 161))):=
  zH ⟨rfl,S.h1.ext z,S.h2.ext z,S.s1,S.s2,S.wi.trans (dh.iL z)⟩
 clear S B z;go_enter func133,ntmps133
 go_wp2;go_end0
 exact D.o
def vO.ex{a:Nat}(B:yV p lo1 hi1 lo2 hi2 N cap1 cap2 bp br ba A1 A2 w)(S:vO p lo1 hi1 lo2 hi2 N n n2 cap1 cap2 A1 A2 M X w wr)(F:a<N)(H:b<N):aw 133 (rT (vo a b) (aY bp) (aY br) (aY ba)) wr (RTo p lo1 hi1 lo2 hi2 N n n2 cap1 cap2 A1 A2 (zP M a b) (zP X a b) w):=by
 by_cases h:a=b
 .subst h;have E:∀{z:aE},z.length=N->zP z a a=z:=fun {z} I=>by unfold zP;obtain⟨x,D⟩:=aB (RU:a<z.length);rw[getD_some D,nL D,nL D]
  rw[E S.s1.1,E S.s2.1];exact vO.sw0 B S
 .exact vO.sw B S F H h
def vO.at1(S:vO p lo1 hi1 lo2 hi2 N n n2 cap1 cap2 A1 A2 M X w wr)(hi:i<N)(Y:d<n):∃g z c,A1=some ⟨g,0,none⟩/\ah wr g i (.slice (aY z) n c)/\ah wr z d (zI (eM M i d)):=by
 obtain⟨us,h⟩:=S.h1;obtain⟨r,D⟩:=aB (by rw[S.s1.1];exact hi:i<M.length);have O:=S.s1.row r (a_ D);obtain⟨x,H⟩:=aB (RU:d<r.length);have J:eM M i d=x:=by unfold eM;rw[getD_some D,getD_some H]
 obtain⟨g,R,c,rfl,Q,F,_⟩:=h.own.at D;obtain⟨z,U,E,I,_⟩:=h.own.gS D H;rw[Q]at E;simp only[dX,fO]at E;obtain⟨rfl,_,rfl⟩:=E;rw[O]at F;rw[J];exact⟨g,z,c,rfl,F,I⟩
end
end Go.Proofs.YtdpgblncijojiaaGreatDoor
