/- Parts of the walks. Conditions: as stated with each. -/
import Derived.Test.YtpieilkmmiopfaaGreatDoorPk10
namespace Go.Proofs.YtpieilkmmiopfaaGreatDoor
open Go.RowKit Tryz
set_option linter.all false
set_option maxHeartbeats 4000000
set_option maxRecDepth 100000
variable{M M':aP}{N b d hi i j k lo n:Nat}{T u v:aG}{p:Int}{r':aL}{us:cL}{w w':aa}
def eV.el(h:eV p N n M):∀r∈M,∀x∈r,0<=x/\x<p:=fun r F x I=>by obtain⟨i,hi⟩:=eH.1 F;obtain⟨d,D⟩:=eH.1 I;have H:=(bG.1 hi).1;have G:=(bG.1 D).1;have:=h.2.2 i d (by rw[<-h.1];exact H) (by rw[<-h.row r F];exact G);unfold eM at this;rwa[getD_some hi,getD_some D]at this
def tc.K(h:tc w lo hi v M us)(F:us[k]?=some u)(D:w.grownBy w' u.ownBlock)(G:aE w' lo u r'):tc w' lo hi v (M.set k r') us:=⟨h.μ.K F D G,h.up,h.Í⟩
def tc.J{g ε}{G}{I J}(h:tc w lo hi (.slice (bH g) n ε) M us)(O:n=M.length)(hi':us[i]?=some T)(H:us[j]?=some G)(U:M[i]?=some I)(Y:M[j]?=some J):tc ((w.setCell ⟨g,i,none⟩ G).setCell ⟨g,j,none⟩ T) lo hi (.slice (bH g) n ε) ((M.set i J).set j I) ((us.set i G).set j T):=
 ⟨h.μ.J O hi' H U Y,h.up,fun u Z b F=>by
  rcases Ε Z with D|rfl
  .rcases Ε D with D|rfl
   .exact h.Í u D b F
   .exact h.Í _ (aU H) b F
  .exact h.Í _ (aU hi') b F⟩
def Chg(lo hi:Nat)(v:aG)(M:aP)(w:aa)(e:Ending)(w':aa):Prop:=e=.returned (.tuple #[])/\Κ w' lo hi v M/\b_ lo hi w w'
def Ci p c a b lo hi n ε A M us w(h:tc w lo hi (.slice A n ε) M us)(a8:hi<=(w:Nat))(ad:a<M.length)(ah:b<M.length)(a6:a≠b):az 222 (rL (Ai a b c) p A n ε) w (Chg lo hi (.slice A n ε) (Bm M a b) w):=by
 have⟨Y,G⟩:=aq ad;have⟨rb,H⟩:=aq ah;have GX:=zH (by unfold Bm;rw[getD_some G,getD_some H]:Bm M a b=(M.set a rb).set b Y);have a0:n=M.length:=Xu;subst a0;go_enter func222,ntmps222
 go_upto_region 3 with(fail)
 have F:Below w w (w.alloc (.cells (Ai a b c) 267)):=(al _ _).alloc (ae _) _;have D:=h.ext F;obtain⟨g,Z,ab,rfl,T,am,an,ap,a7,_⟩:=D.μ.at G;obtain⟨a5,Ab,cb,ac,U,hcb,ao,_⟩:=D.μ.at H;cases ac
 have av:=h.up g rfl;have I:(w.alloc (.cells (Ai a b c) 267)).heap[w.heap.size]?=some (.cells (Ai a b c) 267 (0,0)):=aH _ _ rfl;have⟨W2,J⟩:=aR (w.alloc (.cells (Ai a b c) 267));rw[<-J]at F D am an hcb ao I ⊢;have⟨a1,a2,a3,a4⟩:=ye I;simp only[dA,dm]at a1 a2 a3 a4;have O:=D.J rfl T U G H;have⟨HS,HE⟩:=bJ O ((b_.gy (lo:=lo) (hi:=hi) F).t ((b_.EN (b:=g) (w:=W2) (w':=(W2.setCell ⟨g,a,none⟩ (.slice Ab rb cb)).setCell ⟨g,b,none⟩ (.slice Z Y ab)) (cx (D.μ.η.j a _).2 ((D.μ.η.j a (.slice Ab rb cb)).1.j b _).2) ap av)));have a9:g≠w.heap.size:=Qu;clear J O T U G H I F D h;refine C8 (S:=fun w'=>af w' w 1 (zI a)/\af w' w 2 (zI b)) QT QD (fun hHeld=>?_);refine eZ 0 ?_;refine eZ 1 ?_;refine eZ 2 ?_;refine eZ 3 ?_;refine eZ 4 ?_;refine eZ 5 ?_;refine eZ 6 ?_;refine eZ 7 ?_;refine eZ 8 ?_;refine eZ 9 ?_;refine eZ 11 ?_;refine eZ 12 ?_;refine eZ 13 ?_;refine eZ 14 ?_;refine lk (rs:=[10,15]) QT Qt ?_;refine pF rfl (fun K hK=>?_) (pF rfl (fun K hK=>?_) ll)
 .go_simp;refine hK.out _ _ QR (fun hHeld=>?_);refine Qm ?_;clear K hK;refine lk (rs:=[15]) QT Qt ?_;exact ZY
 .go_simp;refine hK.out _ _ QR (fun hHeld=>?_);refine Qm ?_;clear K hK;refine lk (rs:=[10]) QT Qt ?_;exact ZY
def yM p c b a lo hi n ε N m A M us w(h:tc w lo hi (.slice A n ε) M us)(b1:hi<=(w:Nat))(ac:bV p=true)(a5:1<=c)(a6:c<p)(bg:a<M.length)(av:eV p N m M)(b2:m<=1048576):az 222 (rL (Ah a b c) p A n ε) w (Chg lo hi (.slice A n ε) (Μ p (lu p c) M a) w):=by
 have⟨D,T⟩:=aq bg;have⟨f1,f2,f3⟩:=Ez ac a5 a6;have⟨p2,b7⟩:=cv ac;have a1:=zH (av.el D (aU T));have b3:D.length<9223372036854775807:=by have:=av.row D (aU T);omega
 have⟨G,Y⟩:=aR (lu p c);have⟨OI,bd⟩:=bJ (by unfold Μ;rw[getD_some T,Y]:Μ p (lu p c) M a=M.set a (kq p G D)) (fun w=>(by rw[Y];exact zcv p c w ac a5 a6:az 224 (bC p c) w fun e w'=>e=.returned (zI G)/\w=w'));rw[<-Y]at f2 f3;clear f1 Y av ac;have bn:n=M.length:=Xu;subst bn;go_enter func222,ntmps222
 go_upto_region 5 with(fail)
 have U:Below w w (w.alloc (.cells (Ah a b c) 267)):=(al _ _).alloc (ae _) _;have H:=h.ext U;obtain⟨g,ap,J,rfl,a0,ab,bh,br,bu,ad⟩:=H.μ.at T;have b0:=h.up g rfl;have ah:(w.alloc (.cells (Ah a b c) 267)).heap[w.heap.size]?=some (.cells (Ah a b c) 267 (0,0)):=aH _ _ rfl;have⟨be,a4⟩:=aR (w.alloc (.cells (Ah a b c) 267));rw[<-a4]at U H ab bh ah ad ⊢;have ao:=bB ah 1;have a2:=bB ah 3;simp only[dA,dm]at ao a2;have a9:=H.Í _ (aU a0);have⟨ba,bc,J2,bb,a3,Hu⟩:=ny H a0 ad U a9 (gF H.μ.η ad);clear a4 a0 ah U H h T ad a9;go_wp2_with ((go_at_call 224;refine(bd.o _).x ?_;rintro e w' ⟨rfl,rfl⟩))
 go_loopw [43] (fun i wr=>∃k:Nat,k<=D.length/\i=.int .i64 k/\wr.ownsRow lo 3 1 (.slice ap D J) D ((ma p G D k).map (Value.int .i64))/\be.grownBy wr (Value.slice ap D J).ownBlock)
  (fun i _=>D.length-(intOf i).toNat)
 case atStart=>exact⟨0,aW _,rfl,SD,⟨rfl,rfl,rfl,ae _,fun _ _ _=>rfl⟩⟩
 case round=>
  obtain⟨k,a7,rfl,I,F⟩:=hrel;by_cases a8:k<D.length
  .have⟨x,an⟩:=aq a8;obtain⟨O,rfl,bv,_⟩:=mr J2 Qu;have bz:=a3 O rfl;have b4:g≠O:=WV;have b8:af wr w 1 (zI a):=F.cell ao TQ;have b9:af wr g a (.slice (bH O) D J):=F.cell ab TQ;have bp:af wr O k (zI x):=by rw[I.C k Qu,bI,wG _ _ _ _ a8,an];rfl
   have bq:=I.g k;obtain⟨v1,v2⟩:=a1 x (aU an);have b5:0<=x*G:=rS v1 Qu;have b6:x*G<=1000000:=by have:=uB (Qu:x<=97) (Qu:G<=97) Qu Qu;omega
   have am:=I.j k (zI (x*G%p));rw[<-eW,wH _ _ _ _ _ an]at am;have⟨HS,HG⟩:=bJ am.1 (cx F am.2);have H:=gW (x*G) (Qu:0<p);have bo:¬p=0:=Qu;clear am an I F ao a2 ab a1;go_wp2_with fail
   go_region_held3 (fun w'=>af w' w 1 (zI a)/\af w' g a (.slice (bH O) D J))
    (first|(simp[*];done)|(refine⟨?_,?_⟩<;>(first|(refine(fu Rs).t ?_;assumption)|(refine(lQ Rs).t ?_;assumption)))) (fail)
   exact Yj
  .have bi:k=D.length:=Qu;subst bi;rw[wF p G D D (ae _)]at I;have HN:=zH (ba.K (r':=kq p G D) bc F (by unfold aE;rw[show(kq p G D).length=D by simp[kq]];exact I));have HE:=zH (show b_ lo hi w wr from(b_.gy bb).t (by
    cases Z:(Value.slice ap D J).ownBlock with
    |none=>rw[Z]at F;exact b_.gy ⟨F.os,F.tape,F.output,F.size,fun k a7=>F.block k a7 Qt⟩
    |some b=>rw[Z]at F;exact b_.EN F (J2.lt b Z).1 (a3 b Z)))
   clear I F ab ao a2 a1;exact WO
def y_ p c a b lo hi n ε N m A M us w(h:tc w lo hi (.slice A n ε) M us)(cr:hi<=(w:Nat))(cz:2<=p)(cA:p<=97)(cj:0<=c)(ck:c<p)(b3:a<M.length)(b5:b<M.length)(ci:a≠b)(am:eV p N m M)(ca:m<=1048576):az 222 (rL (wU a b c) p A n ε) w (Chg lo hi (.slice A n ε) (M.set a (dw p (-c) (M.getD a []) (M.getD b []))) w):=by
 have⟨G,T⟩:=aq b3;have⟨I,U⟩:=aq b5;have⟨OI,Y,ao,b0,b1⟩:=pD (by rw[getD_some T,getD_some U]:M.set a (dw p (-c) (M.getD a []) (M.getD b []))=M.set a (dw p (-c) G I)) (am.row G (aU T)) (am.row I (aU U)) (show ∀x∈G,0<=x/\x<=1000 from fun x ba=>by have:=am.el G (aU T) x ba;omega) (show ∀x∈I,0<=x/\x<=1000 from fun x ba=>by have:=am.el I (aU U) x ba;omega);have cb:n=M.length:=Xu;subst cb;clear am;go_enter func222,ntmps222
 go_upto_region 12 with(fail)
 have Z:Below w w (w.alloc (.cells (wU a b c) 267)):=(al _ _).alloc (ae _) _;have H:=h.ext Z;obtain⟨g,bb,ap,rfl,an,ac,b6,cn,co,J⟩:=H.μ.at T;obtain⟨ch,bc,av,b2,a0,ad,b7,_,_,ah⟩:=H.μ.at U;cases b2
 have cq:=h.up g rfl;have O:(w.alloc (.cells (wU a b c) 267)).heap[w.heap.size]?=some (.cells (wU a b c) 267 (0,0)):=aH _ _ rfl;have⟨a6,a9⟩:=aR (w.alloc (.cells (wU a b c) 267));rw[<-a9]at Z H ac b6 ad b7 O J ah ⊢;have a1:=bB O 1;have a2:=bB O 2;have a3:=bB O 3;simp only[dA,dm]at a1 a2 a3;have cB:IntKind.i64.wrap (-c)=-c:=Rt;have⟨a5,be,ce,cc,bd,bz,b4⟩:=zH7 H an a0 J Z (H.Í _ (aU an)) (gF H.μ.η J);have ct:g≠w.heap.size:=Qu;have ab:=ah.p;obtain⟨_,_,bg,ab,_⟩:=ab;simp only[ep]at bg;obtain⟨rfl,_,rfl⟩:=bg;rcases AH m with a8|a8
 .obtain rfl:G=[]:=iq (by rw[Y.o];exact a8);obtain rfl:I=[]:=iq (by rw[ao.o];exact a8);have a4:=zH (tj p (-c) bb bc ap av a6.drew);clear a9 an a0 O Z H h T U J ah ab;simp only[iN]at ac ad;go_region_held3 (fun w'=>af w' w 1 (zI a)/\af w' w 2 (zI b)/\af w' w 3 (zI c)/\af w' g a (.slice bb 0 ap)/\af w' g b (.slice bc 0 av))
   (first|exact⟨a1,a2,a3,ac,ad⟩)
   ((go_at_call 176;refine a4.x ?_;rintro e wr ⟨rfl,rfl⟩))
  go_wp2;go_end0
  refine⟨rfl,⟨us,?_⟩,(b_.gy bd).t (b_.gy (al _ _).drew)⟩;rw[OI.o,show dw p (-c) [] []=([]:aL) from rfl,qH (by
   obtain⟨r,h1,bn⟩:=a5.μ.nT be;have:=pW bn;obtain⟨_,_,e,_,_⟩:=bn.p;simp only[ep]at e;rw[h1,iq e.2.1.q])]
  exact a5.ext (al _ _).drew
 .obtain⟨D,rfl,b8,_⟩:=mr J (by have:=Y.o;omega);obtain⟨a7,rfl,cp,_⟩:=mr ah (by have:=ao.o;omega);have b9:=bz D rfl;have cu:a7≠D:=fun e=>by have:=H.μ.apart _ _ _ _ D an a0 rfl (by rw[<-e];rfl);omega
  have bi:g≠D:=by
   rcases b4.o with h1|h1
   .cases h1
   .exact Wg
  have a4:=zH (pL p (-c) lo D ap av (some ⟨a7,0,none⟩) G I a6.drew Qu Qu Qu Qu (AB J) (ab.ext (al _ _).drew) (fun b o e=>by simp only[dW,xg]at e;omega) (by rw[Y.o,ao.o]) (by rw[Y.o];exact ca) b0 b1);clear a9 an a0 O Z H h T U J ah ab;go_region_held3 (fun w'=>af w' w 1 (zI a)/\af w' w 2 (zI b)/\af w' w 3 (zI c)/\af w' g a (.slice (bH D) G ap)/\af w' g b (.slice (bH a7) I av))
   (first|exact bh|exact⟨a1,a2,a3,ac,ad⟩)
   ((go_at_call 176;refine a4.x ?_;rintro e wr ⟨rfl,bo,F⟩;have bp:=qX F (a:=⟨w,1,none⟩) a1 (Qu:w.heap.size≠D);have bq:=qX F (a:=⟨w,2,none⟩) a2 (Qu:w.heap.size≠D);have br:=qX F (a:=⟨w,3,none⟩) a3 (Qu:w.heap.size≠D);have bu:=qX F (a:=⟨g,a,none⟩) ac bi;have bv:=qX F (a:=⟨g,b,none⟩) ad bi;have bh:=aQ bp (aQ bq (aQ br (aQ bu bv)))))
  have F:=cx (eG a6 (some D)) F;have HN:=zH (a5.K (r':=dw p (-c) G I) be F (by
   unfold aE;rw[show(dw p (-c) G I).length=G by simp[dw,Y.o,ao.o]];exact bo))
  have HE:=zH (show b_ lo hi w wr from(b_.gy bd).t (b_.EN F b8 b9));clear bo F bh bp bq br bu bv;exact WO
def zm3(D F G h:Nat)(v1 v2:aG)(M X:aP)(w:aa)(e:Ending)(w':aa):Prop:=
 e=.returned (.tuple #[])/\Κ w' D F v1 M/\Κ w' G h v2 X/\b_ D h w w'
def zhB p k a b c I G H h U n2 T F O ac J A1 D(M X M' ab:aP)am w(hp:af w O 0 (zI p))(hr:af w ac 0 (.slice A1 U T))(ha:af w J 0 (.slice D n2 F))(hbp:O<I∨G<=O)(hba:J<I∨G<=J)(ad:tc w H h (.slice D n2 F) X am)(h12:G<=H)(a0:H<=h)(av:I<=G)(ap:h<=(w:Nat))(ao:¬k=0∨(k=0/\¬b=a))(Y:∀W,ag w W->az 222 (rL (pP k a b c) p A1 U T) W (Chg I G (.slice A1 U T) M' W))(Z:∀W,h<=W.heap.size->tc W H h (.slice D n2 F) X am->az 222 (rL (pP k a b c) p D n2 F) W (Chg H h (.slice D n2 F) ab W)):az 221 (wV (pP k a b c) (bH O) (bH ac) (bH J)) w (zm3 I G H h (.slice A1 U T) (.slice D n2 F) M' ab w):=by
 have⟨H1,H2⟩:=bJ Y Z;clear Y Z;have HH2:=zH ad;have a1:=ju hp;have a2:=ju hr;clear ad;have ah:Below w w (w.alloc (.cells (pP k a b c) 267)):=(al _ _).alloc (ae _) _;have⟨HB,HQ⟩:=bJ ah (show(w.alloc (.cells (pP k a b c) 267)).heap[w.heap.size]?=some (.cells (pP k a b c) 267 (0,0)) from aH _ _ rfl);clear ah;rcases ao with an|⟨rfl,an⟩
 ·
  exact ZO
 ·
  exact ZO
structure EA(p:Int)(lo1 hi1 lo2 hi2 N cap1 cap2 bp br ba:Nat)(A1 A2:ax)(w:aa):Prop where
 hp:af w bp 0 (zI p)
 hr:af w br 0 (.slice A1 N cap1)
 ha:af w ba 0 (.slice A2 N cap2)
 bp1:hi2<=bp
 br1:hi2<=br
 ba1:hi2<=ba
 h12:hi1<=lo2
 hl1:lo1<=hi1
 hl2:lo2<=hi2
 h2w:hi2<=(w:Nat)
 f:bV p=true
structure AO(p:Int)(lo1 hi1 lo2 hi2 N n n2 cap1 cap2:Nat)(A1 A2:ax)(M X:aP)(w wr:aa):Prop where
 h1:Κ wr lo1 hi1 (.slice A1 N cap1) M
 h2:Κ wr lo2 hi2 (.slice A2 N cap2) X
 s1:eV p N n M
 s2:eV p N n2 X
 wi:b_ lo1 hi2 w wr
section
variable{p:Int}{lo1 hi1 lo2 hi2 N n n2 cap1 cap2 bp br ba:Nat}{A1 A2:ax}{M X:aP}{w wr:aa}
def RTo(p:Int)(lo1 hi1 lo2 hi2 N n n2 cap1 cap2:Nat)(A1 A2:ax)(M X:aP)(w:aa)(e:Ending)(w':aa):Prop:=
 e=.returned (.tuple #[])/\AO p lo1 hi1 lo2 hi2 N n n2 cap1 cap2 A1 A2 M X w w'
def EA.size(B:EA p lo1 hi1 lo2 hi2 N cap1 cap2 bp br ba A1 A2 w)(S:AO p lo1 hi1 lo2 hi2 N n n2 cap1 cap2 A1 A2 M X w wr):hi2<=(wr:Nat):=by have:=S.wi.size;have:=B.h2w;omega
def EA.cells(B:EA p lo1 hi1 lo2 hi2 N cap1 cap2 bp br ba A1 A2 w)(S:AO p lo1 hi1 lo2 hi2 N n n2 cap1 cap2 A1 A2 M X w wr):af wr bp 0 (zI p)/\af wr br 0 (.slice A1 N cap1)/\af wr ba 0 (.slice A2 N cap2):=⟨S.wi.cell B.hp (au B.bp1),S.wi.cell B.hr (au B.br1),S.wi.cell B.ha (au B.ba1)⟩
def AO.go{k a b c}{h}(B:EA p lo1 hi1 lo2 hi2 N cap1 cap2 bp br ba A1 A2 w)(S:AO p lo1 hi1 lo2 hi2 N n n2 cap1 cap2 A1 A2 M X w wr)(Y:¬k=0∨(k=0/\¬b=a))(t1:eV p N n M')(t2:eV p N n2 h)(G:∀us W,hi1<=W.heap.size->tc W lo1 hi1 (.slice A1 N cap1) M us->az 222 (rL (pP k a b c) p A1 N cap1) W (Chg lo1 hi1 (.slice A1 N cap1) M' W))(H:∀us W,hi2<=W.heap.size->tc W lo2 hi2 (.slice A2 N cap2) X us->az 222 (rL (pP k a b c) p A2 N cap2) W (Chg lo2 hi2 (.slice A2 N cap2) h W)):az 221 (wV (pP k a b c) (bH bp) (bH br) (bH ba)) wr (RTo p lo1 hi1 lo2 hi2 N n n2 cap1 cap2 A1 A2 M' h w):=by obtain⟨ah,O⟩:=S.h1;obtain⟨F,T⟩:=S.h2;obtain⟨c1,c2,I⟩:=B.cells S;have Z:=B.size S;have:=B.h12;have:=B.hl1;have:=B.hl2;have:=B.bp1;have:=B.ba1;refine(zhB p k a b c lo1 hi1 lo2 hi2 N N cap1 cap2 bp br ba A1 A2 M X M' h F wr c1 c2 I (au Qu) (au Qu) T B.h12 B.hl2 B.hl1 Z Y (fun W D=>G ah W (by have:=D.size;omega) (O.ext D)) (fun W D J=>H F W D J)).x ?_;rintro e w' ⟨U,ab,ac,ad⟩;exact⟨U,ab,ac,t1,t2,S.wi.t ad⟩
def AO.sw{a}(B:EA p lo1 hi1 lo2 hi2 N cap1 cap2 bp br ba A1 A2 w)(S:AO p lo1 hi1 lo2 hi2 N n n2 cap1 cap2 A1 A2 M X w wr)(ha:a<N)(h:b<N)(G:a≠b):az 221 (wV (Ag a b) (bH bp) (bH br) (bH ba)) wr (RTo p lo1 hi1 lo2 hi2 N n n2 cap1 cap2 A1 A2 (Bm M a b) (Bm X a b) w):=AO.go B S (au ⟨rfl,Qu⟩) (wu S.s1 ha h) (wu S.s2 ha h)
  (fun us W F D=>Ci p 0 a b lo1 hi1 N cap1 A1 M us W D F SQ (by rw[S.s1.1];exact h) G)
  (fun us W F D=>Ci p 0 a b lo2 hi2 N cap2 A2 X us W D F SP (by rw[S.s2.1];exact h) G)
def AO.dv{a}{c}(B:EA p lo1 hi1 lo2 hi2 N cap1 cap2 bp br ba A1 A2 w)(S:AO p lo1 hi1 lo2 hi2 N n n2 cap1 cap2 A1 A2 M X w wr)(ha:a<N)(G:1<=c)(H:c<p)(I:n<=1048576)(J:n2<=1048576):az 221 #[.agg #[.int .i64 1,a,(),c],.pointer (bH bp),.pointer (bH br),.pointer (bH ba)] wr (RTo p lo1 hi1 lo2 hi2 N n n2 cap1 cap2 A1 A2 (Μ p (lu p c) M a) (Μ p (lu p c) X a) w):=by
 have F:=(cv B.f).1;exact AO.go B S (ay Qw) (wv F S.s1 ha) (wv F S.s2 ha)
  (fun us W D h=>yM p c 0 a lo1 hi1 N cap1 N n A1 M us W h D B.f G H SQ S.s1 I)
  (fun us W D h=>yM p c 0 a lo2 hi2 N cap2 N n2 A2 X us W h D B.f G H SP S.s2 J)
def AO.sb{a}{c}(B:EA p lo1 hi1 lo2 hi2 N cap1 cap2 bp br ba A1 A2 w)(S:AO p lo1 hi1 lo2 hi2 N n n2 cap1 cap2 A1 A2 M X w wr)(ha:a<N)(D:b<N)(H:a≠b)(I:0<=c)(J:c<p)(O:n<=1048576)(T:n2<=1048576):az 221 (wV (wU a b c) (bH bp) (bH br) (bH ba)) wr (RTo p lo1 hi1 lo2 hi2 N n n2 cap1 cap2 A1 A2 (M.set a (dw p (-c) (M.getD a []) (M.getD b []))) (X.set a (dw p (-c) (X.getD a []) (X.getD b []))) w):=by
 have h:=cv B.f;exact AO.go B S (ay Qw) (CJ h.1 S.s1 ha D).1 (CJ h.1 S.s2 ha D).1
  (fun us W G F=>y_ p c a b lo1 hi1 N cap1 N n A1 M us W F G h.1 h.2 I J SQ (by rw[S.s1.1];exact D) H S.s1 O)
  (fun us W G F=>y_ p c a b lo2 hi2 N cap2 N n2 A2 X us W F G h.1 h.2 I J SP (by rw[S.s2.1];exact D) H S.s2 T)
def AO.sw0{a:Nat}(B:EA p lo1 hi1 lo2 hi2 N cap1 cap2 bp br ba A1 A2 w)(S:AO p lo1 hi1 lo2 hi2 N n n2 cap1 cap2 A1 A2 M X w wr):az 221 (wV (Ag a a) (bH bp) (bH br) (bH ba)) wr (RTo p lo1 hi1 lo2 hi2 N n n2 cap1 cap2 A1 A2 M X w):=by
 have h:Below wr wr (wr.alloc (.cells (Ag a a) 267)):=(al _ _).alloc (ae _) _;have D:Hd (RTo p lo1 hi1 lo2 hi2 N n n2 cap1 cap2 A1 A2 M X w (.returned (.tuple #[])) (wr.alloc (.cells (Ag a a) 267))):=
  zH ⟨rfl,S.h1.ext h,S.h2.ext h,S.s1,S.s2,S.wi.t (b_.gy h)⟩
 clear S B h;go_enter func221,ntmps221
 go_wp2;go_end0
 exact D
def AO.ex{a}(B:EA p lo1 hi1 lo2 hi2 N cap1 cap2 bp br ba A1 A2 w)(S:AO p lo1 hi1 lo2 hi2 N n n2 cap1 cap2 A1 A2 M X w wr)(H:a<N)(I:b<N):az 221 (wV (Ag a b) (bH bp) (bH br) (bH ba)) wr (RTo p lo1 hi1 lo2 hi2 N n n2 cap1 cap2 A1 A2 (Bm M a b) (Bm X a b) w):=by
 by_cases F:a=b
 .subst F;have G:∀{h:aP},h.length=N->Bm h a a=h:=fun {h} J=>by unfold Bm;have⟨x,D⟩:=aq (Qu:a<h.length);rw[getD_some D,qH D,qH D]
  rw[G S.s1.1,G S.s2.1];exact AO.sw0 B S
 .exact AO.sw B S H I F
def AO.at1(S:AO p lo1 hi1 lo2 hi2 N n n2 cap1 cap2 A1 A2 M X w wr)(hi:i<N)(Y:d<n):∃g h c,A1=some ⟨g,0,none⟩/\af wr g i (.slice (bH h) n c)/\af wr h d (zI (eM M i d)):=by obtain⟨us,F⟩:=S.h1;have⟨r,hr⟩:=aq (by rw[S.s1.1];exact hi:i<M.length);have J:=S.s1.row r (aU hr);have⟨x,hx⟩:=aq (Qu:d<r.length);have I:eM M i d=x:=U4;obtain⟨g,T,c,rfl,O,G,_⟩:=F.μ.at hr;obtain⟨h,U,D,H,_⟩:=F.μ.vY hr hx;rw[O]at D;simp only[dW,ep]at D;obtain⟨rfl,_,rfl⟩:=D;rw[J]at G;rw[I];exact⟨g,h,c,rfl,G,H⟩
end
end Go.Proofs.YtpieilkmmiopfaaGreatDoor
