/- Parts of the walks. Conditions: as stated with each. -/
import Derived.Test.YtpieilkmmiopfaaGreatDoorPk33
import Derived.Test.YtpieilkmmiopfaaGreatDoorPk35
import Derived.Test.YtpieilkmmiopfaaGreatDoorPk39
namespace Go.Proofs.YtpieilkmmiopfaaGreatDoor
open Go.RowKit Tryz
set_option linter.all false
set_option maxHeartbeats 8000000
set_option maxRecDepth 100000
variable{J b n:Nat}{V w w':aa}
def yr(p:Int)(s:Sy)(xs:List j8)(n:Nat):List Sy:=(List.range n).map (iU p s xs)
def zhG p s xs n:yr p s xs (n+1)=yr p s xs n++[iU p s xs n]:=by simp[yr,nk]
def EC p s xs n:(yr p s xs n).length=n:=by simp[yr]
def zdG p s xs n k(h:k<n):(yr p s xs n)[k]?=some (iU p s xs k):=by simp[yr,h]
def zkG p s x A ε w D G(J:bt w A s.rows)(O:aO w D x.row)(Y:s.Ok p)(U:vO p s x=true):az 96 (j9 p (da s A ε) (jP x.k x.a x.b x.c D x.row G)) w fun e w'=>∃h c2,e=.returned (.agg (eO (iQ p s x).v (iQ p s x).h h (iQ p s x).rows c2))/\aY w' w (.slice h (iQ p s x).rows c2) (iQ p s x).rows/\ag w w':=by
 refine(zfB p s.v s.h x.k x.a x.b x.c A ε s.rows w D x.row G J O Y U).x fun e w' T=>?_
 obtain⟨u,H,F,I⟩:=T;obtain⟨h,c2,rfl,_⟩:=F.p;exact⟨h,c2,H,F,I⟩
def zjm(p:Int)(s:Sy)(xs:List j8)(w:aa)(e:Ending)(w':aa):Prop:=
 ∃g ε,e=.returned (.slice (bH g) (eL p s xs+1) ε)/\uY w' w (.slice (bH g) (eL p s xs+1) ε) (yr p s xs (eL p s xs+1))/\ag w w'
def zlP(p:Int)(s:Sy)(xs:List j8)(w:aa)(k:Nat)(u:aG)(wr:aa):Prop:=
 k<=eL p s xs/\∃g m ε,m=k+1/\u=.slice (bH g) m ε/\uY wr w u (yr p s xs (k+1))/\ag w wr
def zhH p(s:Sy)A ε xs w a1 b3(cp:bt w A s.rows)(cr:iS w a1 xs)(bu:s.Ok p)(em:xs.length<=3000)(cO:∀x∈xs,x.row.length<=1048576):az 60 #[p,.agg (da s A ε),.slice a1 xs b3] w (zjm p s xs w):=by
 have bz:=bu.β;obtain⟨ca,d2,dr,dc,b9,b7⟩:=ny cp cr bu cO (show s.rows.length<=1048576 by have:=bz.n;omega) (show ∀r∈s.rows,r.length<=1048576 from fun r d9=>by have:=bz.ι r d9;omega);clear cp cr bu cO bz;have a7:=zH ((al w w).alloc (ae _) (.cells (da s A ε) 57));go_enter func60,ntmps60
 go_wp2_with (go_at_call 94;refine(kL _ _ _ _ _ _ (ca.ext a7) b9 b7).x ?_;rintro e b2 ⟨u,rfl,b1,ct⟩;obtain⟨A1,c1,rfl,_⟩:=b1.p;have ci:=zH b1;have b5:=zH ct;clear b1 ct)
 have c4:zlP p s xs w 0 (.slice (bH b2) 1 1) (b2.alloc (.cells (da s A1 c1) 57)):=by have bo:=a7.t (b5.x (B':=w.heap.size) Rs);refine⟨aW _,_,1,_,rfl,rfl,?_,bo.alloc bo.size _⟩;have:=uY.ψ b2 w s (.slice A1 s.rows c1) bo.size (ci.x Qt);rw[show yr p s xs (0+1)=[s] by simp[yr,mG]];exact this
 have ch:=zH c4;clear c4 ci b5 a7 ca b9 b7;go_loopw [7,15] (fun u i wr=>∃k:Nat,k<=xs.length/\i=.int .i64 k/\zlP p s xs w k u wr)
  (fun _ i _=>xs.length-(intOf i).toNat)
 case atStart=>exact⟨0,aW _,rfl,ch⟩
 case round=>
  obtain⟨k,ej,rfl,bq,g,m,bn,cK,rfl,a3,bp⟩:=hrel;have am:=zH cK;have ek:k<m:=Qu;clear ch cK;have⟨a9,ah⟩:=bJ a3 bp;have⟨D,a0⟩:=aR (iU p s xs k);obtain⟨Pa,a8⟩:=bJ a0 (by rw[a0];exact vP dr bq:D.Ok p);by_cases cI:k<xs.length
  .have⟨x,a4⟩:=aq cI;obtain⟨b,o,rfl,cA⟩:=(d2.ext ah).θ cI;obtain⟨Z,ap,⟨J,O,T,U,Y⟩,cF⟩:=cA k x a4;have⟨cc,db,ba⟩:=er (dc x (aU a4)) cF a4;obtain⟨ee,eg,c6,c0,_⟩:=a3.p;simp only[ep]at c6;obtain⟨rfl,-,-⟩:=c6;have br:k < (yr p s xs (k+1)).length:=by rw[EC];omega
   obtain⟨ei,eo,cB,c3⟩:∃b o,some (⟨g,0,none⟩:dM)=some ⟨b,o,none⟩/\∀(a5:Nat) (x:Sy),(yr p s xs (k+1))[a5]?=some x->∃Z ε,(af wr b (o+a5*3) (zI x.v)/\af wr b (o+a5*3+1) (zI x.h)/\af wr b (o+a5*3+2) (.slice Z x.rows ε))/\bt wr Z x.rows:=by
    rcases c0 with h|h
    .rw[h]at br;simp at br
    .exact h
   simp only[dW,xg,and_true]at cB;obtain⟨rfl,rfl⟩:=cB;obtain⟨a6,bc,⟨G,H,I⟩,cW⟩:=c3 k D (by rw[a0];exact zdG _ _ _ _ _ Qu);simp only[jU]at G H I;have⟨dT,d3,d4,d5⟩:=gG cW G H I;clear cA cF a4 a3 bp a0 c3 c0 br cW G H I;go_upto_region 5 with(fail)
   have⟨F,FY⟩:=aR (wr.alloc (.cells (jP x.k x.a x.b x.c Z x.row ap) 97));rw[<-FY];have ac:ag wr F:=UP;have cV:bA F wr (jP x.k x.a x.b x.c Z x.row ap) 97:=TK;have b4:=zH ac;clear J O T U Y;have⟨J,O,T,U,Y⟩:=fg cV;have G:=ar ac d3;have H:=ar ac d4;have I:=ar ac d5;have bd:∀W:κ F,af W.W wr 0 (zI x.k):=fun W=>W.cell J
   have be:∀W:κ F,af W.W wr 1 (zI x.a):=fun W=>W.cell O
   have bg:∀W:κ F,af W.W wr 2 (zI x.b):=fun W=>W.cell T
   have bh:∀W:κ F,af W.W wr 3 (zI x.c):=fun W=>W.cell U
   have bi:∀W:κ F,af W.W wr 4 (.slice Z x.row ap):=fun W=>W.cell Y
   have f0:∀W:κ F,af W.W g (k*3) (zI D.v):=fun W=>W.cell G
   have f1:∀W:κ F,af W.W g (k*3+1) (zI D.h):=fun W=>W.cell H
   have f2:∀W:κ F,af W.W g (k*3+2) (.slice a6 D.rows bc):=fun W=>W.cell I
   have⟨an,ao⟩:=bJ (fun W:κ F=>(dT.ext ac).ext W.ok) (fun W:κ F=>(db.ext ac).ext W.ok);clear ac cV FY J O T U Y G H I;cases a2:vO p D x with
   |true=>
    have HO:=zH a2;clear a2;refine bU QT QT ?_
    repeat (go_big_quiet_step ((go_at_call 95;exact Calls.fh (Calls.bl (za1 p D.v D.h x.k x.a x.b x.c _ _ D.rows _ _ x.row _ (an.o _) (ao.o _) cc a8) HO))))
    refine dJ ?_;rintro _ ⟨W,rfl⟩;have⟨ab,cb,cj⟩:=er (aJ b4 W.ok) (an W) (ao W);have J:=bd W;have O:=be W;have T:=bg W;have U:=bh W;have Y:=bi W;have G:=f0 W;have H:=f1 W;have I:=f2 W;have⟨bb,cq⟩:=aR W.W;rw[<-cq]at ab cb cj J O T U Y G H I ⊢;clear bd be bg bh bi f0 f1 f2 an ao cq;have⟨c7,b0⟩:=aR (iQ p D x);obtain⟨d0,ck⟩:=bJ b0 (fun A ε W a1 b3 d6 d7=>zkG p D x A ε W a1 b3 d6 d7 a8 HO);rw[<-b0]at ck;clear b0;go_upto_region 7 with(fail)
    refine cU (S:=fun W=>af W wr 0 (zI x.k)/\af W wr 1 (zI x.a)/\af W wr 2 (zI x.b)/\af W wr 3 (zI x.c)/\af W wr 4 (.slice Z x.row ap)/\af W g (k*3) (zI D.v)/\af W g (k*3+1) (zI D.h)/\af W g (k*3+2) (.slice a6 D.rows bc)) 9 QT ⟨J,O,T,U,Y,G,H,I⟩ (fun hHeld=>?_);refine Qi ?_;refine aM 6 ?_;refine Ny fun K hK=>?_
    refine(ck.o _ _ _ _ _ (cb.ext (al _ _).drew) (cj.ext (al _ _).drew)).x ?_;rintro e ea ⟨c8,c2,rfl,c5,cu⟩;have⟨ad,d1,ce⟩:=er ((al bb bb).drew.t cu) c5 (fun w' (h:ag bb w')=>(⟨ar h J,ar h O,ar h T,ar h U,ar h Y,ar h G,ar h H,ar h I⟩:af w' wr 0 (zI x.k)/\af w' wr 1 (zI x.a)/\af w' wr 2 (zI x.b)/\af w' wr 3 (zI x.c)/\af w' wr 4 (.slice Z x.row ap)/\af w' g (k*3) (zI D.v)/\af w' g (k*3+1) (zI D.h)/\af w' g (k*3+2) (.slice a6 D.rows bc)));clear c5 cu J O T U Y G H I;go_simp;refine hK.out _ _ (fun _=>ce.o _ ad.o) (fun hHeld=>?_);refine Mr fun hHeld=>?_;clear K hK
    refine cm 8 fun K hK=>?_
    go_simp;refine hK.out _ _ (fun _=>ce.o _ (ad.alloc ad.size _)) (fun hHeld=>?_);refine Mr fun hHeld=>?_;clear K hK
    refine cm 9 fun K hK=>?_
    have⟨dO,b8⟩:=bJ (a9.ext (aJ ab ad)) (EC p s xs (k+1));refine FO rfl (.tmp 29) (.tmp 37) rfl w ea (.slice (bH g) m bn) (.slice c8 c7.rows c2) (yr p s xs (k+1)) c7 dO.o (d1.x (by have:=(aJ ah ab).size;simpa using this)) (by rw[b8.o];omega) (by have:=(aJ ah (aJ ab ad)).size;exact this) rfl rfl ?_;intro co cn eb bv d8 cz;rw[b8.o]at bv ⊢;have⟨dq,c9⟩:=bJ bv cz;clear bv d8 cz;refine Qn ?_;clear K hK;refine cm 10 fun K hK=>?_
    go_simp;refine hK.out _ _ (fun h=>absurd h Qw) (fun _=>?_);clear hK K hHeld;refine P9 ?_;refine gM QT ?_ _;have cR:zlP p s xs w (k+1) (.slice (bH co) (k+1+1) cn) eb:=by refine⟨zdV bq ba Tn,co,_,cn,rfl,rfl,?_,(aJ ah (aJ ab ad)).t c9⟩;rw[zhG p s xs (k+1),qJ ba,<-Pa.o,<-d0.o];exact dq
    have dl:=zH cR;clear cR;go_wp2;go_roundw
    case rel=>exact⟨k+1,Qu,Qx,dl⟩
    case measure=>simp[intOf];omega
   |false=>
    have HO:=zH a2;clear a2;refine bU QT QT ?_
    repeat (go_big_quiet_step ((go_at_call 95;exact Calls.fh (Calls.bl (za1 p D.v D.h x.k x.a x.b x.c _ _ D.rows _ _ x.row _ (an.o _) (ao.o _) cc a8) HO))))
    refine dJ ?_;rintro _ ⟨W,rfl⟩;have ab:=zH (aJ b4 W.ok);clear bd be bg bh bi f0 f1 f2 an ao;go_wp2;go_ret
    have av:=zdW bq ba Tn;exact⟨g,bn,by rw[av,<-am.o];rfl,by rw[av,<-am.o];have:=a9.ext ab;rw[<-am.o]at this;exact this,aJ ah ab⟩
  .have av:eL p s xs=k:=by have:=pk p xs s;omega
   have b6:=zH av;clear av a3 bp a0;go_wp2;go_ret
   exact⟨g,bn,by rw[b6.o,<-am.o];rfl,by rw[b6.o,<-am.o];have:=a9.o;rw[<-am.o]at this;exact this,ah⟩
section
open Go.Maps
def zl7(w:aa)(A:ax)(D:List (List (Nat×Int))):Prop:=D=[]∨∃g,A=some ⟨g,0,none⟩/\∀(k:Nat) (L:iH),D[k]?=some L->∃b h,af w g k (.map (some b))/\w.ownsMap prog 3 (plainElem prog 3) b 3 h/\pE h L
def zeb{h:DataW Unit}(G:w.ownsMap prog 3 (plainElem prog 3) b n h)(J:ag w w'):w'.ownsMap prog 3 (plainElem prog 3) b n h:=by obtain⟨F,D,H,I⟩:=G;exact⟨F,D,ai H J,I⟩
def zkX(h:List (List (Nat×Int)))(w:aa)(e:Ending)(w':aa):Prop:=∃A c,e=.returned (.slice A h c)/\Fr w' w w' (fun V=>zl7 V A h)/\ag w w'
def Fc{h:DataW Unit}(G:w.ownsMap prog 3 (plainElem prog 3) b n h)(e:V.heap[b]?=w.heap[b]?):V.ownsMap prog 3 (plainElem prog 3) b n h:=by obtain⟨F,D,H,I⟩:=G;exact⟨F,D,e.t H,I⟩
def zfF{w8}{D}{L}(hb:ag w w8)(F:w8.ownsMap prog 3 (plainElem prog 3) b 3 D)(H:(w:Nat)<=b)(I:pE D L):zkX [L] w (.returned (.slice (bH w8) 1 1)) (w8.alloc (.cells #[.map (some b)] 167)):=by
 have G:=F.lt;refine⟨_,1,rfl,fun V hV=>au ⟨_,rfl,fun k J h=>?_⟩,hb.alloc hb.size _⟩
 match k,h with
 |0,h=>cases h;exact⟨b,D,Vz,Fc F ((hV b H QW).t (bO w8 _ G)),I⟩
 |k+1,h=>simp at h
def zl8{w8}{D F}{L G}(hb:ag w w8)(H:w8.ownsMap prog 3 (plainElem prog 3) b 3 D)(U:(w:Nat)<=b)(Z:pE D L)(I:w8.ownsMap prog 3 (plainElem prog 3) J 3 F)(Y:(w:Nat)<=J)(ab:pE F G):zkX [L,G] w (.returned (.slice (bH w8) 2 2)) (w8.alloc (.cells #[.map (some b),.map (some J)] 167)):=by
 have O:=H.lt;have T:=I.lt;refine⟨_,2,rfl,fun V hV=>au ⟨_,rfl,fun k ac h=>?_⟩,hb.alloc hb.size _⟩
 match k,h with
 |0,h=>cases h;exact⟨b,D,Vz,Fc H ((hV b U QW).t (bO w8 _ O)),Z⟩
 |1,h=>cases h;exact⟨J,F,by rw[bB ((hV _ hb.size Qt).t (aH w8 _ rfl)) 1];rfl,Fc I ((hV J Y QW).t (bO w8 _ T)),ab⟩
 |k+2,h=>simp at h
def zb1 e A1 A2 c1 c2 w(hI:aO w A1 (bD e.i))(hO:aO w A2 (bD e.o))(hf:e.jd=true)(hi:∀x∈e.i,x<=4096)(ho:∀x∈e.o,x<=4096)(cn:0<=e.v)(ck:e.v<=97):az 126 (cY (zj e A1 c1 A2 c2)) w (zkX e.zbO w):=by
 obtain⟨k,v,li,lo⟩:=e;refine Nz fun hB hq HI HO h3 Nf Ns I2=>?_
 have⟨F,Ni⟩:=aR (if 9<=k then k-6 else k);have⟨J,Nr⟩:=aR (if 9<=k then lo else li);have⟨no,Jv⟩:=aR (if 9<=k then li else lo);have bp:=zH (show(Ed.mk k v li lo).zbO=zbN F v J no by unfold Ed.zbO;rw[Ni,Nr,Jv];split<;>rfl)
 have hnn:J.length=xz F/\no.length=mf F:=Y_;have a3:=zH (fun V=>vC k V);have a2:min k (Ò k)=F:=by
  rw[Ni];unfold Ò
  (repeat' split)<;>omega
 have⟨mk,bh⟩:=aR (Ò k);rw[<-bh]at a3 a2;have b4:(if mk<k then mk else k)=F:=by rw[<-a2];split<;>omega
 rw[bp.o];clear hf hI hO Ns I2 bh;obtain⟨ap,ao,ac,cc,bb,bc,ba⟩:=zH7 hnn (show ∀x∈J,x<=4096 by rw[Nr];split<;>assumption) (show ∀x∈no,x<=4096 by rw[Jv];split<;>assumption) Ni Nr Jv a2;clear hi ho hnn Ni Nr Jv a2 b4;go_enter func126,ntmps126
 go_upto_region 1 with(fail)
 generalize w.alloc _=W at hB hq ⊢;refine NQ fun x0 x1 x2 x3 HB HQ=>?_
 have be:=aQ x0 (aQ x1 (aQ x2 x3));clear hB hq;go_region_held3 (fun V=>af V w 0 (.int .i64 k)/\af V w 1 (.int .i64 v)/\af V w 2 (.slice A1 li c1)/\af V w 3 (.slice A2 lo c2))
  (exact be)
  ((fail))
 go_upto_if 13 with(fail)
 go_cut [3,4] from 7 (fun b8 b9 V=>∃a6 a1 a7 b1,b8=.slice a6 J a1/\b9=.slice a7 no b1/\aO V a6 (bD J)/\aO V a7 (bD no)/\bA V w (eh k v A1 li c1 A2 lo c2) 155/\ag w V)
 case first=>
  by_cases h9:9<=k
  .go_wp2_with fail
   go_meet
   have Nr:=bb.o;have Jv:=bc.o;rw[ak h9]at Nr Jv;subst Nr Jv;exact⟨A2,c2,A1,c1,rfl,rfl,HO.o _ HB.drew,HI.o _ HB.drew,HQ,HB.drew⟩
  .go_wp2_with fail
   go_meet
   have b3:¬9<=k:=Qu;have Nr:=bb.o;have Jv:=bc.o;rw[aj b3]at Nr Jv;subst Nr Jv;exact⟨A1,c1,A2,c2,rfl,rfl,HI.o _ HB.drew,HO.o _ HB.drew,HQ,HB.drew⟩
 case rest=>
  obtain⟨ce,T,ch,co,rfl,rfl,hI,hO,hq,bg⟩:=hcut;have⟨bz,a8,a9,bd⟩:=gG hq bg (fun V (hV:ag wc V)=>hI.ext hV) (fun V (hV:ag wc V)=>hO.ext hV);clear be x0 x1 x2 x3 hI hO bg HQ HB HI HO;have⟨D,y1,b5,b6⟩:=aB hq;have a4:=aQ D y1;clear D y1 b5 b6 hq;obtain⟨a5,rfl⟩:∃a5,a5=wc:=⟨wc,rfl⟩;go_upto_region 5 with(fail)
  go_cut [6] from 7 (fun ca V=>ca=.int .i64 F/\ag a5 V)
  case first=>
   go_region_held3 (fun V=>af V w 0 (.int .i64 k)/\af V w 1 (.int .i64 v))
    (exact a4)
    ((go_at_call 172;(with_reducible refine(a3.o _).x ?_);rintro e w' ⟨rfl,rfl⟩))
   all_goals go_wp2_with fail
   all_goals
    go_meet
    exact⟨oy (Value.int .i64) (by have:=ba.o;omega),aC _⟩
  case rest=>
   obtain⟨rfl,an⟩:=hcut;have⟨Ih,U,av⟩:=er (aT a8 an) (a9.o _ an) (bd.o _ an);have y1:=ar an a4.2;clear an a9 bd a4 a3 ba a8 bz;by_cases ad:F=3
   .have hnn:=ap.o;rw[ad]at hnn;obtain⟨x,rfl⟩:∃x,J=[x]:=oH.1 hnn.1;obtain⟨D,Y,rfl⟩:∃D y1,no=[D,y1]:=by
     match no,hnn.2 with
     |[a,b],_=>exact⟨a,b,rfl⟩
    subst ad;obtain⟨H,I,rfl,-⟩:=U.θ (k:=0) QM;obtain⟨Z,ab,rfl,hco⟩:=av.θ (k:=0) QM;have G:=hco 0 (D:Int) rfl;have a1:=hco 1 (Y:Int) rfl;rw[jf]at G;have O:=aQ G a1;obtain⟨JR,bo⟩:=bJ (fun V (hV:ag wc V)=>(show az 171 #[(D:Nat),.slice (some ⟨H,I,none⟩) 1 T,.int .i64 (-1)] V (Dy (Χ D [x] (-1)) V) from oU D [x] (-1) (some ⟨H,I,none⟩) T V (U.ext hV) (ac D Qt) Qt ao Qw Qw)) (fun V (hV:ag wc V)=>(show az 171 #[(Y:Nat),.slice (some ⟨H,I,none⟩) 1 T,.int .i64 (-1)] V (Dy (Χ Y [x] (-1)) V) from oU Y [x] (-1) (some ⟨H,I,none⟩) T V (U.ext hV) (ac Y Qt) Qt ao Qw Qw));rw[show([x]:bP).length=1 from rfl,show([D,Y]:bP).length=2 from rfl];clear hco G a1 hnn y1;go_wp2_with fail
    go_region_held3 (fun V=>af V Z ab (.int .i64 (D:Nat))/\af V Z (ab+1) (.int .i64 (Y:Nat)))
     (first|with_reducible exact j6 a0.o O|with_reducible exact j6 GY.o O|exact O|(with_reducible exact j6 (a0.o.alloc a0.o.size _) O))
     ((first|(go_at_call 171;(with_reducible refine(JR.o _ (aC _)).x ?_);intro e w7 h;unfold Dy at h;obtain⟨b7,D7,e7,I2,ho,hm,hb⟩:=h;subst e7;have HG7:=zH (aZ Ih.size I2);clear I2;have GY:=zH ((aC wc).t hb);have HO7:=zH ho;have HM7:=zH hm;clear hb ho hm)|(go_at_call 171;(with_reducible refine(bo.o _ GY.o).x ?_);intro e cu h;unfold Dy at h;obtain⟨ci,cb,b2,I2,ho,hm,hb⟩:=h;subst b2;have bq:=zH (aZ (aZ Ih.size GY.size) I2);clear I2;have a0:=zH (aT GY hb);have bu:=zH ho;have br:=zH hm;have bv:=zH (zeb HO7 hb);clear hb ho hm)))
    all_goals
     go_wp2_with fail
     go_ret
     exact zl8 (aT Ih a0) bv HG7 HM7 bu bq br
   by_cases ah:F=5
   .have hnn:=ap.o;rw[ah]at hnn;obtain⟨D,rfl⟩:∃x,no=[x]:=oH.1 hnn.2;obtain⟨x0,x1,rfl⟩:∃D y1,J=[D,y1]:=by
     match J,hnn.1 with
     |[a,b],_=>exact⟨a,b,rfl⟩
    subst ah;obtain⟨H,I,rfl,-⟩:=U.θ (k:=0) QM;obtain⟨Z,ab,rfl,hco⟩:=av.θ (k:=0) QM;have G:=hco 0 (D:Int) rfl;rw[jf]at G;have JR:=zH (fun V (hV:ag wc V)=>(show az 171 #[(D:Nat),.slice (some ⟨H,I,none⟩) 2 T,.int .i64 (-1)] V (Dy (Χ D [x0,x1] (-1)) V) from oU D [x0,x1] (-1) (some ⟨H,I,none⟩) T V (U.ext hV) (ac D Qt) Qt ao Qw Qw));rw[show([x0,x1]:bP).length=2 from rfl,show([D]:bP).length=1 from rfl];exact Zp
   by_cases am:F=6
   .have hnn:=ap.o;rw[am]at hnn;obtain⟨D,rfl⟩:∃x,no=[x]:=oH.1 hnn.2;subst am;obtain⟨Z,ab,rfl,hco⟩:=av.θ (k:=0) QM;have G:=hco 0 (D:Int) rfl;rw[jf]at G;have JR:=zH (fun V (hV:ag wc V)=>(show az 171 #[(D:Nat),dE,()] V (Dy (Χ D [] 0) V) from oU D [] 0 none 0 V (ay rfl) (ac D Qt) Qt Qt Qw Qw));rw[show([D]:bP).length=1 from rfl];exact Zp
   by_cases e7:F=7
   .have hnn:=ap.o;rw[e7]at hnn;obtain⟨D,rfl⟩:∃x,no=[x]:=oH.1 hnn.2;obtain⟨x0,rfl⟩:∃x,J=[x]:=oH.1 hnn.1;subst e7;obtain⟨H,I,rfl,-⟩:=U.θ (k:=0) QM;obtain⟨Z,ab,rfl,hco⟩:=av.θ (k:=0) QM;have G:=hco 0 (D:Int) rfl;rw[jf]at G;have O:=aQ G y1;dsimp only at cn ck;have⟨u,bi⟩:=aR (-v);have cj:IntKind.i64.wrap (-v)=u:=Rt;obtain⟨b0,JR⟩:=bJ bi (fun V (hV:ag wc V)=>(show az 171 #[(D:Nat),.slice (some ⟨H,I,none⟩) 1 T,u] V (Dy (Χ D [x0] u) V) from oU D [x0] u (some ⟨H,I,none⟩) T V (U.ext hV) (ac D Qt) Qt ao Qu Qu));rw[show([x0]:bP).length=1 from rfl,show([D]:bP).length=1 from rfl];clear hco G hnn y1 bi;go_wp2_with fail
    go_region_held3 (fun V=>af V Z ab (.int .i64 (D:Nat))/\af V w 1 (.int .i64 v))
     (first|with_reducible exact j6 GY.o O|exact O|(with_reducible exact j6 (GY.o.alloc GY.o.size _) O))
     ((go_at_call 171;(with_reducible refine(JR.o _ (aC _)).x ?_);intro e w7 h;unfold Dy at h;obtain⟨b7,D7,e7,I2,ho,hm,hb⟩:=h;subst e7;have HG7:=zH (aZ Ih.size I2);clear I2;have GY:=zH ((aC wc).t hb);have HO7:=zH ho;have HM7:=zH hm;clear hb ho hm))
    all_goals
     go_wp2_with fail
     go_ret
     have h:=zfF (aT Ih GY) HO7 HG7 HM7;rw[b0.o]at h;exact h
   have cp:(F==3)=false:=by simpa using ad
   have cq:(F==5)=false:=by simpa using ah
   have cr:(F==6)=false:=by simpa using am
   have ct:(F==7)=false:=by simpa using e7
   have bn:=zH (by unfold zbN;rw[aj ad,aj ah,aj am,aj e7]:zbN F v J no=[]);clear ad ah am e7 y1;go_wp2;go_ret
   rw[bn.o];exact⟨none,0,rfl,Fr.all fun _=>ay rfl,Ih⟩
end
end Go.Proofs.YtpieilkmmiopfaaGreatDoor
