/- Parts of the walks. Conditions: as stated with each. -/
import Derived.Test.YtpieilkmmiopfaaGreatDoorPk29
import Derived.Test.YtpieilkmmiopfaaGreatDoorPk34
namespace Go.Proofs.YtpieilkmmiopfaaGreatDoor
open Go.RowKit Tryz
set_option linter.all false
set_option maxHeartbeats 4000000
set_option maxRecDepth 100000
variable{A:ax}{J c2 k:Nat}{L:List eE}{R:Rl}{p:Int}{w:aa}{xs:aL}
def zkK p s x A ε w D J(Z:dZ w)(ab:bt w A s.rows)(ac:aO w D x.row)(ah:x.row.length<=1048576)(am:s.Ok p)(F:vO p s x=true):az 101 (j9 p (da s A ε) (jP x.k x.a x.b x.c D x.row J)) w fun e w'=>∃h c2,e=.returned (.tuple (fH (eO (iQ p s x).v (iQ p s x).h h (iQ p s x).rows c2)))/\aY w' w (.slice h (iQ p s x).rows c2) (iQ p s x).rows/\ag w w':=by
 have:=zji p s.v s.h x.k x.a x.b x.c A ε s.rows w D x.row J Z ab ac ah am;refine this.x fun e w' ad=>?_
 obtain⟨v2,av,h,n2,c2,H,U,ap,Y⟩:=ad;unfold vO at F;rw[F]at H;obtain⟨O,T,G⟩:=U F;obtain⟨an,ao,I,_⟩:=G.p;simp only[ep]at I;obtain⟨rfl,rfl,rfl⟩:=I;subst O T;exact⟨h,c2,H,G,Y⟩
def zlX p s x A ε w h G(J:dZ w)(O:bt w A s.rows)(T:aO w h x.row)(Y:x.row.length<=1048576)(Z:s.Ok p)(D:vO p s x=false):az 101 (j9 p (da s A ε) (jP x.k x.a x.b x.c h x.row G)) w fun e w'=>e=.returned (.tuple (dz bx))/\ag w w':=by
 have:=zji p s.v s.h x.k x.a x.b x.c A ε s.rows w h x.row G J O T Y Z;refine this.x fun e w' U=>?_
 obtain⟨v2,ad,ab,n2,c2,F,ac,H,I⟩:=U;unfold vO at D;rw[D]at F;obtain⟨rfl,rfl,rfl,rfl,rfl⟩:=H D;exact⟨F,I⟩
def zjH(p:Int)(s:Sy)(xs:List j8)(w:aa)(e:Ending)(w':aa):Prop:=
 (eL p s xs<xs.length->e=.returned (.tuple (jy bx (eL p s xs:Nat))))/\
 (eL p s xs=xs.length->∃h c2,e=.returned (.tuple (jy (eO (iU p s xs xs).v (iU p s xs xs).h h (iU p s xs xs).rows c2) (-1)))/\aY w' w (.slice h (iU p s xs xs).rows c2) (iU p s xs xs).rows)/\
 ag w w'
def ET(p:Int)(s:Sy)(xs:List j8)(w:aa)(D k:Nat)(wr:aa):Prop:=
 k<=eL p s xs/\(∃h c2,bA wr D (eO (iU p s xs k).v (iU p s xs k).h h (iU p s xs k).rows c2) 57/\aY wr ((w:Nat)+2) (.slice h (iU p s xs k).rows c2) (iU p s xs k).rows)/\
 bA wr ((w:Nat)+1) bx 57/\ag w wr
def ET.next{s}{xs}{wr h}{x}{o}{F}(T:ET p s xs w J k wr)(ad:(w:Nat)+2<=J)(H:xs[k]?=some x)(ab:vO p (iU p s xs k) x=true)(D:ag wr h)(ac:aY h wr (.slice F (iQ p (iU p s xs k) x).rows c2) (iQ p (iU p s xs k) x).rows):ET p s xs w J (k+1) ((((h.alloc o).setCell ⟨J,0,none⟩ (zI (iQ p (iU p s xs k) x).v)).setCell ⟨J,1,none⟩ (zI (iQ p (iU p s xs k) x).h)).setCell ⟨J,2,none⟩ (.slice F (iQ p (iU p s xs k) x).rows c2)):=by
 obtain⟨U,⟨A1,c1,O,am⟩,Y,G⟩:=T;have ah:J < (wr:Nat):=(bk.1 O).1;have Z:Below w w (h.alloc o):=(aJ G D).alloc (aJ G D).size _;have I:Below wr wr (h.alloc o):=D.alloc D.size _;refine⟨zdV U H ab,⟨F,c2,?_,?_⟩,?_,e_ Z Qu _ _ _⟩
 .rw[qJ H];exact ja (ai O I)
 .rw[qJ H];exact((((ac.ext ((al _ _).alloc (ae _) o)).setCell Rs _).setCell Rs _).setCell Rs _).x (by have:=G.size;omega)
 .have:=ai Y I;rw[eX _ _ _ _ Rs,eX _ _ _ _ Rs,eX _ _ _ _ Rs];exact this
def zkL p(s:Sy)A ε xs w D ab(b9:dZ w)(ca:bt w A s.rows)(cb:iS w D xs)(ba:s.Ok p)(c9:xs.length<=3000)(co:∀x∈xs,x.row.length<=1048576):az 68 #[p,.agg (da s A ε),.slice D xs ab] w (zjH p s xs w):=by
 have bb:=ba.β;have⟨bu,cV,br,cI,cF,bp,bo⟩:=zH7 ca cb b9 ba co (show s.rows.length<=1048576 by have:=bb.n;omega) (show ∀r∈s.rows,r.length<=1048576 from fun r c3=>by have:=bb.ι r c3;omega);clear ca cb b9 ba co bb;have b7:Below w w ((w.alloc (.cells (da s A ε) 57)).alloc (.cells bx 57)):=((al w w).alloc Qt _).alloc Qt _;have cA:((w.alloc (.cells (da s A ε) 57)).alloc (.cells bx 57)).heap[(w:Nat)+1]?=some (.cells bx 57 (0,0)):=aH _ _ Qt;have⟨a3,b3⟩:=bJ b7 cA;clear b7 cA;go_enter func68,ntmps68
 go_wp2_with (go_at_call 100;refine(mQ _ _ _ _ _ _ (bu.ext a3) bp bo).x ?_;rintro e be ⟨u,rfl,G,cc⟩;obtain⟨A1,c1,rfl,_⟩:=G.p;have b1:=zH G;have ac:=zH cc;clear G cc)
 have c4:=ac.size;simp only[dV]at c4;have cz:ET p s xs w be 0 (be.alloc (.cells (da s A1 c1) 57)):=by
  have b8:=a3.t (ac.x (B':=w.heap.size) Rs);refine⟨aW _,⟨A1,c1,?_,?_⟩,?_,b8.alloc b8.size _⟩
  .rw[mG];exact aH _ _ rfl
  .rw[mG];exact(b1.ext ((al _ _).alloc (ae _) _)).x Qt
  .exact ai (ai b3 ac) ((al _ _).alloc (ae _) _)
 have b0:=zH cz;clear cz b1 ac b3 a3 bu bp bo;go_loopw [17] (fun i wr=>∃k:Nat,k<=xs.length/\i=.int .i64 k/\ET p s xs w be k wr)
  (fun i _=>xs.length-(intOf i).toNat)
 case atStart=>exact⟨0,aW _,rfl,b0⟩
 case round=>
  obtain⟨k,c8,rfl,hrel⟩:=hrel;clear b0;have cK:=zH hrel;obtain⟨cj,⟨bh,c2,cr,cq⟩,b6,ce⟩:=hrel;have⟨ad,ah,bi,O⟩:=gG cq cr b6 ce;have⟨H,ap⟩:=aR (iU p s xs k);have⟨Pa,bq⟩:=bJ ap (by rw[ap];exact vP cI cj:H.Ok p);rw[<-ap]at ad ah;clear cr cq b6 ce ap;by_cases cn:k<xs.length
  .have⟨x,av⟩:=aq cn;obtain⟨b,o,rfl,ch⟩:=(cV.ext O).θ cn;obtain⟨bg,b5,⟨U,Y,Z,a0,a1⟩,ci⟩:=ch k x av;have⟨bv,bn,b2⟩:=er (cF x (aU av)) ci av;clear ch ci av;go_upto_region 5 with(fail)
   have⟨b4,FY⟩:=aR (wr.alloc (.cells (jP x.k x.a x.b x.c bg x.row b5) 97));rw[<-FY];have a9:ag wr b4:=UP;have ct:bA b4 wr (jP x.k x.a x.b x.c bg x.row b5) 97:=TK;have h:=zH a9;clear U Y Z a0 a1;have⟨d0,d1,d2,_⟩:=dS (ai ah a9);have⟨U,Y,Z,a0,a1⟩:=fg ct;clear a9 ct FY;cases ao:vO p H x with
   |true=>
    have HO:=zH ao;clear ao;have⟨bd,bc⟩:=aR (iQ p H x);have⟨bz,am⟩:=bJ bc (fun(A ε W D ab a6 a7 a8)=>zkK p H x A ε W D ab a6 a7 a8 bv bq HO);rw[<-bc]at am;clear bc;go_upto_region 6 with(go_at_call 101;refine(am.o _ _ _ _ _ (br.ext (aJ O h)) ((CG ad).ext h) (bn.ext h)).x ?_;rintro e I ⟨a2,a5,rfl,G,T⟩;clear d0 d1 d2 U Y Z a0 a1;have J:=zH (aT h T);have cO:=zH (G.x h.size);clear G T)
    have⟨an,OY⟩:=aR (I.alloc (.cells (da bd a2 a5) 57));rw[<-OY];have F:ag I an:=UH;have cu:bA an I (da bd a2 a5) 57:=by rw[OY];exact aH _ _ rfl
    have⟨d0,d1,d2,f0,f1,f2⟩:=dS (ai (ai ah J.o) F);have⟨U,Y,Z⟩:=aD cu;have cR:=zH OY;clear F cu OY;go_wp2;go_roundw
    case rel=>
     have cp:=cK.next (o:=.cells (da bd a2 a5) 57) (x:=x) Qu b2 Tn J.o (by rw[<-Pa.o,<-bz.o];exact cO);rw[<-Pa.o,<-bz.o,<-cR.o]at cp;exact⟨k+1,Qu,Qx,cp⟩
    case measure=>simp[intOf];omega
   |false=>
    have HO:=zH ao;clear ao;have am:=zH (fun(A ε W D ab a6 a7 a8)=>zlX p H x A ε W D ab a6 a7 a8 bv bq HO);go_upto_region 6 with(go_at_call 101;refine(am.o _ _ _ _ _ (br.ext (aJ O h)) ((CG ad).ext h) (bn.ext h)).x ?_;rintro e I ⟨rfl,T⟩;clear d0 d1 d2 U Y Z a0 a1;have J:=zH (aT h T);clear T)
    have⟨an,OY⟩:=aR (I.alloc (.cells bx 57));rw[<-OY];have F:ag I an:=UH;have⟨d0,d1,d2,f0,f1,f2⟩:=dS (ai (ai bi J.o) F);have cB:=zH (aJ (aJ O J.o) F);clear F OY;go_wp2;have c0:=zdW cj b2 Tn;refine aI (v:=.tuple (jy bx k)) Uj rfl ⟨fun _=>by rw[c0],fun cW=>Qu,?_⟩;exact e_ cB Qu _ _ _
  .have ck:k=xs.length:=Qu;have a4:=zH ck;have⟨d0,d1,d2,_⟩:=dS ah;have⟨c5,c6,c7,f0,f1,f2⟩:=dS bi;clear ck;go_wp2;refine aI (v:=.tuple (jy (da H bh c2) (-1))) Uj rfl ⟨fun cW=>by have:=a4.o;omega,fun _=>⟨bh,c2,?_,?_⟩,?_⟩
   .rw[<-a4.o,<-Pa.o]
   .rw[<-a4.o,<-Pa.o];exact(((ad.setCell Rs _).setCell Rs _).setCell Rs _).x Qu
   .exact e_ O Qu _ _ _
def Rl.Ok.row(h:R.Ok p):∀row∈R.b,row.length=R.l+R.r/\0<row.length:=fun row D=>by obtain⟨k,G⟩:=eH.1 D;have F:=eV.row h.Η row D;have H:=h.red.ln k (bG.1 G).1;exact⟨F,Qu⟩
def Rl.Ok.ι(h:R.Ok p):R.b.length<=R.l+R.r:=by
 have F:∀i,i<R.b.length->i<=nw R.b i:=by
  intro i;induction i with
  |zero=>intro _;exact aW _
  |succ i ih=>intro hi;have:=h.red.Ν i (i+1) Qu hi;have:=ih Qu;omega
 rcases AH R.b with D|D
 .omega
 .have G:=F (R.b.length-1) Qu;have H:=h.red.ln (R.b.length-1) Qu;omega
structure RSm(R:Rl):Prop where
 l:R.l<=1024
 r:R.r<=1024
structure Bg(p:Int)(L:List eE)(t:Tm)(T:List Tm)(k:Nat):Prop where
 kl:k<=L.length
 rd:fp ((cJ L).drop k) T=some [t]
 ty:∀u∈T,∃c,u.ty=some c
 ov:∀u∈T,u.pf p
 ι:T.length<=k
def Bg.φ{t}(h:fp (cJ L) []=some [t]):Bg p L t [] 0:=⟨aW _,h,fun u h=>QO,fun u h=>QO,ae _⟩
def Bg.leaf{t}{H}{x}(h:Bg p L t H k)(ab:qS (cJ L)=true)(Z:qp p (cJ L)=true)(F:L[k]?=some x)(T:¬x.k=15)(U:¬x.k=16):s_ p x.nd/\Bg p L t (Tm.lf x.nd::H) (k+1):=by
 have Y:=(bG.1 F).1;have hr:=h.rd;rw[lF F,jw,Bi T U]at hr;have hl:dI x.nd=true:=WS;rw[ak hl]at hr;have I:x.nd∈cJ L:=zcf (aU F);have G:=eD.1 ab x.nd I;have O:=eD.1 Z x.nd I;simp only[bN,cf]at G;have J:s_ p x.nd:=⟨hl,G.1,G.2,fun D=>by
  simp only[jS,uE,uC,uD,cf]at O;rcases O with h|h
  .rcases D with D|D
   .exact absurd D h.1
   .exact absurd D h.2
  .exact h⟩
 have OM:(Tm.lf x.nd).ty=some (pC x.nd,sC x.nd):=by unfold Tm.ty;rw[ak hl]
 refine⟨J,Y,hr,?_,?_,by have:=h.ι;simp;omega⟩
 .exact Xf
 .intro u hu;rcases et.1 hu with rfl|hu
  .exact J
  .exact h.ov u hu
def Bg.δ{t}{G}{x}(h:Bg p L t G k)(I:L[k]?=some x)(h1:x.k=15∨x.k=16):∃b a S z,G=b::a::S/\(Tm.op x.k a b).ty=some z/\(Tm.op x.k a b).pf p/\Bg p L t (Tm.op x.k a b::S) (k+1):=by
 have J:=(bG.1 I).1;have F:=h.rd;rw[lF I,jw]at F;have O:FC x.nd=true:=UK;cases D:ρ G x.nd with
 |none=>rw[D]at F;cases F
 |some U=>
  rw[D]at F;unfold ρ at D;rw[ak O]at D;split at D
  .split at D
   .rename_i b a S;split at D
    .rename_i Y T;obtain⟨z,hz⟩:=Av.1 T;cases D
     have H:(Tm.op x.k a b).pf p:=⟨h.ov a Qt,h.ov b Qt⟩;refine⟨b,a,S,z,rfl,hz,H,J,F,?_,?_,Uo⟩
     .exact Xy
     .intro u hu;rcases et.1 hu with rfl|hu
      .exact H
      .exact h.ov u (by simp[hu])
    .cases D
   .cases D
  .cases D
def Bg.U{t}{D}(F:Bg p L t D k)(G:¬k<L.length):D=[t]:=by have h:=F.rd;rw[jR RI]at h;unfold fp at h;exact ji h
def zbq{t:Tm}{c}(H:bV p=true)(h:t.ty=some c)(I:t.pf p):(t.rel p).Ok p/\(t.rel p).l=c.1/\(t.rel p).r=c.2/\RSm (t.rel p):=by obtain⟨D,F,G,-⟩:=Tm.tN H h I;have:=Tm.zaS h;exact⟨G,D,F,⟨Qu,Qu⟩⟩
def xu(p:Int)(h:List Tm):List Rl:=h.reverse.map (Tm.rel p)
def q6 p h:(xu p h).length=h:=by simp[xu]
def qv p t h:xu p (t::h)=xu p h++[t.rel p]:=by simp[xu]
def zf8(h:aO w A xs)(h0:0<xs.length):∀a,A=some a->a.block < (w:Nat):=fun a e=>XP
def zB(p b:Int)B n ε G A1 D xs ys w(ad:1<=p)(ah:p<=1000)(T:-1000000<=b)(U:b<=1000000)(h:aE w B (.slice A1 n ε) xs)(J:aO w D ys)(Hu:∀a,D=some a->0<n->a.block<B)(F:xs.length=n)(H:ys.length=n)(av:n<=1048576)(am:∀x∈xs,0<=x/\x<=1000)(an:∀y∈ys,0<=y/\y<=1000)(O:B<=(w:Nat)):az 176 #[p,.slice A1 n ε,b,.slice D n G] w fun e w'=>e=.returned (.tuple #[])/\aE w' B (.slice A1 n ε) (dw p b xs ys)/\Below B w w':=by
 rcases AH n with h0|h0
 .subst h0;refine iB (tj p b A1 D ε G w) ?_;rintro e w' ⟨rfl,rfl⟩;have I:xs=[]:=iq F;subst I;exact⟨rfl,by simpa[dw]using h,al _ _⟩
 .unfold aE at h;rw[F]at h;obtain⟨g,rfl⟩:∃g,A1=some ⟨g,0,none⟩:=Xk;have Y:=(bS h g rfl).1;have:=pL p b B g ε G D xs ys w ad ah T U (by rw[F];exact h) J (fun ao o e ap=>UJ) Qu Qu am an;rw[F,H]at this;refine iB this ?_;rintro e w' ⟨rfl,ac,Z⟩;refine⟨rfl,?_,(al _ _).grown Z O fun k ab=>by cases ab;exact Y⟩;unfold aE;rw[mD,F,H,rX];exact ac
def Ca p c M m n N A1 am b8 b9 w(bc:bV p=true)(a1:aO w A1 c)(a3:bt w am M)(be:c.length=m)(cj:N<=m)(a4:∀x∈c,-1000000<=x/\x<=1000000)(ad:∀r∈M,r.length=n/\∀x∈r,0<=x/\x<=1000)(a2:M.length=N)(ci:N<=1048576)(b5:n<=1048576):az 178 #[p,.slice A1 m b8,.slice am N b9,n] w fun e w'=>∃an k,e=.returned (.slice an n k)/\n<=k/\Fr w' w w' (fun W=>aO W an (fY p c M n N))/\ag w w':=by
 have⟨p2,co⟩:=cv bc;have ac:∀i,i<N->(M.getD i []).length=n:=fun i hi=>by have⟨r,D⟩:=aq (Qu:i<M.length);rw[getD_some D];exact(ad r (aU D)).1
 have T:=zH (kN (p:=p) (c:=c) ac);have br:=zH (show ∀k,k<=N->∀x∈fY p c M n k,0<=x/\x<=1000 from fun k F x G=>by obtain⟨d,ba⟩:=eH.1 G;have bb:=(bG.1 ba).1;rw[T.o k F]at bb;have:=(qU (c:=c) p2 ac bb k F).2;rw[getD_some ba]at this;omega)
 have⟨bz,bq,b0,bo,HM,Jy⟩:=ny a3 a1 ad a4 a2 be;clear a3 a1 ad a4 ac a2 be bc;go_enter func178,ntmps178
 go_upto_region 2 with(go_at_call 98;refine(kO n _ Qu).x ?_;rintro e cp ⟨u,rfl,J,a5⟩;obtain⟨O,U,rfl,-⟩:=J.p;rw[fA]at J ⊢;have ap:=zH J;have ao:=zH a5;clear J a5)
 go_wp2;go_loopw [16] (fun i wr=>∃k:Nat,k<=N/\i=.int .i64 k/\aE wr w (.slice O n U) (fY p c M n k)/\ag w wr) (fun i _=>N-(intOf i).toNat)
 case atStart=>exact⟨0,aW _,rfl,ap,ao⟩
 case round=>
  obtain⟨k,F,rfl,H,h⟩:=hrel;clear ap ao;by_cases FX:k<N
  .have⟨r,D⟩:=aq (SF:k<M.length);obtain⟨cc,o,rfl,a8⟩:=bz.θ (SF:k<M.length);obtain⟨ah,b2,a9,Z⟩:=a8 k r D;have b4:=ar h a9;have bd:=Z.ext h;obtain⟨ab,bh⟩:=b0 r (aU D);rw[ab]at b4;have⟨x,G⟩:=aq (RW:k<c.length);obtain⟨cb,cn,rfl,a7⟩:=(bq.ext h).θ (RW:k<c.length);have ck:=a7 k x G;obtain⟨b6,b7⟩:=bo x (aU G);have b1:=zH (show fY p c M n (k+1)=dw p x (fY p c M n k) r by show dw p (c.getD k 0) _ (M.getD k [])=_;rw[getD_some G,getD_some D]);have a0:∀a,ah=some a->0<n->a.block < (w:Nat):=fun a e ch=>zf8 Z Qu a e
   have⟨bn,I⟩:=bJ (zB p x w n U b2 O ah (fY p c M n k) r wr Qu Qu b6 b7 H bd a0 (T.o k F) ab b5 (br k F) bh h.size) h;clear H h bd Z a9 a8 a7 G D a0 bh ab;go_wp2_with ((go_at_call 176;refine bn.x ?_;rintro e cq ⟨rfl,bg,a6⟩;have bv:=zH bg;have bp:=zH (I.t a6);clear bg a6))
   go_roundw
   case rel=>exact⟨k+1,Qu,Qx,by rw[b1.o];exact bv,bp⟩
   case measure=>simp[intOf];omega
  .obtain rfl:k=N:=Qu;have⟨bu,I⟩:=bJ H h;obtain⟨ca,ce,av,b3,Y,-⟩:=H.p;rw[T.o k F]at av Y;cases av
   have bi:=zH Y;clear H h b3 Y;go_wp2;go_ret
   exact⟨O,U,rfl,bi,bu.fr I.size,I⟩
end Go.Proofs.YtpieilkmmiopfaaGreatDoor
