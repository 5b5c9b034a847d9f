/- Parts of the walks and laws (Run, SRun). Conditions: as stated with each. -/
import Derived.Test.YtpieilkmmiopfaaGreatDoorPk27
namespace Go.Proofs.YtpieilkmmiopfaaGreatDoor
open Go.RowKit Tryz
set_option linter.all false
set_option maxHeartbeats 8000000
set_option maxRecDepth 100000
variable{H c2 k:Nat}{J w:aa}{Y:aq}{p:Int}
theorem zgl(p:Int)(s:Sy)(x:ft)(A:aq)(cap:Nat)(w:aa)(D:aq)(J:Nat)(U:eB w)(V:bk w A s.rows)(Y:aJ w D x.row)(ab:x.row.length<=1048576)(ac:s.Ok p)(F:rS p s x=true):aw 101 (iK p (cU s A cap) (fO x.k x.a x.b x.c D x.row.length J)) w fun e w'=>∃h c2,e=.returned (.tuple (fA (fy (gy p s x).v (gy p s x).h h (gy p s x).rows.length c2)))/\aU w' w.heap.size (.slice h (gy p s x).rows.length c2) (gy p s x).rows/\ag w w':=by
 have:=zfc p s.v s.h x.k x.a x.b x.c A cap s.rows w D x.row J U V Y ab ac;refine this.mono fun e w' Z=>?_
 obtain⟨v2,ap,h,n2,c2,H,R,ao,T⟩:=Z;unfold rS at F;rw[F]at H;obtain⟨N,O,G⟩:=R F;obtain⟨ad,am,I,_⟩:=G.view;simp only[dW]at I;obtain⟨rfl,rfl,rfl⟩:=I;subst N O;exact⟨h,c2,H,G,T⟩
theorem zhz(p:Int)(s:Sy)(x:ft)(A:aq)(cap:Nat)(w:aa)(h:aq)(G:Nat)(J:eB w)(N:bk w A s.rows)(O:aJ w h x.row)(T:x.row.length<=1048576)(U:s.Ok p)(D:rS p s x=false):aw 101 (iK p (cU s A cap) (fO x.k x.a x.b x.c h x.row.length G)) w fun e w'=>e=.returned (.tuple (cJ bj))/\ag w w':=by
 have:=zfc p s.v s.h x.k x.a x.b x.c A cap s.rows w h x.row G J N O T U;refine this.mono fun e w' R=>?_
 obtain⟨v2,Z,V,n2,c2,F,Y,H,I⟩:=R;unfold rS at D;rw[D]at F;obtain⟨rfl,rfl,rfl,rfl,rfl⟩:=H D;exact⟨F,I⟩
def zft(p:Int)(s:Sy)(xs:List ft)(w:aa)(e:Ending)(w':aa):Prop:=
 (dX p s xs<xs.length->e=.returned (.tuple (gD bj (dX p s xs:Nat))))/\
 (dX p s xs=xs.length->∃h c2,e=.returned (.tuple (gD (fy (gz p s xs xs.length).v (gz p s xs xs.length).h h (gz p s xs xs.length).rows.length c2) (-1)))/\aU w' w.heap.size (.slice h (gz p s xs xs.length).rows.length c2) (gz p s xs xs.length).rows)/\
 ag w w'
def AR(p:Int)(s:Sy)(xs:List ft)(w:aa)(D k:Nat)(wr:aa):Prop:=
 k<=dX p s xs/\(∃h c2,aW wr D (fy (gz p s xs k).v (gz p s xs k).h h (gz p s xs k).rows.length c2) 57/\aU wr (w.heap.size+2) (.slice h (gz p s xs k).rows.length c2) (gz p s xs k).rows)/\
 aW wr (w.heap.size+1) bj 57/\ag w wr
theorem AR.next{s:Sy}{xs:List ft}{wr:aa}{x:ft}{o:Obj}(N:AR p s xs w H k wr)(Z:w.heap.size+2<=H)(F:xs[k]?=some x)(U:rS p (gz p s xs k) x=true)(h:ag wr J)(V:aU J wr.heap.size (.slice Y (gy p (gz p s xs k) x).rows.length c2) (gy p (gz p s xs k) x).rows):AR p s xs w H (k+1) ((((J.alloc o).setCell ⟨H,0,none⟩ (.int .i64 (gy p (gz p s xs k) x).v)).setCell ⟨H,1,none⟩ (.int .i64 (gy p (gz p s xs k) x).h)).setCell ⟨H,2,none⟩ (.slice Y (gy p (gz p s xs k) x).rows.length c2)):=by
 obtain⟨O,⟨A1,c1,I,ac⟩,R,D⟩:=N;have ab:H<wr.heap.size:=(aT.1 I).1;have T:Below w.heap.size w (J.alloc o):=(ai D h).alloc (ai D h).size _;have G:Below wr.heap.size wr (J.alloc o):=h.alloc h.size _;refine⟨zaW O F U,⟨Y,c2,?_,?_⟩,?_,rL T Rr _ _ _⟩
 .rw[nQ F];exact zbU (ah I G)
 .rw[nQ F];exact((((V.ext ((aj _ _).alloc (af _) o)).setCell Sp _).setCell Sp _).setCell Sp _).mono (by have:=D.size;omega)
 .have:=ah R G;rw[en _ _ _ _ Sp,en _ _ _ _ Sp,en _ _ _ _ Sp];exact this
theorem zgm(p:Int)(s:Sy)(A:aq)(cap:Nat)(xs:List ft)(w:aa)(D:aq)(V:Nat)(cc:eB w)(ce:bk w A s.rows)(ch:fL w D xs)(ba:s.Ok p)(d3:xs.length<=3000)(cr:∀x∈xs,x.row.length<=1048576):aw 68 #[p,.agg (cU s A cap),.slice D xs.length V] w (zft p s xs w):=by
 have bb:=ba.small;obtain⟨b0,c7,bz,c3,c0,bu,br⟩:=zH7 ce ch cc ba cr (show s.rows.length<=1048576 by have:=bb.n;omega) (show ∀r∈s.rows,r.length<=1048576 from fun r db=>by have:=bb.len r db;omega);clear ce ch cc ba cr bb;have ca:Below w.heap.size w ((w.alloc (.cells (cU s A cap) 57)).alloc (.cells bj 57)):=((aj w.heap.size w).alloc Rq _).alloc Rq _;have cI:((w.alloc (.cells (cU s A cap) 57)).alloc (.cells bj 57)).heap[w.heap.size+1]?=some (.cells bj 57 (0,0)):=aC _ _ Rq;obtain⟨a3,b6⟩:=bD ca cI;clear ca cI;go_enter func68,ntmps68
 go_wp2_with (go_at_call 100;refine(kH _ _ _ _ _ _ (b0.o.ext a3.o) bu.o br.o).mono ?_;rintro e bg ⟨u,rfl,G,ci⟩;obtain⟨A1,c1,rfl,_⟩:=G.view;have b4:=zH G;have Y:=zH ci;clear G ci)
 have dc:=Y.o.size;simp only[dt]at dc;have cF:AR p s xs w bg.heap.size 0 (bg.alloc (.cells (cU s A1 c1) 57)):=by
  have cb:=a3.o.trans (Y.o.mono (B':=w.heap.size) Sp);refine⟨aX _,⟨A1,c1,?_,?_⟩,?_,cb.alloc cb.size _⟩
  .rw[kt];exact aC _ _ rfl
  .rw[kt];exact(b4.o.ext ((aj _ _).alloc (af _) _)).mono Rq
  .exact ah (ah b6.o Y.o) ((aj _ _).alloc (af _) _)
 have b3:=zH cF;clear cF b4 Y b6 a3 b0 bu br;go_loopw [17] (fun i wr=>∃k:Nat,k<=xs.length/\i=.int .i64 k/\AR p s xs w bg.heap.size k wr)
  (fun i _=>xs.length-(intOf i).toNat)
 case atStart=>exact⟨0,aX _,rfl,b3.o⟩
 case round=>
  obtain⟨k,dT,rfl,hrel⟩:=hrel;clear b3;have c4:=zH hrel;obtain⟨co,⟨bo,c2,cz,cu⟩,b9,cj⟩:=hrel;obtain⟨Z,ab,bp,N⟩:=fU cu cz b9 cj;obtain⟨H,ao⟩:=aM (gz p s xs k);obtain⟨JR,bv⟩:=bD ao (by rw[ao];exact rT c3.o co:H.Ok p);rw[<-ao]at Z ab;clear cz cu b9 cj ao;by_cases cq:k<xs.length
  .obtain⟨x,ap⟩:=aB cq;obtain⟨b,o,rfl,ck⟩:=(c7.o.ext N.o).here cq;obtain⟨bi,b8,⟨R,T,U,a0,a1⟩,cn⟩:=ck k x ap;obtain⟨b1,bq,b5⟩:=dO (c0.o x (aY ap)) cn ap;clear ck cn ap;go_upto_region 5 with(fail)
   obtain⟨b7,EJ⟩:=aM (wr.alloc (.cells (fO x.k x.a x.b x.c bi x.row.length b8) 97));rw[<-EJ];have a9:ag wr b7:=Vj;have cA:aW b7 wr.heap.size (fO x.k x.a x.b x.c bi x.row.length b8) 97:=Uo;have h:=zH a9;clear R T U a0 a1;obtain⟨d0,d1,d2,_⟩:=dx (ah ab.o a9);obtain⟨R,T,U,a0,a1⟩:=ez cA;clear a9 cA EJ;cases am:rS p H x with
   |true=>
    have HO:=zH am;clear am;obtain⟨bd,bc⟩:=aM (gy p H x);obtain⟨b2,ac⟩:=bD bc (fun(A cap W D V a6 a7 a8)=>zgl p H x A cap W D V a6 a7 a8 b1.o bv.o HO.o);rw[<-bc]at ac;clear bc;go_upto_region 6 with(go_at_call 101;refine(ac.o _ _ _ _ _ (bz.o.ext (ai N.o h.o)) ((yL Z.o).ext h.o) (bq.o.ext h.o)).mono ?_;rintro e I ⟨a2,a5,rfl,G,O⟩;clear d0 d1 d2 R T U a0 a1;have J:=zH (h.o.trans (O.mono h.o.size));have c5:=zH (G.mono h.o.size);clear G O)
    obtain⟨ad,JQ⟩:=aM (I.alloc (.cells (cU bd a2 a5) 57));rw[<-JQ];have F:ag I ad:=Vd;have cB:aW ad I.heap.size (cU bd a2 a5) 57:=by rw[JQ];exact aC _ _ rfl
    obtain⟨d0,d1,d2,f0,f1,f2⟩:=dx (ah (ah ab.o J.o) F);obtain⟨R,T,U⟩:=aG cB;have c6:=zH JQ;clear F cB JQ;go_wp2;go_roundw
    case rel=>
     have ct:=c4.o.next (o:=.cells (cU bd a2 a5) 57) (x:=x) Rr b5.o T8 J.o (by rw[<-JR.o,<-b2.o];exact c5.o);rw[<-JR.o,<-b2.o,<-c6.o]at ct;exact⟨k+1,Rr,Rt,ct⟩
    case measure=>simp[intOf];omega
   |false=>
    have HO:=zH am;clear am;have ac:=zH (fun(A cap W D V a6 a7 a8)=>zhz p H x A cap W D V a6 a7 a8 b1.o bv.o HO.o);go_upto_region 6 with(go_at_call 101;refine(ac.o _ _ _ _ _ (bz.o.ext (ai N.o h.o)) ((yL Z.o).ext h.o) (bq.o.ext h.o)).mono ?_;rintro e I ⟨rfl,O⟩;clear d0 d1 d2 R T U a0 a1;have J:=zH (h.o.trans (O.mono h.o.size));clear O)
    obtain⟨ad,JQ⟩:=aM (I.alloc (.cells bj 57));rw[<-JQ];have F:ag I ad:=Vd;obtain⟨d0,d1,d2,f0,f1,f2⟩:=dx (ah (ah bp.o J.o) F);have cO:=zH (ai (ai N.o J.o) F);clear F JQ;go_wp2;have c9:=zaX co b5.o T8;refine aE (v:=.tuple (gD bj k)) US rfl ⟨fun _=>by rw[c9],fun c8=>Rr,?_⟩;exact rL cO.o Rr _ _ _
  .have cp:k=xs.length:=Rr;have a4:=zH cp;obtain⟨d0,d1,d2,_⟩:=dx ab.o;obtain⟨dl,dq,dr,f0,f1,f2⟩:=dx bp.o;clear cp;go_wp2;refine aE (v:=.tuple (gD (cU H bo c2) (-1))) US rfl ⟨fun c8=>by have:=a4.o;omega,fun _=>⟨bo,c2,?_,?_⟩,?_⟩
   .rw[<-a4.o,<-JR.o]
   .rw[<-a4.o,<-JR.o];exact(((Z.o.setCell Sp _).setCell Sp _).setCell Sp _).mono Rr
   .exact rL N.o Rr _ _ _
def tX(p:Int)(s:Sy)(xs:List ft)(n:Nat):List Sy:=(List.range n).map (gz p s xs)
theorem zdO(p:Int)(s:Sy)(xs:List ft)(n:Nat):tX p s xs (n+1)=tX p s xs n++[gz p s xs n]:=by simp[tX,oL]
theorem AF(p:Int)(s:Sy)(xs:List ft)(n:Nat):(tX p s xs n).length=n:=by simp[tX]
theorem zaI(p:Int)(s:Sy)(xs:List ft)(n k:Nat)(h:k<n):(tX p s xs n)[k]?=some (gz p s xs k):=by simp[tX,h]
theorem zgf(p:Int)(s:Sy)(x:ft)(A:aq)(cap:Nat)(w:aa)(D:aq)(G:Nat)(J:bk w A s.rows)(N:aJ w D x.row)(T:s.Ok p)(R:rS p s x=true):aw 96 (iK p (cU s A cap) (fO x.k x.a x.b x.c D x.row.length G)) w fun e w'=>∃h c2,e=.returned (.agg (fy (gy p s x).v (gy p s x).h h (gy p s x).rows.length c2))/\aU w' w.heap.size (.slice h (gy p s x).rows.length c2) (gy p s x).rows/\ag w w':=by
 refine(zcc p s.v s.h x.k x.a x.b x.c A cap s.rows w D x.row G J N T R).mono fun e w' O=>?_
 obtain⟨u,H,F,I⟩:=O;obtain⟨h,c2,rfl,_⟩:=F.view;exact⟨h,c2,H,F,I⟩
def zfi(p:Int)(s:Sy)(xs:List ft)(w:aa)(e:Ending)(w':aa):Prop:=
 ∃g cap,e=.returned (.slice (some ⟨g,0,none⟩) (dX p s xs+1) cap)/\kU w' w.heap.size (.slice (some ⟨g,0,none⟩) (dX p s xs+1) cap) (tX p s xs (dX p s xs+1))/\ag w w'
def zhs(p:Int)(s:Sy)(xs:List ft)(w:aa)(k:Nat)(u:ax)(wr:aa):Prop:=
 k<=dX p s xs/\∃g m cap,m=k+1/\u=.slice (some ⟨g,0,none⟩) m cap/\kU wr w.heap.size u (tX p s xs (k+1))/\ag w wr
theorem zdP(p:Int)(s:Sy)(A:aq)(cap:Nat)(xs:List ft)(w:aa)(a1:aq)(b6:Nat)(ct:bk w A s.rows)(cz:fL w a1 xs)(b0:s.Ok p)(e5:xs.length<=3000)(c5:∀x∈xs,x.row.length<=1048576):aw 60 #[p,.agg (cU s A cap),.slice a1 xs.length b6] w (zfi p s xs w):=by
 have b2:=b0.small;obtain⟨ce,ea,d5,d2,cc,ca⟩:=kE ct cz b0 c5 (show s.rows.length<=1048576 by have:=b2.n;omega) (show ∀r∈s.rows,r.length<=1048576 from fun r eo=>by have:=b2.len r eo;omega);clear ct cz b0 c5 b2;have a7:=zH ((aj w.heap.size w).alloc (af _) (.cells (cU s A cap) 57));go_enter func60,ntmps60
 go_wp2_with (go_at_call 94;refine(jl _ _ _ _ _ _ (ce.o.ext a7.o) cc.o ca.o).mono ?_;rintro e b5 ⟨u,rfl,b4,cA⟩;obtain⟨A1,c1,rfl,_⟩:=b4.view;have cn:=zH b4;have b8:=zH cA;clear b4 cA)
 have dc:zhs p s xs w 0 (.slice (some ⟨b5.heap.size,0,none⟩) 1 1) (b5.alloc (.cells (cU s A1 c1) 57)):=by have br:=a7.o.trans (b8.o.mono (B':=w.heap.size) Sp);refine⟨aX _,_,1,_,rfl,rfl,?_,br.alloc br.size _⟩;have:=kU.one b5 w.heap.size s (.slice A1 s.rows.length c1) br.size (cn.o.mono Rq);rw[show tX p s xs (0+1)=[s] by simp[tX,kt]];exact this
 have ck:=zH dc;clear dc cn b8 a7 ce cc ca;go_loopw [7,15] (fun u i wr=>∃k:Nat,k<=xs.length/\i=.int .i64 k/\zhs p s xs w k u wr)
  (fun _ i _=>xs.length-(intOf i).toNat)
 case atStart=>exact⟨0,aX _,rfl,ck.o⟩
 case round=>
  obtain⟨k,e2,rfl,bv,g,m,bq,c4,rfl,a3,bu⟩:=hrel;have ac:=zH c4;have e3:k<m:=Rr;have e4:m<=3001:=Rr;clear ck c4;obtain⟨a9,ab⟩:=bD a3 bu;obtain⟨h,a0⟩:=aM (gz p s xs k);obtain⟨JR,a8⟩:=bD a0 (by rw[a0];exact rT d5.o bv:h.Ok p);by_cases c3:k<xs.length
  .obtain⟨x,a4⟩:=aB c3;obtain⟨b,o,rfl,cI⟩:=(ea.o.ext ab.o).here c3;obtain⟨U,ao,⟨J,N,O,R,T⟩,c0⟩:=cI k x a4;obtain⟨ci,d1,ba⟩:=dO (d2.o x (aY a4)) c0 a4;obtain⟨ey,e0,dq,c9,_⟩:=a3.view;simp only[dW]at dq;obtain⟨rfl,-,-⟩:=dq;have bz:k < (tX p s xs (k+1)).length:=by rw[AF];omega
   obtain⟨e1,e6,cO,db⟩:∃b o,some (⟨g,0,none⟩:dk)=some ⟨b,o,none⟩/\∀(a5:Nat) (x:Sy),(tX p s xs (k+1))[a5]?=some x->∃U cap,(ae wr b (o+a5*3) (.int .i64 x.v)/\ae wr b (o+a5*3+1) (.int .i64 x.h)/\ae wr b (o+a5*3+2) (.slice U x.rows.length cap))/\bk wr U x.rows:=by
    rcases c9 with D|D
    .rw[D]at bz;simp at bz
    .exact D
   simp only[dZ,sG,and_true]at cO;obtain⟨rfl,rfl⟩:=cO;obtain⟨a6,bc,⟨G,H,I⟩,c8⟩:=db k h (by rw[a0];exact zaI _ _ _ _ _ Rr);simp only[iO]at G H I;obtain⟨d7,eb,eg,ei⟩:=fU c8 G H I;clear cI c0 a4 a3 bu a0 db c9 bz c8 G H I;go_upto_region 5 with(fail)
   obtain⟨F,EJ⟩:=aM (wr.alloc (.cells (fO x.k x.a x.b x.c U x.row.length ao) 97));rw[<-EJ];have Y:ag wr F:=Vj;have c7:aW F wr.heap.size (fO x.k x.a x.b x.c U x.row.length ao) 97:=Uo;have b7:=zH Y;clear J N O R T;obtain⟨J,N,O,R,T⟩:=ez c7;have G:=al Y eb.o;have H:=al Y eg.o;have I:=al Y ei.o;have bd:∀W:Ext F,ae W.W wr.heap.size 0 (.int .i64 x.k):=fun W=>W.cell J
   have bg:∀W:Ext F,ae W.W wr.heap.size 1 (.int .i64 x.a):=fun W=>W.cell N
   have bi:∀W:Ext F,ae W.W wr.heap.size 2 (.int .i64 x.b):=fun W=>W.cell O
   have bo:∀W:Ext F,ae W.W wr.heap.size 3 (.int .i64 x.c):=fun W=>W.cell R
   have bp:∀W:Ext F,ae W.W wr.heap.size 4 (.slice U x.row.length ao):=fun W=>W.cell T
   have f0:∀W:Ext F,ae W.W g (k*3) (.int .i64 h.v):=fun W=>W.cell G
   have f1:∀W:Ext F,ae W.W g (k*3+1) (.int .i64 h.h):=fun W=>W.cell H
   have f2:∀W:Ext F,ae W.W g (k*3+2) (.slice a6 h.rows.length bc):=fun W=>W.cell I
   obtain⟨ad,am⟩:=bD (fun W:Ext F=>(d7.o.ext Y).ext W.ok) (fun W:Ext F=>(d1.o.ext Y).ext W.ok);clear Y c7 EJ J N O R T G H I;cases a2:rS p h x with
   |true=>
    have HO:=zH a2;clear a2;refine bK RP RP ?_
    repeat (go_big_quiet_step ((go_at_call 95;exact Calls.eA (Calls.be (CO p h.v h.h x.k x.a x.b x.c _ _ h.rows _ _ x.row _ (ad.o _) (am.o _) ci.o a8.o) HO.o))))
    refine dn ?_;rintro _ ⟨W,rfl⟩;obtain⟨V,ch,co⟩:=dO (ai b7.o W.ok) (ad.o W) (am.o W);have J:=bd W;have N:=bg W;have O:=bi W;have R:=bo W;have T:=bp W;have G:=f0 W;have H:=f1 W;have I:=f2 W;obtain⟨bb,cu⟩:=aM W.W;rw[<-cu]at V ch co J N O R T G H I ⊢;clear bd bg bi bo bp f0 f1 f2 ad am cu;obtain⟨dr,b3⟩:=aM (gy p h x);obtain⟨d8,cp⟩:=bD b3 (fun(A cap W a1 b6 ej ek)=>zgf p h x A cap W a1 b6 ej ek a8.o HO.o);rw[<-b3]at cp;clear b3;go_upto_region 7 with(fail)
    refine cR (S:=fun W=>ae W wr.heap.size 0 (.int .i64 x.k)/\ae W wr.heap.size 1 (.int .i64 x.a)/\ae W wr.heap.size 2 (.int .i64 x.b)/\ae W wr.heap.size 3 (.int .i64 x.c)/\ae W wr.heap.size 4 (.slice U x.row.length ao)/\ae W g (k*3) (.int .i64 h.v)/\ae W g (k*3+1) (.int .i64 h.h)/\ae W g (k*3+2) (.slice a6 h.rows.length bc)) 9 RP ⟨J,N,O,R,T,G,H,I⟩ (fun hHeld=>?_);refine aP 0 ?_;simp only[Act.put,zA];refine aP 1 ?_;simp only[Act.put,zA];refine aP 2 ?_;simp only[Act.put,zA];refine aP 3 ?_;simp only[Act.put,zA];refine aP 4 ?_;simp only[Act.put,zA];refine aP 5 ?_;simp only[Act.put,zA];refine aP 6 ?_;simp only[Act.put,zA];refine cw 7 fun K hK=>?_
    go_simp;refine(cp.o _ _ _ _ _ (ch.o.ext (aj _ _).drew) (co.o.ext (aj _ _).drew)).mono ?_;rintro e es ⟨dT,c2,rfl,dl,cB⟩;obtain⟨Z,d9,cj⟩:=dO ((aj bb.heap.size bb).drew.trans cB) dl (fun w' (D:ag bb w')=>(⟨al D J,al D N,al D O,al D R,al D T,al D G,al D H,al D I⟩:ae w' wr.heap.size 0 (.int .i64 x.k)/\ae w' wr.heap.size 1 (.int .i64 x.a)/\ae w' wr.heap.size 2 (.int .i64 x.b)/\ae w' wr.heap.size 3 (.int .i64 x.c)/\ae w' wr.heap.size 4 (.slice U x.row.length ao)/\ae w' g (k*3) (.int .i64 h.v)/\ae w' g (k*3+1) (.int .i64 h.h)/\ae w' g (k*3+2) (.slice a6 h.rows.length bc)));clear dl cB J N O R T G H I;go_simp;refine hK.out _ _ (fun _=>cj.o _ Z.o) (fun hHeld=>?_);clear hK K;try simp only[Act.put,zA]
    have hHeld:=hHeld Rs;refine cw 8 fun K hK=>?_
    go_simp;refine hK.out _ _ (fun _=>cj.o _ (Z.o.alloc Z.o.size _)) (fun hHeld=>?_);clear hK K;try simp only[Act.put,zA]
    have hHeld:=hHeld Rs;refine cw 9 fun K hK=>?_
    obtain⟨d6,cb⟩:=bD (a9.o.ext (ai V.o Z.o)) (AF p s xs (k+1));refine BO rfl (.tmp 29) (.tmp 37) rfl w.heap.size es (.slice (some ⟨g,0,none⟩) m bq) (.slice dT dr.rows.length c2) (tX p s xs (k+1)) dr d6.o (d9.o.mono (by have:=(ai ab.o V.o).size;simpa using this)) (by rw[cb.o];omega) (by have:=(ai ab.o (ai V.o Z.o)).size;exact this) rfl rfl ?_;intro cr cq ev b1 em cF;rw[cb.o]at b1 ⊢;obtain⟨d4,d0⟩:=bD b1 cF;clear b1 em cF;refine hK.out _ _ (fun D=>absurd D Rs) (fun _=>?_);clear hK K;try simp only[Act.put,zA]
    refine cw 10 fun K hK=>?_
    go_simp;refine hK.out _ _ (fun D=>absurd D Rs) (fun _=>?_);clear hK K hHeld;try simp only[Act.put,zA]
    refine gN RP ?_ _;have c6:zhs p s xs w (k+1) (.slice (some ⟨cr,0,none⟩) (k+1+1) cq) ev:=by refine⟨zaW bv ba.o T8,cr,_,cq,rfl,rfl,?_,(ai ab.o (ai V.o Z.o)).trans d0.o⟩;rw[zdO p s xs (k+1),nQ ba.o,<-JR.o,<-d8.o];exact d4.o
    have d3:=zH c6;clear c6;go_wp2;go_roundw
    case rel=>exact⟨k+1,Rr,Rt,d3.o⟩
    case measure=>simp[intOf];omega
   |false=>
    have HO:=zH a2;clear a2;refine bK RP RP ?_
    repeat (go_big_quiet_step ((go_at_call 95;exact Calls.eA (Calls.be (CO p h.v h.h x.k x.a x.b x.c _ _ h.rows _ _ x.row _ (ad.o _) (am.o _) ci.o a8.o) HO.o))))
    refine dn ?_;rintro _ ⟨W,rfl⟩;have V:=zH (ai b7.o W.ok);clear bd bg bi bo bp f0 f1 f2 ad am;go_wp2;go_ret
    have ap:=zaX bv ba.o T8;exact⟨g,bq,by rw[ap,<-ac.o];rfl,by rw[ap,<-ac.o];have:=a9.o.ext V.o;rw[<-ac.o]at this;exact this,ai ab.o V.o⟩
  .have ap:dX p s xs=k:=by have:=mh p xs s;omega
   have b9:=zH ap;clear ap a3 bu a0;go_wp2;go_ret
   exact⟨g,bq,by rw[b9.o,<-ac.o];rfl,by rw[b9.o,<-ac.o];have:=a9.o;rw[<-ac.o]at this;exact this,ab.o⟩
end Go.Proofs.YtpieilkmmiopfaaGreatDoor
