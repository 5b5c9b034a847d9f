/- Parts of the walks. Conditions: as stated with each. -/
import Derived.Test.YtpieilkmmiopfaaGreatDoorPk37
import Derived.Test.YtpieilkmmiopfaaGreatDoorPk41
namespace Go.Proofs.YtpieilkmmiopfaaGreatDoor
open Go.RowKit Tryz
set_option linter.all false
set_option maxHeartbeats 4000000
set_option maxRecDepth 100000
variable{B b d hi k lo:Nat}{T u0 u1 u2 v0 v1 v2 v3 z2:aG}{V w w':aa}{rows:aP}{t:dL}
def zlu(p:Int)(L:List eE)(w:aa)(e:Ending)(w':aa):Prop:=∃(H ne I no:Nat) (A1 D F:ax) (c1 c2 J:Nat) (S:Sy) (G:ax) (d:Nat),
 e=.returned (.tuple #[.agg (um H A1 ne c1 D I c2 F no J),.agg (da S G d),.bool (qf p L)])/\
 (qf p L=true->∃t,jE (cJ L)=some t/\I=t.gr.i.length/\no=t.gr.o.length/\S=t.gr.N p/\H=t.gr.w/\ne=t.gr.es.length/\Fr w' w w' (fun h=>jV h A1 D F t.gr))/\Fr w' w w' (fun h=>cS h G S.rows)/\ag w w'
abbrev uT(w:aa)(b:Nat)(v0 v1 v2 v3 u0 u1 u2:aG):World:=(((dQ w b v0 v1 v2 v3).setCell ⟨b+1,0,none⟩ u0).setCell ⟨b+1,1,none⟩ u1).setCell ⟨b+1,2,none⟩ u2
def qY{U Y h D F}{t2}(J:bA w b #[T,U,z2,Y] t)(O:bA w (b+1) #[h,D,F] t2):(uT w b v0 v1 v2 v3 u0 u1 u2).heap[b]?=some (.cells #[v0,v1,v2,v3] t (0,0))/\(uT w b v0 v1 v2 v3 u0 u1 u2).heap[b+1]?=some (.cells #[u0,u1,u2] t2 (0,0))/\(dQ w b v0 v1 v2 v3).heap[b+1]?=some (.cells #[h,D,F] t2 (0,0)):=by have H:=cP (v0:=v0) (v1:=v1) (v2:=v2) (v3:=v3) J;have G:(dQ w b v0 v1 v2 v3).heap[b+1]?=some (.cells #[h,D,F] t2 (0,0)):=(nZ Qu).t O;have I:=ik (v0:=u0) (v1:=u1) (v2:=u2) G;refine⟨?_,I,G⟩;exact(a_ _ _ _ _ (by show b≠b+1;omega)).t ((a_ _ _ _ _ (by show b≠b+1;omega)).t ((a_ _ _ _ _ (by show b≠b+1;omega)).t H))
def qZ(h:Below B w w')(D:B<=b)v0 v1 v2 v3 u0 u1 u2:Below B w (uT w' b v0 v1 v2 v3 u0 u1 u2):=(((bY h D v0 v1 v2 v3).setCell (p:=⟨b+1,0,none⟩) (by show B<=b+1;omega) u0).setCell (p:=⟨b+1,1,none⟩) (by show B<=b+1;omega) u1).setCell (p:=⟨b+1,2,none⟩) (by show B<=b+1;omega) u2
def PtB(w:aa)(b:Nat)(v0 v1 v2 v3 u0 u1:aG)(rows:aP)(V:aa):Prop:=∃h d,bA V b #[v0,v1,v2,v3] 54/\bA V (b+1) #[u0,u1,.slice h rows d] 57/\Fr V w V (fun D=>cS D h rows)/\ag w V
def zkp{D}{F}(I:Fr D lo D (fun h=>cS h F rows))(U:b+1<lo)(T:B<=b)(Y:(V:Nat)=D)(G:∀k,k≠b->k≠b+1->V.heap[k]?=D.heap[k]?):Fr V B V (fun h=>cS h F rows):=fun h H=>I h fun k J O=>(H k Qu Qu).t (G k Qu Qu)
def ziT{h}{P}(J:Fr h lo hi P)(O:B<=lo)(T:hi<=(V:Nat))(F:∀k,lo<=k->k<hi->V.heap[k]?=h.heap[k]?):Fr V B V P:=fun D I=>J D fun k G H=>(I k Qu Qu).t (F k G H)
def zeG(h:k≠b)(n2:k≠b+1):(uT w b v0 v1 v2 v3 u0 u1 u2).heap[k]?=w.heap[k]?:=(a_ _ _ _ _ n2).t ((a_ _ _ _ _ n2).t ((a_ _ _ _ _ n2).t (nZ h)))
def zmu{h}{am an ac ad ah}{D}(Z:bA h b #[T,am,z2,an] 54)(Y:bA h (b+1) #[ac,ad,ah] 57)(U:Fr h lo h (fun G=>cS G D rows))(J:b+1<lo)(F:(w:Nat)<=b)(O:ag w h):PtB w b v0 v1 v2 v3 u0 u1 rows (uT h b v0 v1 v2 v3 u0 u1 (.slice D rows d)):=by obtain⟨H,I,-⟩:=qY (v0:=v0) (v1:=v1) (v2:=v2) (v3:=v3) (u0:=u0) (u1:=u1) (u2:=.slice D rows d) Z Y;exact⟨D,d,H,I,zkp U J F (by simp[uT,dQ]) fun k ab n2=>(a_ _ _ _ _ n2).t ((a_ _ _ _ _ n2).t ((a_ _ _ _ _ n2).t (nZ ab))),qZ O F ..⟩
def zmv{h F D:aa}{P}(J:Fr h lo h P)(I:(F:Nat)<=D/\∀k,lo<=k->k < (h:Nat)->D.heap[k]?=h.heap[k]?)(Y:b+1-1+1<lo)(U:B<=b)(T:(h:Nat)<=F)(O:lo<=(h:Nat)):Fr (uT D b v0 v1 v2 v3 u0 u1 u2) B (uT D b v0 v1 v2 v3 u0 u1 u2) P:=ziT J Qu (by simp[uT,dQ];omega) fun k G H=>(zeG Qu Qu).t (I.2 k G H)
def DR p L A ε w(bu:bR 3 jK w A L)(cu:L.length<=1048576)(co:L.length<=ε):az 49 (gj p (aV A L ε)) w (zlu p L w):=by
 have hB:=ζ w (.cells (aV A L ε) 35) (.cells cw 54) (.cells bx 57);have⟨q0,q1,q2⟩:=cD w (.cells (aV A L ε) 35) (.cells cw 54) (.cells bx 57);have⟨a7,b9⟩:=bJ (fun V (ah:ag w V)=>zeu p L A ε V (bQ bu ah) cu) (fun V (ah:ag w V)=>bQ bu ah);have⟨l,b0⟩:=aR L.length;have⟨dq,c4⟩:=bJ b0 co;rw[<-b0]at hB q0 q1 q2 a7 ⊢;clear bu b0 cu co;go_enter func49,ntmps49
 go_upto_region 1 with(fail)
 generalize (((w.alloc _).alloc _).alloc _)=W at hB q0 q1 q2 ⊢;have x0:=aF q0 0 rfl
 have⟨a5,b2,b3⟩:=er hB q1 q2;clear hB q0 q1 q2;cases J:tgB p L
 .have⟨HT,d4⟩:=bJ (ziD J) (Calls.bl (a7 W a5) J);clear J;go_wp2_with (go_at_call 74;(with_reducible refine d4.o.x ?_);rintro e an ⟨rfl,D⟩;have I:=ai b2 D;have G:=ai b3 D;have HZ:=zH I;have HY:=zH G;have⟨r0,r1,r2,r3⟩:=aB I;have⟨f0,f1,f2,f3⟩:=cN I;have⟨s0,s1,s2⟩:=aD G;have g0:=aK G 0;have g1:=aK G 1;have g2:=aK G 2;have FV:=zH (aT a5 D);clear D I G)
  exact ZJ
 have d5:=zH (fun V (ah:ag w V)=>Calls.bl (a7 V ah) J);have cF:kj (cJ L)=true:=by unfold tgB at J;simp only[bN]at J;exact J.1
 have cr:bV p=true:=by unfold tgB at J;simp only[bN]at J;exact J.2.1
 have⟨t,c,bb,ee,cn,a3,ct⟩:=v_ cF;have⟨ce,d6⟩:=bJ (zfO bb J) bb;have ck:∀V,ag w V->az 75 (cY (bZ A l ε)) V (BJ t V):=fun V ah=>by have:=yD t c L A ε V cn a3 ct c4 (b9 V ah);rw[<-dq.o]at this;exact this
 have dl:=zH ck;have dc:=zH (fun(eg:qf p L=true)=>by
  obtain⟨ek,cB,g⟩:=oc eg;rw[bb]at cB;cases cB
  exact g)
 have b7:=zH (cv cr);clear J cF cr bb ee cn a3 ct ck a7 b9;go_upto_region 4 with(first|(go_at_call 74;(with_reducible refine(d5.o W a5.o).x ?_);rintro e an ⟨rfl,D⟩;have ei:=ar D x0;have cO:=zH (ai b2 D);have a4:=zH (ai b3 D);have FV:=zH (aT a5 D);clear D)|(go_at_call 75;(with_reducible refine(dl.o _ FV.o).x ?_);intro e H h;have⟨F,T,ab,U,ac,Y,ad,ea,a3,bz,D⟩:=BJ.ψ h;subst ea;have cR:=zH (ai cO D);have cV:=zH (ai a4 D);have cW:=zH (aT FV D);have b8:=zH bz;have c9:=zH bz.D;have c5:=zH a3;have bq:=zH D.size;clear D bz a3 h))
 clear x0 ei;have⟨ap,b1⟩:=bM H (.cells (bj F T ab U ac Y ad) 54);generalize H.alloc _=cK at ap b1 ⊢;have⟨bo,bg,bi,bp,c8,cc⟩:=ny ap (ai cR ap) (ai cV ap) (aT cW ap) (c9.ext ap) b1;clear ap b1;cases av:t.pM
 .obtain⟨HT,HZ,HY,FV⟩:=gG (by rw[ce.o,av];rfl:qf p L=false) bg.o bi.o bp.o;have⟨an,cI⟩:=aR cK;rw[<-cI]at HZ HY FV ⊢;have⟨r0,r1,r2,r3⟩:=aB HZ;have⟨f0,f1,f2,f3⟩:=cN HZ;have⟨s0,s1,s2⟩:=aD HY;have⟨g0,g1,g2⟩:=cd HY;clear cI av;go_wp2;exact ZJ
 have a1:F=t.gr:=c5 av;have ba:F.B=true:=by rw[a1];exact Tm.DN av
 have b5:=zH (BO p F T U Y ab ac ad cK c8 ba);have a9:qf p L=Ð p F:=by rw[ce.o,av,a1];rfl
 have⟨q0,q1,q2,bc⟩:=aB cc;have br:=aQ q0 (aQ q1 (aQ q2 bc));cases a2:Ð p F
 .have⟨HT,bn⟩:=bJ (a9.t a2) (Calls.bl b5 a2);clear av a1 ba a9 a2 br;go_wp2_with (go_at_call 76;(with_reducible refine bn.o.x ?_);rintro e an ⟨rfl,D⟩;have I:=ai bg D;have G:=ai bi D;have HZ:=zH I;have HY:=zH G;have⟨r0,r1,r2,r3⟩:=aB I;have⟨f0,f1,f2,f3⟩:=cN I;have⟨s0,s1,s2⟩:=aD G;have g0:=aK G 0;have g1:=aK G 1;have g2:=aK G 2;have FV:=zH (aT bp D);clear D I G)
  exact ZJ
 have⟨HT,bn⟩:=bJ (a9.t a2) (Calls.bl b5 a2);have db:=zH (dc HT);have⟨S,bv⟩:=aR (F.N p);obtain⟨d3,Mt,d2⟩:=er (fun V (ah:∀k,(an:Nat)<=k->k < (H:Nat)->V.heap[k]?=H.heap[k]?)=>(by have:=zjc p F T U Y ab ac ad V b7.1 b7.2 (b8 V ah) ba (by rw[a1];exact db.val);rw[<-bv]at this;exact this:az 77 (gj p (bj F T ab U ac Y ad)) V (Cx S V))) a1 bv;clear av a1 ba a9 a2 q0 q1 q2 bc bv;have⟨q0,q1,q2,bc⟩:=aB cc;go_upto_region 6 with(go_at_call 76;(with_reducible refine bn.o.x ?_);rintro e O ⟨rfl,D⟩;have a0:=zH D;clear D)
 clear q0 q1 q2 bc;have ci:=gS a0 br;obtain⟨cb,ch,bh,b4,b6⟩:=pD (show ∀k,(an:Nat)<=k->k < (H:Nat)->O.heap[k]?=H.heap[k]? from fun k a8 ao=>(a0.block k (gm ao bo.size)).t (bo.block k ao)) (aZ bo.size a0.size) (ai bg a0) (ai bi a0) (aT bp a0);have⟨r0,r1,r2,r3⟩:=aB bh;have⟨f0,f1,f2,f3⟩:=cN bh;obtain⟨dr,dO⟩:=bJ (show(w:Nat)+1<an by have:=(bk.1 a4).1;omega) (show(w:Nat)+1+1-1+1<an by have:=(bk.1 a4).1;omega);obtain⟨am,a6,ca,dT⟩:=gG (show H.heap.size≠(w:Nat)+1 by have:=dr.o;have:=bq.o;omega) (show H.heap.size≠(w:Nat)+1+1 by have:=(bk.1 a4).1;have:=bq.o;omega) (Qu:(w:Nat)<=w+1) (show(w:Nat)+1+1<O from(bk.1 b4).1);go_cut [6] from 9 (fun ej V=>ej=.bool true/\PtB w ((w:Nat)+1) (zI (F.w:Nat)) (.slice T F.es ab) (.slice U F.i ac) (.slice Y F.o ad) (zI S.v) (zI S.h) S.rows V/\Fr V w V (fun d9=>jV d9 T U Y F))
 case first=>
  have cj:af O.drew H 0 (zI (F.w:Nat))/\af O.drew H 1 (.slice T F.es ab)/\af O.drew H 2 (.slice U F.i ac)/\af O.drew H 3 (.slice Y F.o ad):=ci;go_region_held3 (fun V=>af V H 0 (zI (F.w:Nat))/\af V H 1 (.slice T F.es ab)/\af V H 2 (.slice U F.i ac)/\af V H 3 (.slice Y F.o ad))
   (first|with_reducible exact Z|with_reducible exact cj|with_reducible exact⟨dH am.o Z.1,dH am.o Z.2.1,dH am.o Z.2.2.1,dH am.o Z.2.2.2⟩|with_reducible exact⟨gO a6.o (dH am.o Z.1),gO a6.o (dH am.o Z.2.1),gO a6.o (dH am.o Z.2.2.1),gO a6.o (dH am.o Z.2.2.2)⟩)
   ((first
    |(go_at_call 77;(with_reducible refine iB (d3.o O.drew ?_) ?_);(focus (intro k a8 ao;exact cb k a8 ao));intro e bd h;unfold Cx at h;obtain⟨be,d,eb,cp,D⟩:=h;subst eb;have Z:=gS D cj;have c7:=zH (show Fr bd O bd _ from cp);have I:=ai (show O.drew.heap[(w:Nat)+1]?=_ from bh.o) D;have G:=ai (show O.drew.heap[(w:Nat)+1+1]?=_ from b4.o) D;have d8:=zH I;have d7:=zH G;clear r0 r1 r2 r3 f0 f1 f2 f3;have⟨r0,r1,r2,r3⟩:=aB I;have⟨f0,f1,f2,f3⟩:=cN I;have⟨s0,s1,s2⟩:=aD G;have g0:=aK G 0;have g1:=aK G 1;have g2:=aK G 2;have c3:=zH (b6.drew.t (D.x b6.size));have d0:=zH (show(O:Nat)<=bd/\∀k,(an:Nat)<=k->k < (H:Nat)->bd.heap[k]?=H.heap[k]? from⟨D.size,fun k a8 ao=>(D.block k (gm ao ch)).t (cb k a8 ao)⟩);clear D cp I G)
    |(go_at_call 77;trace_state;fail)))
  all_goals clear Z
  all_goals go_wp2_with fail
  all_goals
   go_meet
   with_reducible exact⟨rfl,zmu d8.o d7.o c7.o dT.o ca.o c3.o,zmv b8.o d0.o dO.o ca.o ch.o bq.o⟩
 case rest=>
  obtain⟨rfl,cz,cq⟩:=hcut;have c6:=zH cq;clear cq;unfold PtB at cz;obtain⟨be,d,I,G,cA,D⟩:=cz;have⟨u0,u1,u2,u3⟩:=aB I;have⟨t0,t1,t2⟩:=aD G;have⟨d1,c0⟩:=bJ cA D;clear I G cA D ci r0 r1 r2 r3 f0 f1 f2 f3 br;go_wp2;refine aI (v:=.tuple #[.agg (bj F T ab U ac Y ad),.agg (da S be d),.bool true]) (by simp[results,results49,go_sem, *]) rfl ?_;refine⟨F.w,_,_,_,T,U,Y,ab,ac,ad,S,be,d,by rw[HT.o],fun _=>⟨t,d6,QS,QS,by rw[d2.o,Mt.o],QS,QS,by rw[<-Mt.o];exact c6⟩,d1,c0⟩
end Go.Proofs.YtpieilkmmiopfaaGreatDoor
