/- Parts of the walks and laws (Sy3, Sy4, Frame3). Conditions: as stated with each. -/
import Derived.Test.YtpieilkmmiopfaaGreatDoorPk44
import Derived.Test.YtpieilkmmiopfaaGreatDoorPk45
namespace Go.Proofs.YtpieilkmmiopfaaGreatDoor
open Go.RowKit Tryz
set_option linter.all false
set_option maxHeartbeats 8000000
set_option maxRecDepth 100000
variable{H Rn k n x y:Nat}{Q:gj}{Q7:DataW Unit}{a:Act}{e:Ed}{g:Gr}{o:fR}{ops:gP}{p:Int}{rest:List Oper}{v:ax}
section
open Go.Maps
theorem r_(G0:o.guard=none)(s x:jk)(J:o.op=.call {callee:=.builtin .append,args:=#[s,x],argTypes:=#[55,55]})(B:Nat)(h W:aa)(v u:ax)(rows:aN)(r:aH)(N:aU h B v rows)(H:ag h W)(R:aD W h.heap.size u r)(I:rows.length+1<=1073741824)(G:B<=h.heap.size)(O:a.eval s=v)(T:a.eval x=.slice (some ⟨W.heap.size,0,none⟩) 1 1)(D:∀g cap w',aU w' B (.slice (some ⟨g,0,none⟩) (rows.length+1) cap) (rows++[r])->Below B h w'->W.heap.size<=w'.heap.size->(∀k,k<W.heap.size->some k≠v.ownBlock->w'.heap[k]?=W.heap[k]?)->(v.ownBlock=some g∨W.heap.size<=g)->wpList prog ops Q rest (a.put o.dst (.slice (some ⟨g,0,none⟩) (rows.length+1) cap)) w'):wpList prog ops Q (o::rest) a (W.alloc (.cells #[u] 26)):=
 lj G0 fun K hK=>by have F:=qL (ops:=ops) (E:=True) (K:=K) (Q:=Q) G0 s x J B h W v u rows r N H R I G O T (fun g cap w' a b c d e=>hK _ _ (D g cap w' a b c d e));rwa[ay Uh]at F
theorem ziC(I:2<=p)(hk:k<H)(G:y<H)(F:k≠y):(ji H k).set y (p-1)=ku p H [(k,1),(y,p-1)]:=by
 have h:(List.replicate H (0:Int)).getD k 0=0:=by rw[bP,fH,ay hk];rfl
 have D:((List.replicate H (0:Int)).set k 1).getD y 0=0:=by rw[yl Sh,av F,bP,fH,ay G];rfl
 show((List.replicate H (0:Int)).set k 1).set y (p-1)=((List.replicate H (0:Int)).set k (((List.replicate H (0:Int)).getD k 0+1)%p)).set y ((((List.replicate H (0:Int)).set k (((List.replicate H (0:Int)).getD k 0+1)%p)).getD y 0+(p-1))%p)
 rw[h,show((0:Int)+1)%p=1 from qB Rr Rr,D,Int.zero_add,qB Rr Rr]
def Bd(p:Int)(fq n:Nat)(L:gX)(left:Lit->Bool):List Int:=zR fq ((List.range n).map fun d:Nat=>if left (.int .i64 d)=true then 0 else gO L d%p)
theorem vK{fq:Nat}{L:gX}{left:Lit->Bool}:(Bd p fq n L left).length=fq+n:=by simp[Bd,zR]
theorem zcf{fq:Nat}{L:gX}(D:mz Q7 L):Bd p fq n L (Maps.has Q7)=List.replicate (fq+n) 0:=by
 unfold Bd zR;rw[<-List.replicate_append_replicate];congr 1
 refine gS fun d=>?_
 rw[cC,fH];by_cases h:d<n
 .rw[lJ h,ay h]
  show some (if Maps.has Q7 (.int .i64 (d:Int))=true then(0:Int) else gO L d%p)=some 0
  rw[D.h d];split
  .rfl
  .rename_i hk;rw[wW Sh];simp
 .rw[gT (by simpa using h),av h];rfl
theorem zed{fq:Nat}{L:gX}{left:Lit->Bool}(F:x<n):(Bd p fq n L left).set (fq+x) (gO L x%p)=Bd p fq n L (fun z=>left z&&!z.sameKey (.int .i64 x)):=by
 have h:(List.replicate fq (0:Int)).length=fq:=iF ..;unfold Bd zR;rw[lI _ _ (by rw[h];omega),h,Nat.add_sub_cancel_left];congr 1
 refine gS fun d=>?_
 rw[vY,cC,bh,fX];by_cases D:d<n
 .rw[cC,lJ D];by_cases e:x=d
  .subst e;rw[ay rfl,ay F];have:(Lit.int .i64 (x:Int)).sameKey (.int .i64 x)=true:=by simp[Lit.sameKey]
   simp[this]
  .rw[av e];have:(Lit.int .i64 (d:Int)).sameKey (.int .i64 x)=false:=by simp[Lit.sameKey];omega
   simp[this]
 .have:x≠d:=Rr;rw[cC,gT (by simpa using D),av this];rfl
theorem zfH{fq:Nat}{L:gX}{left:Lit->Bool}(h:∀D,left D=false):Bd p fq n L left=zR fq (mg p n L):=by unfold Bd mg;simp[h]
theorem zgr(F:2<=p)(h:∀L∈e.eqns p,∀q∈L,q.1<g.w):eR p g e=(e.Dx.map (mg p g.w)).map (zR g.fq):=by
 unfold eR;rw[<-Ed.zaP];congr 1
 exact kZ fun L D=>zd1 F (h L D)
theorem zgs{L:gX}(h:isK L x=true):∃q∈L,q.1=x:=by unfold isK at h;rw[k7]at h;obtain⟨q,D,e⟩:=h;exact⟨q,D,by simpa using e⟩
theorem zgt{M:Int}(G:e.jt=true)(hi:∀x∈e.i,x<n)(R:∀x∈e.o,x<n)(ab:1<=M)(ac:0<=e.v/\e.v<=M):∀L∈e.Dx,L.length<=3/\∀q∈L,q.1<n/\-M<=q.2/\q.2<=M:=by
 have gen:∀(k:Int) (i o:bO),yD k<=i.length->mv k<=o.length->(∀x∈i,x<n)->(∀x∈o,x<n)->∀L∈Dw k e.v i o,L.length<=3/\∀q∈L,q.1<n/\-M<=q.2/\q.2<=M:=by
  intro k i o H I Y Z L h;have gi:∀j,j<i.length->i.getD j 0<n:=fun j O=>Y _ (kS O)
  have go:∀j,j<o.length->o.getD j 0<n:=fun j O=>Z _ (kS O)
  unfold Dw at h;unfold yD at H;unfold mv at I;split at h
  .rename_i F;subst F;simp at H I;simp only[dQ,gu,gI]at h;rcases h with rfl|rfl
   all_goals
    refine⟨Rq,fun q D=>?_⟩;simp only[dQ,gu,gI]at D;rcases D with rfl|rfl
    .exact Xa
    .exact W_
  split at h
  .rename_i F;subst F;simp at H I;simp only[dQ,gu,gI]at h;subst h;refine⟨Rq,fun q D=>?_⟩;simp only[dQ,gu,gI]at D;rcases D with rfl|rfl|rfl
   .exact Xa
   .exact W_
   .exact W_
  split at h
  .rename_i F;subst F;simp at H I;simp only[dQ,gu,gI]at h;subst h;refine⟨Rq,fun q D=>?_⟩;simp only[dQ,gu,gI]at D;subst D;exact Xa
  split at h
  .rename_i F;subst F;simp at H I;simp only[dQ,gu,gI]at h;subst h;refine⟨Rq,fun q D=>?_⟩;simp only[dQ,gu,gI]at D;rcases D with rfl|rfl
   .exact Xa
   .exact W_
  .simp at h
 obtain⟨k,v,ad,lo⟩:=e;dsimp only at *;unfold Ed.jt at G;simp only[bE,bX]at G;obtain⟨T,U⟩:=rZ (v:=v) G.2.1;have J:=G.2.2.1;have N:=G.2.2.2;try dsimp only at J N
 rw[T]at J;rw[U]at N;have V:=yR G.1;try dsimp only at V
 unfold Ed.Dx;try dsimp only
 split
 .refine gen _ _ _ ?_ ?_ R hi
  .rw[N];unfold yD xE;(repeat' split) <;>omega
  .rw[J];unfold mv xD;(repeat' split) <;>omega
 .refine gen _ _ _ ?_ ?_ hi R
  .rw[J];unfold yD xD;(repeat' split) <;>omega
  .rw[N];unfold mv xE;(repeat' split) <;>omega
end
section
open Go.Maps
theorem uu(p:Int)(g:Gr)(A1 a3 a4:aq)(c1 c2 bg:Nat)(w:aa)(d9:2<=p)(kw:p<=97)(fz:j6 w A1 a3 a4 g)(d0:g.okB=true)(g1:∀e∈g.es,0<=e.v/\e.v<p):aw 86 (ig p (bl g A1 c1 a3 c2 a4 bg)) w (zd0 (g.sys p) w):=by
 obtain⟨k6,hN,h5,h6,h7⟩:=de fT;have a7:=Gr.kg.1 d0;have gb:=Gr.rO d0;have hM:g.w<=100:=a7.1;have gn:g.es.length<=60:=a7.2.1;have kl:g.i.length<=12:=a7.2.2.1;have ks:g.o.length<=12:=a7.2.2.2.1;obtain⟨b7,II,c7,HV⟩:=fU (fun G (cj:ag w G)=>fz.ext cj) gb a7.2.2.2.2.1 g1;obtain⟨fq,cz⟩:=aM g.fq;have IM:=zH cz;have g2:(bt g.i++bt g.o).length=fq:=by rw[bx,aQ,aQ,cz];rfl
 have fd:=zH g2;have k0:fq<=24:=by rw[cz];unfold Gr.fq;omega
 obtain⟨D,d3⟩:=aM g.w;have IU:=zH d3;rw[<-d3]at hM ⊢;obtain⟨F,f5⟩:=aM (fq+D);have k1:IntKind.i64.wrap ((fq:Int)+(D:Int))=(F:Int):=Sq;have j2:F<=4096:=Rr;have IZ:=zH f5;have h0:IntKind.i64.wrap (p-1)=p-1:=Sq;have ce:=((aj w.heap.size w).alloc (af _) (.cells (fw D A1 g.es.length c1 a3 g.i.length c2 a4 g.o.length bg) 54)).alloc Rq (.cells bj 57);have hq:=(bJ (w.alloc (.cells (fw D A1 g.es.length c1 a3 g.i.length c2 a4 g.o.length bg) 54)) (.cells bj 57) (k:=w.heap.size) Rq).trans (aC w _ rfl);have U:=aC (w.alloc (.cells (fw D A1 g.es.length c1 a3 g.i.length c2 a4 g.o.length bg) 54)) (.cells bj 57) (n:=w.heap.size+1) Rq;clear fz d0 g1 a7 gb cz g2 d3 f5;go_enter func86,ntmps86
 go_upto_region 1 with(fail)
 generalize (w.alloc _).alloc _=W at ce hq U ⊢;obtain⟨b2,b3,b4,b5⟩:=aA hq;obtain⟨c5,c9,e2⟩:=dO ce hq U;have dq:=ce;clear ce hq;have hs:=zH (show w.heap.size+1<W.heap.size from(aT.1 U).1);have hc:=zH (b7.o W dq).i;have hk:=zH (b7.o W dq).o;clear dq hN h5 h6 h7;go_upto_region 2 with(go_at_call 65;(with_reducible refine(uH (bt g.i) (bt g.o) a3 a4 c2 bg g.i.length g.o.length fq W hc.o hk.o (aQ _).symm (aQ _).symm fd.o.symm Rr).mono ?_);rintro e I ⟨it,i6,rfl,-,bv,J⟩;have bd:=zH J;have es:=zH bv.now;clear bv J)
 clear b2 b3 b4 b5;obtain⟨a5,e3,e1⟩:=dO (c5.o.trans (bd.o.mono c5.o.size)) (ah e2.o bd.o) (ah c9.o bd.o);obtain⟨b2,b3,b4,b5⟩:=aA (ah c9.o bd.o);have i1:=zH (b7.o I a5.o);go_upto_region 3 with(fail)
 obtain⟨T,V⟩:=bA I (.cells #[(fq:Nat),(D:Nat),bW] 57);generalize I.alloc _=Y at T V ⊢;obtain⟨ba,ej⟩:=bD (show I.heap.size<Y.heap.size from(aT.1 V).1) T;obtain⟨IL,hm⟩:=bD (show Du Y.heap.size I.heap.size Y fq D none 0 0 [] from⟨V,⟨[],qv _ _ _ _,fun k u r h=>RM,fun i j u li b h=>RM⟩,rfl,ba.o,af _⟩) (show w.heap.size<=I.heap.size from a5.o.size);clear T V b2 b3 b4 b5 c5 c9 e2 bd;go_wp2;go_loopw [30] (fun i wr=>∃(k:Nat) (C1:aq) (m1:Nat),k<=fq/\i=.int .i64 k/\Du Y.heap.size I.heap.size wr fq D C1 k m1 ((g.ends p).take k)/\ag I wr) (fun i _=>fq-(intOf i).toNat)
 case atStart=>exact⟨0,none,0,aX _,rfl,IL.o,ej.o⟩
 case round=>
  obtain⟨k,C1,m1,cp,rfl,hS,E9⟩:=hrel;clear IL;by_cases cr:k<fq
  .obtain⟨x,hx⟩:=aB (show k < (g.i++g.o).length by have:=IM.o;rw[bx];unfold Gr.fq at this;omega);obtain⟨i4,i5,rfl,br⟩:=(es.o.ext E9).here (k:=k) (by rw[fd.o];exact cr);have kc:=br k (x:Int) (by rw[<-kI];exact dJ hx);have h3:x<D:=XR;have hy:=zH (by rw[bP,hx];rfl:(g.i++g.o).getD k 0=x);have bc:=zH (show(g.ends p).take (k+1)=(g.ends p).take k++[ku p F [(k,1),(fq+x,p-1)]] from by refine gY ?_;unfold Gr.ends;rw[cC,lJ (by rw[<-IM.o];exact cr),IZ.o,IM.o,IU.o,<-hy.o];rfl)
   obtain⟨y,g3⟩:=aM (fq+x);have k2:IntKind.i64.wrap ((fq:Int)+(x:Int))=(y:Int):=Sq;rw[<-g3]at bc;have IH:y<F:=TA;have IY:k<F:=TA;have b8:=zH ((um (p:=p) (n:=F) (L:=[(k,1),(y,p-1)]) d9 (fun q hq=>VM)).1);obtain⟨row,N⟩:=aM (ku p F [(k,1),(y,p-1)]);have hp:=zH (by rw[N];exact ziC d9 IY IH Rr:(ji F k).set y (p-1)=row);rw[<-N]at bc b8;obtain⟨a2,a9,z2⟩:=aG hS.box;obtain⟨db,hv,IL,Fc,dl⟩:=mD (fun G b1=>(by have:=ny (fq:Int) (D:Int) b1 G Rr Rr Rr Rr;rw[show(fq:Int)+(D:Int)=(F:Int) by have:=IZ.o;omega]at this;exact this:aw 64 #[.agg #[(fq:Nat),(D:Nat),b1]] G fun e w'=>e=.returned (.int .i64 (F:Nat))/\ag G w')) (fun G=>(by have:=zO F k G Rr IY;exact this:aw 125 (gl F k) G fun e w'=>∃u,e=.returned u/\aD w' G.heap.size u (ji F k)/\ag G w')) hS E9 IH;clear br hx h3 g3 IY N hS E9;go_upto_region 7 with(first|(go_at_call 64;(with_reducible refine(db.o _ _).mono ?_);rintro e is ⟨rfl,bq⟩;have Z:=zH bq;clear bq)|(go_at_call 125;(with_reducible refine(hv.o _).mono ?_);rintro e ad ⟨u,rfl,a1,bp⟩;obtain⟨H,ap,ac,bi,-⟩:=kn a1 (by rw[jq];omega);rw[jq]at ac;subst ac;have ao:=zH (Z.o.trans (bp.mono Z.o.size));have ca:=zH (a1.mono Z.o.size);have g6:=zH (aR Z.o.size bi);clear a1 bp bi))
   have N:=ca.o.row (jq F k);obtain⟨v0,bz⟩:=aB (by rw[jq];exact dl.o:y < (ji F k).length);have bu:ae ad H y (.int .i64 v0):=by rw[N.cellAt y (by have:=dl.o;omega),cC,bz];rfl
   have dT:=N.frozenAt y;have O:=(N.stored y (.int .i64 (p-1))).1;rw[<-fh,hp.o]at O;obtain⟨fb,dc⟩:=bD (by unfold aD;rw[b8.o];exact O:aD (ad.setCell ⟨H,y,none⟩ (.int .i64 (p-1))) wr.heap.size (.slice (some ⟨H,0,none⟩) F ap) row) (ao.o.setCell (p:=⟨H,y,none⟩) g6.o (.int .i64 (p-1)));have am:=al ao.o a2;have IH:=dl.o;clear N bz O a2 a9 z2;go_upto_region 8 with(fail)
   clear am bu dT IH;generalize ad.setCell ⟨H,y,none⟩ _=ip at fb dc ⊢;obtain⟨am,c0,c3⟩:=aG (ah IL.o.box dc.o);go_wp2_with ((at_builtin;refine r_ rfl (.tmp 48) (.tmp 50) rfl Y.heap.size wr ip (.slice C1 k m1) (.slice (some ⟨H,0,none⟩) F ap) _ row IL.o.own dc.o fb.o TL IL.o.le rfl rfl ?_;intro g5 hA io a0 J cu cq ck;rw[IL.o.len]at a0 ⊢;obtain⟨O,R⟩:=Du.stored IL.o a0 J;obtain⟨a2,a9,z2⟩:=aG R;have f0:=aK R 0;have f1:=aK R 1;have f2:=aK R 2;have bb:=zH O;have em:=zH J;clear a0 J cu cq O R ck))
   go_roundw
   case rel=>
    have h:=bb.o;rw[<-bc.o]at h;exact⟨k+1,_,_,Rr,Rt,h,(Fc.o.trans (em.o.mono (fV ba.o))).setCell (p:=⟨I.heap.size,2,none⟩) (af _) _⟩
   case measure=>simp[intOf];omega
  .have hO:fq=k:=Rr;subst hO;rw[show(g.ends p).take fq=sR p g 0 from VZ]at hS;obtain⟨b2,b3,b4,b5⟩:=aA (ah e1.o E9);obtain⟨e7,eo⟩:=bD hS E9;clear hS E9 h0 ej es;go_wp2;go_loopw [57] (fun i wr=>∃(j m m1:Nat) (C1:aq),j<=g.es.length/\i=.int .i64 j/\Du Y.heap.size I.heap.size wr fq D C1 m m1 (sR p g j)/\ag I wr) (fun i _=>g.es.length-(intOf i).toNat)
   case atStart=>exact⟨0,_,_,_,aX _,rfl,e7.o,eo.o⟩
   case round=>
    obtain⟨j,m,m1,C1,gc,rfl,hS,E9⟩:=hrel;clear e7 eo b2 b3 b4 b5;by_cases cr:j<g.es.length
    .obtain⟨e,co⟩:=aB cr;obtain⟨i9,jp,eg,fs,ei,fx,dr,u0,u1,u2,u3,d4,d5⟩:=gZ (b7.o wr (a5.o.trans (E9.mono a5.o.size))).es co;subst dr;obtain⟨cA,cF,cb,cc⟩:=e;dsimp only at u0 u1 u2 u3 d4 d5;obtain⟨T,d8⟩:=bA wr (.cells (eD cA cF eg cb fs ei cc fx) 155);have IS:=aY co;have e6:=zH (fun G (cj:ag wr G)=>DK ⟨cA,cF,cb,cc⟩ eg ei fs fx G (d4.ext cj) (d5.ext cj) (c7.o _ IS) (fun x hx=>by have:=II.o x (an (an ⟨_,IS,au hx⟩));have:=IU.o;omega) (fun x hx=>by have:=II.o x (an (an ⟨_,IS,an hx⟩));have:=IU.o;omega) (HV.o _ IS).1 VF);obtain⟨ab,bo⟩:=aM ((Ed.mk cA cF cb cc).Dx);rw[<-bo]at e6;have IX:=zH (show sR p g (j+1)=sR p g j++(ab.map (mg p D)).map (zR fq) by rw[zcI co,zgr d9 (fun L ci q hq=>Gr.zbI c7.o II.o L (ld.2 ⟨_,IS,ci⟩) q hq),bo,IM.o,IU.o])
     have b8:=zH (show ∀L∈ab,L.length<=3/\∀q∈L,q.1<D/\-97<=q.2/\q.2<=97 from fun L ci=>by rw[bo]at ci;exact zgt (M:=97) (c7.o _ IS) (fun x hx=>VJ) (fun x hx=>VI) Rs ⟨(HV.o _ IS).1,VF⟩ L ci)
     have hG:ab.length<=2:=by have:=mX List.length (Ed.zaP (p:=p) (e:=⟨cA,cF,cb,cc⟩) (n:=0));rw[bh,bh,<-bo]at this;rw[<-this];unfold Ed.eqns;split <;>exact vA ..
     have hR:m<=200:=Wa;obtain⟨hn,b9,c6,ek⟩:=fU (ah (ah e1.o E9) T) (hS.ext T) (E9.trans (T.mono E9.size)) T;clear co d4 d5 IS bo hS E9;go_upto_region 13 with(fail)
     generalize wr.alloc _=eb at T d8 hn b9 c6 ek ⊢;obtain⟨ia,ib,n2,id⟩:=aA d8;clear u0 u1 u2 u3 d8 T;go_wp2_with (go_at_call 126;(with_reducible refine(e6.o _ ek.o).mono ?_);intro e cO h;unfold zgu at h;obtain⟨iv,i7,hD,bv,J⟩:=h;subst hD;have g9:=zH bv;have em:=zH J;have ht:=zH (b9.o.ext J);have g8:=zH (c6.o.trans (J.mono c6.o.size));clear bv J)
     have ey:=zH (show ∀g,(Value.slice C1 m m1).ownBlock=some g->g<eb.heap.size from fun g h=>by obtain⟨us,hU⟩:=b9.o.own;exact(bL hU.outer g h).2)
     clear ia ib n2 id;obtain⟨l,d6⟩:=aM ab.length;have HL:=zH d6;rw[<-d6]at hG ⊢;clear d6;go_loopw [64] (fun i wr=>∃(q m m1:Nat) (C1:aq),q<=l/\i=.int .i64 q/\Du Y.heap.size I.heap.size wr fq D C1 m m1 (sR p g j++((ab.take q).map (mg p D)).map (zR fq))/\ag I wr/\(∀k,eb.heap.size<=k->k<cO.heap.size->wr.heap[k]?=cO.heap[k]?)/\(∀g,(Value.slice C1 m m1).ownBlock=some g->g<eb.heap.size∨cO.heap.size<=g)/\cO.heap.size<=wr.heap.size/\m<=200+q) (fun i _=>l-(intOf i).toNat)
     case atStart=>exact⟨0,_,_,_,aX _,rfl,(by simpa using ht.o),g8.o,fun _ _ _=>rfl,fun g h=>au (ey.o g h),af _,hR⟩
     case round=>
      obtain⟨q,h8,h9,g4,hq,rfl,hS,E9,IN,hC,IV,IK⟩:=hrel;clear ey;by_cases ke:q<l
      .obtain⟨L,U⟩:=aB (show q<ab.length by have:=HL.o;omega);have f3:=b8.o L (aY U);rcases g9.o wr IN with h|⟨lc,dr,br⟩
       .rw[h]at U;simp at U
       subst dr;obtain⟨b0,c4,bu,gs,f4⟩:=br q L U;have bc:=zH (by rw[gY U];simp:sR p g j++((ab.take (q+1)).map (mg p D)).map (zR fq)=(sR p g j++((ab.take q).map (mg p D)).map (zR fq))++[zR fq (mg p D L)]);obtain⟨a2,a9,z2⟩:=aG hS.box;obtain⟨a8,rfl⟩:∃a8,a8=wr:=⟨wr,rfl⟩;obtain⟨db,hz,IL,Fc,he,HC,hw,e0,c8,IJ⟩:=zhJ (fun G b1=>(by have:=ny (fq:Int) (D:Int) b1 G Rr Rr Rr Rr;rw[show(fq:Int)+(D:Int)=(F:Int) by have:=IZ.o;omega]at this;exact this:aw 64 #[.agg #[(fq:Nat),(D:Nat),b1]] G fun e w'=>e=.returned (.int .i64 (F:Nat))/\ag G w')) (fun G=>kx F G Rr) hS E9 IN hC IV gs f4 f3;clear U br hS E9 IN hC IV gs f4 f3;go_upto_region 17 with(first|(go_at_call 64;(with_reducible refine(db.o _ _).mono ?_);rintro e is ⟨rfl,bq⟩;have Z:=zH bq;clear bq)|(go_at_call 98;(with_reducible refine(hz.o _).mono ?_);rintro e ad ⟨u,rfl,a1,bp⟩;obtain⟨b6,ap,ac,-,-,-⟩:=a1.view;rw[iF]at ac;subst ac;have ao:=zH (Z.o.trans (bp.mono Z.o.size));have ca:=zH (a1.mono Z.o.size);clear a1 bp))
       obtain⟨hl,ev⟩:=bD (Be e0.o ao.o) (fun g (h:(Value.slice b6 F ap).ownBlock=some g)=>(bL ca.o g h).2);clear a2 a9 z2 bu;go_wp2_with (at_range;refine wpList_range_own _ rfl _ 167 rfl 3 3 zeF underlying167 _ b0 3 c4 rfl hl.o ?_;intro lm gC d1 hV)
       go_frame
       obtain⟨e5,e9,fl⟩:=dO gC (ca.o.ext (cD d1)) (ao.o.trans ((cD d1).mono ao.o.size));clear gC d1 hV;go_loopw [15] (fun _ wr=>∃(left:Lit->Bool) (fo:Nat),wr.ranges prog 3 (plainElem prog 3) b0 ad.heap.size 3 c4 left fo/\Hd (∀cB,left cB=true->Maps.has c4 cB=true)/\aD wr a8.heap.size (.slice b6 F ap) (Bd p fq D L left)/\ag a8 wr) (fun _ wr=>wr.rangeLeft b0 ad.heap.size)
       case atStart=>exact⟨_,_,e5.o,zH (fun _ h=>h),by rw[zcf c8.o,<-IZ.o];exact e9.o,fl.o⟩
       case round=>
        obtain⟨left,fo,gB,gg,f6,f8⟩:=hrel;obtain⟨e4,e8,a6⟩:=dO gB f6 f8;clear gB f6 f8 e5 e9 fl;go_wp2_with (at_next;refine wpList_next_ranges_ii _ rfl _ rfl 3 3 .i64 .i64 zeF gE gE b0 ad.heap.size 3 _ _ _ rfl e4.o ?_ ?_)
        .intro hI gf;have hu:=zH (show aD wr a8.heap.size (.slice b6 F ap) (zR fq (mg p D L)) by have h:=e8.o;rw[zfH gf]at h;exact h);obtain⟨am,c0,c3⟩:=aG (ah IL.o.box a6.o);clear hI gf;go_wp2_with ((at_builtin;refine r_ rfl (.tmp 88) (.tmp 90) rfl Y.heap.size a8 wr (.slice g4 h8 h9) (.slice b6 F ap) _ (zR fq (mg p D L)) IL.o.own a6.o hu.o TL IL.o.le rfl rfl ?_;intro g5 hA io a0 J cu cq ck;rw[IL.o.len]at a0 ⊢;obtain⟨O,R⟩:=Du.stored IL.o a0 J;obtain⟨a2,a9,z2⟩:=aG R;have f0:=aK R 0;have f1:=aK R 1;have f2:=aK R 2;have bb:=zH O;have g7:=zH J;have hr:=zH cu;have hd:=zH cq;have IW:=zH ck;clear a0 J cu cq O R ck))
         go_roundw
         case rel=>
          have h:=bb.o;rw[<-bc.o]at h;have j0:=b9.o.le;have k4:=a6.o.size;have j1:=hr.o;have IV:=hw.o;have kk:=ba.o;refine⟨q+1,_,_,_,Rr,Rt,h,(Fc.o.trans (g7.o.mono (fV ba.o))).setCell (p:=⟨I.heap.size,2,none⟩) (af _) _,fun k h1 h2=>?_,fun g h=>?_,RS,Rr⟩
          .refine(aZ _ _ _ _ (by show k≠I.heap.size;omega)).trans ((hd.o k Rr (fun e=>?_)).trans ((a6.o.block k Rr).trans (he.o k h1 h2)));have:=HC.o k e.symm;omega
          .exact Ye
         case measure=>simp[intOf];omega
        .intro x c cI hB ea hZ d7 f7 gL gi d2 hW hJ;obtain⟨y,hE,cp⟩:=c8.o.n _ (gg.o _ d7);obtain rfl:x=(y:Int):=by simpa using hE
         have h1:=(f7 (.lit (.int .i64 0))).symm.trans (c8.o.a y cp _);have cn:c=gO L y:=Sl;obtain⟨ii,gw,gA⟩:=zgs cp;have h4:y<D:=by rw[<-gA];exact(IJ.o.2 ii gw).1
         have hH:=zB (M:=97) Rs (L:=L) (x:=y) (fun q hq=>(IJ.o.2 q hq).2);have hP:=IJ.o.1;have j3:-291<=c/\c<=291:=Rr;obtain⟨z,V⟩:=aM (fq+y);have k5:z<F:=TA;have k3:IntKind.i64.wrap ((fq:Int)+(y:Int))=(z:Int):=Sq;obtain⟨fa,fn⟩:=bD (aD.l_ e8.o d2 (fun g e h=>by cases e;have:=ev.o _ h;omega)) (a6.o.grown d2 a6.o.size (fun j gc=>by cases gc;exact ao.o.size));obtain⟨H,i8,ac,bi,hF⟩:=kn fa.o (by rw[vK];omega);simp only[dW]at ac;obtain⟨rfl,-,-⟩:=ac;have ga:H<ad.heap.size:=ev.o H rfl;have N:=fa.o.row (by rw[vK];exact IZ.o.symm);obtain⟨v0,bz⟩:=aB (by rw[vK];omega:z < (Bd p fq D L left).length);have bu:ae cI H z (.int .i64 v0):=by rw[N.cellAt z Rr,cC,bz];rfl
         have dT:=N.frozenAt z;have O:=(N.stored z (.int .i64 (c%p))).1;rw[<-fh,V,cn,zed h4,<-cn,<-V]at O;obtain⟨bb,hg⟩:=bD O (fun G=>zcw p c G Rr Rr Rr Rr);obtain⟨am,c0,c3⟩:=aG (ah IL.o.box fn.o);have hT:=e0.o.lt;obtain⟨hj,hh,ha,hb,ho,hf,i2,i3,i0⟩:=zH9 (Rr:b0≠H) (show I.heap.size≠H by have:=IL.o.lz;have:=IL.o.le;omega) bi ga gL gi d7 V cn;clear N bz O hT bi hF ga V cn hH hP gw gA cp h1 d7 gi gL d2 hW f7 ea hZ;go_upto_region 20 with(fail)
         go_region_held3 (fun G=>ae G I.heap.size 0 (.int .i64 (fq:Nat)))
          (first|exact am|exact(bV hh.o).trans am)
          ((go_at_call 127;(with_reducible refine(hg.o _).mono ?_);rintro e w' ⟨rfl,rfl⟩))
         clear am c0 c3 bu dT hJ;go_wp2_with fail
         have ch:=((aj H cI).setCell (p:=⟨H,z,none⟩) (af _) (.int .i64 (c%p))).drew;have hL:cI.grownBy (cI.setCell ⟨H,z,none⟩ (.int .i64 (c%p))).drew (some H):=⟨ch.os,ch.tape,ch.output,ch.size,fun k _ gn=>aZ _ _ _ _ (fun e=>gn (by rw[e]))⟩;have g0:=ho.o.kept hL (fun e=>hj.o (je e)) (fun e=>by have:=je e;have:=hb.o;omega);go_roundw
         case rel=>
          refine⟨_,hB,g0,zH (fun cB h=>gg.o cB (by simp only[bE]at h;exact h.1)),?_,(fn.o.setCell (p:=⟨H,z,none⟩) ha.o _).drew⟩;have h:=bb.o;unfold aD;rw[vK,<-IZ.o];exact h
         case measure=>rw[g0.left_eq,e4.o.left_eq];exact hf.o
      .exact Ze
    .have gd:j=g.es.length:=Rr;rw[gd,zfp]at hS;obtain⟨a2,a9,z2⟩:=aG hS.box;have ct:=ah e3.o E9;obtain⟨k8,la,lb⟩:=aG ct;obtain⟨f0,f1,f2⟩:=bR ct;have y:=fM (v0:=.int .i64 (fq:Nat)) (v1:=.int .i64 (D:Nat)) (v2:=.slice C1 m m1) ct;obtain⟨am,c0,c3⟩:=aG y;have f9:=aU.fr hS.own hS.le;have hX:=hs.o;have hY:=ba.o;have ea:=hm.o;have hQ:w.heap.size+1<Y.heap.size:=by have:=(aT.1 e3.o).1;omega
     have HF:=zH (show Fr ((((wr.setCell ⟨w.heap.size+1,0,none⟩ (.int .i64 (fq:Nat))).setCell ⟨w.heap.size+1,1,none⟩ (.int .i64 (D:Nat))).setCell ⟨w.heap.size+1,2,none⟩ (.slice C1 m m1))) w.heap.size ((((wr.setCell ⟨w.heap.size+1,0,none⟩ (.int .i64 (fq:Nat))).setCell ⟨w.heap.size+1,1,none⟩ (.int .i64 (D:Nat))).setCell ⟨w.heap.size+1,2,none⟩ (.slice C1 m m1))).heap.size (fun G=>bk G C1 (g.lF p)) from
      (f9.same fun k h1 _=>(aZ _ _ _ _ (by show k≠w.heap.size+1;omega)).trans ((aZ _ _ _ _ (by show k≠w.heap.size+1;omega)).trans (aZ _ _ _ _ (by show k≠w.heap.size+1;omega)))).to Rr Rq)
     obtain⟨HE,IQ,IJ⟩:=dO ((((a5.o.trans (E9.mono a5.o.size)).setCell (p:=⟨w.heap.size+1,0,none⟩) (by show w.heap.size<=w.heap.size+1;omega) (.int .i64 (fq:Nat))).setCell (p:=⟨w.heap.size+1,1,none⟩) (by show w.heap.size<=w.heap.size+1;omega) (.int .i64 (D:Nat))).setCell (p:=⟨w.heap.size+1,2,none⟩) (by show w.heap.size<=w.heap.size+1;omega) (.slice C1 m m1)) (by unfold Gr.sys;rw[IM.o,IU.o]:g.sys p=⟨(fq:Nat),(D:Nat),g.lF p⟩) hS.len;clear hS E9 ct y f9 hX hY ea hQ gd;go_wp2;refine aE (v:=.agg (iJ fq D C1 m m1)) (by simp[results,results86,go_sem, *]) rfl ?_;exact WG
end
section
open Go.ChangeShapes Go.WideShapes Go.ChangeAt Go.Deep Go.Joins
theorem Ef:prog.cellsOf 9=1:=RP
theorem BV:prog.cellsOf 4=1:=RP
theorem BW:prog.cellsOf 88=3:=RP
theorem zbb:prog.cellsOf 22=1:=RP
theorem zbc:prog.cellsOf 25=1:=RP
theorem zcY:prog.cellsOf 24=1:=RP
theorem CX:prog.cellsOf 28=6:=RP
section
variable{H:Type}{enc:TypeId×Value->H}{W:aa}
theorem zgP{cs:bU}{y:DataW H×List MemPlace}(U:DataW.trod enc prog W 0 (fun _=>true) true Rn 88 cs=some y):∃x:er,cs=[.int .i64 x.k,.int .i64 x.v,.string x.s]/\x.s.size<=maxLen:=by
 obtain⟨xs,n,_,_,V,Y,G⟩:=yY underlying88 U;obtain⟨v0,v1,v2,rfl⟩:∃v0 v1 v2,cs=[v0,v1,v2]:=by
  match cs,V.trans BW with
  |[v0,v1,v2],_=>exact⟨v0,v1,v2,rfl⟩
 obtain⟨h,D,F,rfl⟩:∃h D F,xs=[h,D,F]:=by
  match xs,Y with
  |[h,D,F],_=>exact⟨h,D,F,rfl⟩
 have O:=G 0 _ rfl;have R:=G 1 _ rfl;have T:=G 2 _ rfl;simp only[lZ,Ef,Value.cells,yZ,DS,qt,mW,cZ,cP]at O R T;obtain⟨k,I,_,_⟩:=qu gE O;obtain⟨a,J,_,_⟩:=qu gE R;obtain⟨s,N,_,Z⟩:=DataW.trod_string underlying9 T;simp[lZ,Ef]at I J N;subst I J N;exact⟨⟨k,a,s⟩,rfl,Z⟩
theorem zes{x:DataW H×List MemPlace}(G:DataW.trod enc prog W 0 (fun _=>true) true Rn 22 [v]=some x):∃(A:aq) (L:List er) (cap:Nat),v=.slice A L.length cap/\bF 3 iR W A L/\L.length<=maxLen/\∀x∈L,x.s.size<=maxLen:=by
 rcases open_slice underlying22 G with⟨Fp,_⟩|⟨a,len,cap,m,n,ad,am,Fp,_,ao,a0,Y,_,hi⟩
 .exact Yj
 .obtain rfl:v=.slice (some a) len cap:=Sz;have ap:len<=m:=by rw[Y];split <;>omega
  have D:∀i,∃x:er,i<len->(∀(j:Nat) (y:ax),[Value.int .i64 x.k,.int .i64 x.v,.string x.s][j]?=some y->W.cell? (a.add (i*3+j))=some y)/\x.s.size<=maxLen:=fun i=>by
   by_cases T:i<len
   .obtain⟨cs,J,ab⟩:=hi i Rr;rw[BW]at J;obtain⟨x,rfl,h1⟩:=zgP ab;obtain⟨_,_,R⟩:=World.cells?_some J;refine⟨x,fun _=>⟨fun j y F=>?_,h1⟩⟩;have U:j<3:=(bG.1 F).1;rw[<-Go.Deep.add_add,R j U,F]
   .exact⟨⟨0,0,ByteArray.mk #[]⟩,fun G=>absurd G T⟩
  obtain⟨X,I⟩:∃X:Nat->er,∀i,i<len->(∀(j:Nat) (y:ax),[Value.int .i64 (X i).k,.int .i64 (X i).v,.string (X i).s][j]?=some y->W.cell? (a.add (i*3+j))=some y)/\(X i).s.size<=maxLen:=
   ⟨fun i=>Classical.choose (D i),fun i=>Classical.choose_spec (D i)⟩
  have V:((List.range len).map X).length=len:=Rq;refine⟨some a,(List.range len).map X,cap,by rw[V],?_,Rr,fun r hr=>?_⟩
  .by_cases O:len=0
   .subst O;exact au rfl
   .obtain⟨b,o,ac⟩:=a;have Z:ac=none:=by obtain⟨h1,_⟩:=I 0 Rr;exact WU
    subst Z;refine an ⟨b,o,rfl,fun k x h=>?_⟩;have N:k<len:=by have:=(bG.1 h).1;omega
    have D:x=X k:=by simpa[N]using h.symm
    subst D;obtain⟨h1,_⟩:=I k N;refine⟨_,fun j y F=>?_,rfl⟩;have:=h1 j y F;rwa[add_plain,<-oO]at this
  .obtain⟨k,h,rfl⟩:=cM.1 hr;exact(I k (fi.1 h)).2
theorem CY{d:DataW H}{p:List MemPlace}(R:Value.okWide prog W .any Rn 24 v)(F:DataW.Trod enc prog W 0 (fun _=>true) true 24 v d p):∃(A:aq) (L:List er) (cap:Nat),v=.agg (aO A L cap)/\bF 3 iR W A L/\L.length<=maxLen/\∀x∈L,x.s.size<=maxLen:=by
 obtain⟨⟨l⟩,rfl,O⟩:=okWide_struct underlying24 R;obtain⟨T,G⟩:=F;obtain⟨v0,rfl⟩:∃v0,l=[v0]:=by
  match l,O.trans zcY with
  |[v0],_=>exact⟨v0,rfl⟩
 obtain⟨xs,n,_,_,_,J,I⟩:=yY underlying24 G;obtain⟨h,rfl⟩:∃h,xs=[h]:=by
  match xs,J with
  |[h],_=>exact⟨h,rfl⟩
 have D:=I 0 _ rfl;simp only[zbb,Value.cells,yZ,qt,mW,cZ]at D;obtain⟨A,L,cap,rfl,N⟩:=zes D;exact⟨A,L,cap,rfl,N⟩
theorem zo{d:DataW H}{p:List MemPlace}(bd:Value.okWide prog W .any Rn 28 v)(a5:DataW.Trod enc prog W 0 (fun _=>true) true 28 v d p):∃(b:Bool) (A:aq) (xs:List ft) (cap:Nat) (ad:Int) (I:aq) (D:aH) (Z:Nat) (J:aq) (F:aH) (ab:Nat) (N:aq) (G:aH) (ac:Nat),v=.agg (oH b A xs.length cap ad I D.length Z J F.length ab N G.length ac)/\(fL W A xs/\xs.length<=maxLen/\∀x∈xs,x.row.length<=maxLen)/\(aJ W I D/\D.length<=maxLen)/\(aJ W J F/\F.length<=maxLen)/\aJ W N G/\G.length<=maxLen:=by
 obtain⟨⟨l⟩,rfl,bc⟩:=okWide_struct underlying28 bd;obtain⟨bi,a6⟩:=a5;obtain⟨v0,v1,v2,v3,v4,v5,rfl⟩:∃v0 v1 v2 v3 v4 v5,l=[v0,v1,v2,v3,v4,v5]:=by
  match l,bc.trans CX with
  |[v0,v1,v2,v3,v4,v5],_=>exact⟨v0,v1,v2,v3,v4,v5,rfl⟩
 obtain⟨xs,n,_,_,_,a7,h⟩:=yY underlying28 a6;obtain⟨O,R,T,U,V,Y,rfl⟩:∃O R T U V Y,xs=[O,R,T,U,V,Y]:=by
  match xs,a7 with
  |[O,R,T,U,V,Y],_=>exact⟨O,R,T,U,V,Y,rfl⟩
 have ap:=h 0 _ rfl;have a0:=h 1 _ rfl;have a1:=h 2 _ rfl;have a2:=h 3 _ rfl;have a3:=h 4 _ rfl;have a4:=h 5 _ rfl;simp only[lZ,Cg,BV,zbc,Value.cells,yZ,DS,qt,mW,cZ,cP]at ap a0 a1 a2 a3 a4;obtain⟨b,am,_⟩:=DataW.trod_bool underlying4 ap;obtain⟨A,bg,cap,rfl,a8⟩:=zeK a0;obtain⟨ad,ao,_,_⟩:=qu gE a1;obtain⟨I,D,Z,rfl,a9⟩:=yK a2;obtain⟨J,F,ab,rfl,ba⟩:=yK a3;obtain⟨N,G,ac,rfl,bb⟩:=yK a4;simp[lZ,BV]at am ao;subst am ao;exact⟨b,A,bg,cap,ad,I,D,Z,J,F,ab,N,G,ac,rfl,a8,a9,ba,bb⟩
end
end
end Go.Proofs.YtpieilkmmiopfaaGreatDoor
