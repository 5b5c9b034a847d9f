/- Parts of the walks and laws (St1, St2). Conditions: as stated with each. -/
import Derived.Test.YtpieilkmmiopfaaGreatDoorPk46
import Derived.Test.YtpieilkmmiopfaaGreatDoorPk48
import Derived.Test.YtpieilkmmiopfaaGreatDoorPk49
namespace Go.Proofs.YtpieilkmmiopfaaGreatDoor
open Go.RowKit Tryz
set_option linter.all false
set_option maxHeartbeats 8000000
set_option maxRecDepth 100000
variable{B H b d i k lo r:Nat}{J Rg w w':aa}{P:iU}{Q:gj}{Q9 Y:aq}{QT QX QZ R Rc Rh Rj Ro T u u0 u1 v0 v1 v2 v3 v4 v5 v6 v7 v8 v9 z2:ax}{QU:Region.Mode}{Rm:ml}{a:Act}{cs:eU}{o:fR}{ops:gP}{t:du}
abbrev sV(w:aa)(b:Nat)(v0 v1 v2 v3 v4 v5 v6 v7 v8 v9:ax):World:=(((((((((w.setCell ⟨b,0,none⟩ v0).setCell ⟨b,1,none⟩ v1).setCell ⟨b,2,none⟩ v2).setCell ⟨b,3,none⟩ v3).setCell ⟨b,4,none⟩ v4).setCell ⟨b,5,none⟩ v5).setCell ⟨b,6,none⟩ v6).setCell ⟨b,7,none⟩ v7).setCell ⟨b,8,none⟩ v8).setCell ⟨b,9,none⟩ v9
theorem q7(V:aW w b #[R,T,z2,Ro,Rj,Rh,Rc,QZ,QX,QT] t):(sV w b v0 v1 v2 v3 v4 v5 v6 v7 v8 v9).heap[b]?=some (.cells #[v0,v1,v2,v3,v4,v5,v6,v7,v8,v9] t (0,0)):=by have h:=bm w b 0 _ _ v0 V;have D:=bm _ b 1 _ _ v1 h;have F:=bm _ b 2 _ _ v2 D;have G:=bm _ b 3 _ _ v3 F;have H:=bm _ b 4 _ _ v4 G;have I:=bm _ b 5 _ _ v5 H;have J:=bm _ b 6 _ _ v6 I;have N:=bm _ b 7 _ _ v7 J;have O:=bm _ b 8 _ _ v8 N;have U:=bm _ b 9 _ _ v9 O;simpa[sV]using U
theorem q_(D:Below B w w')(h:B<=b)(v0 v1 v2 v3 v4 v5 v6 v7 v8 v9:ax):Below B w (sV w' b v0 v1 v2 v3 v4 v5 v6 v7 v8 v9):=((((((((((D.setCell h _).setCell h _).setCell h _).setCell h _).setCell h _).setCell h _).setCell h _).setCell h _).setCell h _).setCell h _)
theorem zw(h:k≠b):(sV w b v0 v1 v2 v3 v4 v5 v6 v7 v8 v9).heap[k]?=w.heap[k]?:=(aZ _ _ _ _ h).trans ((aZ _ _ _ _ h).trans ((aZ _ _ _ _ h).trans ((aZ _ _ _ _ h).trans ((aZ _ _ _ _ h).trans ((aZ _ _ _ _ h).trans ((aZ _ _ _ _ h).trans ((aZ _ _ _ _ h).trans ((aZ _ _ _ _ h).trans (aZ _ _ _ _ h)))))))))
theorem nt{p:dk}(h:p.block≠b)(D:w.cell? p=some u):(sV w b v0 v1 v2 v3 v4 v5 v6 v7 v8 v9).cell? p=some u:=by rw[<-D];exact v_ (w:=w) (zw h)
theorem pe(h:aW w b #[R,T,z2,Ro,Rj,Rh,Rc,QZ,QX,QT] t):(ae w b 0 R/\ae w b 1 T/\ae w b 2 z2/\ae w b 3 Ro/\ae w b 4 Rj/\ae w b 5 Rh/\ae w b 6 Rc/\ae w b 7 QZ/\ae w b 8 QX/\ae w b 9 QT)/\w.frozen? ⟨b,0,none⟩=false/\w.frozen? ⟨b,1,none⟩=false/\w.frozen? ⟨b,2,none⟩=false/\w.frozen? ⟨b,3,none⟩=false/\w.frozen? ⟨b,4,none⟩=false/\w.frozen? ⟨b,5,none⟩=false/\w.frozen? ⟨b,6,none⟩=false/\w.frozen? ⟨b,7,none⟩=false/\w.frozen? ⟨b,8,none⟩=false/\w.frozen? ⟨b,9,none⟩=false:=⟨⟨aI h 0 rfl,aI h 1 rfl,aI h 2 rfl,aI h 3 rfl,aI h 4 rfl,aI h 5 rfl,aI h 6 rfl,aI h 7 rfl,aI h 8 rfl,aI h 9 rfl⟩,aK h 0,aK h 1,aK h 2,aK h 3,aK h 4,aK h 5,aK h 6,aK h 7,aK h 8,aK h 9⟩
def zeA(p:Int)(L:List er)(w:aa)(e:Ending)(w':aa):Prop:=∃(J ne N no:Nat) (A1 D F:aq) (c1 c2 I:Nat) (S:Sy) (h:aq) (d l r:Nat) (G:aq) (m O:Nat),
 e=.returned (.tuple (jy (mP J A1 ne c1 D N c2 F no I S h d l r G m O) (nV p L)))/\
 (nV p L=true->∃t,jY (b_ L)=some t/\l=t.gr.i.length/\r=t.gr.o.length/\S=t.gr.sys p)/\Fr w' w.heap.size w'.heap.size (fun H=>bk H h S.rows)/\ag w w'
theorem zeB.one{t:Tm}{e:Ending}(F:zeB t w e w'):∃(H:Gr) (A1 h D:aq) (c1 c2 I:Nat),e=.returned (.tuple #[.agg (bl H A1 c1 h c2 D I),.bool t.np])/\(t.np=true->H=t.gr/\j6 w' A1 h D H)/\ag w w':=by
 rcases F with⟨G,rfl,J⟩|⟨G,A1,c1,h,c2,D,I,rfl,N,J⟩
 .exact⟨⟨0,[],[],[]⟩,none,none,none,0,0,0,by rw[G];rfl,fun F=>(by rw[G]at F;cases F),J⟩
 .exact⟨t.gr,A1,h,D,c1,c2,I,by rw[G],fun _=>⟨rfl,N⟩,J⟩
def StB(w:aa)(b:Nat)(v0 v1 v2 v3 u0 u1:ax)(l r:Nat)(rows:aN)(h:aa):Prop:=∃(D:aq) (d:Nat) (F:aq) (m H:Nat),aW h b #[v0,v1,v2,v3,u0,u1,.slice D rows.length d,.int .i64 (l:Nat),.int .i64 (r:Nat),.slice F m H] 69/\Fr h w.heap.size h.heap.size (fun G=>bk G D rows)/\ag w h
theorem zhV{l m:Nat}{rows:aN}(U:aW Rg b #[R,T,z2,Ro,Rj,Rh,Rc,QZ,QX,QT] 69)(N:Fr J lo J.heap.size (fun h=>bk h Y rows))(D:ag J Rg)(ab:b<lo)(O:w.heap.size<=b)(I:ag w Rg):StB w b v0 v1 v2 v3 u0 u1 l r rows (sV Rg b v0 v1 v2 v3 u0 u1 (.slice Y rows.length d) (.int .i64 (l:Nat)) (.int .i64 (r:Nat)) (.slice Q9 m H)):=by
 have ac:(sV Rg b v0 v1 v2 v3 u0 u1 (.slice Y rows.length d) (.int .i64 (l:Nat)) (.int .i64 (r:Nat)) (.slice Q9 m H)).heap.size=Rg.heap.size:=by simp[sV]
 have Z:=D.size;exact⟨Y,d,Q9,m,H,q7 U,fun h G=>N h fun k V F=>(G k Rr Rr).trans ((zw Rr).trans (D.block k F)),q_ I O ..⟩
theorem B4(p:Int)(L:List er)(A:aq)(cap:Nat)(w:aa)(cj:eB w)(bp:bF 3 iR w A L)(co:L.length<=1048576):aw 53 (ig p (aO A L cap)) w (zeA p L w):=by
 have a8:=((aj w.heap.size w).alloc (af _) (.cells (aO A L cap) 35)).alloc Rq (.cells vN 69);have I:=(bJ (w.alloc (.cells (aO A L cap) 35)) (.cells vN 69) (k:=w.heap.size) Rq).trans (aC w _ rfl);have J:=aC (w.alloc (.cells (aO A L cap) 35)) (.cells vN 69) (n:=w.heap.size+1) Rq;obtain⟨a4,bd⟩:=bD (fun D (H:ag w D)=>BN p L A cap D (cj.ext H) (bw bp H) co) (fun D (H:ag w D)=>bw bp H);obtain⟨l,bz⟩:=aM L.length;have cc:=zH bz;rw[<-bz]at a8 I J a4 ⊢;clear bp bz co cj;go_enter func53,ntmps53
 go_upto_region 1 with(fail)
 generalize ((w.alloc _).alloc _)=W at a8 I J ⊢;have a2:=aI I 0 rfl;obtain⟨ab,cI,b5,em⟩:=fU a8 I J (show w.heap.size+1<W.heap.size from(aT.1 J).1);clear a8 I J;cases Y:yk p L
 .obtain⟨HT,dr⟩:=bD (by unfold nV;rw[Y];rfl:nV p L=false) (Calls.be (a4.o W ab.o) Y);clear Y;go_upto_region 2 with(go_at_call 84;(with_reducible refine dr.o.mono ?_);rintro e ei ⟨rfl,F⟩;have HZ:=zH (ah b5.o F);have EO:=zH (ab.o.trans (F.mono ab.o.size));clear F)
  exact ZP
 have dT:=zH (fun D (H:ag w D)=>Calls.be (a4.o D H) Y);have b2:=Y;unfold yk vI at b2;simp only[bE]at b2;obtain⟨⟨bv,cz,cp⟩,ct⟩:=b2;obtain⟨t,c,ba,b1,bu,ea,b0⟩:=sf cz;obtain⟨d6,ch,dl,b8⟩:=fU ba (by unfold nV;rw[Y,zE ba];rfl:nV p L=t.np) (fun D (H:ag w D)=>(by have:=EB L t c A cap D (bd.o D H) b0 b1 bu;rw[<-cc.o]at this;exact this:aw 85 (cy (cg A l cap)) D (zeB t D))) (fun D (H:ag w D)=>(by have:=zbR p L t c A cap D bv (bd.o D H) b0 b1 bu ct cp;rw[<-cc.o]at this;exact this:aw 87 (ig p (cg A l cap)) D (kB (t.rel p) D)));have dq:=zH (fun(eg:nV p L=true)=>by
  obtain⟨eo,cu,g⟩:=yI eg;rw[ba]at cu;cases cu
  exact g)
 have ca:=zH (di bv);clear Y bv cz cp ct ba b1 bu ea b0 a4 bd;go_upto_region 4 with(first|(go_at_call 84;(with_reducible refine(dT.o W ab.o).mono ?_);rintro e ei ⟨rfl,F⟩;have ej:=al F a2;have cO:=zH (ah cI.o F);have c4:=zH (ah b5.o F);have EO:=zH (ab.o.trans (F.mono ab.o.size));clear F)|(go_at_call 85;(with_reducible refine(dl.o _ EO.o).mono ?_);intro e Z h;obtain⟨G,N,O,R,T,U,V,d9,cn,F⟩:=zeB.one h;subst d9;have c0:=zH (ah cO.o F);have b6:=zH (ah c4.o F);have b7:=zH (EO.o.trans (F.mono EO.o.size));have cb:=zH cn;clear F cn h))
 clear a2 ej;obtain⟨am,b3⟩:=bA Z (.cells (bl G N T O U R V) 54);generalize Z.alloc _=ap at am b3 ⊢;obtain⟨c3,bc,a0,c6,d1⟩:=mD (ah c0.o am) (ah b6.o am) (b7.o.trans (am.mono b7.o.size)) am b3;clear am b3;cases a1:t.np
 .obtain⟨HT,HZ,EO⟩:=dO (ch.o.trans a1) bc.o a0.o;clear a1;exact ZP
 have HT:=zH (ch.o.trans a1);obtain⟨a9,ci⟩:=cb.o a1;obtain⟨a3,db⟩:=bD (dq.o HT.o) (ci.ext c6.o);obtain⟨S,br⟩:=aM (G.sys p);obtain⟨d5,dc,d3,b9⟩:=fU (fun D (H:ag ap D)=>(by have:=uu p G N O R T U V D ca.o.1 ca.o.2 (db.o.ext H) (by rw[a9];exact a3.o.ok) (by rw[a9];exact a3.o.val);rw[<-br]at this;exact this:aw 86 (ig p (bl G N T O U R V)) D (zd0 S D))) a9 br (fun D (H:ag ap D)=>b8.o D (a0.o.trans (H.mono a0.o.size)));obtain⟨ac,bq⟩:=aM (t.rel p);rw[<-bq]at b9;have ce:=zH bq;clear a1 a9 ci br bq b8 cb;have a2:=aI c3.o 0 rfl;obtain⟨I,J,cA,cB⟩:=aA d1.o;have bi:=aF a2 (aF I (aF J (aF cA cB)));obtain⟨d4,d7⟩:=bD (show w.heap.size+1<ap.heap.size from(aT.1 bc.o).1) (Rr:w.heap.size<=w.heap.size+1);go_upto_region 6 with(fail)
 obtain⟨d0,a5⟩:=bD (Rr:w.heap.size≠w.heap.size+1) (show Z.heap.size≠w.heap.size+1 by have:=(aT.1 b6.o).1;omega);clear a2 I J cA cB;go_cut [5] from 8 (fun ek D=>ek=.bool true/\StB w (w.heap.size+1) (.int .i64 (G.w:Nat)) (.slice N G.es.length T) (.slice O G.i.length U) (.slice R G.o.length V) (.int .i64 S.v) (.int .i64 S.h) ac.l ac.r S.rows D)
 case first=>
  go_region_held3 (fun D=>ae D w.heap.size 0 (.slice A l cap)/\ae D Z.heap.size 0 (.int .i64 (G.w:Nat))/\ae D Z.heap.size 1 (.slice N G.es.length T)/\ae D Z.heap.size 2 (.slice O G.i.length U)/\ae D Z.heap.size 3 (.slice R G.o.length V))
   ((first|((with_reducible refine iS (w:=ap) ?_ bi);first|with_reducible exact az _|with_reducible exact a6.o|with_reducible exact a7.o)|with_reducible exact⟨nt d0.o ad.1,nt a5.o ad.2.1,nt a5.o ad.2.2.1,nt a5.o ad.2.2.2.1,nt a5.o ad.2.2.2.2⟩))
   ((first
    |(go_at_call 87;(with_reducible refine(b9.o _ a6.o).mono ?_);intro e es h;unfold kB at h;obtain⟨bg,b4,bo,eb,F⟩:=h;subst bo;have c5:=zH F;have a7:=zH (a6.o.trans (F.mono a6.o.size));have ad:=iS a7.o bi;have ao:=ah bc.o a7.o;have d8:=zH ao;obtain⟨⟨r0,r1,r2,r3,r4,r5,r6,r7,r8,r9⟩,f0,f1,f2,f3,f4,f5,f6,f7,f8,f9⟩:=pe ao;have c8:=zH (a0.o.trans (a7.o.mono a0.o.size));clear ao F eb)
    |(go_at_call 86;(with_reducible refine(d5.o _ (az _)).mono ?_);intro e cF h;unfold zd0 at h;obtain⟨bb,d,bo,ck,F⟩:=h;subst bo;have a6:=zH ((az ap).trans F);have c9:=zH (show Fr cF ap.heap.size cF.heap.size _ from ck);clear ck F)))
  all_goals clear ad
  all_goals go_wp2_with fail
  all_goals
   go_meet
   with_reducible exact⟨rfl,zhV d8.o c9.o c5.o d4.o d7.o c8.o⟩
 case rest=>
  obtain⟨rfl,cq⟩:=hcut;unfold StB at cq;obtain⟨bb,d,bg,m,b4,ao,cr,F⟩:=cq;obtain⟨⟨u0,u1,u2,u3,u4,u5,u6,u7,u8,u9⟩,-⟩:=pe ao;obtain⟨d2,c7⟩:=bD cr F;clear ao cr F bi;go_wp2;refine aE (v:=.tuple #[.agg #[(G.w:Nat),.slice N G.es.length T,.slice O G.i.length U,.slice R G.o.length V,S.v,S.h,.slice bb S.rows.length d,(ac.l:Nat),(ac.r:Nat),.slice bg m b4],.bool true]) (by simp[results,results53,go_sem, *]) rfl ?_;refine⟨G.w,_,_,_,N,O,R,T,U,V,S,bb,d,ac.l,ac.r,bg,m,b4,by rw[HT.o],fun _=>⟨t,d6.o,by rw[ce.o];exact a3.o.types.1,by rw[ce.o];exact a3.o.types.2,by rw[d3.o,dc.o]⟩,d2.o,c7.o⟩
def zha(p:Int)(h D:List er)(w:aa)(e:Ending)(w':aa):Prop:=∃(ab ac a2 a3 a4 d1 d2 d3 ad am ao f1 f2 f3 ap a0 a5 a6 a1 a7 Y Z U V:Nat) (G1 H I J N O R T G E:aq) (S F:Sy),
 e=.returned (.tuple (jy (mO p ab G1 a2 d1 H a3 d2 I a4 d3 S G U ap a5 R a1 Y ac J ad f1 N am f2 O ao f3 F E V a0 a6 T a7 Z) (qD p h D)))/\ag w w'/\(qD p h D=true->S=jm p h/\F=jm p D/\bk w' G S.rows/\bk w' E F.rows)
theorem Bt{h:Operand->Value}(ty:du)(x:jk)(G:o.op=.load ty x)(g:Nat)(I:h x=.pointer (some ⟨g,0,none⟩))(t:du)(cs:eU)(fr:fQ)(d:TypeDesc)(F:w.heap[g]?=some (.cells cs t fr))(H:P.underlying ty=some d)(D:(match d with|.struct _|.array _ _=>true|_=>false)=true)(hi:(P.info? ty).map (·.size)=some cs.size):(execOp h o).run P w=.ok (.value (.agg cs)) w:=by unfold execOp;simp only[G,I,Instr.loadAt,Instr.sureAddr,wI,wJ,wK,run_loadVar_row w g t ty cs fr d F H D hi]
theorem results_cell_tmp{D:Func}{p q:Tmp}{ty:du}(F:D.results=#[.cell p ty,.tmp q])(h:eU)(w:aa)(g:Nat)(t:du)(cs:eU)(fr:fQ)(d:TypeDesc)(v:ax)(I:h.getD p undef=.pointer (some ⟨g,0,none⟩))(N:h.getD q undef=v)(H:w.heap[g]?=some (.cells cs t fr))(R:P.underlying ty=some d)(G:(match d with|.struct _|.array _ _=>true|_=>false)=true)(hi:(P.info? ty).map (·.size)=some cs.size):(results D h).run P w=.ok (.tuple #[.agg cs,v]) w:=by
 have J:h[p]?.getD undef=.pointer (some ⟨g,0,none⟩):=by simpa using I
 have O:h[q]?.getD undef=v:=by simpa using N
 simp[results,F,J,O,asAddr,run_loadVar_row w g t ty cs fr d H R G hi]
theorem below_setRow{g:Nat}(h:Below B w J)(F:B<=g):Below B w (J.setRow g cs):=⟨h.os,h.tape,h.output,by have:=h.size;simpa[World.setRow]using this,fun k D=>(nf _ _ _ _ Rr).trans (h.block k D)⟩
theorem zap{S:iT}(hr:Region.ready QU ops Rm=[i])(ho:ops.toList[i]?=some o)(G:∀h:mE,Shut (∀a w,S w->(S w->wpAnyH P QU ops Q S H (Rm.setIfInBounds i true) a w)->h a w)->if Region.wanted o (yielded ops a.tmps)=true then Oper.wp P o a w h Q else h (a.put o.dst undef) w):wpAnyH P QU ops Q S (H+1) Rm a w:=by refine⟨fun h0=>TW,fun j D=>?_⟩;rw[hr]at D;simp only[dQ,gu,gI]at D;subst D;exact wpOp_step Tf (fun h hK=>G h (fun a w F I=>hK a w ⟨F,I F⟩))
theorem zgE{S:iT}(D:Region.ready QU ops Rm=[])(h:Q .normal a w):∀F,wpAnyH P QU ops Q S F Rm a w
 |0=>⟨D,h⟩
 |_+1=>⟨fun _=>h,by rw[D];simp⟩
theorem zct(p:Int)(I T:List er)(A B:aq)(b9 ca:Nat)(w:aa)(cq:eB w)(db:bF 3 iR w A I)(bz:bF 3 iR w B T)(dq:I.length<=1048576)(dr:T.length<=1048576):aw 29 (iK p (aO A I b9) (aO B T ca)) w (zha p I T w):=by
 obtain⟨c6,c7⟩:=bD (fun bo (b3:ag w bo)=>B4 p I A b9 bo (cq.ext b3) (bw db b3) dq) (fun bo (b3:ag w bo)=>B4 p T B ca bo (cq.ext b3) (bw bz b3) dr);obtain⟨dT,dc⟩:=aM I.length;obtain⟨d0,dl⟩:=aM T.length;rw[<-dc]at c6 ⊢;rw[<-dl]at c7 ⊢;clear db bz dq dr dc dl cq;have bz:=below_alloc3 w (.cells (cg A dT b9) 35) (.cells (cg B d0 ca) 35) (.cells sq 71);obtain⟨cA,cB,cb⟩:=cm w (.cells (cg A dT b9) 35) (.cells (cg B d0 ca) 35) (.cells sq 71);go_enter func29,ntmps29
 go_upto_region 1 with(fail)
 generalize (((w.alloc _).alloc _).alloc _)=W at bz cA cB cb ⊢;have fs:=aI cA 0 rfl;obtain⟨cc,d6,b6,c5⟩:=fU bz cB cb (show w.heap.size+1+1<W.heap.size from(aT.1 cb).1);clear bz cA cB cb;go_upto_region 2 with(go_at_call 53;(with_reducible refine(c6.o W cc.o).mono ?_);intro e b0 bd;unfold zeA at bd;obtain⟨a3,a9,ba,bb,G1,Y,Z,d1,d2,d3,S,V,ap,J,O,am,a8,a1,co,b5,b4,bi⟩:=bd;subst co;have ci:=zH b5;have ei:=zH b4;have ce:=zH bi;clear bi b4 b5)
 clear fs;obtain⟨bg,cr⟩:=bA b0 (.cells (mP a3 G1 a9 d1 Y ba d2 Z bb d3 S V ap J O am a8 a1) 69);generalize b0.alloc _=c9 at bg cr ⊢;have br:=zH (ce.o.trans (bg.mono ce.o.size));obtain⟨ck,ej,d7,cO⟩:=fU (cc.o.trans (br.o.mono cc.o.size)) (ei.o.ext bg (af _)) bg cr;have fx:=aI (ah d6.o br.o) 0 rfl;clear bg cr;go_upto_region 3 with(go_at_call 53;(with_reducible refine(c7.o c9 ck.o).mono ?_);intro e b1 bd;unfold zeA at bd;obtain⟨a4,a5,a6,a7,ab,ac,ad,f1,f2,f3,H,E,a0,N,R,ao,bc,a2,co,b5,b4,bi⟩:=bd;subst co;have cj:=zH b5;have ek:=zH b4;have ch:=zH bi;clear bi b4 b5)
 clear fx;obtain⟨bg,ct⟩:=bA b1 (.cells (mP a4 ab a5 f1 ac a6 f2 ad a7 f3 H E a0 N R ao bc a2) 69);generalize b1.alloc _=bp at bg ct ⊢;obtain⟨b7,cF,c4⟩:=dO (ch.o.trans (bg.mono ch.o.size)) bg ct;clear bg ct;go_upto_region 3 with(fail)
 refine wp_region_lit ?_;refine lj rfl (fun K hK=>?_);go_simp;refine hK _ _ ?_;clear hK K;refine wpList_load_row rfl 69 _ rfl b0.heap.size rfl 69 (mP a3 G1 a9 d1 Y ba d2 Z bb d3 S V ap J O am a8 a1) (0,0) _ (ah cO.o b7.o) underlying69 rfl RP ?_;refine wpList_load_row rfl 69 _ rfl b1.heap.size rfl 69 (mP a4 ab a5 f1 ac a6 f2 ad a7 f3 H E a0 N R ao bc a2) (0,0) _ c4.o underlying69 rfl RP ?_;refine wpList_buildTo rfl 71 _ rfl _ rfl #[.int .i64 p,.int .i64 (a3:Nat),.slice G1 a9 d1,.slice Y ba d2,.slice Z bb d3,.int .i64 S.v,.int .i64 S.h,.slice V S.rows.length ap,.int .i64 (J:Nat),.int .i64 (O:Nat),.slice am a8 a1,.int .i64 (a4:Nat),.slice ab a5 f1,.slice ac a6 f2,.slice ad a7 f3,.int .i64 H.v,.int .i64 H.h,.slice E H.rows.length a0,.int .i64 (N:Nat),.int .i64 (R:Nat),.slice ao bc a2] RP ?_;refine lj rfl (fun K hK=>?_);go_simp;refine hK _ _ ?_;clear hK K;refine wpList_store_rowTo rfl 71 _ _ rfl rfl bp.heap.size #[.int .i64 p,.int .i64 (a3:Nat),.slice G1 a9 d1,.slice Y ba d2,.slice Z bb d3,.int .i64 S.v,.int .i64 S.h,.slice V S.rows.length ap,.int .i64 (J:Nat),.int .i64 (O:Nat),.slice am a8 a1,.int .i64 (a4:Nat),.slice ab a5 f1,.slice ac a6 f2,.slice ad a7 f3,.int .i64 H.v,.int .i64 H.h,.slice E H.rows.length a0,.int .i64 (N:Nat),.int .i64 (R:Nat),.slice ao bc a2] rfl rfl 71 sq (aC bp _ rfl) RP rfl RP ?_;have bg:=below_setRow (g:=bp.heap.size) (cs:=#[.int .i64 p,.int .i64 (a3:Nat),.slice G1 a9 d1,.slice Y ba d2,.slice Z bb d3,.int .i64 S.v,.int .i64 S.h,.slice V S.rows.length ap,.int .i64 (J:Nat),.int .i64 (O:Nat),.slice am a8 a1,.int .i64 (a4:Nat),.slice ab a5 f1,.slice ac a6 f2,.slice ad a7 f3,.int .i64 H.v,.int .i64 H.h,.slice E H.rows.length a0,.int .i64 (N:Nat),.int .i64 (R:Nat),.slice ao bc a2]) (ak bp (.cells sq 71)) (af _);have cu:=setRow_heap (bp.alloc (.cells sq 71)) bp.heap.size _ #[.int .i64 p,.int .i64 (a3:Nat),.slice G1 a9 d1,.slice Y ba d2,.slice Z bb d3,.int .i64 S.v,.int .i64 S.h,.slice V S.rows.length ap,.int .i64 (J:Nat),.int .i64 (O:Nat),.slice am a8 a1,.int .i64 (a4:Nat),.slice ab a5 f1,.slice ac a6 f2,.slice ad a7 f3,.int .i64 H.v,.int .i64 H.h,.slice E H.rows.length a0,.int .i64 (N:Nat),.int .i64 (R:Nat),.slice ao bc a2] _ _ (aC bp _ rfl);generalize (bp.alloc _).setRow bp.heap.size _=bv at bg cu ⊢;go_upto_region 4 with(fail)
 have b8:=zH (b7.o.trans (bg.mono b7.o.size));obtain⟨e6,em,eo,d8⟩:=fU (ck.o.trans (b8.o.mono ck.o.size)) ((ej.o.ext b8.o (by have:=d7.o.size;omega)).mono (af _) (af _)) (ek.o.ext (cF.o.trans (bg.mono cF.o.size)) (af _)) (ah (ah b6.o br.o) b8.o);have c0:=ah cO.o b8.o;have c3:=ah c4.o bg;obtain⟨es,ev,ey⟩:=dO (show b0.heap.size≠w.heap.size+1+1 by have:=(aT.1 (ah b6.o ce.o)).1;omega) (show b1.heap.size≠w.heap.size+1+1 by have:=(aT.1 (ah b6.o (br.o.trans (ch.o.mono br.o.size)))).1;omega) (show bp.heap.size≠w.heap.size+1+1 by have:=(aT.1 (ah b6.o (br.o.trans (b7.o.mono br.o.size)))).1;omega);have e5:=zH (show qD p I T=(nV p I&&(nV p T&&(decide (J=N)&&decide (O=R)))) from by
  unfold qD;cases bu:nV p I
  .rfl
  cases bi:nV p T
  .rfl
  obtain⟨t,bq,fa,fb,-⟩:=ci.o bu;obtain⟨f6,fo,fd,fl,-⟩:=cj.o bi;unfold tyB;rw[bq,fo,fa,fb,fd,fl])
 obtain⟨e2,e3,d9,ea,eb⟩:=mD (fun(bd:qD p I T=true)=>(show S=jm p I from by unfold qD at bd;simp only[bE]at bd;obtain⟨t,bq,-,-,g⟩:=ci.o bd.1;rw[g,uB bq])) (fun(bd:qD p I T=true)=>(show H=jm p T from by unfold qD at bd;simp only[bE]at bd;obtain⟨t,bq,-,-,g⟩:=cj.o bd.2.1;rw[g,uB bq])) (show w.heap.size+1+1<W.heap.size from c5.o) (show w.heap.size+1+1<c9.heap.size from dI c5.o br.o.size) (Rr:w.heap.size<=w.heap.size+1+1);have c8:=aF cu (aF c0 c3);obtain⟨cI,e7⟩:=bD (show bv.drew.heap[w.heap.size+1+1]?=_ from d8.o) e6.o.drew;clear bg cu ci cj c0 c3;obtain⟨x,fz,f0,d4⟩:∃x:Bool,decide ((J:Int)=(N:Int))=x/\((J:Int)==(N:Int))=x/\decide (J=N)=x:=⟨decide (J=N),wM.2 Rr,(by rw[jz,mU,bX];omega),rfl⟩;obtain⟨y,f4,f5,d5⟩:∃x:Bool,decide ((O:Int)=(R:Int))=x/\((O:Int)==(R:Int))=x/\decide (O=R)=x:=⟨decide (O=R),wM.2 Rr,(by rw[jz,mU,bX];omega),rfl⟩;have fn:(nV p I=false/\qD p I T=false)∨(nV p I=true/\nV p T=false/\qD p I T=false)∨(nV p I=true/\nV p T=true/\x=false/\qD p I T=false)∨(nV p I=true/\nV p T=true/\x=true/\y=false/\qD p I T=false)∨(nV p I=true/\nV p T=true/\x=true/\y=true/\qD p I T=true):=by rw[e5.o,d4,d5];cases nV p I <;>cases nV p T <;>cases x <;>cases y <;>simp
 rcases fn with⟨bu,bq⟩|⟨bu,bi,bq⟩|⟨bu,bi,rfl,bq⟩|⟨bu,bi,rfl,rfl,bq⟩|⟨bu,bi,rfl,rfl,bq⟩
 all_goals
  have e4:=zH bq
  (try rw[bu]);(try rw[bi])
  clear bq;have b2:(fun bo:World=>aW bo bp.heap.size (mO p a3 G1 a9 d1 Y ba d2 Z bb d3 S V ap J O am a8 a1 a4 ab a5 f1 ac a6 f2 ad a7 f3 H E a0 N R ao bc a2) 71/\aW bo b0.heap.size (mP a3 G1 a9 d1 Y ba d2 Z bb d3 S V ap J O am a8 a1) 69/\aW bo b1.heap.size (mP a4 ab a5 f1 ac a6 f2 ad a7 f3 H E a0 N R ao bc a2) 69) bv.drew:=c8;refine ze (S:=fun bo=>aW bo bp.heap.size (mO p a3 G1 a9 d1 Y ba d2 Z bb d3 S V ap J O am a8 a1 a4 ab a5 f1 ac a6 f2 ad a7 f3 H E a0 N R ao bc a2) 71/\aW bo b0.heap.size (mP a3 G1 a9 d1 Y ba d2 Z bb d3 S V ap J O am a8 a1) 69/\aW bo b1.heap.size (mP a4 ab a5 f1 ac a6 f2 ad a7 f3 H E a0 N R ao bc a2) 69) RP b2 (fun hHeld=>?_);first
   |(refine dB 0 (v:=undef) rfl (an ⟨Rp,rfl⟩) ?_)
   |(refine dB 0 rfl (au ⟨Rp,fun U G=>Bt 71 _ rfl bp.heap.size rfl 71 (mO p a3 G1 a9 d1 Y ba d2 Z bb d3 S V ap J O am a8 a1 a4 ab a5 f1 ac a6 f2 ad a7 f3 H E a0 N R ao bc a2) (0,0) _ G.1 ng rfl RP⟩) ?_)
  simp only[Act.put,zA];first
   |(refine dB 1 (v:=undef) rfl (an ⟨Rp,rfl⟩) ?_)
   |(refine dB 1 (v:=?_) rfl (au ⟨Rp,?_⟩) ?_;rotate_left;(focus (intro U G;obtain⟨D,h,F⟩:=G;(try dsimp only at D h F);go_simp;(try with_reducible rfl))))
  simp only[Act.put,zA];first
   |(refine dB 2 (v:=undef) rfl (an ⟨Rp,rfl⟩) ?_)
   |(refine dB 2 (v:=?_) rfl (au ⟨Rp,?_⟩) ?_;rotate_left;(focus (intro U G;obtain⟨D,h,F⟩:=G;(try dsimp only at D h F);go_simp;(try with_reducible rfl))))
  simp only[Act.put,zA];first
   |(refine dB 3 (v:=undef) rfl (an ⟨Rp,rfl⟩) ?_)
   |(refine dB 3 (v:=?_) rfl (au ⟨Rp,?_⟩) ?_;rotate_left;(focus (intro U G;obtain⟨D,h,F⟩:=G;(try dsimp only at D h F);go_simp;(try with_reducible rfl))))
  simp only[Act.put,zA];first
   |(refine dB 4 (v:=undef) rfl (an ⟨Rp,rfl⟩) ?_)
   |(refine dB 4 (v:=?_) rfl (au ⟨Rp,?_⟩) ?_;rotate_left;(focus (intro U G;obtain⟨D,h,F⟩:=G;(try dsimp only at D h F);go_simp;(try with_reducible rfl))))
  simp only[Act.put,zA];first
   |(refine dB 5 (v:=undef) rfl (an ⟨Rp,rfl⟩) ?_)
   |(refine dB 5 (v:=?_) rfl (au ⟨Rp,?_⟩) ?_;rotate_left;(focus (intro U G;obtain⟨D,h,F⟩:=G;(try dsimp only at D h F);go_simp;(try with_reducible rfl))))
  simp only[Act.put,zA];first
   |(refine dB 6 (v:=undef) rfl (an ⟨Rp,rfl⟩) ?_)
   |(refine dB 6 (v:=?_) rfl (au ⟨Rp,?_⟩) ?_;rotate_left;(focus (intro U G;obtain⟨D,h,F⟩:=G;(try dsimp only at D h F);go_simp;(try with_reducible rfl))))
  simp only[Act.put,zA];first
   |(refine dB 7 (v:=undef) rfl (an ⟨Rp,rfl⟩) ?_)
   |(refine dB 7 (v:=?_) rfl (au ⟨Rp,?_⟩) ?_;rotate_left;(focus (intro U G;obtain⟨D,h,F⟩:=G;(try dsimp only at D h F);go_simp;(try with_reducible rfl))))
  simp only[Act.put,zA];first
   |(refine dB 8 (v:=undef) rfl (an ⟨Rp,rfl⟩) ?_)
   |(refine dB 8 (v:=?_) rfl (au ⟨Rp,?_⟩) ?_;rotate_left;(focus (intro U G;obtain⟨D,h,F⟩:=G;(try dsimp only at D h F);have cp:=aI h 7 rfl;go_simp;(try with_reducible rfl))))
  simp only[Act.put,zA];first
   |(refine dB 9 (v:=undef) rfl (an ⟨Rp,rfl⟩) ?_)
   |(refine dB 9 (v:=?_) rfl (au ⟨Rp,?_⟩) ?_;rotate_left;(focus (intro U G;obtain⟨D,h,F⟩:=G;(try dsimp only at D h F);go_simp;(try with_reducible rfl))))
  simp only[Act.put,zA];first
   |(refine dB 10 (v:=undef) rfl (an ⟨Rp,rfl⟩) ?_)
   |(refine dB 10 (v:=?_) rfl (au ⟨Rp,?_⟩) ?_;rotate_left;(focus (intro U G;obtain⟨D,h,F⟩:=G;(try dsimp only at D h F);go_simp;(try with_reducible rfl))))
  simp only[Act.put,zA];first
   |(refine dB 11 (v:=undef) rfl (an ⟨Rp,rfl⟩) ?_)
   |(refine dB 11 (v:=?_) rfl (au ⟨Rp,?_⟩) ?_;rotate_left;(focus (intro U G;obtain⟨D,h,F⟩:=G;(try dsimp only at D h F);have cp:=aI F 7 rfl;go_simp;(try with_reducible rfl))))
  simp only[Act.put,zA];first
   |(refine dB 12 (v:=undef) rfl (an ⟨Rp,rfl⟩) ?_)
   |(refine dB 12 (v:=?_) rfl (au ⟨Rp,?_⟩) ?_;rotate_left;(focus (intro U G;obtain⟨D,h,F⟩:=G;(try dsimp only at D h F);clear D h F;go_simp;(try with_reducible rfl))))
  simp only[Act.put,zA];first
   |(refine dB 13 (v:=undef) rfl (an ⟨Rp,rfl⟩) ?_)
   |(refine dB 13 (v:=?_) rfl (au ⟨Rp,?_⟩) ?_;rotate_left;(focus (intro U G;obtain⟨D,h,F⟩:=G;(try dsimp only at D h F);go_simp;(try with_reducible rfl))))
  simp only[Act.put,zA];first
   |(refine dB 14 (v:=undef) rfl (an ⟨Rp,rfl⟩) ?_)
   |(refine dB 14 (v:=?_) rfl (au ⟨Rp,?_⟩) ?_;rotate_left;(focus (intro U G;obtain⟨D,h,F⟩:=G;(try dsimp only at D h F);go_simp;(try with_reducible rfl))))
  simp only[Act.put,zA];first
   |(refine dB 15 (v:=undef) rfl (an ⟨Rp,rfl⟩) ?_)
   |(refine dB 15 (v:=?_) rfl (au ⟨Rp,?_⟩) ?_;rotate_left;(focus (intro U G;obtain⟨D,h,F⟩:=G;(try dsimp only at D h F);go_simp;(try with_reducible rfl))))
  simp only[Act.put,zA];first
   |(refine dB 16 (v:=undef) rfl (an ⟨Rp,rfl⟩) ?_)
   |(refine dB 16 (v:=?_) rfl (au ⟨Rp,?_⟩) ?_;rotate_left;(focus (intro U G;obtain⟨D,h,F⟩:=G;(try dsimp only at D h F);go_simp;(try with_reducible rfl))))
  simp only[Act.put,zA];first
   |(refine dB 17 (v:=undef) rfl (an ⟨Rp,rfl⟩) ?_)
   |(refine dB 17 (v:=?_) rfl (au ⟨Rp,?_⟩) ?_;rotate_left;(focus (intro U G;obtain⟨D,h,F⟩:=G;(try dsimp only at D h F);have cp:=aI h 8 rfl;go_simp;(try with_reducible rfl))))
  simp only[Act.put,zA];first
   |(refine dB 18 (v:=undef) rfl (an ⟨Rp,rfl⟩) ?_)
   |(refine dB 18 (v:=?_) rfl (au ⟨Rp,?_⟩) ?_;rotate_left;(focus (intro U G;obtain⟨D,h,F⟩:=G;(try dsimp only at D h F);go_simp;(try with_reducible rfl))))
  simp only[Act.put,zA];first
   |(refine dB 19 (v:=undef) rfl (an ⟨Rp,rfl⟩) ?_)
   |(refine dB 19 (v:=?_) rfl (au ⟨Rp,?_⟩) ?_;rotate_left;(focus (intro U G;obtain⟨D,h,F⟩:=G;(try dsimp only at D h F);go_simp;(try with_reducible rfl))))
  simp only[Act.put,zA];first
   |(refine dB 20 (v:=undef) rfl (an ⟨Rp,rfl⟩) ?_)
   |(refine dB 20 (v:=?_) rfl (au ⟨Rp,?_⟩) ?_;rotate_left;(focus (intro U G;obtain⟨D,h,F⟩:=G;(try dsimp only at D h F);have cp:=aI F 8 rfl;go_simp;(try with_reducible rfl))))
  simp only[Act.put,zA];first
   |(refine dB 21 (v:=undef) rfl (an ⟨Rp,rfl⟩) ?_)
   |(refine dB 21 (v:=?_) rfl (au ⟨Rp,?_⟩) ?_;rotate_left;(focus (intro U G;obtain⟨D,h,F⟩:=G;(try dsimp only at D h F);clear D h F;go_simp;(try with_reducible rfl))))
  simp only[Act.put,zA];first
   |(refine dB 22 (v:=undef) rfl (an ⟨Rp,rfl⟩) ?_)
   |(refine dB 22 (v:=?_) rfl (au ⟨Rp,?_⟩) ?_;rotate_left;(focus (intro U G;obtain⟨D,h,F⟩:=G;(try dsimp only at D h F);go_simp;(try with_reducible rfl))))
  simp only[Act.put,zA];refine zap (i:=23) RP rfl (fun K hK=>?_);rw[ay Rp];refine wp_store_row 71 _ _ rfl (w.heap.size+1+1) #[.int .i64 p,.int .i64 (a3:Nat),.slice G1 a9 d1,.slice Y ba d2,.slice Z bb d3,.int .i64 S.v,.int .i64 S.h,.slice V S.rows.length ap,.int .i64 (J:Nat),.int .i64 (O:Nat),.slice am a8 a1,.int .i64 (a4:Nat),.slice ab a5 f1,.slice ac a6 f2,.slice ad a7 f3,.int .i64 H.v,.int .i64 H.h,.slice E H.rows.length a0,.int .i64 (N:Nat),.int .i64 (R:Nat),.slice ao bc a2] rfl rfl 71 sq cI.o RP rfl RP ?_;refine hK.out _ _ ⟨(nf _ _ _ _ ey.o).trans b2.1,(nf _ _ _ _ es.o).trans b2.2.1,(nf _ _ _ _ ev.o).trans b2.2.2⟩ (fun cn=>?_);clear hK K;refine zap (i:=24) RP rfl (fun K hK=>?_);go_simp;refine hK.out _ _ cn (fun _=>?_);clear hK K;refine zgE RP ?_ _;have cz:=setRow_heap bv.drew (w.heap.size+1+1) _ #[.int .i64 p,.int .i64 (a3:Nat),.slice G1 a9 d1,.slice Y ba d2,.slice Z bb d3,.int .i64 S.v,.int .i64 S.h,.slice V S.rows.length ap,.int .i64 (J:Nat),.int .i64 (O:Nat),.slice am a8 a1,.int .i64 (a4:Nat),.slice ab a5 f1,.slice ac a6 f2,.slice ad a7 f3,.int .i64 H.v,.int .i64 H.h,.slice E H.rows.length a0,.int .i64 (N:Nat),.int .i64 (R:Nat),.slice ao bc a2] _ _ cI.o;have D:=em.o (bv.drew.setRow (w.heap.size+1+1) #[.int .i64 p,.int .i64 (a3:Nat),.slice G1 a9 d1,.slice Y ba d2,.slice Z bb d3,.int .i64 S.v,.int .i64 S.h,.slice V S.rows.length ap,.int .i64 (J:Nat),.int .i64 (O:Nat),.slice am a8 a1,.int .i64 (a4:Nat),.slice ab a5 f1,.slice ac a6 f2,.slice ad a7 f3,.int .i64 H.v,.int .i64 H.h,.slice E H.rows.length a0,.int .i64 (N:Nat),.int .i64 (R:Nat),.slice ao bc a2]) fun k a b=>nf _ _ _ _ (by have:=d9.o;omega)
  have h:=eo.o (bv.drew.setRow (w.heap.size+1+1) #[.int .i64 p,.int .i64 (a3:Nat),.slice G1 a9 d1,.slice Y ba d2,.slice Z bb d3,.int .i64 S.v,.int .i64 S.h,.slice V S.rows.length ap,.int .i64 (J:Nat),.int .i64 (O:Nat),.slice am a8 a1,.int .i64 (a4:Nat),.slice ab a5 f1,.slice ac a6 f2,.slice ad a7 f3,.int .i64 H.v,.int .i64 H.h,.slice E H.rows.length a0,.int .i64 (N:Nat),.int .i64 (R:Nat),.slice ao bc a2]) fun k a b=>nf _ _ _ _ (by have:=ea.o;omega)
  have bi:=below_setRow (g:=w.heap.size+1+1) (cs:=#[.int .i64 p,.int .i64 (a3:Nat),.slice G1 a9 d1,.slice Y ba d2,.slice Z bb d3,.int .i64 S.v,.int .i64 S.h,.slice V S.rows.length ap,.int .i64 (J:Nat),.int .i64 (O:Nat),.slice am a8 a1,.int .i64 (a4:Nat),.slice ab a5 f1,.slice ac a6 f2,.slice ad a7 f3,.int .i64 H.v,.int .i64 H.h,.slice E H.rows.length a0,.int .i64 (N:Nat),.int .i64 (R:Nat),.slice ao bc a2]) e7.o eb.o;generalize bv.drew.setRow (w.heap.size+1+1) _=e9 at cz D h bi cn ⊢;obtain⟨e8,e0,e1,eg⟩:=fU cz D h bi;clear cz D h bi cn b2 c8;go_wp2;refine aE (results_cell_tmp results29 _ e9 (w.heap.size+1+1) 71 (mO p a3 G1 a9 d1 Y ba d2 Z bb d3 S V ap J O am a8 a1 a4 ab a5 f1 ac a6 f2 ad a7 f3 H E a0 N R ao bc a2) (0,0) _ _ rfl rfl e8.o ng rfl RP) rfl ⟨a3,a4,a9,ba,bb,d1,d2,d3,a5,a6,a7,f1,f2,f3,J,N,O,R,a8,bc,a1,a2,ap,a0,G1,Y,Z,ab,ac,ad,am,ao,V,E,S,H,by rw[e4.o];rfl,eg.o,fun bd=>⟨e2.o bd,e3.o bd,e0.o,e1.o⟩⟩
end Go.Proofs.YtpieilkmmiopfaaGreatDoor
