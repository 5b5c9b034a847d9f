/- Parts of the walks and laws (Sc4, Sc5, Vd1). Conditions: as stated with each. -/
import Derived.Test.YtpieilkmmiopfaaGreatDoorPk31
import Derived.Test.YtpieilkmmiopfaaGreatDoorPk32
namespace Go.Proofs.YtpieilkmmiopfaaGreatDoor
open Go.RowKit Tryz
set_option linter.all false
set_option maxHeartbeats 4000000
set_option maxRecDepth 100000
variable{A:aq}{Q:gj}{a:Act}{b n s:Nat}{o:fR}{ops:gP}{rest:List Oper}{w:aa}
theorem zeY:RT prog 33 95 3 (.agg #[(),(),.string (ByteArray.mk #[])]) 32:=⟨underlying33,RP,Rs,Rs,Rs⟩
def yM(x:er):List Value:=[.int .i64 x.k,.int .i64 x.v,.string x.s]
theorem zeZ{o:Nat}:∀{xs:List er},(∀(k:Nat) (x:er),xs[k]?=some x->∃c,(∀(j:Nat) (y:ax),c[j]?=some y->ae w b (o+k*3+j) y)/\iR w x c)->∀(j:Nat) (u:ax),(xs.map yM).flatten[j]?=some u->ae w b (o+j) u:=by
 intro xs I j u G;have F:∀c∈xs.map yM,c.length=3:=fun c hc=>UL
 have N:j < (xs.map yM).flatten.length:=(bG.1 G).1;rw[kz F,bh]at N;obtain⟨x,H⟩:=aB (Rr:j / 3<xs.length);have D:=kA (j:=j%3) F (by rw[cC,H];rfl:(xs.map yM)[j / 3]?=some (yM x)) (Nat.mod_lt _ Rs);rw[show j / 3*3+j%3=j by omega,G]at D;obtain⟨c,J,h⟩:=I _ x H;unfold iR at h;subst h;have:=J (j%3) u D.symm;rwa[show o+j / 3*3+j%3=o+j by omega]at this
theorem yq(Y:o.guard=none)(N x:jk)(ab:o.op=.call {callee:=.builtin .append,args:=#[N,x],argTypes:=#[33,33]})(B:Nat)(W:aa)(v:ax)(A:aq)(cap:Nat)(ys:List er)(D:aV 95 3 iR W B v [])(U:bF 3 iR W A ys)(T:0<ys.length)(I:B<=W.heap.size)(a3:ys.length<=1048576)(ad:a.eval N=v)(J:a.eval x=.slice A ys.length cap)(h:∀F w',aV 95 3 iR w' B F ys->Below B W w'->wpList prog ops Q rest (a.put o.dst F) w'):wpList prog ops Q (o::rest) a W:=by
 obtain⟨a2,hi,ap,a0,a1⟩:=de zeY.info;obtain⟨cs,D⟩:=D;obtain⟨b,of,rfl,hc⟩:=U.here T;have V:∀c∈ys.map yM,c.length=3:=fun c hc=>UL
 have O:∀(k:Nat) (x:er) (c:bU),ys[k]?=some x->(ys.map yM)[k]?=some c->c.length=3/\(∀u∈c,u.oneCell'=true)/\iV iR W B v x c:=fun k x c J hc=>by
  rw[cC,J]at hc;cases hc
  exact⟨rfl,fun u hu=>VQ,iV.flat ⟨cs,D⟩ I fun W=>rfl⟩
 refine zl W Y N x 33 ab B 95 a2 _ 3 32 zeY.und hi ap a0 a1 zeY.zs zeY.pos v _ _ ad D.outer ⟨b,of,none⟩ ys.length cap (ys.map yM).flatten J (by rw[kz V,bh]) (fun j u Z=>by rw[dj];exact zeZ hc j u Z) ?_ ?_ ?_ I ?_
 .intro u hu;obtain⟨c,hc,hu⟩:=qp.1 hu;obtain⟨k,H⟩:=fk.1 hc;obtain⟨y,ao⟩:=aB (show k<ys.length by have:=(bG.1 H).1;simpa using this);exact(O k y c ao H).2.1 u hu
 .unfold maxLen;simp;omega
 .simp;omega
 .intro F w' ac R _ FA;have am:∀G,F.ownBlock=some G->v.ownBlock=some G∨W.heap.size<=G:=fun G e=>XB
  exact h F w' ⟨cs++ys.map yM,D.nm (bh ..) O ac R am⟩ ((aj _ _).grown R I fun k H=>(bL D.outer k H).1)
theorem Cm(L:List er)(A:aq)(cap:Nat)(w:aa)(Z:bF 3 iR w A L)(a6:0<L.length)(a7:L.length<=1048576):aw 152 (aO A L cap) w fun e w'=>∃h D,e=.returned (.agg (aO h L D))/\L.length<=D/\Fr w' w.heap.size w'.heap.size (fun a4=>bF 3 iR a4 h L)/\ag w w':=by
 obtain⟨H,J⟩:=bA w (.cells kj 35);have O:=bw Z H;go_enter func152,ntmps152
 go_upto_region 1 with(fail)
 generalize w.alloc _=W at H J O ⊢;have Y:=zH (show w.heap.size<W.heap.size from(aT.1 J).1);have I:=ak W (.cells #[] 95);obtain⟨ap,ao⟩:=bD (aV.lit 95 3 iR W W.heap.size (af _)) (bw O I);have a2:=zH (ak W (.cells #[] 95)).size;have ac:=ah J I;obtain⟨F,U,a0⟩:=dO H I ac;clear Z O H J I ac;go_wp2_with ((at_builtin;refine yq rfl _ _ rfl W.heap.size _ _ A cap L ap.o ao.o a6 a2.o a7 rfl rfl ?_;intro bb ad R G;obtain⟨h,D,rfl,-,ab,-⟩:=R.view;have T:=a0.o;have N:=(G.block w.heap.size Y.o).trans T;have bd:=aI N 0 rfl;have f0:=aK N 0;have bc:=aI (bm _ _ 0 _ _ (.slice h L.length D) N) 0 rfl;have a1:=zH (R.same (w':=ad.setCell ⟨w.heap.size,0,none⟩ (.slice h L.length D)) (fun k a9 ba=>aZ _ _ _ _ (by show k≠w.heap.size;have:=Y.o;omega)) Rq);have am:=zH ab;have a3:=zH (show W.heap.size<=(ad.setCell ⟨w.heap.size,0,none⟩ (.slice h L.length D)).heap.size by have:=U.o.size;have:=G.size;simp;omega);have V:=zH (((F.o.trans (U.o.mono F.o.size)).trans (G.mono F.o.size)).setCell (p:=⟨w.heap.size,0,none⟩) (af _) (.slice h L.length D));clear R G T N ab))
 refine aE (v:=.agg (aO h L D)) (by simp[results,results152,go_sem, *]) rfl ?_;have T:=V.o.size;have a8:=a3.o;exact⟨h,D,rfl,am.o,(a1.o.fr (fun _ _ _ _ _ a5=>a5) a8).mono F.o.size (af _),V.o⟩
theorem Cn(L:List er)(x:er)(A:aq)(cap:Nat)(w:aa)(H:bF 3 iR w A L)(F:L[L.length-1]?=some x)(O:L.length<=1048576):aw 104 (cy (aO A L cap)) w fun e w'=>e=.returned (.int .i64 x.k)/\ag w w':=by
 have N:L.length-1<L.length:=(bG.1 F).1;obtain⟨h,D⟩:=bA w (.cells (aO A L cap) 35);obtain⟨b,o,e,G,-,-⟩:=f_ (bw H h) F;obtain⟨m,I⟩:=aM (L.length-1);rw[<-I]at G N;have R:IntKind.i64.wrap ((L.length:Int)-1)=(m:Int):=Sq;clear H F I;generalize L.length=n at *;subst e;go_enter func104,ntmps104
 go_upto_region 1 with(fail)
 generalize w.alloc _=W at h D G ⊢;have T:=aI D 0 rfl;have J:=zH h;clear h D;go_wp2;go_ret
 exact⟨rfl,J.o⟩
theorem zW(n:Nd)(L:List Nd)(s:qV):kL (n::L) s=match j7 s n with|some h=>kL L h|none=>none:=rfl
theorem Co:∀(X h:List Nd) (s:qV),kL (X++h) s=match kL X s with|some D=>kL h D|none=>none
 |[],h,s=>rfl
 |n::X,h,s=>by
  rw[sy,zW,zW];cases j7 s n with
  |none=>rfl
  |some F=>exact Co X h F
theorem zdr{s D:qV}{n:Nd}(h:j7 s n=some D):∃a b c,D=s.add a b c:=by
 unfold j7 at h;split at h
 .cases h;exact⟨_,_,_,rfl⟩
 .split at h
  .split at h
   .cases h;exact⟨_,_,_,rfl⟩
   .cases h
  .cases h
theorem ze0{k:Int}{a b:Tm}{c:fQ}{s:qV}(O:(Tm.op k a b).ty=some c)(h:kL (Tm.op k a b).flat ⟨[],[],[]⟩=some s):s.f.length=a.flat.length+b.flat.length+1/\s.f.getD (a.flat.length+b.flat.length-1) 0=a.flat.length:=by
 obtain⟨x,y,T,U,-⟩:=Tm.nN O;have R:(Tm.op k a b).flat=(a.flat++b.flat)++[⟨k,0,true⟩]:=rfl;rw[R,Co]at h;have I:eI (a.flat++b.flat) []=some [b,a]:=by rw[sj,px [] T];exact px [a] U
 rcases zV (a.flat++b.flat) (s:=⟨[],[],[]⟩) (S:=[]) ⟨rfl,rfl,rfl⟩with⟨D,S',H,F,N⟩|⟨H,F⟩
 .rw[I]at F;cases F
  rw[H]at h;dsimp only at h;unfold kL at h;cases G:j7 D ⟨k,0,true⟩with
  |none=>rw[G]at h;cases h
  |some a6=>
   rw[G]at h;dsimp only at h;unfold kL at h;cases h
   obtain⟨u,v,z,rfl⟩:=zdr G;obtain⟨d,ap,a0,a1,a2,a3,a4,V,Y,Z,ab,ac,ad,am,J⟩:=N.ch;have ao:D.f.getD (D.f.getD (D.f.length-1) 0-1) 0=0:=J;have a5:=b.nB;refine⟨by show(D.f++[u]).length=_;rw[bx,zk];omega,?_⟩
   show(D.f++[u]).getD _ 0=_
   rw[uK Rr,show a.flat.length+b.flat.length-1=D.f.length-1 by omega];omega
 .rw[I]at F;cases F
theorem CU{D:Type}{E:World->D->List Value->Prop}{xs:List D}(h:bF s E w A xs)(n:Nat):bF s E w A (xs.take n):=by
 rcases h with h|⟨b,o,e,F⟩
 .exact Wl
 .exact an ⟨b,o,e,fun k x G=>F k x (oC G)⟩
theorem zd_{F:Type}{E:World->F->List Value->Prop}{o:Nat}{xs:List F}(h:bF s E w (some ⟨b,o,none⟩) xs)(n:Nat):bF s E w (some ⟨b,o+n*s,none⟩) (xs.drop n):=by
 rcases h with h|⟨N,O,e,I⟩
 .exact Wl
 .cases e
  refine an ⟨b,o+n*s,rfl,fun k x D=>?_⟩;rw[eX]at D;obtain⟨c,G,H⟩:=I _ x D;refine⟨c,fun j y J=>?_,H⟩;have:=G j y J;rwa[Nat.add_mul,<-oO]at this
def ziA(L:List er)(m n:Nat)(w:aa)(e:Ending)(w':aa):Prop:=∃A1 c1 h c2,e=.returned (.tuple (iD (cg A1 m c1) (cg h n c2)))/\m<=c1/\n<=c2/\bF 3 iR w' A1 (L.take m)/\bF 3 iR w' h ((L.drop m).take n)/\ag w w'
theorem za2(k:Int)(a b:Tm)(c:fQ)(L:List er)(A:aq)(cap:Nat)(w:aa)(ab:bF 3 iR w A L)(hL:b_ L=(Tm.op k a b).flat)(bi:(Tm.op k a b).ty=some c)(ch:L.length<=400)(ad:L.length<=cap):aw 106 (cy (aO A L cap)) w (ziA L a.flat.length b.flat.length w):=by
 have I:L.length=a.flat.length+b.flat.length+1:=Xv;have b6:iQ (b_ L)=true:=(zat (by rw[hL];exact Tm.nB _) (by rw[show(b_ L).length=L.length by simp[b_]];exact ch)).2 ⟨_,hL,_,bi⟩;have a4:=fun s (Z:kL (b_ L) ⟨[],[],[]⟩=some s)=>(ze0 bi (by rw[<-hL];exact Z)).2
 have am:=a.nB;have ao:=b.nB;obtain⟨J,N,rfl,-⟩:=ab.here (Rr:0<L.length);obtain⟨b1,bc,V⟩:=dO (fun D (ac:ag w D)=>AG L (some ⟨J,N,none⟩) cap D (bw ab ac) Rr) (fun D (ac:ag w D)=>Cm (L.take a.flat.length) (some ⟨J,N,none⟩) cap D (CU (bw ab ac) _) Sr Sr) (fun D (ac:ag w D)=>Cm ((L.drop a.flat.length).take b.flat.length) (some ⟨J,N+a.flat.length*3,none⟩) (cap-a.flat.length) D (CU (zd_ (bw ab ac) _) _) SR SR);rw[show(L.take a.flat.length).length=a.flat.length by rw[cG];omega]at bc;rw[show((L.drop a.flat.length).take b.flat.length).length=b.flat.length by rw[cG,gp];omega]at V;have a3:=below_alloc3 w (.cells (aO (some ⟨J,N,none⟩) L cap) 35) (.cells kj 35) (.cells kj 35);obtain⟨a0,a9,ba⟩:=cm w (.cells (aO (some ⟨J,N,none⟩) L cap) 35) (.cells kj 35) (.cells kj 35);obtain⟨ap,ck⟩:=aM a.flat.length;obtain⟨bu,cn⟩:=aM b.flat.length;obtain⟨l,bp⟩:=aM L.length;rw[<-ck]at I a4 am bc V ⊢;rw[<-cn]at I a4 ao V ⊢;rw[<-bp]at I ch ad b1 a3 a0 a9 ba ⊢;obtain⟨dc,b2,bz⟩:=dO a4 b6 bp;obtain⟨h,eb⟩:=aM (l-1);have bq:bu=h-ap:=Rr;have a7:l=h+1:=Rr;have fb:h<=cap:=Rr;have ek:ap<=h:=Rr;have ej:ap<=cap:=Rr;rw[bq]at V ⊢;obtain⟨c7,c8,e7,dq,dl,c6⟩:=kE I a7 bq ao am ad;clear hL bi a4 b6 ab ck cn bp I eb a7 bq ao am ad;go_enter func106,ntmps106
 go_upto_region 1 with(fail)
 generalize (((w.alloc _).alloc _).alloc _)=W at a3 a0 a9 ba ⊢;have G:=aI a0 0 rfl;obtain⟨bb,cI,cO,c0⟩:=fU a3 a0 a9 ba;clear a3 a0 a9 ba;go_upto_region 2 with(go_at_call 103;(with_reducible refine(b1.o _ bb.o).mono ?_);intro e cB Z;unfold ze7 at Z;obtain⟨cF,ey,d7,d5,e0,d8,d6,e1,d9,b3,b7,co⟩:=Z;rw[b2.o]at b3;subst b3;have db:=zH (co b2.o);have bv:=zH b7;clear b7 co)
 obtain⟨a5,a8⟩:=bA cB (.cells #[.slice cF ey d7,.slice d5 e0 d8,.slice d6 e1 d9] 145);generalize cB.alloc _=e4 at a5 a8 ⊢;obtain⟨s,e8,cr,-,ct,cj,-,b4⟩:=db.o;have ce:=dc.o s cr;have b5:=b4.ext a5;rw[cj,<-bz.o]at a8;have em:s.f.length=l:=ct.trans bz.o.symm;have I:=c7.o;have am:=dl.o;have ao:=dq.o;have ad:=c6.o;have a7:=c8.o;obtain⟨v,br⟩:=aB (Rr:ap+bu-1<s.f.length);have eo:v=ap:=by rw[<-ce,bP,br];rfl
 subst eo;obtain⟨e9,fa,rfl,cb⟩:=b5.here (Sj:0 < (bt s.f).length);have cc:=cb _ _ (dJ br);obtain⟨m,ci⟩:=aM (v+bu-1);rw[<-ci]at cc;have T:=zH (bv.o.trans (a5.mono bv.o.size));have U:=zH (bb.o.trans (T.o.mono bb.o.size));have G:=aI (ah cI.o T.o) 0 rfl;obtain⟨e5,e6,z2⟩:=aG a8;obtain⟨a2,R⟩:=bD (ah cO.o T.o) (ah c0.o T.o);have fd:¬(cap=v):=Rr;have ei:m<l:=Rr;have es:IntKind.i64.wrap ((l:Int)-1)=(h:Nat):=Sq;have ev:IntKind.i64.wrap ((h:Int)-1)=(m:Int):=Sq;obtain⟨b0,c9⟩:=bD (Rr:w.heap.size≠w.heap.size+1) (Rr:w.heap.size≠w.heap.size+1+1);clear a5 a8 ce b4 b5 ct cj br cb cr I ci em am ao ad a7;go_upto_region 4 with(fail)
 clear e5 e6 z2 es ev cc ei;obtain⟨a1,cu⟩:=aM e4;rw[<-cu]at T U a2 R G ⊢;clear cu;go_region_held3 (fun D=>ae D w.heap.size 0 (.slice (some ⟨J,N,none⟩) l cap))
  (first|with_reducible exact G|with_reducible exact al (az _) G|with_reducible exact al Y.o G|with_reducible exact al F.o G|with_reducible exact(bV b0.o).trans (al F.o G)|with_reducible exact(bV c9.o).trans ((bV b0.o).trans (al F.o G)))
  ((first|(go_at_call 152;(with_reducible refine(bc.o _ (U.o.trans ((az a1).mono U.o.size))).mono ?_);rintro e fl ⟨A1,c1,rfl,b9,cp,b8⟩;have Y:=zH ((az a1).trans (b8.mono (az a1).size));have bd:=zH (U.o.trans (Y.o.mono U.o.size));have c4:=zH b9;have dr:=zH cp;clear b9 cp b8)|(go_at_call 152;(with_reducible refine(V.o _ bd.o).mono ?_);rintro e O ⟨H,c2,rfl,ca,cq,a6⟩;have F:=zH (Y.o.trans (a6.mono Y.o.size));have d4:=zH (bd.o.trans (a6.mono bd.o.size));have c5:=zH ca;have d0:=zH cq;have d2:=zH (dr.o.ext a6 (af _));have d3:=zH (Y.o.size);have e2:=aI (ah a2.o F.o) 0 rfl;have f0:=aK (ah a2.o F.o) 0;have e3:=aI (ah R.o F.o) 0 rfl;have f1:=aK (ah R.o F.o) 0;clear ca cq a6)))
 have cz:=ah a2.o F.o;have cA:=ah R.o F.o;have fn:=(bV (w:=O.setCell ⟨w.heap.size+1,0,none⟩ (.slice A1 v c1)) (p:=⟨w.heap.size+1,0,none⟩) (a:=⟨w.heap.size+1+1,0,none⟩) (u:=.slice H (h-v) c2) (by show w.heap.size+1≠w.heap.size+1+1;omega)).trans (aI (bm _ _ 0 _ _ (.slice A1 v c1) cz) 0 rfl);have fo:=aI (bm _ _ 0 _ _ (.slice H (h-v) c2) ((aZ O ⟨w.heap.size+1,0,none⟩ (.slice A1 v c1) (w.heap.size+1+1) (by show w.heap.size+1+1≠w.heap.size+1;omega)).trans cA)) 0 rfl;have eg:w.heap.size+1+1<a1.heap.size:=(aT.1 R.o).1;have bo:∀k,a1.heap.size<=k->((O.setCell ⟨w.heap.size+1,0,none⟩ (.slice A1 v c1)).setCell ⟨w.heap.size+1+1,0,none⟩ (.slice H (h-v) c2)).heap[k]?=O.heap[k]?:=fun k Z=>(aZ _ _ _ _ (by show k≠w.heap.size+1+1;omega)).trans (aZ _ _ _ _ (by show k≠w.heap.size+1;omega))
 have dT:=zH (d2.o.same (w':=(O.setCell ⟨w.heap.size+1,0,none⟩ (.slice A1 v c1)).setCell ⟨w.heap.size+1+1,0,none⟩ (.slice H (h-v) c2)) fun k bg ea=>bo k bg).now;have d1:=zH (d0.o.same (w':=(O.setCell ⟨w.heap.size+1,0,none⟩ (.slice A1 v c1)).setCell ⟨w.heap.size+1+1,0,none⟩ (.slice H (h-v) c2)) fun k bg ea=>bo k (aR d3.o bg)).now;have c3:=zH ((d4.o.setCell (p:=⟨w.heap.size+1,0,none⟩) (by show w.heap.size<=w.heap.size+1;omega) (.slice A1 v c1)).setCell (p:=⟨w.heap.size+1+1,0,none⟩) (by show w.heap.size<=w.heap.size+1+1;omega) (.slice H (h-v) c2));clear cz cA eg bo e2 e3 f0 f1 G ek ej;go_wp2;exact aE (v:=.tuple (iD (cg A1 v c1) (cg H (h-v) c2))) (by simp[results,results106,go_sem, *]) rfl ⟨A1,c1,H,c2,rfl,c4.o,c5.o,dT.o,d1.o,c3.o⟩
def npB(G:Int)(h D F:Nat):Bool:=decide (G=0)&&(decide (h=0)&&(decide (D=0)&&decide (F=0)))
theorem int_ne(h:¬n=0):((n:Int)==0)=false:=RS
theorem Br(b:Bool)(sd:Int)(J n3 n4 n5 c1 G H I:Nat)(A1 h D F:aq)(w:aa):aw 38 #[.agg #[.bool b,.slice A1 J c1,sd,.slice h n3 G,.slice D n4 H,.slice F n5 I]] w (dM w (npB sd n3 n4 n5)):=by
 obtain⟨hB,hq⟩:=bA w (.cells #[.bool b,.slice A1 J c1,sd,.slice h n3 G,.slice D n4 H,.slice F n5 I] 39);unfold npB;go_enter func38,ntmps38
 exact ZJ
theorem zad(b:Bool)(sd:Int)(J n3 n4 n5 c1 G H I:Nat)(A1 h D F:aq)(w:aa):aw 35 #[.agg #[.bool b,.slice A1 J c1,sd,.slice h n3 G,.slice D n4 H,.slice F n5 I]] w (dM w (npB sd n3 n4 n5)):=by
 obtain⟨hB,hq⟩:=bA w (.cells #[.bool b,.slice A1 J c1,sd,.slice h n3 G,.slice D n4 H,.slice F n5 I] 39);unfold npB;go_enter func35,ntmps35
 exact ZJ
def rgB(p:Int)(a b:Sy)(xs:List ft)(G:Int)(h D F:Nat):Bool:=npB G h D F&&(decide (xs.length<=3000)&&ldB p a xs b)
theorem xT(p:Int)(a b:Sy)(xs:List ft)(R:Int)(a9 bd bu bv bz d1 d2 d3 bg bi bo f1 f2 f3 bp bq b0 b1 br b2 a7 a8 am ao J N O U ab ac ad:Nat)(G1 ap a0 a1 a2 a3 a5 a6 A B I V Y Z:aq)(w:aa)(b5:eB w)(b6:bk w A a.rows)(b8:fL w I xs)(b7:bk w B b.rows)(ce:a.Ok p)(cb:∀x∈xs,x.row.length<=1048576)(b9:b.rows.length<=1048576)(ca:∀r∈b.rows,r.length<=1048576):aw 30 (iD (mO p a9 G1 bu d1 ap bv d2 a0 bz d3 a A am bp b0 a5 br a7 bd a1 bg f1 a2 bi f2 a3 bo f3 b B ao bq b1 a6 b2 a8) (oE I xs U R V J ab Y N ac Z O ad)) w (dM w (rgB p a b xs R J N O)):=by
 unfold rgB;have b4:=zH (fun(cn:xs.length<=3000) F (bb:ag w F)=>zd5 p a A am xs I U b B ao F (b5.ext bb) (b6.ext bb) (b8.ext bb) (b7.ext bb) ce cn cb b9 ca);have ba:=((aj w.heap.size w).alloc (af _) (.cells (mO p a9 G1 bu d1 ap bv d2 a0 bz d3 a A am bp b0 a5 br a7 bd a1 bg f1 a2 bi f2 a3 bo f3 b B ao bq b1 a6 b2 a8) 71)).alloc Rq (.cells (oE I xs U R V J ab Y N ac Z O ad) 39);have bc:=(bJ (w.alloc (.cells (mO p a9 G1 bu d1 ap bv d2 a0 bz d3 a A am bp b0 a5 br a7 bd a1 bg f1 a2 bi f2 a3 bo f3 b B ao bq b1 a6 b2 a8) 71)) (.cells (oE I xs U R V J ab Y N ac Z O ad) 39) (k:=w.heap.size) Rq).trans (aC w _ rfl);have D:=aC (w.alloc (.cells (mO p a9 G1 bu d1 ap bv d2 a0 bz d3 a A am bp b0 a5 br a7 bd a1 bg f1 a2 bi f2 a3 bo f3 b B ao bq b1 a6 b2 a8) 71)) (.cells (oE I xs U R V J ab Y N ac Z O ad) 39) (n:=w.heap.size+1) Rq;have b3:=zH (fun F=>Br true R xs.length J N O U ab ac ad I V Y Z F);clear b5 b6 b8 b7 ce cb b9 ca;obtain⟨co,cc⟩:=aM xs.length;rw[<-cc]at b3 b4 ba bc D ⊢;clear cc;go_enter func30,ntmps30
 go_upto_region 1 with(fail)
 generalize (w.alloc _).alloc _=W at ba bc D ⊢;have ct:=aI D 0 rfl;have ci:=aI D 1 rfl;have cu:=aI D 2 rfl;have cz:=aI D 3 rfl;have cA:=aI D 4 rfl;have cB:=aI D 5 rfl;obtain⟨T,ck,cq⟩:=dO ba bc D;clear ba bc D;cases JT:npB R J N O
 .have a4:=zH (fun F=>Calls.be (b3.o F) JT);go_wp2_with (go_at_call 38;(with_reducible refine(a4.o _).mono ?_);rintro e ch ⟨rfl,h⟩;have H:=zH (T.o.trans (h.mono T.o.size));clear h)
  go_ret
  exact⟨aL (by simp[JT]),H.o⟩
 have a4:=zH (fun F=>Calls.be (b3.o F) JT);by_cases JS:co<=3000
 rotate_left
 .go_wp2_with (go_at_call 38;(with_reducible refine(a4.o _).mono ?_);rintro e ch ⟨rfl,h⟩;have cp:=al h ci;have H:=zH (T.o.trans (h.mono T.o.size));clear h)
  go_ret
  exact⟨aL Su,H.o⟩
 go_wp2_with (first|(go_at_call 38;(with_reducible refine(a4.o _).mono ?_);rintro e ch ⟨rfl,h⟩;have cp:=al h ci;have G:=ah ck.o h;have cF:=aI G 0 rfl;have cI:=aI G 5 rfl;have cO:=aI G 6 rfl;have c0:=aI G 7 rfl;have c3:=aI G 15 rfl;have c4:=aI G 16 rfl;have c5:=aI G 17 rfl;have H:=zH (T.o.trans (h.mono T.o.size));clear h G)|(go_at_call 39;(with_reducible refine(b4.o JS _ H.o).mono ?_);rintro e cr ⟨rfl,h⟩;have cj:=zH (H.o.trans (h.mono H.o.size));clear h))
 go_ret
 exact⟨aL Su,cj.o⟩
theorem xU(p:Int)(a b:Sy)(xs:List ft)(R:Int)(a5 a8 bc bd bg d1 d2 d3 a9 ba bb f1 f2 f3 am ao J N O U ab ac ad:Nat)(G1 ap a0 a1 a2 a3 A B H V Y Z:aq)(w:aa)(bq:bk w A a.rows)(bu:fL w H xs)(br:bk w B b.rows)(b2:a.Ok p)(b0:∀x∈xs,x.row.length<=1048576)(bv:b.rows.length<=1048576)(bz:∀r∈b.rows,r.length<=1048576):aw 25 (iK p (oB a5 G1 bc d1 ap bd d2 a0 bg d3 a8 a1 a9 f1 a2 ba f2 a3 bb f3 a A am b B ao) (oE H xs U R V J ab Y N ac Z O ad)) w (dM w (rgB p a b xs R J N O)):=by
 unfold rgB;have bp:=zH (fun(b7:xs.length<=3000) F (bo:ag w F)=>DB p a A am xs H U b B ao F (bq.ext bo) (bu.ext bo) (br.ext bo) b2 b7 b0 bv bz);have a6:=((aj w.heap.size w).alloc (af _) (.cells (oB a5 G1 bc d1 ap bd d2 a0 bg d3 a8 a1 a9 f1 a2 ba f2 a3 bb f3 a A am b B ao) 59)).alloc Rq (.cells (oE H xs U R V J ab Y N ac Z O ad) 39);have a7:=(bJ (w.alloc (.cells (oB a5 G1 bc d1 ap bd d2 a0 bg d3 a8 a1 a9 f1 a2 ba f2 a3 bb f3 a A am b B ao) 59)) (.cells (oE H xs U R V J ab Y N ac Z O ad) 39) (k:=w.heap.size) Rq).trans (aC w _ rfl);have D:=aC (w.alloc (.cells (oB a5 G1 bc d1 ap bd d2 a0 bg d3 a8 a1 a9 f1 a2 ba f2 a3 bb f3 a A am b B ao) 59)) (.cells (oE H xs U R V J ab Y N ac Z O ad) 39) (n:=w.heap.size+1) Rq;have bi:=zH (fun F=>zad true R xs.length J N O U ab ac ad H V Y Z F);clear bq bu br b2 b0 bv bz;obtain⟨b8,b1⟩:=aM xs.length;rw[<-b1]at bi bp a6 a7 D ⊢;clear b1;go_enter func25,ntmps25
 go_upto_region 1 with(fail)
 generalize (w.alloc _).alloc _=W at a6 a7 D ⊢;have cc:=aI D 0 rfl;have b4:=aI D 1 rfl;have ce:=aI D 2 rfl;have ch:=aI D 3 rfl;have ci:=aI D 4 rfl;have cj:=aI D 5 rfl;obtain⟨T,b6,ca⟩:=dO a6 a7 D;clear a6 a7 D;cases JT:npB R J N O
 .have a4:=zH (fun F=>Calls.be (bi.o F) JT);go_wp2_with (go_at_call 35;(with_reducible refine(a4.o _).mono ?_);rintro e b3 ⟨rfl,h⟩;have G:=zH (T.o.trans (h.mono T.o.size));clear h)
  go_ret
  exact⟨aL (by simp[JT]),G.o⟩
 have a4:=zH (fun F=>Calls.be (bi.o F) JT);by_cases JS:b8<=3000
 rotate_left
 .go_wp2_with (go_at_call 35;(with_reducible refine(a4.o _).mono ?_);rintro e b3 ⟨rfl,h⟩;have b9:=al h b4;have G:=zH (T.o.trans (h.mono T.o.size));clear h)
  go_ret
  exact⟨aL Su,G.o⟩
 go_wp2_with (first|(go_at_call 35;(with_reducible refine(a4.o _).mono ?_);rintro e b3 ⟨rfl,h⟩;have b9:=al h b4;have I:=ah b6.o h;have ck:=aI I 8 rfl;have cn:=aI I 9 rfl;have co:=aI I 10 rfl;have cp:=aI I 11 rfl;have cq:=aI I 12 rfl;have cr:=aI I 13 rfl;have G:=zH (T.o.trans (h.mono T.o.size));clear h I)|(go_at_call 36;(with_reducible refine(bp.o JS _ G.o).mono ?_);rintro e cb ⟨rfl,h⟩;have b5:=zH (G.o.trans (h.mono G.o.size));clear h))
 go_ret
 exact⟨aL Su,b5.o⟩
end Go.Proofs.YtpieilkmmiopfaaGreatDoor
