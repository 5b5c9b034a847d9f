/- Parts of the walks. Conditions: as stated with each. -/
import Derived.Test.YtdpgblncijojiaaGreatDoorPk36
namespace Go.Proofs.YtdpgblncijojiaaGreatDoor
open Go.RowKit Tryz
set_option linter.all false
set_option maxHeartbeats 2000000
set_option maxRecDepth 100000
variable{A:an}{C:Code}{E w:aa}{J:iq}{Q:gU}{a:Act}{b m:Nat}{o:gI}{rest:List Oper}{row:Option Nat}
def Cx:RT prog 174 192 3 (.agg #[(),(),.string (ByteArray.mk #[])]) 32:=⟨underlying174,Si,RX,RX,RX⟩
def ndC(x:jJ):List Value:=[.int .i64 x.k,.int .i64 x.v,.string x.s]
def D5{o:Nat}:∀{xs:List jJ},(∀(k:Nat) (x:jJ),xs[k]?=some x->∃c,(∀(j:Nat) (y:au),c[j]?=some y->ah w b (o+k*3+j) y)/\nl w x c)->∀(j:Nat) (u:au),(xs.map ndC).flatten[j]?=some u->ah w b (o+j) u:=by
 intro xs h j u F;have E:∀c∈xs.map ndC,c.length=3:=fun c hc=>Vg
 have J:j < (xs.map ndC).flatten.length:=(bA.1 F).1;rw[mn E,bt]at J;obtain⟨x,H⟩:=aB (RU:j / 3<xs.length);have D:=ru (j:=j%3) E (by rw[cp,H];rfl:(xs.map ndC)[j / 3]?=some (ndC x)) (Nat.mod_lt _ RX);rw[show j / 3*3+j%3=j by omega,F]at D;obtain⟨c,I,z⟩:=h _ x H;unfold nl at z;subst z;have:=I (j%3) u D.symm;rwa[show o+j / 3*3+j%3=o+j by omega]at this
def qm(H:o.guard=none)(z x:js)(O:o.op=.call {callee:=.builtin .append,args:=#[z,x],argTypes:=#[174,174]})(B:Nat)(W:aa)(v:au)(A:an)(cap:Nat)(ys:List jJ)(hW:bN 192 3 nl W B v [])(E:dp 3 nl W A ys)(D:0<ys.length)(G_:B<=(W:Nat))(ac:ys.length<=1048576)(R:a.eval z=v)(hx:a.eval x=.slice A ys cap)(h:∀v' w',bN 192 3 nl w' B v' ys->Below B W w'->wpList prog J Q rest (a.put o.dst v') w'):wpList prog J Q (o::rest) a W:=by
 obtain⟨ab,hi,U,Y,Z⟩:=cU Cx.info;obtain⟨cs,hW⟩:=hW;obtain⟨b,of,rfl,hc⟩:=E.here D;have F:∀c∈ys.map ndC,c.length=3:=fun c hc=>Vg
 have Ha:∀(k:Nat) (x:jJ) (c:bG),ys[k]?=some x->(ys.map ndC)[k]?=some c->c.length=3/\(∀u∈c,u.oneCell'=true)/\jS nl W B v x c:=fun k x c hx hc=>YZ
 refine xV W H z x 174 O B 192 ab _ 3 32 Cx.und hi U Y Z Cx.zs Cx.pos v _ _ R hW.outer ⟨b,of,none⟩ ys cap (ys.map ndC).flatten hx (by rw[mn F,bt]) (fun j u I=>by rw[dM];exact D5 hc j u I) ?_ ?_ ?_ G_ ?_
 .exact Y7
 .unfold maxLen;simp;omega
 .simp;omega
 .exact Zs
def Bq(L:List jJ)(A:an)(cap:Nat)(w:aa)(ac:dp 3 nl w A L)(a6:0<L.length)(a7:L.length<=1048576):aw 175 (bL A L cap) w fun e w'=>∃z D,e=.returned (.agg (bL z L D))/\L.length<=D/\Fr w' w w' (fun V=>dp 3 nl V z L)/\ai w w':=by
 obtain⟨F,I⟩:=dK w (.cells fm 176);have Q:=dI ac F;go_enter func175,ntmps175
 go_upto_region 1 with(fail)
 generalize w.alloc _=W at F I Q ⊢;have ab:=zH (show(w:Nat)<W from(aM.1 I).1);have H:=aD W (.cells #[] 192);obtain⟨a1,a0⟩:=bS (bN.lit 192 3 nl W W (ag _)) (dI Q H);have a4:=zH (aD W (.cells #[] 192)).size;have am:=ak I H;obtain⟨O,Y,a2⟩:=d_ F H am;clear ac Q F I H am;go_wp2_with ((at_builtin;refine qm rfl _ _ rfl W _ _ A cap L a1.o a0.o a6 a4.o a7 rfl rfl ?_;intro v' ao R E;obtain⟨z,D,rfl,-,ad,-⟩:=R.view;have U:=a2.o;have J:=(E.block w ab).trans U;have bd:=du J 0 rfl;have f0:=aP J 0;have bb:=du (bs _ _ 0 _ _ (.slice z L D) J) 0 rfl;have a3:=zH (R.same (w':=ao.setCell ⟨w,0,none⟩ (.slice z L D)) (fun k a9 ba=>bw _ _ _ _ (by show k≠w.heap.size;have:=ab.o;omega)) RS);have ap:=zH ad;have a5:=zH (show(W:Nat)<=(ao.setCell ⟨w,0,none⟩ (.slice z L D)) by have:=Y.o.size;have:=E.size;simp;omega);have Z:=zH (((cC O Y.o).trans (E.mono O.size)).setCell (p:=⟨w,0,none⟩) (ag _) (.slice z L D));clear R E U J ad))
 refine ax (v:=.agg (bL z L D)) (by simp[results,results175,go_sem, *]) rfl ?_;have U:=Z.o.size;have a8:=a5.o;exact⟨z,D,rfl,ap,(a3.fr (fun _ _ _ _ _ h=>h) a8).mono O.size (ag _),Z.o⟩
def Br(L:List jJ)(x:jJ)(A:an)(cap:Nat)(w:aa)(H:dp 3 nl w A L)(E:L[L.length-1]?=some x)(Q:L.length<=1048576):aw 162 (cJ (bL A L cap)) w fun e w'=>e=.returned (zI x.k)/\ai w w':=by
 have O:L.length-1<L:=(bA.1 E).1;obtain⟨z,D⟩:=dK w (.cells (bL A L cap) 176);obtain⟨b,o,e,F,-,-⟩:=jK (dI H z) E;obtain⟨m,I⟩:=aO (L.length-1);rw[<-I]at F O;have R:IntKind.i64.wrap ((L:Int)-1)=(m:Int):=SQ;clear H E I;generalize L.length=n at *;subst e;go_enter func162,ntmps162
 go_upto_region 1 with(fail)
 generalize w.alloc _=W at z D F ⊢;have U:=du D 0 rfl;have J:=zH z;clear z D;go_wp2;go_ret
 exact⟨rfl,J.o⟩
def zc(n:Nd)(L:List Nd)(s:qC):kZ (n::L) s=match ku s n with|some z=>kZ L z|none=>none:=rfl
def Bs:∀(X z:List Nd) (s:qC),kZ (X++z) s=match kZ X s with|some D=>kZ z D|none=>none
 |[],z,s=>rfl
 |n::X,z,s=>by
  rw[xS,zc,zc];cases ku s n with
  |none=>rfl
  |some E=>exact Bs X z E
def zdy{s z:qC}{n:Nd}(h:ku s n=some z):∃a b c,z=s.add a b c:=by
 unfold ku at h;split at h
 .cases h;exact⟨_,_,_,rfl⟩
 .split at h
  .split at h
   .cases h;exact⟨_,_,_,rfl⟩
   .cases h
  .cases h
def zfr{k:Int}{a b:Tm}{c:gW}{s:qC}(J:(Tm.op k a b).ty=some c)(h:kZ (Tm.op k a b).flat ⟨[],[],[]⟩=some s):s.f.length=a.flat+b.flat+1/\s.f.getD (a.flat.length+b.flat-1) 0=a.flat.length:=by
 obtain⟨x,y,Q,R,-⟩:=Tm.Be J;have O:(Tm.op k a b).flat=(a.flat++b.flat)++[⟨k,0,true⟩]:=rfl;rw[O,Bs]at h;have H:iZ (a.flat++b.flat) []=some [b,a]:=by rw[rF,o0 [] Q];exact o0 [a] R
 rcases yl (a.flat++b.flat) (s:=⟨[],[],[]⟩) (S:=[]) ⟨rfl,rfl,rfl⟩with⟨z,U,F,D,h'⟩|⟨F,D⟩
 .rw[H]at D;cases D
  rw[F]at h;dsimp only at h;unfold kZ at h;cases E:ku z ⟨k,0,true⟩with
  |none=>rw[E]at h;cases h
  |some a6=>
   rw[E]at h;dsimp only at h;unfold kZ at h;cases h
   obtain⟨u,v,a7,rfl⟩:=zdy E;obtain⟨d,a0,a1,a2,a3,a4,a5,Y,Z,ab,ac,ad,am,ao,I⟩:=h'.ch;have ap:z.f.getD (z.f.getD (z.f.length-1) 0-1) 0=0:=I;refine⟨by show(z.f++[u]).length=_;rw[bQ,xO];omega,?_⟩
   show(z.f++[u]).getD _ 0=_
   rw[tT RU,show a.flat.length+b.flat-1=z.f-1 by omega];omega
 .rw[H]at D;cases D
def At(lo:Nat)(P:iS)(w:aa):Prop:=∃hi,hi<=(w:Nat)/\Fr w lo hi P
section
variable{lo lo' b:Nat}{P Q:iS}{w w':aa}
def At.now(h:At lo P w):P w:=by obtain⟨_,_,h⟩:=h;exact h.now
def At.ext(h:At lo P w)(D:ai w w'):At lo P w':=by obtain⟨hi,z,E⟩:=h;exact⟨hi,bc z D.size,E.ext D z⟩
def At.drawn(h:At lo P w)(D:w.grownBy w' (some b))(F:b<lo):At lo P w':=by obtain⟨hi,z,E⟩:=h;exact⟨hi,bc z D.size,E.grown D z fun g e=>aF (by cases e;exact F)⟩
def At.mono(h:At lo P w)(E:lo'<=lo):At lo' P w:=by obtain⟨hi,z,D⟩:=h;exact⟨hi,z,D.mono E (ag _)⟩
def At.imp(h:At lo P w)(f:∀W,P W->Q W):At lo Q w:=by obtain⟨hi,z,D⟩:=h;exact⟨hi,z,D.imp f⟩
def At.of(h:Fr w lo w P):At lo P w:=⟨_,ag _,h⟩
def At.setCell(h:At lo P w){a:dD}(E:a.block<lo)(v:au):At lo P (w.setCell a v):=by obtain⟨hi,h1,z⟩:=h;exact⟨hi,SN,z.same fun k D _=>bw _ _ _ _ RU⟩
def At.kept(h:At lo P w)(F:(w:Nat)<=w')(E:∀k,lo<=k->w'.heap[k]?=w.heap[k]?∨(w:Nat)<=k):At lo P w':=by obtain⟨hi,z,D⟩:=h;exact⟨hi,bc z F,D.same fun k a b=>(E k a).elim id fun h=>RU⟩
end
def cH.iP{b:Nat}{w:aa}(h:cH C b m w){a:dD}(z:b<a.block)(v:au):cH C b m (w.setCell a v):=h.nR fun q D=>bw _ _ _ _ RU
def bW{w:aa}(h:w.grownBy E row){a:dD}(z:(w:Nat)<=a.block)(v:au):w.grownBy (E.setCell a v) row:=je h ((aj w E).setCell z v)
abbrev nA(lo:Nat)(L:List jJ)(A:an)(w:aa):Prop:=At lo (fun V=>dp 3 nl V A L) w
def za1(L:List jJ)(w:aa)(e:Ending)(w':aa):Prop:=∃A c,e=.returned (.agg (bL A L c))/\L.length<=c/\nA w L A w'/\ai w w'
def Cf{Q:gU}(H:o.guard=none)(z x:js)(O:o.op=.call {callee:=.builtin .append,args:=#[z,x],argTypes:=#[174,174]})(B:Nat)(W:aa)(v:au)(A:an)(cap:Nat)(xs ys:List jJ)(hW:bN 192 3 nl W B v xs)(E:dp 3 nl W A ys)(D:0<ys.length)(G_:B<=(W:Nat))(ac:xs.length+ys<=1048576)(R:a.eval z=v)(hx:a.eval x=.slice A ys cap)(h:∀v' w',bN 192 3 nl w' B v' (xs++ys)->Below B W w'->wpList prog J Q rest (a.put o.dst v') w'):wpList prog J Q (o::rest) a W:=by
 obtain⟨ab,hi,U,Y,Z⟩:=cU Cx.info;obtain⟨cs,hW⟩:=hW;obtain⟨b,of,rfl,hc⟩:=E.here D;have F:∀c∈ys.map ndC,c.length=3:=fun c hc=>Vg
 have Ha:∀(k:Nat) (x:jJ) (c:bG),ys[k]?=some x->(ys.map ndC)[k]?=some c->c.length=3/\(∀u∈c,u.oneCell'=true)/\jS nl W B v x c:=fun k x c hx hc=>YZ
 refine xV W H z x 174 O B 192 ab _ 3 32 Cx.und hi U Y Z Cx.zs Cx.pos v _ _ R hW.outer ⟨b,of,none⟩ ys cap (ys.map ndC).flatten hx (by rw[mn F,bt]) (fun j u I=>by rw[dM];exact D5 hc j u I) ?_ ?_ ?_ G_ ?_
 .exact Y7
 .unfold maxLen;omega
 .omega
 .exact Zs
def AV{D:Type}{s:Nat}{z:World->D->List Value->Prop}{xs:List D}(h:dp s z w A xs)(n:Nat):dp s z w A (xs.take n):=by
 rcases h with h|⟨b,o,e,E⟩
 .exact WW
 .exact aA ⟨b,o,e,fun k x F=>E k x (ot F)⟩
def zc6{E:Type}{s:Nat}{z:World->E->List Value->Prop}{o:Nat}{xs:List E}(h:dp s z w (some ⟨b,o,none⟩) xs)(n:Nat):dp s z w (some ⟨b,o+n*s,none⟩) (xs.drop n):=by
 rcases h with h|⟨O,Q,e,I⟩
 .exact WW
 .cases e
  refine aA ⟨b,o+n*s,rfl,fun k x D=>?_⟩;rw[fL]at D;obtain⟨c,F,H⟩:=I _ x D;refine⟨c,fun j y J=>?_,H⟩;have:=F j y J;rwa[Nat.add_mul,<-pW]at this
def zjd(L:List jJ)(m n:Nat)(w:aa)(e:Ending)(w':aa):Prop:=∃A1 c1 A2 c2,e=.returned (.tuple (kg (eG A1 m c1) (eG A2 n c2)))/\m<=c1/\n<=c2/\dp 3 nl w' A1 (L.take m)/\dp 3 nl w' A2 ((L.drop m).take n)/\ai w w'
def DB(k:Int)(a b:Tm)(c:gW)(L:List jJ)(A:an)(cap:Nat)(w:aa)(U:dp 3 nl w A L)(hL:dY L=(Tm.op k a b).flat)(bd:(Tm.op k a b).ty=some c)(ch:L.length<=400)(Z:L.length<=cap):aw 164 (cJ (bL A L cap)) w (zjd L a.flat b.flat w):=by
 have F:L.length=a.flat+b.flat+1:=XY;have b6:pc (dY L)=true:=(Ek (by rw[hL];exact Tm.oS _) (by rw[show(dY L).length=L by simp[dY]];exact ch)).2 ⟨_,hL,_,bd⟩;have a3:=fun s (h:kZ (dY L) ⟨[],[],[]⟩=some s)=>(zfr bd (by rw[<-hL];exact h)).2
 have ab:=a.oS;have ac:=b.oS;obtain⟨H,I,rfl,-⟩:=U.here (RU:0<L.length);obtain⟨b0,ba,R⟩:=d_ (fun V (Y:ai w V)=>zbz L (some ⟨H,I,none⟩) cap V (dI U Y) RU) (fun V (Y:ai w V)=>Bq (L.take a.flat) (some ⟨H,I,none⟩) cap V (AV (dI U Y) _) Sw Sw) (fun V (Y:ai w V)=>Bq ((L.drop a.flat).take b.flat) (some ⟨H,I+a.flat.length*3,none⟩) (cap-a.flat.length) V (AV (zc6 (dI U Y) _) _) Tk Tk);rw[show(L.take a.flat).length=a.flat by rw[dH];omega]at ba;rw[show((L.drop a.flat).take b.flat).length=b.flat by rw[dH,lR];omega]at R;have a2:=below_alloc3 w (.cells (bL (some ⟨H,I,none⟩) L cap) 176) (.cells fm 176) (.cells fm 176);obtain⟨am,a8,a9⟩:=cA w (.cells (bL (some ⟨H,I,none⟩) L cap) 176) (.cells fm 176) (.cells fm 176);obtain⟨ad,ck⟩:=aO a.flat.length;obtain⟨bp,cn⟩:=aO b.flat.length;obtain⟨l,bi⟩:=aO L.length;rw[<-ck]at F a3 ab ba R ⊢;rw[<-cn]at F a3 ac R ⊢;rw[<-bi]at F ch Z b0 a2 am a8 a9 ⊢;obtain⟨d0,b1,bv⟩:=d_ a3 b6 bi;obtain⟨z,em⟩:=aO (l-1);have bm:bp=z-ad:=RU;have a6:l=z+1:=RU;have fl:z<=cap:=RU;have ev:ad<=z:=RU;have es:ad<=cap:=RU;rw[bm]at R ⊢;obtain⟨db,dc,fb,d2,d1,da⟩:=mA F a6 bm ac ab Z;clear hL bd a3 b6 U ck cn bi F em a6 bm ac ab Z;go_enter func164,ntmps164
 go_upto_region 1 with(fail)
 generalize (((w.alloc _).alloc _).alloc _)=W at a2 am a8 a9 ⊢;have E:=du am 0 rfl;obtain⟨br,c0,c4,c5⟩:=fU a2 am a8 a9;clear a2 am a8 a9;go_upto_region 2 with(go_at_call 174;(with_reducible refine(b0.o _ br.o).mono ?_);intro e cO h;unfold zg1 at h;obtain⟨cR,e3,eg,ea,e4,ei,eb,e5,ej,b3,b7,co⟩:=h;rw[b1.o]at b3;subst b3;have dT:=zH (co b1);have c6:=zH b7;clear b7 co)
 obtain⟨a4,a7⟩:=dK cO (.cells #[.slice cR e3 eg,.slice ea e4 ei,.slice eb e5 ej] 202);generalize cO.alloc _=e8 at a4 a7 ⊢;obtain⟨s,T,cu,-,cy,cj,-,b4⟩:=dT.o;have ce:=d0.o s cu;have b5:=b4.ext a4;rw[cj,<-bv.o]at a7;have eA:s.f.length=l:=cy.trans bv.symm;have F:=db.o;have ab:=d1.o;have ac:=d2.o;have Z:=da.o;have a6:=dc.o;obtain⟨v,bo⟩:=aB (RU:ad+bp-1<s.f.length);have e0:v=ad:=by rw[<-ce,bu,bo];rfl
 subst e0;obtain⟨fd,fi,rfl,cb⟩:=b5.here (SF:0 < (bF s.f).length);have cc:=cb _ _ (fv bo);obtain⟨m,ci⟩:=aO (v+bp-1);rw[<-ci]at cc;have Q:=zH (cC c6 a4);have a0:=zH (cC br Q.o);have E:=du (ak c0 Q.o) 0 rfl;obtain⟨e9,fa,z2⟩:=aq a7;obtain⟨ap,O⟩:=bS (ak c4 Q.o) (ak c5 Q.o);have fn:¬(cap=v):=RU;have eo:m<l:=RU;have e1:IntKind.i64.wrap ((l:Int)-1)=(z:Nat):=SQ;have e2:IntKind.i64.wrap ((z:Int)-1)=(m:Int):=SQ;obtain⟨bz,dl⟩:=bS (RU:w.heap.size≠(w:Nat)+1) (RU:w.heap.size≠(w:Nat)+1+1);clear a4 a7 ce b4 b5 cy cj bo cb cu F ci eA ab ac Z a6;go_upto_region 4 with(fail)
 clear e9 fa z2 e1 e2 cc eo;obtain⟨ao,cz⟩:=aO e8;rw[<-cz]at Q a0 ap O E ⊢;clear cz;go_region_held3 (fun V=>ah V w 0 (.slice (some ⟨H,I,none⟩) l cap))
  (first|with_reducible exact E|with_reducible exact av (aI _) E|with_reducible exact av a1.o E|with_reducible exact av D.o E|with_reducible exact(c_ bz.o).trans (av D.o E)|with_reducible exact(c_ dl.o).trans ((c_ bz.o).trans (av D.o E)))
  ((first|(go_at_call 175;(with_reducible refine(ba.o _ (a0.o.trans ((aI ao).mono a0.o.size))).mono ?_);rintro e fo ⟨A1,c1,rfl,b9,cr,b8⟩;have a1:=zH ((aI ao).trans (b8.mono (aI ao).size));have b2:=zH (cC a0 a1);have c8:=zH b9;have d3:=zH cr;clear b9 cr b8)|(go_at_call 175;(with_reducible refine(R.o _ b2.o).mono ?_);rintro e J ⟨A2,c2,rfl,ca,ct,a5⟩;have D:=zH (cC a1 a5);have d9:=zH (cC b2 a5);have c9:=zH ca;have d5:=zH ct;have d7:=zH (d3.ext a5 (ag _));have d8:=zH (a1.size);have e6:=du (ak ap D.o) 0 rfl;have f0:=aP (ak ap D.o) 0;have e7:=du (ak O D.o) 0 rfl;have f1:=aP (ak O D.o) 0;clear ca ct a5)))
 have cF:=ak ap D.o;have cI:=ak O D.o;have fs:=(c_ (w:=J.setCell ⟨(w:Nat)+1,0,none⟩ (.slice A1 v c1)) (p:=⟨(w:Nat)+1,0,none⟩) (a:=⟨(w:Nat)+1+1,0,none⟩) (u:=.slice A2 (z-v) c2) (by show(w:Nat)+1≠(w:Nat)+1+1;omega)).trans (du (bs _ _ 0 _ _ (.slice A1 v c1) cF) 0 rfl);have fz:=du (bs _ _ 0 _ _ (.slice A2 (z-v) c2) ((bw J ⟨(w:Nat)+1,0,none⟩ (.slice A1 v c1) ((w:Nat)+1+1) (by show(w:Nat)+1+1≠(w:Nat)+1;omega)).trans cI)) 0 rfl;have en:(w:Nat)+1+1<ao:=(aM.1 O).1;have be:∀k,(ao:Nat)<=k->((J.setCell ⟨(w:Nat)+1,0,none⟩ (.slice A1 v c1)).setCell ⟨(w:Nat)+1+1,0,none⟩ (.slice A2 (z-v) c2)).heap[k]?=J.heap[k]?:=fun k h=>(bw _ _ _ _ (by show k≠(w:Nat)+1+1;omega)).trans (bw _ _ _ _ (by show k≠(w:Nat)+1;omega))
 have d4:=zH (d7.same (w':=(J.setCell ⟨(w:Nat)+1,0,none⟩ (.slice A1 v c1)).setCell ⟨(w:Nat)+1+1,0,none⟩ (.slice A2 (z-v) c2)) fun k bb ek=>be k bb).now;have d6:=zH (d5.same (w':=(J.setCell ⟨(w:Nat)+1,0,none⟩ (.slice A1 v c1)).setCell ⟨(w:Nat)+1+1,0,none⟩ (.slice A2 (z-v) c2)) fun k bb ek=>be k (bc d8 bb)).now;have c7:=zH ((d9.setCell (p:=⟨(w:Nat)+1,0,none⟩) (by show(w:Nat)<=w+1;omega) (.slice A1 v c1)).setCell (p:=⟨(w:Nat)+1+1,0,none⟩) (by show(w:Nat)<=w+1+1;omega) (.slice A2 (z-v) c2));clear cF cI en be e6 e7 f0 f1 E ev es;go_wp2;exact ax (v:=.tuple (kg (eG A1 v c1) (eG A2 (z-v) c2))) (by simp[results,results164,go_sem, *]) rfl ⟨A1,c1,A2,c2,rfl,c8,c9,d4,d6,c7⟩
def AJ(v h:Int)(xs:aE)(v' h':Int)(ys:aE):Bool:=decide (v=v')&&(decide (h=h')&&decide (xs=ys))
def Dc(v h v' h':Int)(A A2:an)(cap z:Nat)(xs ys:aE)(w:aa)(E:aX w A xs)(F:aX w A2 ys)(O:xs.length<=maxLen)(Q:ys.length<=maxLen)(I:∀r∈xs,r.length<=maxLen)(J:∀r∈ys,r.length<=maxLen):aw 11 (kg (ae v h A xs cap) (ae v' h' A2 ys z)) w (fC w (AJ v h xs v' h' ys)):=by
 have hB:Below w w ((w.alloc (.cells (ae v h A xs cap) 26)).alloc (.cells (ae v' h' A2 ys z) 26)):=((aj w w).alloc RS _).alloc RS _;have HS:=zH (fun V (H:ai w V)=>sY A A2 cap z xs ys V (E.ext H) (F.ext H) O Q I J);have q1:=(b_ (w.alloc (.cells (ae v h A xs cap) 26)) (.cells (ae v' h' A2 ys z) 26) (k:=w.heap.size) RS).trans (az w _ rfl);have q2:=az (w.alloc (.cells (ae v h A xs cap) 26)) (.cells (ae v' h' A2 ys z) 26) (n:=(w:Nat)+1) RS;clear E F O Q I J;unfold AJ;by_cases h1:v=v'
 .subst h1;by_cases h2:h=h'
  .subst h2;obtain⟨R,D⟩:=aO (decide (xs=ys));rw[show(decide (v=v)&&(decide (h=h)&&decide (xs=ys)))=R by rw[D];simp];rw[<-D]at HS;clear D;go_enter func11,ntmps11
   exact Zt
  .have Y:(h==h')=false:=SG;rw[show(decide (v=v)&&(decide (h=h')&&decide (xs=ys)))=false by simp[h2]];clear HS;go_enter func11,ntmps11
   exact Zf
 .have U:(v==v')=false:=SN;rw[show(decide (v=v')&&(decide (h=h')&&decide (xs=ys)))=false by simp[h1]];clear HS;go_enter func11,ntmps11
  exact Ze
def zS(v h v' h':Int)(A A2:an)(cap z:Nat)(xs ys:aE)(w:aa)(E:aX w A xs)(F:aX w A2 ys)(O:xs.length<=maxLen)(Q:ys.length<=maxLen)(I:∀r∈xs,r.length<=maxLen)(J:∀r∈ys,r.length<=maxLen):aw 14 (kg (ae v h A xs cap) (ae v' h' A2 ys z)) w (fC w (AJ v h xs v' h' ys)):=by
 have hB:Below w w ((w.alloc (.cells (ae v h A xs cap) 38)).alloc (.cells (ae v' h' A2 ys z) 38)):=((aj w w).alloc RS _).alloc RS _;have HS:=zH (fun V (H:ai w V)=>sY A A2 cap z xs ys V (E.ext H) (F.ext H) O Q I J);have q1:=(b_ (w.alloc (.cells (ae v h A xs cap) 38)) (.cells (ae v' h' A2 ys z) 38) (k:=w.heap.size) RS).trans (az w _ rfl);have q2:=az (w.alloc (.cells (ae v h A xs cap) 38)) (.cells (ae v' h' A2 ys z) 38) (n:=(w:Nat)+1) RS;clear E F O Q I J;unfold AJ;by_cases h1:v=v'
 .subst h1;by_cases h2:h=h'
  .subst h2;obtain⟨R,D⟩:=aO (decide (xs=ys));rw[show(decide (v=v)&&(decide (h=h)&&decide (xs=ys)))=R by rw[D];simp];rw[<-D]at HS;clear D;go_enter func14,ntmps14
   exact Zt
  .have Y:(h==h')=false:=SG;rw[show(decide (v=v)&&(decide (h=h')&&decide (xs=ys)))=false by simp[h2]];clear HS;go_enter func14,ntmps14
   exact Zf
 .have U:(v==v')=false:=SN;rw[show(decide (v=v')&&(decide (h=h')&&decide (xs=ys)))=false by simp[h1]];clear HS;go_enter func14,ntmps14
  exact Ze
def zgp(A A2:an)(n c n2 c2:Nat)(w:aa):aw 5 #[.slice A n c,.slice A2 n2 c2] w fun e w'=>∃y:Bool,e=.returned (.bool y)/\(y=false->n<=1048576/\n2<=1048576)/\w=w':=by
 by_cases D:1048576<n
 .have z:(1048576:Int)<n:=RU;go_enter func5,ntmps5
  go_wp2;go_ret
  exact⟨true,rfl,(fun h=>RZ),rfl⟩
 .have z:(n:Int)<=1048576:=RU;have F:IntKind.i64.wrap (1048576-(n:Int))=1048576-(n:Int):=SQ;have E:decide (1048576 < (n:Int))=false:=Sk;go_enter func5,ntmps5
  go_wp2;go_ret
  exact⟨_,rfl,(fun h=>by simp at h;omega),rfl⟩
end Go.Proofs.YtdpgblncijojiaaGreatDoor
