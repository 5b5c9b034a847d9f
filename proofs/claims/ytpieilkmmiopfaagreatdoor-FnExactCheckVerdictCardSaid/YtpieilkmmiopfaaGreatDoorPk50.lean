/- Parts of the walks. Conditions: as stated with each. -/
import Derived.Test.YtpieilkmmiopfaaGreatDoorPk42
import Derived.Test.YtpieilkmmiopfaaGreatDoorPk47
namespace Go.Proofs.YtpieilkmmiopfaaGreatDoor
open Go.RowKit Tryz
set_option linter.all false
set_option maxHeartbeats 8000000
set_option maxRecDepth 100000
variable{B J b d i k lo r:Nat}{P:jk}{Q:gZ}{T u u0 u1 v0 v1 v2 v3 v4 v5 v6 v7 v8 v9 z2:aG}{V w w':aa}{a:Act}{cs:gg}{o:h_}{ops:iI}{p:Int}{rows:aP}{t:dL}
abbrev xD(w:aa)(b:Nat)(v0 v1 v2 v3 v4 v5 v6 v7 v8 v9:aG):World:=(((((((((w.setCell ⟨b,0,none⟩ v0).setCell ⟨b,1,none⟩ v1).setCell ⟨b,2,none⟩ v2).setCell ⟨b,3,none⟩ v3).setCell ⟨b,4,none⟩ v4).setCell ⟨b,5,none⟩ v5).setCell ⟨b,6,none⟩ v6).setCell ⟨b,7,none⟩ v7).setCell ⟨b,8,none⟩ v8).setCell ⟨b,9,none⟩ v9
def vm{D F G H I J O U}(h:bA w b #[T,D,z2,F,G,H,I,J,O,U] t):(xD w b v0 v1 v2 v3 v4 v5 v6 v7 v8 v9).heap[b]?=some (.cells #[v0,v1,v2,v3,v4,v5,v6,v7,v8,v9] t (0,0)):=by
 have e0:=bE w b 0 _ _ v0 h;refine MF fun e1 e2 e3 e4 e5 e6 e7 e8 e9=>?_
 simpa[xD]using e9
def vn(D:Below B w w')(h:B<=b)v0 v1 v2 v3 v4 v5 v6 v7 v8 v9:Below B w (xD w' b v0 v1 v2 v3 v4 v5 v6 v7 v8 v9):=((((((((((D.setCell h _).setCell h _).setCell h _).setCell h _).setCell h _).setCell h _).setCell h _).setCell h _).setCell h _).setCell h _)
def tl(h:k≠b):(xD w b v0 v1 v2 v3 v4 v5 v6 v7 v8 v9).heap[k]?=w.heap[k]?:=(a_ _ _ _ _ h).t ((a_ _ _ _ _ h).t ((a_ _ _ _ _ h).t ((a_ _ _ _ _ h).t ((a_ _ _ _ _ h).t ((a_ _ _ _ _ h).t ((a_ _ _ _ _ h).t ((a_ _ _ _ _ h).t ((a_ _ _ _ _ h).t (a_ _ _ _ _ h)))))))))
def qn{p}(h:p.block≠b)(D:w.cell? p=some u):(xD w b v0 v1 v2 v3 v4 v5 v6 v7 v8 v9).cell? p=some u:=by rw[<-D];exact l6 (w:=w) (tl h)
def sF{D F G H I J O U}(h:bA w b #[T,D,z2,F,G,H,I,J,O,U] t):(af w b 0 T/\af w b 1 D/\af w b 2 z2/\af w b 3 F/\af w b 4 G/\af w b 5 H/\af w b 6 I/\af w b 7 J/\af w b 8 O/\af w b 9 U)/\w.frozen? ⟨b,0,none⟩=false/\w.frozen? ⟨b,1,none⟩=false/\w.frozen? ⟨b,2,none⟩=false/\w.frozen? ⟨b,3,none⟩=false/\w.frozen? ⟨b,4,none⟩=false/\w.frozen? ⟨b,5,none⟩=false/\w.frozen? ⟨b,6,none⟩=false/\w.frozen? ⟨b,7,none⟩=false/\w.frozen? ⟨b,8,none⟩=false/\w.frozen? ⟨b,9,none⟩=false:=⟨⟨aF h 0 rfl,aF h 1 rfl,aF h 2 rfl,aF h 3 rfl,aF h 4 rfl,aF h 5 rfl,aF h 6 rfl,aF h 7 rfl,aF h 8 rfl,aF h 9 rfl⟩,aK h 0,aK h 1,aK h 2,aK h 3,aK h 4,aK h 5,aK h 6,aK h 7,aK h 8,aK h 9⟩
def StG(p:Int)(L:List eE)(H ne I no l r m:Nat)(A1 D F G:ax)(h:aa):Prop:=∃t,jE (cJ L)=some t/\H=t.gr.w/\ne=t.gr.es.length/\I=t.gr.i.length/\no=t.gr.o.length/\l=(t.rel p).l/\r=(t.rel p).r/\m=(t.rel p).b.length/\jV h A1 D F t.gr/\bt h G (t.rel p).b
def zix(p:Int)(L:List eE)(w:aa)(e:Ending)(w':aa):Prop:=∃(H ne I no:Nat) (A1 h D:ax) (c1 c2 J:Nat) (S:Sy) (F:ax) (d l r:Nat) (R:ax) (m O:Nat),
 e=.returned (.tuple (ka (pN H A1 ne c1 h I c2 D no J S F d l r R m O) (qf p L)))/\
 (qf p L=true->∃t,jE (cJ L)=some t/\l=t.gr.i.length/\r=t.gr.o.length/\S=t.gr.N p)/\Fr w' w w' (fun G=>bt G F S.rows/\(qf p L=true->StG p L H ne I no l r m A1 h D R G))/\ag w w'
def ziy.ψ{t}{e}(F:ziy t w e w'):∃(H:Gr) (A1 h D:ax) (c1 c2 I:Nat),e=.returned (.tuple #[.agg (bj H A1 c1 h c2 D I),.bool t.pM])/\(t.pM=true->H=t.gr/\Fr w' w w' (fun O=>jV O A1 h D H))/\ag w w':=by
 rcases F with⟨G,rfl,J⟩|⟨G,A1,c1,h,c2,D,I,rfl,T,J⟩
 .exact⟨⟨0,[],[],[]⟩,none,none,none,0,0,0,by rw[G];rfl,fun F=>(by rw[G]at F;cases F),J⟩
 .exact⟨t.gr,A1,h,D,c1,c2,I,by rw[G],fun _=>⟨rfl,T⟩,J⟩
def StB(w:aa)(b:Nat)(v0 v1 v2 v3 u0 u1:aG)(l r:Nat)(rows F:aP)(P:j4)(V:aa):Prop:=∃(D:ax) (d:Nat) (R:ax) (G:Nat),bA V b #[v0,v1,v2,v3,u0,u1,.slice D rows d,.int .i64 (l:Nat),.int .i64 (r:Nat),.slice R F G] 69/\Fr V w V (fun h=>bt h D rows/\bt h R F/\P h)/\ag w V
def zmn{Y F h}{l U}{av a0 a1 a2 a3 a4 a5 a6}{G R}{I}{P}(ap:bA h b #[T,av,z2,a0,a1,a2,a3,a4,a5,a6] 69)(ah:Fr F lo F (fun D=>bt D G rows))(ac:ag F h)(a9:b<lo)(ao:(w:Nat)<=b)(ad:ag w h)(am:Fr Y J Y P)(ab:ag Y h)(ba:b<J)(an:Fr h F h (fun D=>cS D R I))(bb:b < (F:Nat)):StB w b v0 v1 v2 v3 u0 u1 l r rows I P (xD h b v0 v1 v2 v3 u0 u1 (.slice G rows d) (zI (l:Nat)) (zI (r:Nat)) (.slice R I U)):=by
 have bc:(xD h b v0 v1 v2 v3 u0 u1 (.slice G rows d) (zI (l:Nat)) (zI (r:Nat)) (.slice R I U):Nat)=h:=by simp[xD]
 have a8:=ac.size;have a7:=ab.size;exact⟨G,d,R,U,vm ap,fun D O=>⟨ah D fun k Z H=>(O k Qu Qu).t ((tl Qu).t (ac.block k H)),(an D fun k Z H=>(O k Qu Qu).t (tl Qu)).at,am D fun k Z H=>(O k Qu Qu).t ((tl Qu).t (ab.block k H))⟩,vn ad ao ..⟩
def zak p L A ε w(ck:dZ w)(bn:bR 3 jK w A L)(cp:L.length<=1048576):az 53 (gj p (aV A L ε)) w (zix p L w):=by
 have a8:=((al w w).alloc (ae _) (.cells (aV A L ε) 35)).alloc Qt (.cells Ae 69);have O:=(bO (w.alloc (.cells (aV A L ε) 35)) (.cells Ae 69) (k:=w.heap.size) Qt).t (aH w _ rfl);have ab:=aH (w.alloc (.cells (aV A L ε) 35)) (.cells Ae 69) (n:=(w:Nat)+1) Qt;have⟨a5,bd⟩:=bJ (fun V (G:ag w V)=>FN p L A ε V (ck.ext G) (bQ bn G) cp) (fun V (G:ag w V)=>bQ bn G);have⟨l,bv⟩:=aR L.length;have ce:=zH bv;rw[<-bv]at a8 O ab a5 ⊢;clear bn bv cp ck;go_enter func53,ntmps53
 go_upto_region 1 with(fail)
 generalize ((w.alloc _).alloc _)=W at a8 O ab ⊢;have a1:=aF O 0 rfl;have⟨a3,cR,b5⟩:=er a8 O ab;clear a8 O ab;cases Z:Cg p L
 .obtain⟨HT,dr⟩:=bJ (by unfold qf;rw[Z];rfl:qf p L=false) (Calls.bl (a5 W a3) Z);clear Z;go_upto_region 2 with(go_at_call 84;(with_reducible refine dr.o.x ?_);rintro e cK ⟨rfl,D⟩;have HZ:=zH (ai b5 D);have FV:=zH (aT a3 D);clear D)
  exact ZS
 have dO:=zH (fun V (G:ag w V)=>Calls.bl (a5 V G) Z);have b1:=Z;unfold Cg zU at b1;simp only[bN]at b1;obtain⟨⟨bu,cB,cq⟩,cz⟩:=b1;have⟨t,c,ba,b0,br,d9,bz⟩:=v_ cB;obtain⟨cj,ci,dl,b9⟩:=gG ba (by unfold qf;rw[Z,DB ba];rfl:qf p L=t.pM) (fun V (G:ag w V)=>(by have:=zcZ L t c A ε V (bd V G) bz b0 br;rw[<-ce.o]at this;exact this:az 85 (cY (bZ A l ε)) V (ziy t V))) (fun V (G:ag w V)=>(by have:=ze9 p L t c A ε V bu (bd V G) bz b0 br cz cq;rw[<-ce.o]at this;exact this:az 87 (gj p (bZ A l ε)) V (lJ (t.rel p) V)));have dq:=zH (fun(ea:qf p L=true)=>by
  obtain⟨eg,cA,g⟩:=oc ea;rw[ba]at cA;cases cA
  exact g)
 have cb:=zH (cv bu);clear Z bu cB cq cz ba b0 br d9 bz a5 bd;go_upto_region 4 with(first|(go_at_call 84;(with_reducible refine(dO.o W a3.o).x ?_);rintro e cK ⟨rfl,D⟩;have eb:=ar D a1;have cV:=zH (ai cR D);have b6:=zH (ai b5 D);have FV:=zH (aT a3 D);clear D)|(go_at_call 85;(with_reducible refine(dl.o _ FV.o).x ?_);intro e ac h;have⟨F,H,I,J,T,U,Y,d8,co,D⟩:=ziy.ψ h;subst d8;have cW:=zH (ai cV D);have b7:=zH (ai b6 D);have c5:=zH (aT FV D);have cc:=zH co;clear D co h))
 clear a1 eb;have⟨am,b2⟩:=bM ac (.cells (bj F H T I U J Y) 54);generalize ac.alloc _=ao at am b2 ⊢;have⟨c0,bb,bc,b8,d0⟩:=pD (ai cW am) (ai b7 am) (aT c5 am) am b2;clear am b2;cases a0:t.pM
 .have⟨HT,HZ,FV⟩:=er (ci.t a0) bb.o bc.o;clear a0;exact ZS
 have HT:=zH (ci.t a0);obtain⟨a9,bi⟩:=cc a0;obtain⟨a4,db,dc,d4⟩:=gG (dq HT) (bi.D.ext b8) bi (show(w:Nat)+1<cK from(bk.1 b6).1);have⟨S,bp⟩:=aR (F.N p);obtain⟨d5,Mt,d3,ca⟩:=gG (fun V (G:ag ao V)=>(by have:=yJ p F H I J T U Y V cb.1 cb.2 (db.ext G) (by rw[a9];exact a4.ok) (by rw[a9];exact a4.val);rw[<-bp]at this;exact this:az 86 (gj p (bj F H T I U J Y)) V (Cx S V))) a9 bp (fun V (G:ag ao V)=>b9 V (aT bc G));have⟨R,bo⟩:=aR (t.rel p);rw[<-bo]at ca;have ad:=zH bo;clear a0 a9 bi bp bo b9 cc;have a1:=aF c0.o 0 rfl;have⟨O,ab,cF,cI⟩:=aB d0;have bg:=aQ a1 (aQ O (aQ ab (aQ cF cI)));obtain⟨ch,d6⟩:=bJ (show(w:Nat)+1<ao from(bk.1 bb).1) (Qu:(w:Nat)<=w+1);go_upto_region 6 with(fail)
 obtain⟨dT,a6⟩:=bJ (Qu:w.heap.size≠(w:Nat)+1) (show ac.heap.size≠(w:Nat)+1 by have:=(bk.1 b7).1;omega);clear a1 O ab cF cI;go_cut [5] from 8 (fun ee V=>ee=.bool true/\StB w ((w:Nat)+1) (zI (F.w:Nat)) (.slice H F.es T) (.slice I F.i U) (.slice J F.o Y) (zI S.v) (zI S.h) R.l R.r S.rows R.b (fun av=>jV av H I J F) V)
 case first=>
  go_region_held3 (fun V=>af V w 0 (.slice A l ε)/\af V ac 0 (zI (F.w:Nat))/\af V ac 1 (.slice H F.es T)/\af V ac 2 (.slice I F.i U)/\af V ac 3 (.slice J F.o Y))
   ((first|((with_reducible refine kU (w:=ao) ?_ bg);first|with_reducible exact aC _|with_reducible exact a7.o|with_reducible exact ap.o)|with_reducible exact⟨qn dT.o ah.1,qn a6.o ah.2.1,qn a6.o ah.2.2.1,qn a6.o ah.2.2.2.1,qn a6.o ah.2.2.2.2⟩))
   ((first
    |(go_at_call 87;(with_reducible refine(ca.o _ a7.o).x ?_);intro e cO h;unfold lJ at h;obtain⟨be,b3,bh,cu,D⟩:=h;subst bh;have d2:=zH (show Fr cO b4 cO _ from cu);have c4:=zH D;have ap:=zH (aT a7 D);have ah:=kU ap bg;have an:=ai bb ap;have d7:=zH an;have⟨⟨r0,r1,r2,r3,r4,r5,r6,r7,r8,r9⟩,f0,f1,f2,f3,f4,f5,f6,f7,f8,f9⟩:=sF an;have c8:=zH (aT bc ap);clear an D cu)
    |(go_at_call 86;(with_reducible refine(d5.o _ (aC _)).x ?_);intro e b4 h;unfold Cx at h;obtain⟨a2,d,bh,cn,D⟩:=h;subst bh;have a7:=zH ((aC ao).t D);have c9:=zH (show Fr b4 ao b4 (fun av=>bt av a2 S.rows) from cn.E fun av h=>h.at);clear cn D)))
  all_goals clear ah
  all_goals go_wp2_with fail
  all_goals
   go_meet
   have⟨c3,c6⟩:=bJ (aT b8 ap) (gm ch a7.size);with_reducible exact⟨rfl,zmn d7.o c9.o c4.o ch.o d6.o c8.o dc.o c3.o d4.o d2.o c6.o⟩
 case rest=>
  obtain⟨rfl,cr⟩:=hcut;unfold StB at cr;obtain⟨a2,d,be,b3,an,ct,D⟩:=cr;obtain⟨⟨u0,u1,u2,u3,u4,u5,u6,u7,u8,u9⟩,-⟩:=sF an;have⟨d1,c7⟩:=bJ ct D;clear an ct D bg;go_wp2;refine aI (v:=.tuple #[.agg #[(F.w:Nat),.slice H F.es T,.slice I F.i U,.slice J F.o Y,S.v,S.h,.slice a2 S.rows d,(R.l:Nat),(R.r:Nat),.slice be R.b b3],.bool true]) (by simp[results,results53,go_sem, *]) rfl ?_;refine⟨F.w,_,_,_,H,I,J,T,U,Y,S,a2,d,R.l,R.r,be,R.b,b3,by rw[HT.o],fun _=>⟨t,cj,by rw[ad.o];exact a4.Z.1,by rw[ad.o];exact a4.Z.2,by rw[d3.o,Mt.o]⟩,d1.E fun av bq=>⟨bq.1,fun _=>⟨t,cj,QS,QS,QS,QS,by rw[ad.o],by rw[ad.o],by rw[ad.o],by rw[<-Mt.o];exact bq.2.2,by rw[<-ad.o];exact bq.2.1⟩⟩,c7⟩
def zlB(p:Int)(D F:List eE)(w:aa)(e:Ending)(w':aa):Prop:=∃(Z ab ap av a0 d1 d2 d3 ac ad ah f1 f2 f3 am an a1 a2 ao a3 a6 a7 a4 a5:Nat) (G1 H I J O T U Y G E:ax) (S h:Sy),
 e=.returned (.tuple (ka (lR p Z G1 ap d1 H av d2 I a0 d3 S.v S.h G S.rows a4 am a1 U ao a6 ab J ac f1 O ad f2 T ah f3 h.v h.h E h.rows a5 an a2 Y a3 a7) (mN p D F)))/\ag w w'/\(mN p D F=true->S=jM p D/\h=jM p F/\bt w' G S.rows/\bt w' E h.rows/\StG p D Z ap av a0 am a1 ao G1 H I U w'/\StG p F ab ac ad ah an a2 a3 J O T Y w')
def zk4{D F}(h:mN p D F=true):qf p D=true:=by unfold mN at h;simp only[bN]at h;exact h.1
def zk5{F D}(h:mN p F D=true):qf p D=true:=by unfold mN at h;simp only[bN]at h;exact h.2.1
def su{h}ty x(G:o.op=.load ty x)g(I:h x=.pointer (bH g))t cs fr d(F:w.heap[g]?=some (.cells cs t fr))(H:P.underlying ty=some d)(D:(match d with|.struct _|.array _ _=>true|_=>false)=true)(hi:(P.info? ty).map (·.size)=some cs.size):(execOp h o).run P w=.ok (.value (.agg cs)) w:=by unfold execOp;simp only[G,I,Instr.loadAt,Instr.sureAddr,Sem.run_bind,Sem.run_pure,Dc,run_loadVar_row w g t ty cs fr d F H D hi]
def Θ{fn:Func}{p q:Tmp}{ty:dL}(h:fn.results=#[.cell p ty,.tmp q])(tmps:gg)(w:aa)(g:Nat)(t:dL)(cs:gg)(fr:g_)(d:TypeDesc)(v:aG)(G:tmps.getD p undef=.pointer (bH g))(I:tmps.getD q undef=v)(F:w.heap[g]?=some (.cells cs t fr))(O:P.underlying ty=some d)(D:(match d with|.struct _|.array _ _=>true|_=>false)=true)(hi:(P.info? ty).map (·.size)=some cs.size):(results fn tmps).run P w=.ok (.tuple #[.agg cs,v]) w:=by
 have H:tmps[p]?.getD undef=.pointer (bH g):=by simpa using G
 have J:tmps[q]?.getD undef=v:=by simpa using I
 simp[results,h,H,J,asAddr,run_loadVar_row w g t ty cs fr d F O D hi]
def ω{g}(h:Below B w V)(F:B<=g):Below B w (V.setRow g cs):=⟨h.os,h.tape,h.output,by have:=h.size;simpa[World.setRow]using this,fun k D=>(uM _ _ _ _ Qu).t (h.block k D)⟩
def zi3{G}{S}{F}(hr:Region.ready G ops F=[i])(ho:ops.toList[i]?=some o)(I:∀h:pt,Shut (∀a w,S w->(S w->wpAnyH P G ops Q S J (F.setIfInBounds i true) a w)->h a w)->if Region.wanted o (yielded ops a.tmps)=true then Oper.wp P o a w h Q else h (a.put o.dst undef) w):wpAnyH P G ops Q S (J+1) F a w:=by refine⟨fun h0=>Tc,fun j D=>?_⟩;rw[hr]at D;simp only[et,gJ,gX]at D;subst D;exact wpOp_step Sk (fun h hK=>I h (fun a w H O=>hK a w ⟨H,O H⟩))
def zk6{G}{S}{F}(D:Region.ready G ops F=[])(h:Q .normal a w):∀H,wpAnyH P G ops Q S H F a w
 |0=>⟨D,h⟩
 |_+1=>⟨fun _=>h,by rw[D];simp⟩
def zfW p La Lb A B b1 b2 w(b9:dZ w)(cK:bR 3 jK w A La)(hB:bR 3 jK w B Lb)(cO:La.length<=1048576)(cR:Lb.length<=1048576):az 29 (j9 p (aV A La b1) (aV B Lb b2)) w (zlB p La Lb w):=by
 have⟨cz,cA⟩:=bJ (fun V (br:ag w V)=>zak p La A b1 V (b9.ext br) (bQ cK br) cO) (fun V (br:ag w V)=>zak p Lb B b2 V (b9.ext br) (bQ hB br) cR);refine Mg fun la Hq lb Hs=>?_
 rw[<-Hq]at cz ⊢;rw[<-Hs]at cA ⊢;clear cK hB cO cR Hq Hs b9;have hB:=ζ w (.cells (bZ A la b1) 35) (.cells (bZ B lb b2) 35) (.cells rF 71);have⟨q0,q1,q2⟩:=cD w (.cells (bZ A la b1) 35) (.cells (bZ B lb b2) 35) (.cells rF 71);go_enter func29,ntmps29
 go_upto_region 1 with(fail)
 generalize (((w.alloc _).alloc _).alloc _)=W at hB q0 q1 q2 ⊢;have x0:=aF q0 0 rfl
 obtain⟨ci,c0,bz,cu⟩:=gG hB q1 q2 (show(w:Nat)+1+1<W from(bk.1 q2).1);clear hB q0 q1 q2;go_upto_region 2 with(go_at_call 53;(with_reducible refine(cz.o W ci.o).x ?_);intro e bo a2;unfold zix at a2;obtain⟨a1,a8,a9,ba,G1,Z,ab,d1,d2,d3,S,Y,ao,I,O,am,a7,av,b7,bv,bu,bd⟩:=a2;subst b7;have b3:=zH bv;have c9:=zH bu;have cj:=zH bd;clear bd bu bv)
 clear x0;have⟨bc,ca⟩:=bM bo (.cells (pN a1 G1 a8 d1 Z a9 d2 ab ba d3 S Y ao I O am a7 av) 69);generalize bo.alloc _=cI at bc ca ⊢;have bi:=zH (aT cj bc);have⟨cB,db,Mu,cn⟩:=gG (aT ci bi) (c9.ext bc (ae _)) bc ca;have em:=aF (ai c0 bi) 0 rfl;clear bc ca;go_upto_region 3 with(go_at_call 53;(with_reducible refine(cA.o cI cB.o).x ?_);intro e bp a2;unfold zix at a2;obtain⟨a3,a4,a5,a6,ac,ad,ah,f1,f2,f3,G,E,ap,J,T,an,bb,a0,b7,bv,bu,bd⟩:=a2;subst b7;have b4:=zH bv;have dc:=zH bu;have ck:=zH bd;clear bd bu bv)
 clear em;have⟨bc,cb⟩:=bM bp (.cells (pN a3 ac a4 f1 ad a5 f2 ah a6 f3 G E ap J T an bb a0) 69);generalize bp.alloc _=be at bc cb ⊢;have⟨b5,c3,ct⟩:=er (aT ck bc) bc cb;clear bc cb;go_upto_region 3 with(fail)
 refine wp_region_lit ?_;refine l7 rfl (fun K hK=>?_);go_simp;refine hK _ _ ?_;clear hK K;refine Df rfl 69 _ rfl bo rfl 69 (pN a1 G1 a8 d1 Z a9 d2 ab ba d3 S Y ao I O am a7 av) (0,0) _ (ai cn b5) underlying69 rfl QT ?_;refine Df rfl 69 _ rfl bp rfl 69 (pN a3 ac a4 f1 ad a5 f2 ah a6 f3 G E ap J T an bb a0) (0,0) _ ct underlying69 rfl QT ?_;refine wpList_buildTo rfl 71 _ rfl _ rfl #[.int .i64 p,.int .i64 (a1:Nat),.slice G1 a8 d1,.slice Z a9 d2,.slice ab ba d3,.int .i64 S.v,.int .i64 S.h,.slice Y S.rows ao,.int .i64 (I:Nat),.int .i64 (O:Nat),.slice am a7 av,.int .i64 (a3:Nat),.slice ac a4 f1,.slice ad a5 f2,.slice ah a6 f3,.int .i64 G.v,.int .i64 G.h,.slice E G.rows ap,.int .i64 (J:Nat),.int .i64 (T:Nat),.slice an bb a0] QT ?_;refine l7 rfl (fun K hK=>?_);go_simp;refine hK _ _ ?_;clear hK K;refine wpList_store_rowTo rfl 71 _ _ rfl rfl be #[.int .i64 p,.int .i64 (a1:Nat),.slice G1 a8 d1,.slice Z a9 d2,.slice ab ba d3,.int .i64 S.v,.int .i64 S.h,.slice Y S.rows ao,.int .i64 (I:Nat),.int .i64 (O:Nat),.slice am a7 av,.int .i64 (a3:Nat),.slice ac a4 f1,.slice ad a5 f2,.slice ah a6 f3,.int .i64 G.v,.int .i64 G.h,.slice E G.rows ap,.int .i64 (J:Nat),.int .i64 (T:Nat),.slice an bb a0] rfl rfl 71 rF (aH be _ rfl) QT rfl QT ?_;have bc:=ω (g:=be.heap.size) (cs:=#[.int .i64 p,.int .i64 (a1:Nat),.slice G1 a8 d1,.slice Z a9 d2,.slice ab ba d3,.int .i64 S.v,.int .i64 S.h,.slice Y S.rows ao,.int .i64 (I:Nat),.int .i64 (O:Nat),.slice am a7 av,.int .i64 (a3:Nat),.slice ac a4 f1,.slice ad a5 f2,.slice ah a6 f3,.int .i64 G.v,.int .i64 G.h,.slice E G.rows ap,.int .i64 (J:Nat),.int .i64 (T:Nat),.slice an bb a0]) (aw be (.cells rF 71)) (ae _);have cc:=AI (be.alloc (.cells rF 71)) be _ #[.int .i64 p,.int .i64 (a1:Nat),.slice G1 a8 d1,.slice Z a9 d2,.slice ab ba d3,.int .i64 S.v,.int .i64 S.h,.slice Y S.rows ao,.int .i64 (I:Nat),.int .i64 (O:Nat),.slice am a7 av,.int .i64 (a3:Nat),.slice ac a4 f1,.slice ad a5 f2,.slice ah a6 f3,.int .i64 G.v,.int .i64 G.h,.slice E G.rows ap,.int .i64 (J:Nat),.int .i64 (T:Nat),.slice an bb a0] _ _ (aH be _ rfl);generalize (be.alloc _).setRow be _=bn at bc cc ⊢;go_upto_region 4 with(fail)
 have b0:=zH (aT b5 bc);have⟨d7,dl,dq,c4⟩:=gG (aT cB b0) ((db.ext b0 TA).x (ae _) (ae _)) (dc.ext (aT c3 bc) (ae _)) (ai (ai bz bi) b0);have co:=ai cn b0;have cp:=ai ct bc;obtain⟨dr,dO,dT⟩:=er (show bo.heap.size≠(w:Nat)+1+1 by have:=(bk.1 (ai bz cj)).1;omega) (show bp.heap.size≠(w:Nat)+1+1 by have:=(bk.1 (ai bz (aT bi ck))).1;omega) (show be.heap.size≠(w:Nat)+1+1 by have:=(bk.1 (ai bz (aT bi b5))).1;omega);have d6:=zH (show mN p La Lb=(qf p La&&(qf p Lb&&(decide (I=J)&&decide (O=T)))) from by
  unfold mN;cases bh:qf p La
  .rfl
  cases bd:qf p Lb
  .rfl
  obtain⟨t,bg,eb,ee,-⟩:=b3 bh;obtain⟨ez,ek,eg,ei,-⟩:=b4 bd;unfold tyB;rw[bg,ek,eb,ee,eg,ei])
 obtain⟨d0,d4,c5,c6,c7⟩:=pD (fun(a2:mN p La Lb=true)=>(show S=jM p La from by unfold mN at a2;simp only[bN]at a2;obtain⟨t,bg,-,-,g⟩:=b3 a2.1;rw[g,sG bg])) (fun(a2:mN p La Lb=true)=>(show G=jM p Lb from by unfold mN at a2;simp only[bN]at a2;obtain⟨t,bg,-,-,g⟩:=b4 a2.2.1;rw[g,sG bg])) (show(w:Nat)+1+1<W from cu.o) (show(w:Nat)+1+1<cI from gm cu bi.size) (Qu:(w:Nat)<=w+1+1);have cF:=aQ cc (aQ co cp);obtain⟨ch,d8⟩:=bJ (show bn.drew.heap[(w:Nat)+1+1]?=_ from c4.o) d7.drew;clear bc cc b3 b4 co cp;obtain⟨x,eo,es,cV⟩:∃x:Bool,decide ((I:Int)=(J:Int))=x/\((I:Int)==(J:Int))=x/\decide (I=J)=x:=⟨decide (I=J),AJ.2 Qu,(by rw[jQ,pT,cf];omega),rfl⟩;obtain⟨y,ev,ey,cW⟩:∃x:Bool,decide ((O:Int)=(T:Int))=x/\((O:Int)==(T:Int))=x/\decide (O=T)=x:=⟨decide (O=T),AJ.2 Qu,(by rw[jQ,pT,cf];omega),rfl⟩;have ej:(qf p La=false/\mN p La Lb=false)∨(qf p La=true/\qf p Lb=false/\mN p La Lb=false)∨(qf p La=true/\qf p Lb=true/\x=false/\mN p La Lb=false)∨(qf p La=true/\qf p Lb=true/\x=true/\y=false/\mN p La Lb=false)∨(qf p La=true/\qf p Lb=true/\x=true/\y=true/\mN p La Lb=true):=by rw[d6.o,cV,cW];cases qf p La<;>cases qf p Lb<;>cases x<;>cases y<;>simp
 rcases ej with⟨bh,bg⟩|⟨bh,bd,bg⟩|⟨bh,bd,rfl,bg⟩|⟨bh,bd,rfl,rfl,bg⟩|⟨bh,bd,rfl,rfl,bg⟩
 all_goals
  have d5:=zH bg
  (try rw[bh]);(try rw[bd])
  clear bg;have bq:(fun V:World=>bA V be (lR p a1 G1 a8 d1 Z a9 d2 ab ba d3 S.v S.h Y S.rows ao I O am a7 av a3 ac a4 f1 ad a5 f2 ah a6 f3 G.v G.h E G.rows ap J T an bb a0) 71/\bA V bo (pN a1 G1 a8 d1 Z a9 d2 ab ba d3 S Y ao I O am a7 av) 69/\bA V bp (pN a3 ac a4 f1 ad a5 f2 ah a6 f3 G E ap J T an bb a0) 69) bn.drew:=cF;refine C8 (S:=fun V=>bA V be (lR p a1 G1 a8 d1 Z a9 d2 ab ba d3 S.v S.h Y S.rows ao I O am a7 av a3 ac a4 f1 ad a5 f2 ah a6 f3 G.v G.h E G.rows ap J T an bb a0) 71/\bA V bo (pN a1 G1 a8 d1 Z a9 d2 ab ba d3 S Y ao I O am a7 av) 69/\bA V bp (pN a3 ac a4 f1 ad a5 f2 ah a6 f3 G E ap J T an bb a0) 69) QT bq (fun hHeld=>?_);first
   |(refine ef 0 (v:=undef) rfl (au ⟨Qs,rfl⟩) ?_)
   |(refine ef 0 rfl (ay ⟨Qs,fun U H=>su 71 _ rfl be rfl 71 (lR p a1 G1 a8 d1 Z a9 d2 ab ba d3 S.v S.h Y S.rows ao I O am a7 av a3 ac a4 f1 ad a5 f2 ah a6 f3 G.v G.h E G.rows ap J T an bb a0) (0,0) _ H.1 uL rfl QT⟩) ?_)
  simp only[Act.put,zA];first
   |(refine ef 1 (v:=undef) rfl (au ⟨Qs,rfl⟩) ?_)
   |(refine ef 1 (v:=?_) rfl (ay ⟨Qs,?_⟩) ?_;rotate_left;(focus (intro U H;obtain⟨D,h,F⟩:=H;(try dsimp only at D h F);go_simp;(try with_reducible rfl))))
  simp only[Act.put,zA];first
   |(refine ef 2 (v:=undef) rfl (au ⟨Qs,rfl⟩) ?_)
   |(refine ef 2 (v:=?_) rfl (ay ⟨Qs,?_⟩) ?_;rotate_left;(focus (intro U H;obtain⟨D,h,F⟩:=H;(try dsimp only at D h F);go_simp;(try with_reducible rfl))))
  simp only[Act.put,zA];first
   |(refine ef 3 (v:=undef) rfl (au ⟨Qs,rfl⟩) ?_)
   |(refine ef 3 (v:=?_) rfl (ay ⟨Qs,?_⟩) ?_;rotate_left;(focus (intro U H;obtain⟨D,h,F⟩:=H;(try dsimp only at D h F);go_simp;(try with_reducible rfl))))
  simp only[Act.put,zA];first
   |(refine ef 4 (v:=undef) rfl (au ⟨Qs,rfl⟩) ?_)
   |(refine ef 4 (v:=?_) rfl (ay ⟨Qs,?_⟩) ?_;rotate_left;(focus (intro U H;obtain⟨D,h,F⟩:=H;(try dsimp only at D h F);go_simp;(try with_reducible rfl))))
  simp only[Act.put,zA];first
   |(refine ef 5 (v:=undef) rfl (au ⟨Qs,rfl⟩) ?_)
   |(refine ef 5 (v:=?_) rfl (ay ⟨Qs,?_⟩) ?_;rotate_left;(focus (intro U H;obtain⟨D,h,F⟩:=H;(try dsimp only at D h F);go_simp;(try with_reducible rfl))))
  simp only[Act.put,zA];first
   |(refine ef 6 (v:=undef) rfl (au ⟨Qs,rfl⟩) ?_)
   |(refine ef 6 (v:=?_) rfl (ay ⟨Qs,?_⟩) ?_;rotate_left;(focus (intro U H;obtain⟨D,h,F⟩:=H;(try dsimp only at D h F);go_simp;(try with_reducible rfl))))
  simp only[Act.put,zA];first
   |(refine ef 7 (v:=undef) rfl (au ⟨Qs,rfl⟩) ?_)
   |(refine ef 7 (v:=?_) rfl (ay ⟨Qs,?_⟩) ?_;rotate_left;(focus (intro U H;obtain⟨D,h,F⟩:=H;(try dsimp only at D h F);go_simp;(try with_reducible rfl))))
  simp only[Act.put,zA];first
   |(refine ef 8 (v:=undef) rfl (au ⟨Qs,rfl⟩) ?_)
   |(refine ef 8 (v:=?_) rfl (ay ⟨Qs,?_⟩) ?_;rotate_left;(focus (intro U H;obtain⟨D,h,F⟩:=H;(try dsimp only at D h F);have b8:=aF h 7 rfl;go_simp;(try with_reducible rfl))))
  simp only[Act.put,zA];first
   |(refine ef 9 (v:=undef) rfl (au ⟨Qs,rfl⟩) ?_)
   |(refine ef 9 (v:=?_) rfl (ay ⟨Qs,?_⟩) ?_;rotate_left;(focus (intro U H;obtain⟨D,h,F⟩:=H;(try dsimp only at D h F);go_simp;(try with_reducible rfl))))
  simp only[Act.put,zA];first
   |(refine ef 10 (v:=undef) rfl (au ⟨Qs,rfl⟩) ?_)
   |(refine ef 10 (v:=?_) rfl (ay ⟨Qs,?_⟩) ?_;rotate_left;(focus (intro U H;obtain⟨D,h,F⟩:=H;(try dsimp only at D h F);go_simp;(try with_reducible rfl))))
  simp only[Act.put,zA];first
   |(refine ef 11 (v:=undef) rfl (au ⟨Qs,rfl⟩) ?_)
   |(refine ef 11 (v:=?_) rfl (ay ⟨Qs,?_⟩) ?_;rotate_left;(focus (intro U H;obtain⟨D,h,F⟩:=H;(try dsimp only at D h F);have b8:=aF F 7 rfl;go_simp;(try with_reducible rfl))))
  simp only[Act.put,zA];first
   |(refine ef 12 (v:=undef) rfl (au ⟨Qs,rfl⟩) ?_)
   |(refine ef 12 (v:=?_) rfl (ay ⟨Qs,?_⟩) ?_;rotate_left;(focus (intro U H;obtain⟨D,h,F⟩:=H;(try dsimp only at D h F);clear D h F;go_simp;(try with_reducible rfl))))
  simp only[Act.put,zA];first
   |(refine ef 13 (v:=undef) rfl (au ⟨Qs,rfl⟩) ?_)
   |(refine ef 13 (v:=?_) rfl (ay ⟨Qs,?_⟩) ?_;rotate_left;(focus (intro U H;obtain⟨D,h,F⟩:=H;(try dsimp only at D h F);go_simp;(try with_reducible rfl))))
  simp only[Act.put,zA];first
   |(refine ef 14 (v:=undef) rfl (au ⟨Qs,rfl⟩) ?_)
   |(refine ef 14 (v:=?_) rfl (ay ⟨Qs,?_⟩) ?_;rotate_left;(focus (intro U H;obtain⟨D,h,F⟩:=H;(try dsimp only at D h F);go_simp;(try with_reducible rfl))))
  simp only[Act.put,zA];first
   |(refine ef 15 (v:=undef) rfl (au ⟨Qs,rfl⟩) ?_)
   |(refine ef 15 (v:=?_) rfl (ay ⟨Qs,?_⟩) ?_;rotate_left;(focus (intro U H;obtain⟨D,h,F⟩:=H;(try dsimp only at D h F);go_simp;(try with_reducible rfl))))
  simp only[Act.put,zA];first
   |(refine ef 16 (v:=undef) rfl (au ⟨Qs,rfl⟩) ?_)
   |(refine ef 16 (v:=?_) rfl (ay ⟨Qs,?_⟩) ?_;rotate_left;(focus (intro U H;obtain⟨D,h,F⟩:=H;(try dsimp only at D h F);go_simp;(try with_reducible rfl))))
  simp only[Act.put,zA];first
   |(refine ef 17 (v:=undef) rfl (au ⟨Qs,rfl⟩) ?_)
   |(refine ef 17 (v:=?_) rfl (ay ⟨Qs,?_⟩) ?_;rotate_left;(focus (intro U H;obtain⟨D,h,F⟩:=H;(try dsimp only at D h F);have b8:=aF h 8 rfl;go_simp;(try with_reducible rfl))))
  simp only[Act.put,zA];first
   |(refine ef 18 (v:=undef) rfl (au ⟨Qs,rfl⟩) ?_)
   |(refine ef 18 (v:=?_) rfl (ay ⟨Qs,?_⟩) ?_;rotate_left;(focus (intro U H;obtain⟨D,h,F⟩:=H;(try dsimp only at D h F);go_simp;(try with_reducible rfl))))
  simp only[Act.put,zA];first
   |(refine ef 19 (v:=undef) rfl (au ⟨Qs,rfl⟩) ?_)
   |(refine ef 19 (v:=?_) rfl (ay ⟨Qs,?_⟩) ?_;rotate_left;(focus (intro U H;obtain⟨D,h,F⟩:=H;(try dsimp only at D h F);go_simp;(try with_reducible rfl))))
  simp only[Act.put,zA];first
   |(refine ef 20 (v:=undef) rfl (au ⟨Qs,rfl⟩) ?_)
   |(refine ef 20 (v:=?_) rfl (ay ⟨Qs,?_⟩) ?_;rotate_left;(focus (intro U H;obtain⟨D,h,F⟩:=H;(try dsimp only at D h F);have b8:=aF F 8 rfl;go_simp;(try with_reducible rfl))))
  simp only[Act.put,zA];first
   |(refine ef 21 (v:=undef) rfl (au ⟨Qs,rfl⟩) ?_)
   |(refine ef 21 (v:=?_) rfl (ay ⟨Qs,?_⟩) ?_;rotate_left;(focus (intro U H;obtain⟨D,h,F⟩:=H;(try dsimp only at D h F);clear D h F;go_simp;(try with_reducible rfl))))
  simp only[Act.put,zA];first
   |(refine ef 22 (v:=undef) rfl (au ⟨Qs,rfl⟩) ?_)
   |(refine ef 22 (v:=?_) rfl (ay ⟨Qs,?_⟩) ?_;rotate_left;(focus (intro U H;obtain⟨D,h,F⟩:=H;(try dsimp only at D h F);go_simp;(try with_reducible rfl))))
  simp only[Act.put,zA];refine zi3 (i:=23) QT rfl (fun K hK=>?_);rw[ak Qs];refine wp_store_row 71 _ _ rfl ((w:Nat)+1+1) #[.int .i64 p,.int .i64 (a1:Nat),.slice G1 a8 d1,.slice Z a9 d2,.slice ab ba d3,.int .i64 S.v,.int .i64 S.h,.slice Y S.rows ao,.int .i64 (I:Nat),.int .i64 (O:Nat),.slice am a7 av,.int .i64 (a3:Nat),.slice ac a4 f1,.slice ad a5 f2,.slice ah a6 f3,.int .i64 G.v,.int .i64 G.h,.slice E G.rows ap,.int .i64 (J:Nat),.int .i64 (T:Nat),.slice an bb a0] rfl rfl 71 rF ch.o QT rfl QT ?_;refine hK.out _ _ ⟨(uM _ _ _ _ dT.o).t bq.1,(uM _ _ _ _ dr.o).t bq.2.1,(uM _ _ _ _ dO.o).t bq.2.2⟩ (fun b6=>?_);clear hK K;refine zi3 (i:=24) QT rfl (fun K hK=>?_);go_simp;refine hK.out _ _ b6 (fun _=>?_);clear hK K;refine zk6 QT ?_ _;have ce:=AI bn.drew ((w:Nat)+1+1) _ #[.int .i64 p,.int .i64 (a1:Nat),.slice G1 a8 d1,.slice Z a9 d2,.slice ab ba d3,.int .i64 S.v,.int .i64 S.h,.slice Y S.rows ao,.int .i64 (I:Nat),.int .i64 (O:Nat),.slice am a7 av,.int .i64 (a3:Nat),.slice ac a4 f1,.slice ad a5 f2,.slice ah a6 f3,.int .i64 G.v,.int .i64 G.h,.slice E G.rows ap,.int .i64 (J:Nat),.int .i64 (T:Nat),.slice an bb a0] _ _ ch.o;have D:=dl (bn.drew.setRow ((w:Nat)+1+1) #[.int .i64 p,.int .i64 (a1:Nat),.slice G1 a8 d1,.slice Z a9 d2,.slice ab ba d3,.int .i64 S.v,.int .i64 S.h,.slice Y S.rows ao,.int .i64 (I:Nat),.int .i64 (O:Nat),.slice am a7 av,.int .i64 (a3:Nat),.slice ac a4 f1,.slice ad a5 f2,.slice ah a6 f3,.int .i64 G.v,.int .i64 G.h,.slice E G.rows ap,.int .i64 (J:Nat),.int .i64 (T:Nat),.slice an bb a0]) fun k a b=>uM _ _ _ _ (by have:=c5.o;omega)
  have h:=dq (bn.drew.setRow ((w:Nat)+1+1) #[.int .i64 p,.int .i64 (a1:Nat),.slice G1 a8 d1,.slice Z a9 d2,.slice ab ba d3,.int .i64 S.v,.int .i64 S.h,.slice Y S.rows ao,.int .i64 (I:Nat),.int .i64 (O:Nat),.slice am a7 av,.int .i64 (a3:Nat),.slice ac a4 f1,.slice ad a5 f2,.slice ah a6 f3,.int .i64 G.v,.int .i64 G.h,.slice E G.rows ap,.int .i64 (J:Nat),.int .i64 (T:Nat),.slice an bb a0]) fun k a b=>uM _ _ _ _ (by have:=c6.o;omega)
  have bd:=ω (g:=(w:Nat)+1+1) (cs:=#[.int .i64 p,.int .i64 (a1:Nat),.slice G1 a8 d1,.slice Z a9 d2,.slice ab ba d3,.int .i64 S.v,.int .i64 S.h,.slice Y S.rows ao,.int .i64 (I:Nat),.int .i64 (O:Nat),.slice am a7 av,.int .i64 (a3:Nat),.slice ac a4 f1,.slice ad a5 f2,.slice ah a6 f3,.int .i64 G.v,.int .i64 G.h,.slice E G.rows ap,.int .i64 (J:Nat),.int .i64 (T:Nat),.slice an bb a0]) d8 c7;generalize bn.drew.setRow ((w:Nat)+1+1) _=ea at ce D h bd b6 ⊢;have⟨d9,cq,cr,c8⟩:=gG ce D h bd;clear ce D h bd b6 bq cF;go_wp2;refine aI (Θ results29 _ ea ((w:Nat)+1+1) 71 (lR p a1 G1 a8 d1 Z a9 d2 ab ba d3 S.v S.h Y S.rows ao I O am a7 av a3 ac a4 f1 ad a5 f2 ah a6 f3 G.v G.h E G.rows ap J T an bb a0) (0,0) _ _ rfl rfl d9.o uL rfl QT) rfl ⟨a1,a3,a8,a9,ba,d1,d2,d3,a4,a5,a6,f1,f2,f3,I,J,O,T,a7,bb,av,a0,ao,ap,G1,Z,ab,ac,ad,ah,am,an,Y,E,S,G,by rw[d5.o];rfl,c8,fun a2=>⟨d0 a2,d4 a2,cq.1,cr.1,cq.2 (zk4 a2),cr.2 (zk5 a2)⟩⟩
end Go.Proofs.YtpieilkmmiopfaaGreatDoor
