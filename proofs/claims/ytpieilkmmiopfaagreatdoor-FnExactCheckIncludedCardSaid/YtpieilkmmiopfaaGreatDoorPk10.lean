/- Parts of the walks. Conditions: as stated with each. -/
import Derived.Test.YtpieilkmmiopfaaGreatDoorPk6
import Derived.Test.YtpieilkmmiopfaaGreatDoorPk7
import Derived.Test.YtpieilkmmiopfaaGreatDoorPk8
import Derived.Test.YtpieilkmmiopfaaGreatDoorPk9
namespace Go.Proofs.YtpieilkmmiopfaaGreatDoor
open Go.RowKit Tryz
set_option linter.all false
set_option maxHeartbeats 8000000
set_option maxRecDepth 100000
variable{A:ax}{B J b c2 hi k lo n s:Nat}{L:List eE}{Q:gZ}{R:Rl}{V w w':aa}{a:Act}{cs:gg}{g:Gr}{o:h_}{ops:iI}{p:Int}{rest:List Oper}{rows:aP}{v:aG}{xs ys:aL}
def EF L A ε w(ao:bR 3 jK w A L)(bd:L.length<=1048576):az 103 (cY (aV A L ε)) w (û L w):=by
 have Z:=((al w w).alloc (ae _) (.cells (aV A L ε) 35)).alloc Qt (.cells rG 145);have ac:=(bO (w.alloc (.cells (aV A L ε) 35)) (.cells rG 145) (k:=w.heap.size) Qt).t (aH w _ rfl);have F:=aH (w.alloc (.cells (aV A L ε) 35)) (.cells rG 145) (n:=(w:Nat)+1) Qt;have a0:=zH (fun V (bb:ag w V)=>zeP L A ε V (bQ ao bb) bd);clear ao;go_enter func103,ntmps103
 go_upto_region 1 with(fail)
 generalize (w.alloc _).alloc _=W at Z ac F ⊢;have bo:=aF ac 0 rfl;obtain⟨H,a2,a3⟩:=er Z F (show(w:Nat)+1<W from(bk.1 F).1);clear Z ac F;go_wp2_with ((go_at_call 149;(with_reducible refine(a0.o _ H.o).x ?_);intro e bn D;unfold û at D;obtain⟨G,ad,O,I,ah,T,J,am,U,a5,ab,ap⟩:=D;subst a5;have h:=ai a2 ab;have⟨bg,bh,bi⟩:=aD h;have f0:=aK h 0;have f1:=aK h 1;have f2:=aK h 2;have y:=ik (v0:=.slice G ad O) (v1:=.slice I ah T) (v2:=.slice J am U) h;have⟨u0,u1,u2⟩:=aD y;have a1:=zH ap;have av:=zH (aT H ab);clear ab h y ap))
 refine aI (v:=.tuple #[.agg #[.slice G ad O,.slice I ah T,.slice J am U],.bool (kj (cJ L))]) (by simp[results,results103,go_sem, *]) rfl ⟨G,ad,O,I,ah,T,J,am,U,rfl,((av.setCell (p:=⟨(w:Nat)+1,0,none⟩) (by show(w:Nat)<=w+1;omega) _).setCell (p:=⟨(w:Nat)+1,1,none⟩) (by show(w:Nat)<=w+1;omega) _).setCell (p:=⟨(w:Nat)+1,2,none⟩) (by show(w:Nat)<=w+1;omega) _,fun D=>?_⟩;obtain⟨s,a4,a6,a7,a8,a9,an,Y⟩:=a1 D;refine⟨s,a4,a6,a7,a8,a9,fun a e=>aZ H.size (an a e),?_⟩;rcases Y with Y|⟨b,o,e,bc⟩
 .exact ay Y
 .subst e;refine zaK (au ⟨b,o,rfl,bc⟩) fun e=>?_
  have ba:=an _ rfl;have be:=a3.o;cases e
  dsimp only at ba;omega
def þ:RT prog 33 95 3 (.agg (CX (ByteArray.mk #[]))) 32:=⟨underlying33,QT,Qw,Qw,Qw⟩
def DY(x:eE):List Value:=[.int .i64 x.k,.int .i64 x.v,.string x.s]
def zi1{o}:∀{xs:List eE},(∀(k:Nat) (x:eE),xs[k]?=some x->∃c,(∀(j:Nat) (y:aG),c[j]?=some y->af w b (o+k*3+j) y)/\jK w x c)->∀(j:Nat) (u:aG),(xs.map DY).flatten[j]?=some u->af w b (o+j) u:=by
 intro xs H j u G;have F:∀c∈xs.map DY,c.length=3:=fun c hc=>Ua
 have J:j < (xs.map DY).flatten.length:=(bG.1 G).1;rw[mL F,bs]at J;have⟨x,hx⟩:=aq (Qu:j / 3<xs.length);have D:=mM (j:=j%3) F (RH:(xs.map DY)[j / 3]?=some (DY x)) (Nat.mod_lt _ Qw);rw[show j / 3*3+j%3=j by omega,G]at D;obtain⟨c,I,h⟩:=H _ x hx;unfold jK at h;subst h;have:=I (j%3) u D.q;rwa[show o+j / 3*3+j%3=o+j by omega]at this
def Cn(Y:o.guard=none)I x(ab:o.op=.call {callee:=.builtin .append,args:=#[I,x],argTypes:=#[33,33]})B W v A ε ys(D:bw 95 3 jK W B v [])(T:bR 3 jK W A ys)(O:0<ys.length)(G:B<=(W:Nat))(ap:ys.length<=1048576)(ac:a.eval I=v)(H:a.eval x=.slice A ys ε)(h:∀v' w',bw 95 3 jK w' B v' ys->Below B W w'->wpList prog ops Q rest (a.put o.dst v') w'):wpList prog ops Q (o::rest) a W:=by
 have⟨ao,hi,ah,am,an⟩:=dp þ.Ï;obtain⟨cs,D⟩:=D;obtain⟨b,of,rfl,hc⟩:=T.θ O;have U:∀c∈ys.map DY,c.length=3:=fun c hc=>Ua
 have J:∀(k:Nat) (x:eE) (c:cL),ys[k]?=some x->(ys.map DY)[k]?=some c->c.length=3/\(∀u∈c,u.oneCell'=true)/\kn jK W B v x c:=fun k x c H hc=>by
  rw[bI,H]at hc;cases hc
  exact⟨rfl,fun u hu=>VB,kn.d ⟨cs,D⟩ G fun W=>rfl⟩
 refine AE W Y I x 33 ab B 95 ao _ 3 32 þ.und hi ah am an þ.zs þ.pos v _ _ ac D.η ⟨b,of,none⟩ ys ε (ys.map DY).flatten H (by rw[mL U,bs]) (fun j u Z=>by rw[dF];exact zi1 hc j u Z) ?_ ?_ ?_ G ?_
 .intro u hu;obtain⟨c,hc,hu⟩:=uv.1 hu;obtain⟨k,F⟩:=eH.1 hc;obtain⟨y,ad⟩:=aq (show k<ys.length by have:=(bG.1 F).1;simpa using this);exact(J k y c ad F).2.1 u hu
 .unfold maxLen;simp;omega
 .simp;omega
 .refine OL fun v' w' FT Gx _ Ha hv=>?_
  exact h v' w' ⟨cs++ys.map DY,D.th (bs ..) J FT Gx hv⟩ ((al _ _).grown Gx G fun k F=>(bS D.η k F).1)
def zaA L A ε w(ad:bR 3 jK w A L)(a5:0<L.length)(a6:L.length<=1048576):az 152 (aV A L ε) w fun e w'=>∃h D,e=.returned (.agg (aV h L D))/\L.length<=D/\Fr w' w w' (fun V=>bR 3 jK V h L)/\ag w w':=by
 have⟨G,I⟩:=bM w (.cells lU 35);have T:=bQ ad G;go_enter func152,ntmps152
 go_upto_region 1 with(fail)
 generalize w.alloc _=W at G I T ⊢;have ac:=zH (show(w:Nat)<W from(bk.1 I).1);have H:=aw W (.cells #[] 95);have⟨av,ap⟩:=bJ (bw.lit 95 3 jK W W (ae _)) (bQ T H);have a2:=zH (aw W (.cells #[] 95)).size;have am:=ai I H;have⟨O,Z,a0⟩:=er G H am;clear ad T G I H am;go_wp2_with ((at_builtin;refine Cn rfl _ _ rfl W _ _ A ε L av.o ap.o a5 a2.o a6 rfl rfl ?_;intro ba an U F;obtain⟨h,D,rfl,-,ah,-⟩:=U.p;have Y:=a0.o;have J:=(F.block w ac).t Y;have bc:=aF J 0 rfl;have f0:=aK J 0;have bb:=aF (bE _ _ 0 _ _ (.slice h L D) J) 0 rfl;have a1:=zH (U.y (w':=an.setCell ⟨w,0,none⟩ (.slice h L D)) (fun k a8 a9=>a_ _ _ _ _ (by show k≠w.heap.size;have:=ac.o;omega)) Qt);have ao:=zH ah;have a3:=zH (show(W:Nat)<=(an.setCell ⟨w,0,none⟩ (.slice h L D)) by have:=Z.size;have:=F.size;simp;omega);have ab:=zH (((aT O Z).t (F.x O.size)).setCell (p:=⟨w,0,none⟩) (ae _) (.slice h L D));clear U F Y J ah))
 refine aI (v:=.agg (aV h L D)) (by simp[results,results152,go_sem, *]) rfl ?_;have Y:=ab.size;have a7:=a3.o;exact⟨h,D,rfl,ao,(a1.fr (fun _ _ _ _ _ a4=>a4) a7).x O.size (ae _),ab⟩
def zaB L x A ε w(H:bR 3 jK w A L)(F:L[L.length-1]?=some x)(T:L.length<=1048576):az 104 (cY (aV A L ε)) w fun e w'=>e=.returned (zI x.k)/\ag w w':=by
 have O:L.length-1<L:=(bG.1 F).1;have⟨h,D⟩:=bM w (.cells (aV A L ε) 35);obtain⟨b,o,e,G,-,-⟩:=iF (bQ H h) F;have⟨m,I⟩:=aR (L.length-1);rw[<-I]at G O;have U:IntKind.i64.wrap ((L:Int)-1)=(m:Int):=Rt;clear H F I;generalize L.length=n at *;subst e;go_enter func104,ntmps104
 go_upto_region 1 with(fail)
 generalize w.alloc _=W at h D G ⊢;have Y:=aF D 0 rfl;have J:=zH h;clear h D;go_wp2;go_ret
 exact⟨rfl,J.o⟩
def DZ n L s:mV (n::L) s=match mj s n with|some h=>mV L h|none=>none:=rfl
def œ:∀(X h:List Nd) (s:vg),mV (X++h) s=match mV X s with|some D=>mV h D|none=>none
 |[],h,s=>rfl
 |n::X,h,s=>by
  rw[wZ,DZ,DZ];cases mj s n with
  |none=>rfl
  |some F=>exact œ X h F
def zhc{s D}{n}(h:mj s n=some D):∃a b c,D=s.add a b c:=by
 unfold mj at h;split at h
 .cases h;exact⟨_,_,_,rfl⟩
 .split at h
  .split at h
   .cases h;exact⟨_,_,_,rfl⟩
   .cases h
  .cases h
def zi2{k}{a b}{c}{s}(T:(Tm.op k a b).ty=some c)(h:mV (Tm.op k a b).d ⟨[],[],[]⟩=some s):s.f.length=a.d+b.d+1/\s.f.getD (a.d.length+b.d-1) 0=a.d.length:=by
 obtain⟨x,y,Y,Z,-⟩:=Tm.qE T;have U:(Tm.op k a b).d=(a.d++b.d)++[⟨k,0,true⟩]:=rfl;rw[U,œ]at h;have I:fp (a.d++b.d) []=some [b,a]:=by rw[wI,sY [] Y];exact sY [a] Z
 rcases DX (a.d++b.d) (s:=⟨[],[],[]⟩) (S:=[]) ⟨rfl,rfl,rfl⟩with⟨D,S',H,F,O⟩|⟨H,F⟩
 .rw[I]at F;cases F
  rw[H]at h;dsimp only at h;unfold mV at h;cases G:mj D ⟨k,0,true⟩with
  |none=>rw[G]at h;cases h
  |some a5=>
   rw[G]at h;dsimp only at h;unfold mV at h;cases h
   obtain⟨u,v,z,rfl⟩:=zhc G;obtain⟨d,av,a0,a1,a2,a3,a4,ab,ac,ad,ah,am,an,ao,J⟩:=O.ch;have ap:D.f.getD (D.f.getD (D.f.length-1) 0-1) 0=0:=J;refine⟨by show(D.f++[u]).length=_;rw[bm,Dd];omega,?_⟩
   show(D.f++[u]).getD _ 0=_
   rw[yZ Qu,show a.d.length+b.d-1=D.f-1 by omega];omega
 .rw[I]at F;cases F
def px.of(D:g.B=true):px g:=by
 have h:=(Gr.nK D);have F:jc g=true:=by rw[<-h.B];exact D
 unfold jc at F;simp only[bN,cf]at F;exact⟨h.inr,Qu,Qu,Qu,Qu,fun e G=>by have:=G1.el h e G;omega⟩
structure å(g:Gr):Prop where
 w:g.w<=65536
 es:g.es.length<=65536
 i:g.i.length<=65536
 o:g.o.length<=65536
def å.par{a b}(h:px a)(D:px b):å (ls a b):=by
 have:=h.w;have:=D.w;have:=h.es;have:=D.es;have:=h.i;have:=D.i;have:=h.o;have:=D.o;refine⟨by show a.w+b.w<=_;omega,?_,?_,?_⟩
 .show(fG a b).length<=_;unfold fG;rw[bm,bs];omega
 .show(a.i++b.i.map _).length<=_;rw[bm,bs];omega
 .show(a.o++b.o.map _).length<=_;rw[bm,bs];omega
def å.seq{a b}(h:px a)(D:px b):å (pK a b):=by
 have:=h.w;have:=D.w;have:=h.es;have:=D.es;have:=h.i;have:=D.i;have:=h.o;have:=D.o;have F:(jD a b).w<=8192:=by show a.w+b.w<=_;omega
 rw[zkt,zJ (vw h.inr D.inr) (yX h.inr D.inr)];refine⟨?_,?_,?_,?_⟩
 .show nS _ _ _<=_
  have:=wL (jD a b) (jF (jD a b).w (BV a b)) (jD a b).w;omega
 .show((fG a b).map _).length<=_;unfold fG;rw[bs,bm,bs];omega
 .show(a.i.map _).length<=_;rw[bs];omega
 .show((b.o.map _).map _).length<=_;rw[bs,bs];omega
structure vz(L:List eE)(t:Tm)(T:List Tm)(k:Nat):Prop where
 kl:k<=L.length
 rd:fp ((cJ L).drop k) T=some [t]
 gd:oV ((cJ L).drop k) (T.map Tm.gr)=oV (cJ L) []
 ty:∀u∈T,∃c,u.ty=some c
 ok:∀u∈T,u.gr.B=true
 ι:T.length<=k
def vz.φ{t}(h:fp (cJ L) []=some [t]):vz L t [] 0:=⟨aW _,h,rfl,fun u h=>QO,fun u h=>QO,ae _⟩
def vz.tree{t}{c}(h:fp (cJ L) []=some [t])(D:t.ty=some c):oV (cJ L) []=if t.pM=true then some [t.gr] else none:=by
 have:=tM h;rw[<-zg3 D];congr 1
 simpa[vJ]using this.q
def vz.leaf{t}{D}{x}(h:vz L t D k)(G:L[k]?=some x)(I:¬x.k=15)(J:¬x.k=16):dI x.nd=true/\vz L t (Tm.lf x.nd::D) (k+1):=by
 have O:=(bG.1 G).1;have hr:=h.rd;rw[lF G,jw,Bi I J]at hr;have hl:dI x.nd=true:=WS;rw[ak hl]at hr;have H:=sH hl;have F:=h.gd;rw[lF G,tv]at F;have T:Ι (D.map Tm.gr) x.nd=some (fv x.nd::D.map Tm.gr):=by unfold Ι;rw[aj (zfQ hl),ak H]
 rw[T]at F;have OM:(Tm.lf x.nd).ty=some (pC x.nd,sC x.nd):=by unfold Tm.ty;rw[ak hl]
 refine⟨hl,O,hr,F,?_,?_,by have:=h.ι;simp;omega⟩
 .exact Xf
 .intro u hu;rcases et.1 hu with rfl|hu
  .exact H
  .exact h.ok u hu
def vz.δ{t}{I}{x}(h:vz L t I k)(J:L[k]?=some x)(h1:x.k=15∨x.k=16):∃b a S z,I=b::a::S/\(Tm.op x.k a b).ty=some z/\((Tm.op x.k a b).gr.B=true->vz L t (Tm.op x.k a b::S) (k+1))/\((Tm.op x.k a b).gr.B=false->oV (cJ L) []=none):=by
 have O:=(bG.1 J).1;have G:=h.rd;rw[lF J,jw]at G;have T:FC x.nd=true:=UK;cases D:ρ I x.nd with
 |none=>rw[D]at G;cases G
 |some Z=>
  rw[D]at G;unfold ρ at D;rw[ak T]at D;split at D
  .split at D
   .rename_i b a S;split at D
    .rename_i ab U;obtain⟨z,hz⟩:=Av.1 U;cases D
     have F:=h.gd;rw[lF J,tv]at F;have e:(if x.nd.k=15 then pK a.gr b.gr else ls a.gr b.gr)=(Tm.op x.k a b).gr:=rfl;have Y:Ι ((b::a::S).map Tm.gr) x.nd=if(Tm.op x.k a b).gr.B=true then some ((Tm.op x.k a b).gr::S.map Tm.gr) else none:=by
      unfold Ι;rw[ak (show x.nd.k=15∨x.nd.k=16 from h1)]
      show(if(if x.nd.k=15 then pK a.gr b.gr else ls a.gr b.gr).B=true then _ else _)=_
      rw[e]
     rw[Y]at F;refine⟨b,a,S,z,rfl,hz,fun H=>?_,fun H=>?_⟩
     .rw[ak H]at F;refine⟨O,G,F,?_,?_,Uo⟩
      .exact Xy
      .intro u hu;rcases et.1 hu with rfl|hu
       .exact H
       .exact h.ok u (by simp[hu])
     .rw[aj (by rw[H];simp)]at F;exact F.q
    .cases D
   .cases D
  .cases D
def vz.U{t}{h}(F:vz L t h k)(H:¬k<L.length):h=[t]/\oV (cJ L) []=some [t.gr]:=by
 have D:=F.rd;have G:=F.gd;rw[jR RI]at D G;have:h=[t]:=by unfold fp at D;exact ji D
 subst this;exact⟨rfl,G.q⟩
def uS(h:List Tm):List Gr:=h.reverse.map Tm.gr
def qV h:(uS h).length=h:=by simp[uS]
def qt t h:uS (t::h)=uS h++[t.gr]:=by simp[uS]
def Ϥ(t:Tm)(w:aa)(e:Ending)(w':aa):Prop:=
 (t.pM=false/\e=.returned (.tuple (dz cw))/\ag w w')∨
 (t.pM=true/\∃A1 c1 h c2 D G,e=.returned (.tuple (fH (fw t.gr.w A1 t.gr.es c1 h t.gr.i c2 D t.gr.o G)))/\Fr w' w w' (fun F=>jV F A1 h D t.gr)/\ag w w')
def zcZ L t c A ε w(cp:bR 3 jK w A L)(d8:L.length<=400)(I:fp (cJ L) []=some [t])(cr:t.ty=some c):az 85 (cY (aV A L ε)) w (Ϥ t w):=by
 have⟨HTR,c0⟩:=bJ (vz.tree I cr) (vz.φ I);refine MM fun hq hr=>?_
 have b6:=((al w w).alloc (ae _) (.cells (aV A L ε) 35)).alloc Qt (.cells cw 54);have cV:=zH (show ∀wr,ag w wr->bR 3 jK wr A L from fun wr h=>bQ cp h);clear cp I cr;go_enter func85,ntmps85
 go_upto_region 1 with(fail)
 generalize (w.alloc _).alloc _=W at hq hr b6 ⊢;have⟨cO,cW⟩:=bJ b6 hr;have cB:(w:Nat)+2<=W:=(bk.1 hr).1;have⟨Gn,bz⟩:=bJ cB (bw.lit 54 4 EGr W W (ae _));have Gm:=aw W (.cells #[] 54);have bh:=zH Gm;have cK:=aF (ai hq Gm) 0 rfl;clear hq hr b6 cB;go_upto_region 2 with(fail)
 generalize W.alloc _=dT at bz bh cK Gm ⊢;have cj:=zH (ai cW Gm);clear Gm;go_wp2;go_loopw [4,13] (fun u i wr=>∃(k:Nat) (a7:List Tm),i=.int .i64 k/\vz L t a7 k/\bw 54 4 EGr wr W u (uS a7)/\bA wr ((w:Nat)+1) cw 54/\ag w wr/\(W:Nat)<=wr) (fun _ i _=>L.length-(intOf i).toNat)
 case atStart=>exact⟨0,[],rfl,c0,bz,cj,aT cO bh,bh.size⟩
 case round=>
  obtain⟨k,a7,rfl,I,bq,a5,a8,cA⟩:=hrel;clear cK bz bh cj;by_cases cu:k<L.length
  .have⟨x,ch⟩:=aq cu;obtain⟨b,o,rfl,ck,c1,c2⟩:=iF (cV wr a8) ch;obtain⟨H,T,O⟩:=x;dsimp only at ck c1 c2;have⟨Gm,cc⟩:=bM wr (.cells (dN H T O) 95);have⟨b4,HT,II,Ib,Gc,GX⟩:=ny ch I (bq.ext Gm) (ai a5 Gm) (aT a8 Gm) (aZ cA Gm.size);clear ch I bq a5 a8 cA;go_upto_region 5 with(fail)
   generalize wr.alloc _=w2 at Gm cc II Ib Gc GX ⊢;clear ck c1 c2 Gm;obtain⟨A6,c6,rfl,cq,ct,-⟩:=bw.p II;have bi:=zH cq;clear cq;rw[qV]at II ct ⊢;have⟨n,cb⟩:=aR a7.length;rw[<-cb]at II ct ⊢;have Le:=zH cb;have d9:n<=400:=UR;have ea:IntKind.i64.wrap ((n:Int)-1)=(n:Int)-1:=Rt;have⟨Gm,bo⟩:=bM w2 (.cells cw 54);have Ia:=zH Gm;have ce:=ai cc Gm;clear cb cc;go_upto_region 7 with(fail)
   generalize w2.alloc _=w3 at Gm bo Ia ce ⊢;have⟨cF,cI,n2⟩:=aD ce;obtain⟨bu,IS⟩:=bJ bo (show(w2:Nat)<w3 from(bk.1 bo).1);clear Gm bo ce;by_cases h1:H=15
   .skip
    have bd:=HT.δ b4 (show(⟨H,T,O⟩:eE).k=15∨(⟨H,T,O⟩:eE).k=16 from ay h1);obtain⟨tb,ta,S,z,rfl,hz,Li,Jv⟩:=bd;dsimp only at hz Li Jv;subst h1;refine Pk fun m K8 m1 Lm K4 Hl=>?_
    have Lc:uS (tb::ta::S)=uS S++[ta.gr]++[tb.gr]:=by rw[qt,qt]
    have Ld:(uS S).length=m:=by rw[qV,K8]
    have bb:(uS (tb::ta::S))[m]?=some ta.gr:=VD;have bc:(uS (tb::ta::S))[m1]?=some tb.gr:=VC;obtain⟨gb,go,rfl,ah⟩:=bi.θ (k:=m) (by rw[qV,<-Le.o];omega);obtain⟨dc,hxa,Y,an,Z,p2,X3,ao,b9,GZ⟩:=ah m ta.gr bb;obtain⟨dl,hxb,ab,ap,ac,av,ad,a4,ca,Hm⟩:=ah m1 tb.gr bc;subst b9 ca;have Lh:=px.of (HT.ok ta Qt);have K7:=px.of (HT.ok tb Qt);have⟨c3,c4,a9,ba,am⟩:=Tm.qE hz;have Qf:ta.gr.o.length=tb.gr.i∨15=16:=by
     have h1:=(Tm.qF a9).2.2;have h2:=(Tm.qF ba).2.1;left;unfold gP at am;rw[ak rfl]at am;split at am;rw[h1,h2];assumption
     cases am
    have⟨ga,Qq⟩:=aR ta.gr;have⟨gb',hgb'⟩:=aR tb.gr;have Lo:(Tm.op 15 ta tb).gr=pK ga gb':=by rw[Tm.zao,Qq,hgb'];rfl
    rw[<-Qq]at hxa GZ Lh Qf;rw[<-hgb']at hxb Hm K7 Qf;have a0:af w3 gb (go+m*4) (zI (ga.w:Nat)):=ar Ia.o (hxa 0 _ rfl);have a1:=ar Ia.o (hxa 1 _ rfl);have a2:=ar Ia.o (hxa 2 _ rfl);have a3:=ar Ia.o (hxa 3 _ rfl);have b0:af w3 gb (go+m1*4) (zI (gb'.w:Nat)):=ar Ia.o (hxb 0 _ rfl);have b1:=ar Ia.o (hxb 1 _ rfl);have b2:=ar Ia.o (hxb 2 _ rfl);have b3:=ar Ia.o (hxb 3 _ rfl);have Qp:gb≠w2.heap.size:=W8
    have⟨F,Ln⟩:=bJ Qp (FL ga gb' Y Z X3 ab ac ad an p2 ao ap av a4 w3.drew Lh K7 (Qf.resolve_right Qw) ((GZ.ext Ia).ext (aC _)) ((Hm.ext Ia).ext (aC _)):az 121 (iV (bj ga Y an Z p2 X3 ao) (bj gb' ab ap ac av ad a4)) w3.drew (xr (pK ga gb') w3.drew));have⟨G,hG⟩:=aR (pK ga gb');have⟨U,hU⟩:=aR (Tm.op 15 ta tb);have Ic:G.G1:=by rw[hG,<-Lo];exact Tm.zay hz
    have hgb:å G:=by rw[hG];exact å.seq Lh K7
    have G8:G.B=jc G:=Ic.B;have⟨Ll,K6⟩:=bJ (show jc G=true->vz L t (U::S) (k+1) from fun h=>Vr) (show jc G=false->oV (cJ L) []=none from fun h=>Jv TO);have⟨T0,KZ⟩:=aR S;have KX:=zH (by rw[qt,hU,hG,Lo]:uS (U::T0)=uS T0++[G]);have Lk:=II.o.pop (n:=m) (by rw[qV];exact Le.o) Qu;rw[show(uS (tb::ta::S)).take m=uS S by rw[Lc,fJ,oG Sz,cZ Sz]]at Lk;rw[<-KZ]at Ll Lk;have⟨A6,Qk⟩:=aR (some (⟨gb,go,none⟩:dM));have K5:Hd (bw 54 4 EGr w2 W (.slice A6 m c6) (uS T0)):=by rw[Qk];exact zH Lk
    have Jy:=zH (Sl:(uS T0).length=m);have KW:m<=400:=Qu;have Lg:m<=c6:=Qu;have IQ:m<n:=Qu;have IU:m1<n:=Qu;rw[<-hG]at Ln;have S0:=aQ a0 (aQ a1 (aQ a2 (aQ a3 (aQ b0 (aQ b1 (aQ b2 b3))))));have HA6:=zH Qk;clear G8 KZ Lk Qk
    clear Le hz Li Jv K8 Lm K4 Lc Ld bb bc ah bi II a9 ba am Lh GZ hxa Qq Qf K7 Hm hxb hgb' Lo a0 a1 a2 a3 b0 b1 b2 b3 Qp hG hU
    go_upto_region 10 with(fail)
    clear cF cI n2;go_region_held3 (fun V=>af V gb (go+m*4) (zI (ga.w:Nat))/\af V gb (go+m*4+1) (.slice Y ga.es an)/\af V gb (go+m*4+2) (.slice Z ga.i p2)/\af V gb (go+m*4+3) (.slice X3 ga.o ao)/\af V gb (go+m1*4) (zI (gb'.w:Nat))/\af V gb (go+m1*4+1) (.slice ab gb'.es ap)/\af V gb (go+m1*4+2) (.slice ac gb'.i av)/\af V gb (go+m1*4+3) (.slice ad gb'.o a4))
     (first|with_reducible exact S0|with_reducible exact E_ (aC _) S0|with_reducible exact E_ Gp.o S0|with_reducible exact S1)
     ((go_at_call 121;refine Ln.x ?_;rintro e w4 ⟨D1,d1,D2,d2,D3,d3,rfl,J,hb⟩;have Gp:=zH ((aC w3).t (hb.x (aC w3).size));have hz:=ai bu Gp;have⟨r0,r1,r2,r3⟩:=aB hz;have⟨f0,f1,f2,f3⟩:=cN hz;have HZ:=zH hz;have HF:=zH (J.to (lo':=w3.heap.size) Qt (ae _));have D:=E_ Gp S0;have S1:=aQ (dH (v0:=.int .i64 (G.w:Nat)) (v1:=.slice D1 G.es d1) (v2:=.slice D2 G.i d2) (v3:=.slice D3 G.o d3) F.o D.1) (aQ (dH (v0:=.int .i64 (G.w:Nat)) (v1:=.slice D1 G.es d1) (v2:=.slice D2 G.i d2) (v3:=.slice D3 G.o d3) F.o D.2.1) (aQ (dH (v0:=.int .i64 (G.w:Nat)) (v1:=.slice D1 G.es d1) (v2:=.slice D2 G.i d2) (v3:=.slice D3 G.o d3) F.o D.2.2.1) (aQ (dH (v0:=.int .i64 (G.w:Nat)) (v1:=.slice D1 G.es d1) (v2:=.slice D2 G.i d2) (v3:=.slice D3 G.o d3) F.o D.2.2.2.1) (aQ (dH (v0:=.int .i64 (G.w:Nat)) (v1:=.slice D1 G.es d1) (v2:=.slice D2 G.i d2) (v3:=.slice D3 G.o d3) F.o D.2.2.2.2.1) (aQ (dH (v0:=.int .i64 (G.w:Nat)) (v1:=.slice D1 G.es d1) (v2:=.slice D2 G.i d2) (v3:=.slice D3 G.o d3) F.o D.2.2.2.2.2.1) (aQ (dH (v0:=.int .i64 (G.w:Nat)) (v1:=.slice D1 G.es d1) (v2:=.slice D2 G.i d2) (v3:=.slice D3 G.o d3) F.o D.2.2.2.2.2.2.1) (dH (v0:=.int .i64 (G.w:Nat)) (v1:=.slice D1 G.es d1) (v2:=.slice D2 G.i d2) (v3:=.slice D3 G.o d3) F.o D.2.2.2.2.2.2.2)))))));clear hz J hb D))
    exact Z5
   by_cases h2:H=16
   .clear h1;have c5:((16:Int)==15)=false:=Qw;have bd:=HT.δ b4 (show(⟨H,T,O⟩:eE).k=15∨(⟨H,T,O⟩:eE).k=16 from au h2);obtain⟨tb,ta,S,z,rfl,hz,Li,Jv⟩:=bd;dsimp only at hz Li Jv;subst h2;refine Pk fun m K8 m1 Lm K4 Hl=>?_
    have Lc:uS (tb::ta::S)=uS S++[ta.gr]++[tb.gr]:=by rw[qt,qt]
    have Ld:(uS S).length=m:=by rw[qV,K8]
    have bb:(uS (tb::ta::S))[m]?=some ta.gr:=VD;have bc:(uS (tb::ta::S))[m1]?=some tb.gr:=VC;obtain⟨gb,go,rfl,ah⟩:=bi.θ (k:=m) (by rw[qV,<-Le.o];omega);obtain⟨dc,hxa,Y,an,Z,p2,X3,ao,b9,GZ⟩:=ah m ta.gr bb;obtain⟨dl,hxb,ab,ap,ac,av,ad,a4,ca,Hm⟩:=ah m1 tb.gr bc;subst b9 ca;have Lh:=px.of (HT.ok ta Qt);have K7:=px.of (HT.ok tb Qt);have⟨c3,c4,a9,ba,am⟩:=Tm.qE hz;have Qf:ta.gr.o.length=tb.gr.i∨16=16:=by
     have h1:=(Tm.qF a9).2.2;have h2:=(Tm.qF ba).2.1;right;rfl
     skip
    have⟨ga,Qq⟩:=aR ta.gr;have⟨gb',hgb'⟩:=aR tb.gr;have Lo:(Tm.op 16 ta tb).gr=ls ga gb':=by rw[Tm.zao,Qq,hgb'];rfl
    rw[<-Qq]at hxa GZ Lh Qf;rw[<-hgb']at hxb Hm K7 Qf;have a0:af w3 gb (go+m*4) (zI (ga.w:Nat)):=ar Ia.o (hxa 0 _ rfl);have a1:=ar Ia.o (hxa 1 _ rfl);have a2:=ar Ia.o (hxa 2 _ rfl);have a3:=ar Ia.o (hxa 3 _ rfl);have b0:af w3 gb (go+m1*4) (zI (gb'.w:Nat)):=ar Ia.o (hxb 0 _ rfl);have b1:=ar Ia.o (hxb 1 _ rfl);have b2:=ar Ia.o (hxb 2 _ rfl);have b3:=ar Ia.o (hxb 3 _ rfl);have Qp:gb≠w2.heap.size:=W8
    have⟨F,Ln⟩:=bJ Qp (Fm ga gb' Y Z X3 ab ac ad an p2 ao ap av a4 w3.drew Lh K7 ((GZ.ext Ia).ext (aC _)) ((Hm.ext Ia).ext (aC _)):az 122 (iV (bj ga Y an Z p2 X3 ao) (bj gb' ab ap ac av ad a4)) w3.drew (xr (ls ga gb') w3.drew));have⟨G,hG⟩:=aR (ls ga gb');have⟨U,hU⟩:=aR (Tm.op 16 ta tb);have Ic:G.G1:=by rw[hG,<-Lo];exact Tm.zay hz
    have hgb:å G:=by rw[hG];exact å.par Lh K7
    have G8:G.B=jc G:=Ic.B;have⟨Ll,K6⟩:=bJ (show jc G=true->vz L t (U::S) (k+1) from fun h=>Vr) (show jc G=false->oV (cJ L) []=none from fun h=>Jv TO);have⟨T0,KZ⟩:=aR S;have KX:=zH (by rw[qt,hU,hG,Lo]:uS (U::T0)=uS T0++[G]);have Lk:=II.o.pop (n:=m) (by rw[qV];exact Le.o) Qu;rw[show(uS (tb::ta::S)).take m=uS S by rw[Lc,fJ,oG Sz,cZ Sz]]at Lk;rw[<-KZ]at Ll Lk;have⟨A6,Qk⟩:=aR (some (⟨gb,go,none⟩:dM));have K5:Hd (bw 54 4 EGr w2 W (.slice A6 m c6) (uS T0)):=by rw[Qk];exact zH Lk
    have Jy:=zH (Sl:(uS T0).length=m);have KW:m<=400:=Qu;have Lg:m<=c6:=Qu;have IQ:m<n:=Qu;have IU:m1<n:=Qu;rw[<-hG]at Ln;have S0:=aQ a0 (aQ a1 (aQ a2 (aQ a3 (aQ b0 (aQ b1 (aQ b2 b3))))));have HA6:=zH Qk;clear G8 KZ Lk Qk
    clear Le hz Li Jv K8 Lm K4 Lc Ld bb bc ah bi II a9 ba am Lh GZ hxa Qq Qf K7 Hm hxb hgb' Lo a0 a1 a2 a3 b0 b1 b2 b3 Qp hG hU
    go_upto_region 13 with(fail)
    clear cF cI n2;go_region_held3 (fun V=>af V gb (go+m*4) (zI (ga.w:Nat))/\af V gb (go+m*4+1) (.slice Y ga.es an)/\af V gb (go+m*4+2) (.slice Z ga.i p2)/\af V gb (go+m*4+3) (.slice X3 ga.o ao)/\af V gb (go+m1*4) (zI (gb'.w:Nat))/\af V gb (go+m1*4+1) (.slice ab gb'.es ap)/\af V gb (go+m1*4+2) (.slice ac gb'.i av)/\af V gb (go+m1*4+3) (.slice ad gb'.o a4))
     (first|with_reducible exact S0|with_reducible exact E_ (aC _) S0|with_reducible exact E_ Gp.o S0|with_reducible exact S1)
     ((go_at_call 122;refine Ln.x ?_;rintro e w4 ⟨D1,d1,D2,d2,D3,d3,rfl,J,hb⟩;have Gp:=zH ((aC w3).t (hb.x (aC w3).size));have hz:=ai bu Gp;have⟨r0,r1,r2,r3⟩:=aB hz;have⟨f0,f1,f2,f3⟩:=cN hz;have HZ:=zH hz;have HF:=zH (J.to (lo':=w3.heap.size) Qt (ae _));have D:=E_ Gp S0;have S1:=aQ (dH (v0:=.int .i64 (G.w:Nat)) (v1:=.slice D1 G.es d1) (v2:=.slice D2 G.i d2) (v3:=.slice D3 G.o d3) F.o D.1) (aQ (dH (v0:=.int .i64 (G.w:Nat)) (v1:=.slice D1 G.es d1) (v2:=.slice D2 G.i d2) (v3:=.slice D3 G.o d3) F.o D.2.1) (aQ (dH (v0:=.int .i64 (G.w:Nat)) (v1:=.slice D1 G.es d1) (v2:=.slice D2 G.i d2) (v3:=.slice D3 G.o d3) F.o D.2.2.1) (aQ (dH (v0:=.int .i64 (G.w:Nat)) (v1:=.slice D1 G.es d1) (v2:=.slice D2 G.i d2) (v3:=.slice D3 G.o d3) F.o D.2.2.2.1) (aQ (dH (v0:=.int .i64 (G.w:Nat)) (v1:=.slice D1 G.es d1) (v2:=.slice D2 G.i d2) (v3:=.slice D3 G.o d3) F.o D.2.2.2.2.1) (aQ (dH (v0:=.int .i64 (G.w:Nat)) (v1:=.slice D1 G.es d1) (v2:=.slice D2 G.i d2) (v3:=.slice D3 G.o d3) F.o D.2.2.2.2.2.1) (aQ (dH (v0:=.int .i64 (G.w:Nat)) (v1:=.slice D1 G.es d1) (v2:=.slice D2 G.i d2) (v3:=.slice D3 G.o d3) F.o D.2.2.2.2.2.2.1) (dH (v0:=.int .i64 (G.w:Nat)) (v1:=.slice D1 G.es d1) (v2:=.slice D2 G.i d2) (v3:=.slice D3 G.o d3) F.o D.2.2.2.2.2.2.2)))))));clear hz J hb D))
    exact Z5
   have bv:=HT.leaf b4 h1 h2;have c5:(H==15)=false:=Rp;have d7:(H==16)=false:=Rk;have⟨ci,bn⟩:=bJ bv.1 bv.2;have⟨G,hG⟩:=aR (fv ⟨H,T,O.toList.isEmpty⟩);have a6:=zH hG;clear hG bv h1 h2;go_upto_region 15 with(go_at_call 123;refine(Fw H T O _ ci.o).x ?_;rw[<-a6.o];rintro e w4 ⟨D1,d1,D2,d2,D3,d3,rfl,J,hb⟩;have hz:=ai bu hb;have⟨r0,r1,r2,r3⟩:=aB hz;have⟨f0,f1,f2,f3⟩:=cN hz;have HZ:=zH hz;have HF:=zH J;have Gp:=zH hb;clear hz J hb)
   have G8:=sH ci;have Ic:G.G1:=by rw[a6.o];exact Gr.nK G8
   have bg:px G:=by rw[a6.o];exact px.of G8
   have hgb:å G:=by have:=bg.w;have:=bg.es;have:=bg.i;have:=bg.o;exact⟨Qu,Qu,Qu,Qu⟩
   have cz:jc G=true:=by rw[<-Ic.B,a6.o];exact G8
   have⟨T0,KZ⟩:=aR a7;have⟨U,hU⟩:=aR (Tm.lf ⟨H,T,O.toList.isEmpty⟩);have⟨m,K8⟩:=aR n;obtain⟨Ll,K6,KX⟩:=er (show jc G=true->vz L t (U::T0) (k+1) from fun _=>by rw[hU,KZ];exact bn) (show jc G=false->oV (cJ L) []=none from fun h=>by rw[cz]at h;cases h) (by rw[qt,hU,a6.o];rfl:uS (U::T0)=uS T0++[G]);have K5:Hd (bw 54 4 EGr w2 W (.slice A6 m c6) (uS T0)):=by rw[K8,KZ];exact II
   have Jy:=zH (by rw[qV,KZ,K8,Le.o]:(uS T0).length=m);have KW:m<=400:=Qu;rw[<-K8];clear G8 bg cz KZ hU K8 II bn;refine P_ fun HG1 KY w5 Lf HF5 Jt HS5 z0 z1 z2 z3 Qh Qd Jw=>?_;clear Ic hgb r0 r1 r2 r3 f0 f1 f2 f3
   cases Ju:jc G
   .have HGF:=zH (show t.pM=false by
     have h1:=K6 Ju;rw[HTR.o]at h1;by_cases h:t.pM=true
     .rw[ak h]at h1;cases h1
     .simpa using h)
    rw[Ju]at Qh;clear Ju;go_wp2_with (go_at_call 124;refine Qh.x ?_;rintro e w6 ⟨rfl,hb⟩;have hz:=ai (ai Ib Lf) hb;have⟨r0,r1,r2,r3⟩:=aB hz;have⟨f0,f1,f2,f3⟩:=cN hz;have HZ6:=zH hz;have Qo:=zH ((aT Gc Lf).t (hb.x (aT Gc Lf).size));clear hz hb)
    have y:=cP (v0:=()) (v1:=dE) (v2:=dE) (v3:=dE) HZ6;refine O2 fun y0 y1 y2 y3=>?_
    exact aI (v:=.tuple (dz cw)) Uq rfl (ay ⟨HGF,rfl,bY Qo (b:=(w:Nat)+1) Qu _ _ _ _⟩)
   .have HGN:=zH (Ll Ju);rw[Ju]at Qh;clear Ju;go_upto_region 17 with(go_at_call 124;refine Qh.x ?_;rintro e w6 ⟨rfl,hb⟩;have HZ6:=zH (ai Jt hb);have Qa:=zH hb;clear hb)
    have Gm:=aw w6 (.cells (bj G D1 d1 D2 d2 D3 d3) 54);have⟨H27,Qg⟩:=bJ ((aT Lf Qa).t (Gm.x (aT Lf Qa).size)) (aT Qa Gm);clear z0 z1 z2 z3 Gm;have⟨z0,z1,z2,z3⟩:=aB HZ6;go_upto_region 18 with((at_builtin;refine de Ţ rfl (.tmp 60) (.tmp 62) rfl W (w6.alloc (.cells (bj G D1 d1 D2 d2 D3 d3) 54)) (.slice A6 m c6) (uS T0) G [.int .i64 (G.w:Nat),.slice D1 G.es d1,.slice D2 G.i d2,.slice D3 G.o d3] w6 (K5.ext H27) rfl SU ⟨w3,w4,Qd,aZ (gp HS5.q) Qg.size,fun g e=>ay (Jw g e),(HF5.ext Qg (gp HS5.q)).E fun V hV=>⟨D1,d1,D2,d2,D3,d3,rfl,hV⟩⟩ RW (by have:=Qd.o;have:=IS.o;have:=GX.o;have:=H27.size;omega) rfl rfl (aH w6 _ rfl) ?_;intro g8 Lp w8 Lj Lq K9 K3;rw[Jy.o]at Lj ⊢;have Gv:=zH Lj;have G0:=zH K3;clear Lj Lq K9 K3))
    have⟨JA,K_⟩:=bJ ((G0.block ((w:Nat)+1) Sx).t (ai Ib H27)) ((aT Gc H27).t (G0.x Sx));go_wp2;go_roundw
    case rel=>exact⟨k+1,U::T0,Qx,HGN,by rw[KX.o];exact Gv,JA,K_,by have:=GX.o;have:=H27.size;have:=G0.size;omega⟩
    case measure=>simp[intOf];omega
  .obtain⟨c8,br⟩:=I.U cu;subst c8;have cR:=zH (show t.pM=true by
    rw[HTR.o]at br;by_cases h:t.pM=true
    .exact h
    .rw[aj h]at br;cases br)
   obtain⟨gb,d0,rfl,hgb,-⟩:=bq.form (by simp[uS]);obtain⟨cs,be⟩:=bq;obtain⟨cn,b7⟩:=aq (by rw[be.ι];simp[uS]:0<cs.length);obtain⟨-,-,lo,hi,c7,co,-,b5⟩:=be.ν 0 t.gr cn rfl b7;obtain⟨D1,d1,D2,d2,D3,d3,he,-⟩:=b5.D;have Jz:=fun j (bd:j<4) (v:aG) (db:cn[j]?=some v)=>oz be.η (g:=gb) rfl (0*4+j) v (by rw[mM be.cl b7 bd];exact db)
   have a0:af wr gb 0 (zI (t.gr.w:Nat)):=VJ;have a1:af wr gb 1 (.slice D1 t.gr.es d1):=VI;have a2:af wr gb 2 (.slice D2 t.gr.i d2):=VH;have a3:af wr gb 3 (.slice D3 t.gr.o d3):=by have:=Jz 3 Qu _ Q5;simpa[dF]using this
   have⟨r0,r1,r2,r3⟩:=aB a5;have⟨f0,f1,f2,f3⟩:=cN a5;have bp:Fr (dQ wr ((w:Nat)+1) (zI (t.gr.w:Nat)) (.slice D1 t.gr.es d1) (.slice D2 t.gr.i d2) (.slice D3 t.gr.o d3)) w (dQ wr ((w:Nat)+1) (zI (t.gr.w:Nat)) (.slice D1 t.gr.es d1) (.slice D2 t.gr.i d2) (.slice D3 t.gr.o d3)) (fun U=>jV U D1 D2 D3 t.gr):=((b5.dQ (v0:=.int .i64 (t.gr.w:Nat)) (v1:=.slice D1 t.gr.es d1) (v2:=.slice D2 t.gr.i d2) (v3:=.slice D3 t.gr.o d3) (b:=(w:Nat)+1) Sx).E fun U c9=>(by
    obtain⟨dq,d4,dr,d5,dO,d6,b8,bp⟩:=c9;rw[he]at b8;simp only[List.cons.injEq,ep,true_and,and_true]at b8;obtain⟨⟨rfl,rfl⟩,⟨rfl,rfl⟩,rfl,rfl⟩:=b8;exact bp:jV U D1 D2 D3 t.gr)).x (show(w:Nat)<=lo by have:=Gn.o;omega) (aZ co (gp (by simp[dQ])))
   have⟨bn,Ib,Gc⟩:=er bp a5 a8;have IQ:(uS [t]).length=1:=rfl;rw[IQ];clear bp a5 a8 IQ Jz b5 c7 co be b7 he br I;go_wp2;have y:=cP (v0:=.int .i64 (t.gr.w:Nat)) (v1:=.slice D1 t.gr.es d1) (v2:=.slice D2 t.gr.i d2) (v3:=.slice D3 t.gr.o d3) Ib;refine O2 fun y0 y1 y2 y3=>?_
   exact aI (v:=.tuple (fH (fw t.gr.w D1 t.gr.es d1 D2 t.gr.i d2 D3 t.gr.o d3))) Uq rfl (au ⟨cR,D1,d1,D2,d2,D3,d3,rfl,bn,bY Gc (b:=(w:Nat)+1) Qu _ _ _ _⟩)
def ovE(p:Int)(e:Ed):Bool:=!Õ e.k||decide (e.v<p)
def ntE(e:Ed):Bool:=!dlB e.k
def ovG(p:Int)(g:Gr):Bool:=bV p&&g.es.all (ovE p)
def stG(p:Int)(g:Gr):Bool:=ovG p g&&g.es.all ntE
def zc4 g A1 D F c1 c2 H w(J:jV w A1 D F g)(G:g.B=true):az 124 (cY (bj g A1 c1 D c2 F H)) w (dt w true):=by have I:=Gr.nK G;have h:=px.of G;have:=qQ g A1 D F c1 c2 H w J I (by have:=h.w;omega) (by have:=h.es;omega) (by have:=h.i;omega) (by have:=h.o;omega);rw[<-I.B,G]at this;exact this
def Cm p g A1 F G d1 d2 d3 w(am:dZ w)(O:jV w A1 F G g)(Y:g.B=true):az 187 (gj p (bj g A1 d1 F d2 G d3)) w (dt w (ovG p g)):=by
 unfold ovG;have⟨hB,hq⟩:=bM w (.cells (bj g A1 d1 F d2 G d3) 54);obtain⟨ao,ap⟩:=bJ (show ∀W,ag w W->jV W A1 F G g from fun W J=>O.ext J) (fun W (J:ag w W)=>zc4 g A1 F G d1 d2 d3 W (O.ext J) Y);have a6:g.es.length<=4096:=(px.of Y).es;have HP:=zH (am.ext hB);go_enter func187,ntmps187
 go_upto_region 1 with(fail)
 generalize w.alloc _=W at hB hq HP ⊢;refine NQ fun x0 x1 x2 x3 HB HQ=>?_
 cases hf:bV p
 .exact YC
 go_upto_region 3 with(first|(go_at_call 142;refine(Calls.cg (jj _ _ HP.o) hf).x ?_;rintro e w' ⟨rfl,rfl⟩)|(go_at_call 124;refine(ap.o _ HB.o).x ?_;rintro e a1 ⟨rfl,T⟩;have a2:=ar T x1;have an:=zH (aT HB T)))
 go_wp2;go_loopw [18] (fun i wr=>∃k:Nat,k<=g.es.length/\i=.int .i64 k/\Hd ((g.es.take k).all (ovE p)=true)/\ag w wr) (fun i _=>g.es.length-(intOf i).toNat)
 case atStart=>exact⟨0,aW _,rfl,zH Qt,an⟩
 case round=>
  obtain⟨k,a5,rfl,Gw,FW⟩:=hrel;by_cases av:k<g.es.length
  .have⟨e,U⟩:=aq av;obtain⟨a3,a4,ab,ad,ac,ah,rfl,u0,u1,u2,u3,-,-⟩:=fU (ao wr FW).es U;obtain⟨D,h,H,I⟩:=e;dsimp only at u0 u1 u2 u3;have⟨HX,Gc⟩:=bJ U (FW.alloc FW.size (.cells (eh D h ab H ad ac I ah) 155));have Z:=aH wr (.cells (eh D h ab H ad ac I ah) 155) rfl;go_upto_region 6 with(fail)
   generalize wr.alloc _=a1 at Gc Z ⊢;have⟨a8,a9,n2,ba⟩:=aB Z;cases hv:Õ D
   .have HF:=zH (by unfold ovE;rw[hv];rfl:ovE p ⟨D,h,H,I⟩=true);exact Zb
   .by_cases a0:h<p
    .have HF:=zH (by unfold ovE;simp[a0]:ovE p ⟨D,h,H,I⟩=true);exact Zb
    .have HF:=zH (by unfold ovE;rw[hv];simp;omega:ovE p ⟨D,h,H,I⟩=false);have a7:p<=h:=Qu;go_wp2_with (go_at_call 162;refine(Calls.cg (jN _ _) hv).x ?_;rintro e w' ⟨rfl,rfl⟩)
     exact Xd
  .exact Xn
def Fo p g A1 D F d1 d2 d3 w(an:dZ w)(T:jV w A1 D F g)(Y:g.B=true):az 133 (jy (bj g A1 d1 D d2 F d3) p) w (dt w (stG p g)):=by
 unfold stG;have⟨hB,hq⟩:=bM w (.cells (bj g A1 d1 D d2 F d3) 54);obtain⟨ap,ad⟩:=bJ (show ∀W,ag w W->jV W A1 D F g from fun W J=>T.ext J) (fun W (J:ag w W)=>Cm p g A1 D F d1 d2 d3 W (an.ext J) (T.ext J) Y);have a4:g.es.length<=4096:=(px.of Y).es;go_enter func133,ntmps133
 go_upto_region 1 with(fail)
 generalize w.alloc _=W at hB hq ⊢;refine NQ fun x0 x1 x2 x3 HB HQ=>?_
 cases hf:ovG p g
 .go_wp2_with (go_at_call 187;refine(Calls.bl (ad.o _ HB.o) hf).x ?_;rintro e ao ⟨rfl,h⟩;have FV:=zH (aT HB h))
  exact Wk
 go_upto_region 3 with(go_at_call 187;refine(Calls.bl (ad.o _ HB.o) hf).x ?_;rintro e ao ⟨rfl,h⟩;have a0:=ar h x1;have FV:=zH (aT HB h))
 go_wp2;go_loopw [14] (fun i wr=>∃k:Nat,k<=g.es.length/\i=.int .i64 k/\Hd ((g.es.take k).all ntE=true)/\ag w wr) (fun i _=>g.es.length-(intOf i).toNat)
 case atStart=>exact⟨0,aW _,rfl,zH Qt,FV⟩
 case round=>
  obtain⟨k,a3,rfl,Gw,FW⟩:=hrel;by_cases av:k<g.es.length
  .have⟨e,U⟩:=aq av;obtain⟨a1,a2,ab,ah,ac,am,rfl,u0,u1,u2,u3,-,-⟩:=fU (ap wr FW).es U;obtain⟨G,O,H,I⟩:=e;dsimp only at u0 u1 u2 u3;have⟨HX,Gc⟩:=bJ U (FW.alloc FW.size (.cells (eh G O ab H ah ac I am) 155));have Z:=aH wr (.cells (eh G O ab H ah ac I am) 155) rfl;go_upto_region 6 with(fail)
   generalize wr.alloc _=ao at Gc Z ⊢;have⟨a5,a6,n2,a7⟩:=aB Z;cases hv:dlB G
   .have HF:=zH (Tt:ntE ⟨G,O,H,I⟩=true);exact Za
   .have HF:=zH (Tt:ntE ⟨G,O,H,I⟩=false);refine MI ?_;exact Xd
  .exact Xn
def Ò(k:Int):Int:=if 3<=k/\k<=8 then k+6 else if 9<=k/\k<=14 then k-6 else k
def vC k w:az 172 (bK k) w fun e w'=>e=.returned (zI (Ò k))/\w=w':=by
 by_cases h1:3<=k/\k<=8
 .have e1:eU k 3 8=true:=RM;have h:IntKind.i64.wrap (k+9)=k+9:=Rt;have D:IntKind.i64.wrap (k+9-3)=k+6:=Rt;rw[show Ò k=k+6 by unfold Ò;rw[ak h1]];clear h1;go_enter func172,ntmps172
  go_wp2_with (go_at_call 143;refine(Calls.cg (dC _ _ _ _) e1).x ?_;rintro e w' ⟨rfl,rfl⟩)
  exact V8
 .have e1:eU k 3 8=false:=RM;by_cases h2:9<=k/\k<=14
  .have e2:eU k 9 14=true:=RM;have h:IntKind.i64.wrap (k-9)=k-9:=Rt;have D:IntKind.i64.wrap (k-9+3)=k-6:=Rt;rw[show Ò k=k-6 by unfold Ò;rw[aj h1,ak h2]];exact Y4
  .have e2:eU k 9 14=false:=RM;rw[show Ò k=k by unfold Ò;rw[aj h1,aj h2]];exact Y4
def mC(h:bA w b cs 3)(D:cs.toList=xs.map (Value.int .i64)):aO w (some ⟨b,0,none⟩) xs:=(zf (xs:=xs) h D (ae b) (iX b)).D
def zmZ(rows:aP)(w:aa)(e:Ending)(w':aa):Prop:=∃A c,e=.returned (.slice A rows c)/\bt w' A rows/\ag w w'
def rh k v w:az 184 (bC k v) w (zmZ (d_ k v) w):=by
 by_cases h3:k=3
 .subst h3;have D:=((aw w (.cells ě 3)).alloc Qt (.cells #[.slice (bH w) 3 3] 26));have F:=(bO (w.alloc (.cells ě 3)) (.cells #[.slice (bH w) 3 3] 26) (k:=w.heap.size) Qt).t (aH w _ rfl);have G:=aH (w.alloc (.cells ě 3)) (.cells #[.slice (bH w) 3 3] 26) (n:=(w:Nat)+1) Qt;have⟨H,I,J⟩:=er D F G;clear D F G;rw[show d_ 3 v=[[1,1,1]] from rfl];go_enter func184,ntmps184
  go_wp2;go_ret
  exact⟨_,_,rfl,au ⟨_,0,rfl,fun j r h=>by
   match j,h with
   |0,h=>simp at h;subst h;exact⟨_,_,aF J.o 0 rfl,mC (xs:=[1,1,1]) I.o rfl⟩
   |j+1,h=>simp at h⟩,H⟩
 by_cases h4:k=4
 .subst h4;have D:=((aw w (.cells #[.int .i64 1] 3)).alloc Qt (.cells #[.slice (bH w) 1 1] 26));have F:=(bO (w.alloc (.cells #[.int .i64 1] 3)) (.cells #[.slice (bH w) 1 1] 26) (k:=w.heap.size) Qt).t (aH w _ rfl);have G:=aH (w.alloc (.cells #[.int .i64 1] 3)) (.cells #[.slice (bH w) 1 1] 26) (n:=(w:Nat)+1) Qt;have⟨H,I,J⟩:=er D F G;clear D F G h3;rw[show d_ 4 v=[[1]] from rfl];go_enter func184,ntmps184
  go_wp2;go_ret
  exact⟨_,_,rfl,au ⟨_,0,rfl,fun j r h=>by
   match j,h with
   |0,h=>simp at h;subst h;exact⟨_,_,aF J.o 0 rfl,mC (xs:=[1]) I.o rfl⟩
   |j+1,h=>simp at h⟩,H⟩
 by_cases h5:k=5
 .subst h5;have D:=ζ w (.cells #[.int .i64 1,(),.int .i64 1] 3) (.cells #[(),.int .i64 1,.int .i64 1] 3) (.cells #[.slice (bH w) 3 3,.slice (some ⟨(w:Nat)+1,0,none⟩) 3 3] 26);have⟨F,G,T⟩:=cD w (.cells #[.int .i64 1,(),.int .i64 1] 3) (.cells #[(),.int .i64 1,.int .i64 1] 3) (.cells #[.slice (bH w) 3 3,.slice (some ⟨(w:Nat)+1,0,none⟩) 3 3] 26);have⟨H,I,J,O⟩:=gG D F G T;clear D F G T h3 h4;rw[show d_ 5 v=[[1,0,1],[0,1,1]] from rfl];go_enter func184,ntmps184
  go_wp2;go_ret
  exact⟨_,_,rfl,au ⟨_,0,rfl,fun j r h=>by
   match j,h with
   |0,h=>simp at h;subst h;exact⟨_,_,aF O.o 0 rfl,mC (xs:=[1,0,1]) I.o rfl⟩
   |1,h=>simp at h;subst h;exact⟨_,_,aF O.o 1 rfl,mC (xs:=[0,1,1]) J.o rfl⟩
   |j+2,h=>simp at h⟩,H⟩
 by_cases h7:k=7
 .subst h7;have D:=((aw w (.cells (uq v) 3)).alloc Qt (.cells #[.slice (bH w) 2 2] 26));have F:=(bO (w.alloc (.cells (uq v) 3)) (.cells #[.slice (bH w) 2 2] 26) (k:=w.heap.size) Qt).t (aH w _ rfl);have G:=aH (w.alloc (.cells (uq v) 3)) (.cells #[.slice (bH w) 2 2] 26) (n:=(w:Nat)+1) Qt;have⟨H,I,J⟩:=er D F G;clear D F G h3 h4 h5;rw[show d_ 7 v=[[1,v]] from rfl];go_enter func184,ntmps184
  go_wp2;go_ret
  exact⟨_,_,rfl,au ⟨_,0,rfl,fun j r h=>by
   match j,h with
   |0,h=>simp at h;subst h;exact⟨_,_,aF J.o 0 rfl,mC (xs:=[1,v]) I.o rfl⟩
   |j+1,h=>simp at h⟩,H⟩
 .have U:(k==3)=false:=Ri;have Y:(k==4)=false:=Rh;have Z:(k==5)=false:=Rg;have ab:(k==7)=false:=Rm;rw[show d_ k v=[] by unfold d_;rw[aj h3,aj h4,aj h5,aj h7]];clear h3 h4 h5 h7;go_enter func184,ntmps184
  go_wp2;go_ret
  exact⟨none,0,rfl,ay rfl,al _ _⟩
def cS.ext(F:cS w A rows)(h:ag w w'):cS w' A rows:=F.E id fun⟨b,o,e,J⟩=>⟨b,o,e,fun k r O=>by obtain⟨D,ε,G,H,I⟩:=J k r O;exact⟨D,ε,ar h G,H,I.ext h⟩⟩
def ig.frC(h:ig w B A rows)(D:B<=(w:Nat)):Fr w B w (fun W=>cS W A rows):=tU (fun W F=>h W F) (fun _ _ G h=>h.ext G) D
def lJ(R:Rl)(w:aa)(e:Ending)(w':aa):Prop:=∃A c,e=.returned (.agg (dh R.l R.r A R.b c))/\Fr w' w w' (fun W=>cS W A R.b)/\ag w w'
def mO p l r N M A ε w(am:bV p=true)(O:bt w A M)(s:eV p N (l+r) M)(ad:N<=1048576)(an:l+r<=1048576):az 179 (wT p l r A N ε) w (lJ (vc p l r M) w):=by
 have⟨T,U⟩:=bM w (.cells bx 67);have I:=zH (show ∀V,ag w V->az 214 #[p,.slice A N ε,.int .i64 ((l:Int)+(r:Int))] V (Ct (j5 p (l+r) M) V) from fun V ah=>by have:=vI p M A ε N (l+r) V am (O.ext ah) s ad an;rw[show(((l+r:Nat)):Int)=(l:Int)+(r:Int) from C3 l r]at this;exact this)
 have ao:IntKind.i64.wrap ((l:Int)+(r:Int))=(l:Int)+(r:Int):=Rt;have⟨G,HQ⟩:=bJ T U;have⟨Z,H⟩:=aR (j5 p (l+r) M);have J:=zH H;rw[<-H]at I;clear T U O s H;go_enter func179,ntmps179
 go_upto_region 1 with(fail)
 generalize w.alloc _=W at G HQ ⊢;go_wp2_with (go_at_call 214;refine(I.o _ G.o).x ?_;rintro e w2 ⟨D,d,rfl,Y,F⟩;have h:=ai HQ F;have⟨ap,av,a0⟩:=aD h;have f0:=aK h 0;have f1:=aK h 1;have f2:=aK h 2;have HZ:=zH h;have ac:=zH (Y.frC F.size);have ab:=zH (aT G F);clear h Y F)
 refine MQ fun y1 y2 y3 u0 u1 u2 Ge=>?_
 refine aI (v:=.agg (dh l r D Z d)) (by simp[results,results179,go_sem, *]) rfl ⟨D,d,by rw[J.o];rfl,?_,((ab.setCell (p:=⟨w,0,none⟩) (ae _) _).setCell (p:=⟨w,1,none⟩) (ae _) _).setCell (p:=⟨w,2,none⟩) (ae _) _⟩;rw[show(vc p l r M).b=Z from J.o.q];exact(ac.y (w':=((w2.setCell ⟨w,0,none⟩ (zI (l:Nat))).setCell ⟨w,1,none⟩ (zI (r:Nat))).setCell ⟨w,2,none⟩ (.slice D Z d)) fun q a _=>(a_ _ _ _ _ (by show q≠w.heap.size;omega)).t ((a_ _ _ _ _ (by show q≠w.heap.size;omega)).t (a_ _ _ _ _ (by show q≠w.heap.size;omega)))).to Qu Qt
def Bf(w:aa)(r:aL)(c:cL):Prop:=∃A ε,c=[.slice A r ε]/\r.length<=ε/\aO w A r
def Bf.ext{a b}{r}{c}(D:ag a b)(h:Bf a r c):Bf b r c:=by obtain⟨A,ε,e,F,h⟩:=h;exact⟨A,ε,e,F,h.ext D⟩
def yU:RT prog 55 26 1 (.slice none 0 0) 24:=⟨iA,QT,Qw,Qw,Qw⟩
def lM(h:bR 1 Bf w A rows):cS w A rows:=by
 rcases h with h|⟨b,o,e,H⟩
 .exact ay h
 .refine au ⟨b,o,e,fun k r I=>?_⟩;obtain⟨c,F,D,ε,rfl,J,G⟩:=H k r I;have:=F 0 _ rfl;rw[fk,jf]at this;exact⟨D,ε,this,J,G⟩
def mS D F A1 G c1 c2 H n2 n V(ad:aO V A1 D)(ah:aO V G F)(Z:H=D.length)(ab:n2=F.length)(ac:n=(D++F).length)(av:H+n2<=1048576):az 65 #[.slice (bH V) 2 2] (V.alloc (.cells (nj A1 H c1 G n2 c2) 26)) fun e w'=>∃I O,e=.returned (.slice I n O)/\n<=O/\Fr w' V w' (fun W=>aO W I (D++F))/\ag V w':=by
 have J:=aw V (.cells (nj A1 H c1 G n2 c2) 26);obtain⟨ao,ap,-,-⟩:=dD (aH V (.cells (nj A1 H c1 G n2 c2) 26) rfl);have am:bt (V.alloc (.cells (nj A1 H c1 G n2 c2) 26)) (some ⟨V,0,none⟩) [D,F]:=au ⟨V,0,rfl,fun k r h=>by
  match k,h with
  |0,h=>simp at h;subst h;exact⟨A1,c1,by rw[<-Z];exact ao,ad.ext J⟩
  |1,h=>simp at h;subst h;exact⟨G,c2,by rw[<-ab];exact ap,ah.ext J⟩
  |k+2,h=>simp at h⟩
 have:=ya [D,F] (some ⟨V,0,none⟩) 2 _ am Qt (fun k _=>by
  match k with
  |0=>simp
  |1=>simp;omega
  |k+2=>simp;omega)
 refine iB this ?_;rintro e w' ⟨u,rfl,T,U⟩;have an:[D,F].flatten=D++F:=Qt;rw[an]at T;obtain⟨I,O,rfl,-,Y,-⟩:=T.p;rw[<-ac]at Y ⊢;exact⟨I,O,rfl,Y,(T.fr U.size).to J.size (ae _),aT J U⟩
def yj n:(mg n).length=n:=by simp[mg,zK]
def zeX(h:k<n):(mg n)[k]?=some (kg n k++kg n k):=by simp[mg,CQ h]
def vy n w(dT:n<=1024):az 182 (fm n) w (lJ (idR n) w):=by
 have⟨ba,bh⟩:=bM w (.cells bx 67);go_enter func182,ntmps182
 go_upto_region 1 with(fail)
 generalize w.alloc _=W at ba bh ⊢;have⟨cr,b0⟩:=bJ ba bh;have⟨bb,ad⟩:=bM W (.cells #[n,n,dE] 67);go_upto_region 2 with(fail)
 generalize W.alloc _=O at bb ad ⊢;obtain⟨cq,c5,am⟩:=er bb ad (show(W:Nat)<O from(bk.1 ad).1);go_wp2;go_loopw [9] (fun i wr=>∃k:Nat,k<=n/\i=.int .i64 k/\(∃D F,bA wr W (eO n n D k F) 67/\bw 26 1 Bf wr O (.slice D k F) ((mg n).take k))/\ag W wr/\(O:Nat)<=wr) (fun i _=>n-(intOf i).toNat)
 case atStart=>exact⟨0,aW _,rfl,⟨none,0,c5,bw.nil _ _ _ _ _⟩,cq,ae _⟩
 case round=>
  obtain⟨k,dO,rfl,⟨D,F,ah,ac⟩,ab,a3⟩:=hrel;by_cases be:k<n
  .obtain⟨bu,cV⟩:=bJ (by rw[cQ,yj];omega:((mg n).take k).length=k) (by rw[du,zeX be];rfl:(mg n).take (k+1)=(mg n).take k++[kg n k++kg n k]);have⟨I,ck⟩:=aR ((kg n k++kg n k).length);obtain⟨a6,b2⟩:=bJ ck (fun V=>(by have:=DP n k V Qu be;exact this:az 125 (iL n k) V fun e w'=>∃u,e=.returned u/\aE w' V u (kg n k)/\ag V w'));have⟨a4,a5,z2⟩:=aD ah;have J:=z2;have⟨c7,bz,cu,b3,Je⟩:=pD ah ac ab a3 be;clear ck;go_upto_region 5 with(fail)
   refine cU (S:=fun V=>af V W 2 (.slice D k F)) 13 QT J (fun hHeld=>?_);refine P8 ?_;refine aM 5 ?_;refine aM 6 ?_;refine cm 4 fun K hK=>?_
   go_simp;refine(b2.o _).x ?_;rintro e d4 ⟨u1,rfl,a1,bc⟩;obtain⟨bp,cb,rfl,-⟩:=a1.p;rw[kh]at a1 ⊢;have b4:=zH ((aC wr).t (bc.x (aC wr).size));have cW:=zH (a1.fr bc.size).D;go_simp;have b7:=ar b4 J;refine hK.out _ _ (fun _=>b7) (fun hHeld=>?_);refine P9 ?_;refine Ny fun K hK=>?_
   refine(b2.o _).x ?_;rintro e dq ⟨u2,rfl,a2,av⟩;obtain⟨bq,cc,rfl,-⟩:=a2.p;rw[kh]at a2 ⊢;have Y:=zH (aT b4 av);have c0:=zH (a2.fr av.size).D;have c4:=zH (cW.ext av);go_simp;have b8:=ar Y J;refine hK.out _ _ (fun _=>b8) (fun hHeld=>?_);refine P9 ?_;refine cm 8 fun K hK=>?_
   go_simp;have b9:=ar (Y.alloc Y.size (.cells (nj bp n cb bq n cc) 26)) J;refine hK.out _ _ (fun _=>b9) (fun hHeld=>?_);refine P9 ?_;refine cm 9 fun K hK=>?_
   go_simp;refine(mS (kg n k) (kg n k) bp bq cb cc n n I dq c4 c0 (kh n k).q (kh n k).q a6 Qu).x ?_;rintro e T ⟨G,H,rfl,cj,ch,ce⟩;have cB:=zH cj;have⟨Z,c3⟩:=bJ (aT Y ce) (ch.to (lo':=wr.heap.size) Y.size (ae _));go_simp;have ca:=ar Z J;refine hK.out _ _ (fun _=>ca) (fun hHeld=>?_);refine P9 ?_;refine cm 10 fun K hK=>?_
   go_simp;have a8:=ar (Z.alloc Z.size (.cells (bZ G I H) 26)) J;refine hK.out _ _ (fun _=>a8) (fun hHeld=>?_);refine P9 ?_;have⟨b1,U⟩:=bJ (aH T (.cells (bZ G I H) 26) rfl) (Z.alloc Z.size (.cells (bZ G I H) 26));have a9:=aw T (.cells (bZ G I H) 26);have bv:=zH (bz.ext U);have b5:=zH (show kn Bf (T.alloc (.cells (bZ G I H) 26)) O (.slice D k F) (kg n k++kg n k) [.slice G I H] from by obtain⟨cs,dl⟩:=bz.o;refine⟨wr,T,b3,a9.size,fun g e=>ay ((bS dl.η g e).2),?_⟩;exact(c3.ext a9 (ae _)).E fun V c8=>⟨G,H,by rw[<-a6.o],by rw[<-a6.o];exact cB,c8⟩)
   obtain⟨a7,b6⟩:=bJ (show(O:Nat)<=(T.alloc (.cells (bZ G I H) 26)) from aZ b3 U.size) (ai c7 U);generalize T.alloc _=dr at b1 U bv b5 a7 b6 a8 ⊢;refine cm 11 fun K hK=>?_
   refine im yU rfl (.tmp 13) (.tmp 22) rfl O dr (.slice D k F) ((mg n).take k) (kg n k++kg n k) [.slice G I H] T bv.o rfl SU b5.o (by rw[bu.o];omega) a7.o rfl rfl b1.o ?_;intro ap ao co bg dc c9 bd;rw[bu.o]at bg ⊢;have⟨cF,br,an⟩:=er bg bd ((bd.block W am).t b6);have⟨a4,a5,z2⟩:=aD an;have bn:=aK an 1;have bo:=aK an 2;refine hK.out _ _ (fun _=>z2) (fun hHeld=>?_);refine P9 ?_;refine cm 12 fun K hK=>?_
   go_simp;refine hK.out _ _ (fun _=>z2) (fun hHeld=>?_);refine P9 ?_;refine cm 13 fun K hK=>?_
   go_simp;refine Qn ?_;refine gM QT ?_ _;have bi:=bE co W 2 _ _ (.slice (bH ap) (k+1) ao) an;simp only[zA]at bi;have⟨cR,cI,ct⟩:=er bi (cF.setCell (a:=⟨W,2,none⟩) am (.slice (bH ap) (k+1) ao)) (((aT cu U).t (br.x (ix am))).setCell (p:=⟨W,2,none⟩) (ae _) (.slice (bH ap) (k+1) ao));have cO:=zH (show(O:Nat)<=(co.setCell ⟨W,2,none⟩ (.slice (bH ap) (k+1) ao)) by have:=br.size;have:=a7.o;simp;omega)
   go_wp2;go_roundw
   case rel=>exact⟨k+1,St,Qx,⟨_,_,cR,by rw[cV.o];exact cI⟩,ct,cO⟩
   case measure=>have:=Je.o;simp[intOf];omega
  .obtain rfl:k=n:=Qu;rw[cZ (by rw[yj];exact ae _)]at ac;have⟨a4,a5,z2⟩:=aD ah;have a0:=ai b0 ab;have⟨d1,d2,d3⟩:=aD a0;have⟨f0,f1,f2⟩:=cd a0;have cn:=(bk.1 b0).1;have ci:=(ac.fr (fun _ _ _ _ db h=>h.ext db) a3).E fun V h=>lM h
   have⟨cA,cK,cz,c6⟩:=gG ci a0 (aT cr ab) cn;go_wp2;have bn:=bE wr w 0 _ _ (zI (k:Nat)) cK;have bo:=bE _ w.heap.size 1 _ _ (zI (k:Nat)) bn;have cp:=bE _ w.heap.size 2 _ _ (.slice D k F) bo;simp only[zA]at cp;have⟨u0,u1,u2⟩:=aD cp;refine aI (v:=.agg (gH k k D k F)) (by simp[results,results182,go_sem, *]) rfl ⟨D,F,by rw[show(idR k).b.length=k from yj k];rfl,?_,((cz.setCell (p:=⟨w,0,none⟩) (ae _) _).setCell (p:=⟨w,1,none⟩) (ae _) _).setCell (p:=⟨w,2,none⟩) (ae _) _⟩;have d0:=am.o;have ad:=c6.o;exact(cA.y (w':=((wr.setCell ⟨w,0,none⟩ (zI (k:Nat))).setCell ⟨w,1,none⟩ (zI (k:Nat))).setCell ⟨w,2,none⟩ (.slice D k F)) fun q a _=>(a_ _ _ _ _ (by show q≠w.heap.size;omega)).t ((a_ _ _ _ _ (by show q≠w.heap.size;omega)).t (a_ _ _ _ _ (by show q≠w.heap.size;omega)))).to Qu Qt
def zas l r k G A F m d w(I:l<=d)(J:l<=1048576):az 175 #[.agg (gH l r A k G),.slice F m d] w fun e w'=>e=.returned (.slice F l d)/\ag w w':=by
 have⟨h,D⟩:=bM w (.cells (gH l r A k G) 67);go_enter func175,ntmps175
 go_upto_region 1 with(fail)
 generalize w.alloc _=W at h D ⊢;have⟨O,T,U⟩:=aD D;have H:=zH h;clear h D;go_wp2;go_ret
 exact⟨rfl,H⟩
def BQ l r k F A b o m d w(H:l<=m)(J:m<=d)(I:l<=1048576):az 174 #[.agg (gH l r A k F),.slice (some ⟨b,o,none⟩) m d] w fun e w'=>e=.returned (.slice (if d=l then some ⟨b,o,none⟩ else some ⟨b,o+l,none⟩) (m-l) (d-l))/\ag w w':=by
 have⟨h,D⟩:=bM w (.cells (gH l r A k F) 67);go_enter func174,ntmps174
 go_upto_region 1 with(fail)
 generalize w.alloc _=W at h D ⊢;have⟨O,T,U⟩:=aD D;have G:=zH h;clear h D;go_wp2
 all_goals
  go_ret
  exact⟨rfl,G⟩
def lL{D}(h:aO w D xs)l:aO w D (xs.take l):=by
 rcases h with h|⟨b,o,e,F⟩
 .exact ay QZ
 .exact au ⟨b,o,e,fun k x G=>F k x (rE G)⟩
def mR{o}(h:aO w (some ⟨b,o,none⟩) xs)l:aO w (some ⟨b,o+l,none⟩) (xs.drop l):=by
 rcases h with h|⟨G,H,e,F⟩
 .exact ay QZ
 .cases e
  refine au ⟨b,o+l,rfl,fun k x D=>?_⟩;rw[fQ]at D;have:=F _ x D;rwa[<-ow]at this
def za9{D}{E}{xs:List D}(h:bR s E w A xs)n:bR s E w A (xs.take n):=by
 rcases h with h|⟨b,o,e,F⟩
 .exact V_
 .exact au ⟨b,o,e,fun k x G=>F k x (rE G)⟩
def zhZ{F}{E}{o}{xs:List F}(h:bR s E w (some ⟨b,o,none⟩) xs)n:bR s E w (some ⟨b,o+n*s,none⟩) (xs.drop n):=by
 rcases h with h|⟨O,T,e,I⟩
 .exact V_
 .cases e
  refine au ⟨b,o+n*s,rfl,fun k x D=>?_⟩;rw[fQ]at D;obtain⟨c,G,H⟩:=I _ x D;refine⟨c,fun j y J=>?_,H⟩;have:=G j y J;rwa[Nat.add_mul,<-ow]at this
def znd(L:List eE)(m n:Nat)(w:aa)(e:Ending)(w':aa):Prop:=∃A1 c1 h c2,e=.returned (.tuple (iV (bZ A1 m c1) (bZ h n c2)))/\m<=c1/\n<=c2/\bR 3 jK w' A1 (L.take m)/\bR 3 jK w' h ((L.drop m).take n)/\ag w w'
def zd2 k a b c L A ε w(Z:bR 3 jK w A L)(hL:cJ L=(Tm.op k a b).d)(a7:(Tm.op k a b).ty=some c)(b4:L.length<=400)(ac:L.length<=ε):az 106 (cY (aV A L ε)) w (znd L a.d b.d w):=by
 have G:L.length=a.d+b.d+1:=Xs;have br:kj (cJ L)=true:=(zdm (by rw[hL];exact Tm.sQ _) (by rw[show(cJ L).length=L by simp[cJ]];exact b4)).2 ⟨_,hL,_,a7⟩;have a0:=fun s (Y:mV (cJ L) ⟨[],[],[]⟩=some s)=>(zi2 a7 (by rw[<-hL];exact Y)).2
 have ad:=a.sQ;have ah:=b.sQ;obtain⟨H,I,rfl,-⟩:=Z.θ (Qu:0<L.length);have⟨bh,a5,U⟩:=er (fun V (ab:ag w V)=>EF L (some ⟨H,I,none⟩) ε V (bQ Z ab) Qu) (fun V (ab:ag w V)=>zaA (L.take a.d) (some ⟨H,I,none⟩) ε V (za9 (bQ Z ab) _) Rv Rv) (fun V (ab:ag w V)=>zaA ((L.drop a.d).take b.d) (some ⟨H,I+a.d.length*3,none⟩) (ε-a.d.length) V (za9 (zhZ (bQ Z ab) _) _) R6 R6);rw[show(L.take a.d).length=a.d by rw[cQ];omega]at a5;rw[show((L.drop a.d).take b.d).length=b.d by rw[cQ,fS];omega]at U;have hB:=ζ w (.cells (aV (some ⟨H,I,none⟩) L ε) 35) (.cells lU 35) (.cells lU 35);have⟨q0,q1,q2⟩:=cD w (.cells (aV (some ⟨H,I,none⟩) L ε) 35) (.cells lU 35) (.cells lU 35);have⟨am,b7⟩:=aR a.d.length;have⟨bc,b8⟩:=aR b.d.length;have⟨l,a9⟩:=aR L.length;rw[<-b7]at G a0 ad a5 U ⊢;rw[<-b8]at G a0 ah U ⊢;rw[<-a9]at G b4 ac bh hB q0 q1 q2 ⊢;have⟨cO,bi,be⟩:=er a0 br a9;have⟨h,dr⟩:=aR (l-1);have ba:bc=h-am:=Qu;have a3:l=h+1:=Qu;have eo:h<=ε:=Qu;have d1:am<=h:=Qu;have d0:am<=ε:=Qu;rw[ba]at U ⊢;have⟨cB,cF,ei,cV,cR,cA⟩:=ny G a3 ba ah ad ac;clear br Z b7 b8 a9 G dr a3;go_enter func106,ntmps106
 go_upto_region 1 with(fail)
 generalize (((w.alloc _).alloc _).alloc _)=W at hB q0 q1 q2 ⊢;have x0:=aF q0 0 rfl
 have⟨bd,co,cp,cq⟩:=gG hB q0 q1 q2;go_upto_region 2 with(go_at_call 103;(with_reducible refine(bh.o _ bd.o).x ?_);intro e ck Y;unfold û at Y;obtain⟨cn,d6,db,c8,d7,dc,c9,d8,dl,bo,bu,b9⟩:=Y;rw[bi.o]at bo;subst bo;have cK:=zH (b9 bi);have cr:=zH bu)
 have⟨a1,a4⟩:=bM ck (.cells #[.slice cn d6 db,.slice c8 d7 dc,.slice c9 d8 dl] 145);generalize ck.alloc _=eb at a1 a4 ⊢;obtain⟨s,ej,cc,-,ce,b6,-,bp⟩:=cK.o;have b3:=cO.o s cc;have bq:=bp.ext a1;rw[b6,<-be.o]at a4;have d2:s.f.length=l:=ce.t be.q;have G:=cB.o;have ad:=cR.o;have ah:=cV.o;have ac:=cA.o;have a3:=cF.o;have⟨v,bb⟩:=aq (Qu:am+bc-1<s.f.length);have d3:v=am:=by rw[<-b3,bf,bb];rfl
 subst d3;obtain⟨ek,em,rfl,b1⟩:=bq.θ (Rn:0 < (bD s.f).length);have b2:=b1 _ _ (dK bb);have⟨m,b5⟩:=aR (v+bc-1);rw[<-b5]at b2;have T:=zH (aT cr a1);have ap:=zH (aT bd T.o);have x0:=aF (ai co T.o) 0 rfl;have⟨ee,eg,z2⟩:=aD a4;have⟨ao,O⟩:=bJ (ai cp T.o) (ai cq T.o);have es:¬(ε=v):=Qu;have dT:m<l:=Qu;have d4:IntKind.i64.wrap ((l:Int)-1)=(h:Nat):=Rt;have d5:IntKind.i64.wrap ((h:Int)-1)=(m:Int):=Rt;have⟨bg,cI⟩:=bJ (Qu:w.heap.size≠(w:Nat)+1) (Qu:w.heap.size≠(w:Nat)+1+1);clear G b5;go_upto_region 4 with(fail)
 clear b2 dT;have⟨an,ch⟩:=aR eb;rw[<-ch]at T ap ao O x0 ⊢;clear ch;go_region_held3 (fun V=>af V w 0 (.slice (some ⟨H,I,none⟩) l ε))
  (first|with_reducible exact x0|with_reducible exact ar (aC _) x0|with_reducible exact ar av.o x0|with_reducible exact ar D.o x0|with_reducible exact(cE bg.o).t (ar D.o x0)|with_reducible exact(cE cI.o).t ((cE bg.o).t (ar D.o x0)))
  ((first|(go_at_call 152;(with_reducible refine(a5.o _ (ap.o.t ((aC an).x ap.o.size))).x ?_);rintro e ev ⟨A1,c1,rfl,bz,ca,bv⟩;have av:=zH ((aC an).t (bv.x (aC an).size));have bn:=zH (aT ap av);have cu:=zH bz;have cW:=zH ca;clear bz)|(go_at_call 152;(with_reducible refine(U.o _ bn.o).x ?_);rintro e J ⟨F,c2,rfl,b0,cb,a2⟩;have D:=zH (aT av a2);have c7:=zH (aT bn a2);have cz:=zH b0;have c3:=zH cb;have c5:=zH (cW.ext a2 (ae _));have c6:=zH (av.size);have d9:=aF (ai ao D) 0 rfl;have f0:=aK (ai ao D) 0;have ea:=aF (ai O D) 0 rfl;have f1:=aK (ai O D) 0)))
 have ci:=ai ao D;have cj:=ai O D;have ey:=(cE (w:=J.setCell ⟨(w:Nat)+1,0,none⟩ (.slice A1 v c1)) (p:=⟨(w:Nat)+1,0,none⟩) (a:=⟨(w:Nat)+1+1,0,none⟩) (u:=.slice F (h-v) c2) (by show(w:Nat)+1≠(w:Nat)+1+1;omega)).t (aF (bE _ _ 0 _ _ (.slice A1 v c1) ci) 0 rfl);have ez:=aF (bE _ _ 0 _ _ (.slice F (h-v) c2) ((a_ J ⟨(w:Nat)+1,0,none⟩ (.slice A1 v c1) ((w:Nat)+1+1) (by show(w:Nat)+1+1≠(w:Nat)+1;omega)).t cj)) 0 rfl;have dO:(w:Nat)+1+1<an:=(bk.1 O).1;have a8:∀k,(an:Nat)<=k->((J.setCell ⟨(w:Nat)+1,0,none⟩ (.slice A1 v c1)).setCell ⟨(w:Nat)+1+1,0,none⟩ (.slice F (h-v) c2)).heap[k]?=J.heap[k]?:=fun k Y=>(a_ _ _ _ _ (by show k≠(w:Nat)+1+1;omega)).t (a_ _ _ _ _ (by show k≠(w:Nat)+1;omega))
 have c0:=zH (c5.y (w':=(J.setCell ⟨(w:Nat)+1,0,none⟩ (.slice A1 v c1)).setCell ⟨(w:Nat)+1+1,0,none⟩ (.slice F (h-v) c2)) fun k a6 dq=>a8 k a6).D;have c4:=zH (c3.y (w':=(J.setCell ⟨(w:Nat)+1,0,none⟩ (.slice A1 v c1)).setCell ⟨(w:Nat)+1+1,0,none⟩ (.slice F (h-v) c2)) fun k a6 dq=>a8 k (aZ c6 a6)).D;have ct:=zH ((c7.setCell (p:=⟨(w:Nat)+1,0,none⟩) (by show(w:Nat)<=w+1;omega) (.slice A1 v c1)).setCell (p:=⟨(w:Nat)+1+1,0,none⟩) (by show(w:Nat)<=w+1+1;omega) (.slice F (h-v) c2));go_wp2;exact aI (v:=.tuple (iV (bZ A1 v c1) (bZ F (h-v) c2))) (by simp[results,results106,go_sem, *]) rfl ⟨A1,c1,F,c2,rfl,cu,cz,c0,c4,ct⟩
def mn p v G k a b c A ε(rows:aP)w h n F(H:∀W,az 146 (cY (rJ k a b c h n F)) W fun e w'=>e=.returned (.tuple gh)/\ag W w'):az 101 (j9 p (aA v G A rows ε) (rJ k a b c h n F)) w fun e w'=>e=.returned (.tuple (dz bx))/\ag w w':=by
 have Y:=zH H;clear H;go_enter oI,oJ
 go_upto_region 2 with(go_at_call 146;refine(Y.o _).x ?_;rintro e av ⟨rfl,D⟩)
 have I:=(ζ w (.cells (aA v G A rows ε) 57) (.cells (rJ k a b c h n F) 97) (.cells bx 57));have⟨ab,ac,T⟩:=cD w (.cells (aA v G A rows ε) 57) (.cells (rJ k a b c h n F) 97) (.cells bx 57);have O:=dg D T;have J:=I.t (D.x (B':=w.heap.size) Rs);have Z:=D.size;simp only[dV]at Z;have⟨ad,ah,am,an,ao,ap⟩:=dS O;have U:=zH J;clear ab ac T O J D I;go_wp2;refine aI (v:=.tuple (dz bx)) (by simp[results,fM,go_sem, *]) rfl ⟨rfl,?_⟩;exact((U.setCell Rs _).setCell Rs _).setCell Rs _
def zkE(p v h a b c:Int)A ε rows w D row F(O:dZ w)(ab:bt w A rows)(ao:aO w D row)(ah:row.length<=1048576)(s:Δ p v h rows):az 101 #[p,.agg (aA v h A rows ε),.agg #[.int .i64 1,a,b,c,.slice D row F]] w (ο v (fO 1 h) (cG p v rows 1 a b c row (v+h).toNat) (nR p v h rows 1 a b c row) w):=by
 refine Ql fun GV GK Gh GO GM GR GS GU GQ=>?_
 have T:pB 1 a b c row=((c==0)&&((row.length==0))):=QI;have GN:me p v h rows 1 a b c row=(eU a 0 ((rows:Int)-1)&&(eU b 0 ((rows:Int)-1)&&(a !=b))):=QH;have ad:cG p v rows 1 a b c row (v+h).toNat=(rows.set a.toNat (rows.getD b.toNat [])).set b.toNat (rows.getD a.toNat []):=QG;have GP:fO 1 h=h:=QF;rw[sy s];have GL:=fun W=>Cp a b c D row F W ah
 cases he:pB 1 a b c row with
 |false=>
  rw[T]at he;refine(mn p v h 1 a b c A ε rows w D row F (fun W=>?_)).x fun e w' ⟨I,J⟩=>ο.no Qt I J
  exact Wi
 |true=>
  rw[T]at he;have G:=GL;rw[he]at G;cases hc:me p v h rows 1 a b c row with
  |false=>
   refine(xJ p v h 0 0 A ε rows [] w false a b c D row F G (fun W H=>?_) (fun h=>Qy) O (aW _) (fun r hr=>QB)).x fun e w' m=>m.none Qt Qt
   exact WR
  |true=>
   have hg:=iJ s hc;have Z:∀r∈cG p v rows 1 a b c row (v+h).toNat,r.length<=maxLen:=by intro r hr;have I:=(hg.1 r hr).1;have J:fO 1 h<=h+1:=Rx;unfold maxLen;omega
   refine(xJ p v h v (fO 1 h) A ε rows (cG p v rows 1 a b c row (v+h).toNat) w true a b c D row F G (fun W H=>?_) (fun _ W H=>?_) O Ul Z).x fun e w' m=>m.y Qt
   .exact WR
   .rw[GN]at hc;rw[ad,GP];simp[dx,iG,il]at hc;obtain⟨⟨U,am⟩,⟨Y,an⟩,ac⟩:=hc;exact zes a b p v h A ε rows W (ab.ext H) s.n GS U Qu Y Qu ac
def zjf(p v h a b c:Int)A ε rows w D row F(O:dZ w)(Z:bt w A rows)(ah:aO w D row)(ac:row.length<=1048576)(s:Δ p v h rows):az 101 #[p,.agg (aA v h A rows ε),.agg #[.int .i64 2,a,b,c,.slice D row F]] w (ο v (fO 2 h) (cG p v rows 2 a b c row (v+h).toNat) (nR p v h rows 2 a b c row) w):=by
 refine Ql fun GV GK Gh GO GM GR GS GU GQ=>?_
 have T:pB 2 a b c row=((b==0)&&((row.length==0))):=QI;have GN:me p v h rows 2 a b c row=(eU a 0 ((rows:Int)-1)&&(jY p c&&(c !=0))):=QH;have ab:cG p v rows 2 a b c row (v+h).toNat=rows.set a.toNat (kq p c (rows.getD a.toNat [])):=QG;have GP:fO 2 h=h:=QF;rw[sy s];have GL:=fun W=>Bn a b c D row F W ac
 cases he:pB 2 a b c row with
 |false=>
  rw[T]at he;refine(mn p v h 2 a b c A ε rows w D row F (fun W=>?_)).x fun e w' ⟨I,J⟩=>ο.no Qt I J
  exact Wi
 |true=>
  rw[T]at he;have G:=GL;rw[he]at G;cases hc:me p v h rows 2 a b c row with
  |false=>
   refine(vE p v h 0 0 A ε rows [] w false a b c D row F G (fun W H=>?_) (fun h=>Qy) O (aW _) (fun r hr=>QB)).x fun e w' m=>m.none Qt Qt
   exact WQ
  |true=>
   have hg:=iJ s hc;have Y:∀r∈cG p v rows 2 a b c row (v+h).toNat,r.length<=maxLen:=by intro r hr;have I:=(hg.1 r hr).1;have J:fO 2 h<=h+1:=Rx;unfold maxLen;omega
   refine(vE p v h v (fO 2 h) A ε rows (cG p v rows 2 a b c row (v+h).toNat) w true a b c D row F G (fun W H=>?_) (fun _ W H=>?_) O Ul Y).x fun e w' m=>m.y Qt
   .exact WQ
   .rw[GN]at hc;rw[ab,GP];simp[dx,iG,il]at hc;obtain⟨⟨U,ad⟩,⟨c1,c2⟩,_⟩:=hc;exact zdF a c p v h A ε rows W (Z.ext H) s.n GS Qu Qu U Qu c1 Qu GQ
def zlH(p v h a b c:Int)A ε rows w D row F(U:dZ w)(Y:bt w A rows)(ao:aO w D row)(ah:row.length<=1048576)(s:Δ p v h rows):az 101 #[p,.agg (aA v h A rows ε),.agg #[.int .i64 3,a,b,c,.slice D row F]] w (ο v (fO 3 h) (cG p v rows 3 a b c row (v+h).toNat) (nR p v h rows 3 a b c row) w):=by
 refine Ql fun GV GK Gh GO GM GR GS GU GQ=>?_
 have ab:pB 3 a b c row=((row.length==0)):=QI;have GN:me p v h rows 3 a b c row=(eU a 0 ((rows:Int)-1)&&(eU b 0 ((rows:Int)-1)&&((a !=b)&&jY p c))):=QH;have ad:cG p v rows 3 a b c row (v+h).toNat=rows.set b.toNat (dw p c (rows.getD b.toNat []) (rows.getD a.toNat [])):=QG;have GP:fO 3 h=h:=QF;rw[sy s];have GL:=fun W=>Er a b c D row F W ah
 cases he:pB 3 a b c row with
 |false=>
  rw[ab]at he;refine(mn p v h 3 a b c A ε rows w D row F (fun W=>?_)).x fun e w' ⟨O,T⟩=>ο.no Qt O T
  exact Wi
 |true=>
  rw[ab]at he;have H:=GL;rw[he]at H;cases hc:me p v h rows 3 a b c row with
  |false=>
   refine(zu p v h 0 0 A ε rows [] w false a b c D row F H (fun W G=>?_) (fun h=>Qy) U (aW _) (fun r hr=>QB)).x fun e w' m=>m.none Qt Qt
   exact WZ
  |true=>
   have hg:=iJ s hc;have ac:∀r∈cG p v rows 3 a b c row (v+h).toNat,r.length<=maxLen:=by intro r hr;have O:=(hg.1 r hr).1;have T:fO 3 h<=h+1:=Rx;unfold maxLen;omega
   refine(zu p v h v (fO 3 h) A ε rows (cG p v rows 3 a b c row (v+h).toNat) w true a b c D row F H (fun W G=>?_) (fun _ W G=>?_) U Ul ac).x fun e w' m=>m.y Qt
   .exact WZ
   .rw[GN]at hc;rw[ad,GP];simp[dx,iG,il]at hc;obtain⟨⟨I,am⟩,⟨J,an⟩,Z,c1,c2⟩:=hc;by_cases ap:v+h=0
    .exact zgz a b c p v h A ε rows W (Y.ext G) s.n GS Qu Qu I Qu J Qu Z c1 Qu GQ (fun r hr=>Ty)
    .exact zhQ a b c p v h (v+h).toNat A ε rows W (Y.ext G) s.n GS Qu Qu I Qu J Qu Z c1 Qu GQ (by have:=s.v0;have:=s.h0;omega) (fun r hr=>Ty)
def zkF(p v h a b c:Int)A ε rows w D row F(J:dZ w)(hR:bt w A rows)(ac:aO w D row)(Z:row.length<=1048576)(s:Δ p v h rows):az 101 #[p,.agg (aA v h A rows ε),.agg #[.int .i64 4,a,b,c,.slice D row F]] w (ο v (fO 4 h) (cG p v rows 4 a b c row (v+h).toNat) (nR p v h rows 4 a b c row) w):=by
 refine Ql fun GV GK Gh GO GM GR GS GU GQ=>?_
 have O:pB 4 a b c row=((b==0)&&((c==0)&&((row.length==0)))):=QI;have GN:me p v h rows 4 a b c row=(eU a 0 ((rows:Int)-1)&&uX (rows.getD a.toNat [])):=QH;have Y:cG p v rows 4 a b c row (v+h).toNat=rows.eraseIdx a.toNat:=QG;have GP:fO 4 h=h:=QF;rw[sy s];have GL:=fun W=>Cq a b c D row F W Z
 cases he:pB 4 a b c row with
 |false=>
  rw[O]at he;refine(mn p v h 4 a b c A ε rows w D row F (fun W=>?_)).x fun e w' ⟨H,I⟩=>ο.no Qt H I
  exact Wi
 |true=>
  rw[O]at he;have G:=GL;rw[he]at G;cases hc:me p v h rows 4 a b c row with
  |false=>
   refine(xK p v h 0 0 A ε rows [] w false a b c D row F G (fun W hW=>?_) (fun h=>Qy) J (aW _) (fun r hr=>QB)).x fun e w' m=>m.none Qt Qt
   exact Xt
  |true=>
   have hg:=iJ s hc;have U:∀r∈cG p v rows 4 a b c row (v+h).toNat,r.length<=maxLen:=by intro r hr;have H:=(hg.1 r hr).1;have I:fO 4 h<=h+1:=Rx;unfold maxLen;omega
   refine(xK p v h v (fO 4 h) A ε rows (cG p v rows 4 a b c row (v+h).toNat) w true a b c D row F G (fun W hW=>?_) (fun _ W hW=>?_) J Ul U).x fun e w' m=>m.y Qt
   .exact Xt
   .rw[GN]at hc;rw[Y,GP];simp[dx,iG,il]at hc;obtain⟨⟨T,ab⟩,_⟩:=hc;exact zfj a p v h A ε rows W (hR.ext hW) s.n GS T Qu
def zlI(p v h a b c:Int)A ε rows w D row F(O:dZ w)(Z:bt w A rows)(ah:aO w D row)(ac:row.length<=1048576)(s:Δ p v h rows):az 101 #[p,.agg (aA v h A rows ε),.agg #[.int .i64 5,a,b,c,.slice D row F]] w (ο v (fO 5 h) (cG p v rows 5 a b c row (v+h).toNat) (nR p v h rows 5 a b c row) w):=by
 refine Ql fun GV GK Gh GO GM GR GS GU GQ=>?_
 have T:pB 5 a b c row=((b==0)&&((c==0)&&((row.length==0)))):=QI;have GN:me p v h rows 5 a b c row=(eU a 0 (rows:Int)):=QH;have ab:cG p v rows 5 a b c row (v+h).toNat=cT rows a.toNat (List.replicate (v+h).toNat 0):=QG;have GP:fO 5 h=h:=QF;rw[sy s];have GL:=fun W=>Es a b c D row F W ac
 cases he:pB 5 a b c row with
 |false=>
  rw[T]at he;refine(mn p v h 5 a b c A ε rows w D row F (fun W=>?_)).x fun e w' ⟨I,J⟩=>ο.no Qt I J
  exact Wi
 |true=>
  rw[T]at he;have G:=GL;rw[he]at G;cases hc:me p v h rows 5 a b c row with
  |false=>
   refine(zw p v h 0 0 A ε rows [] w false a b c D row F G (fun W H=>?_) (fun h=>Qy) O (aW _) (fun r hr=>QB)).x fun e w' m=>m.none Qt Qt
   exact WN
  |true=>
   have hg:=iJ s hc;have Y:∀r∈cG p v rows 5 a b c row (v+h).toNat,r.length<=maxLen:=by intro r hr;have I:=(hg.1 r hr).1;have J:fO 5 h<=h+1:=Rx;unfold maxLen;omega
   refine(zw p v h v (fO 5 h) A ε rows (cG p v rows 5 a b c row (v+h).toNat) w true a b c D row F G (fun W H=>?_) (fun _ W H=>?_) O Ul Y).x fun e w' m=>m.y Qt
   .exact WN
   .rw[GN]at hc;rw[ab,GP];simp[dx,iG,il]at hc;obtain⟨U,ad⟩:=hc;exact zg6 a p v h A ε rows W (Z.ext H) s.n GS U Qu s.v0 Qu s.h0 Qu
def zjg(p v h a b c:Int)A ε rows w D row F(J:dZ w)(hR:bt w A rows)(ah:aO w D row)(ab:row.length<=1048576)(s:Δ p v h rows):az 101 #[p,.agg (aA v h A rows ε),.agg #[.int .i64 6,a,b,c,.slice D row F]] w (ο v (fO 6 h) (cG p v rows 6 a b c row (v+h).toNat) (nR p v h rows 6 a b c row) w):=by
 refine Ql fun GV GK Gh GO GM GR GS GU GQ=>?_
 have O:pB 6 a b c row=((c==0)&&((row.length==0))):=QI;have GN:me p v h rows 6 a b c row=(eU a 0 ((rows:Int)-1)&&(eU b 0 (h-1)&&(((rows.getD a.toNat []).getD (v+b).toNat 0 !=0)&&te rows (v+b).toNat a))):=QH;have Z:cG p v rows 6 a b c row (v+h).toNat=(rows.map (fun r=>r.eraseIdx (v+b).toNat)).eraseIdx a.toNat:=QG;have GP:fO 6 h=h-1:=QF;rw[sy s];have GL:=fun W=>Bo a b c D row F W ab
 cases he:pB 6 a b c row with
 |false=>
  rw[O]at he;refine(mn p v h 6 a b c A ε rows w D row F (fun W=>?_)).x fun e w' ⟨H,I⟩=>ο.no Qt H I
  exact Wi
 |true=>
  rw[O]at he;have G:=GL;rw[he]at G;cases hc:me p v h rows 6 a b c row with
  |false=>
   refine(vF p v h 0 0 A ε rows [] w false a b c D row F G (fun W hW=>?_) (fun h=>Qy) J (aW _) (fun r hr=>QB)).x fun e w' m=>m.none Qt Qt
   exact Ya
  |true=>
   have hg:=iJ s hc;have Y:∀r∈cG p v rows 6 a b c row (v+h).toNat,r.length<=maxLen:=by intro r hr;have H:=(hg.1 r hr).1;have I:fO 6 h<=h+1:=Rx;unfold maxLen;omega
   refine(vF p v h v (fO 6 h) A ε rows (cG p v rows 6 a b c row (v+h).toNat) w true a b c D row F G (fun W hW=>?_) (fun _ W hW=>?_) J Ul Y).x fun e w' m=>m.y Qt
   .exact Ya
   .rw[GN]at hc;rw[Z,GP];simp[dx,iG,il]at hc;obtain⟨⟨T,ac⟩,⟨U,ad⟩,_⟩:=hc;exact zdf a b p v h A ε rows W (hR.ext hW) s.n GS T Qu s.v0 Qu U Qu Qu Qu (fun r hr=>Ty)
def zjh(p v h a b c:Int)A ε rows w XA row xcap(H:dZ w)(U:bt w A rows)(hX:aO w XA row)(Z:row.length<=1048576)(s:Δ p v h rows):az 101 #[p,.agg (aA v h A rows ε),.agg #[.int .i64 7,a,b,c,.slice XA row xcap]] w (ο v (fO 7 h) (cG p v rows 7 a b c row (v+h).toNat) (nR p v h rows 7 a b c row) w):=by
 refine Ql fun GV GK Gh GO GM GR GS GU GQ=>?_
 have I:pB 7 a b c row=((c==0)):=QI;have GN:me p v h rows 7 a b c row=(eU a 0 (rows:Int)&&(eU b 0 h&&(jX p row (v+h+1)&&(row.getD (v+b).toNat 0 !=0)))):=QH;have Y:cG p v rows 7 a b c row (v+h).toNat=cT (rows.map (fun r=>cT r (v+b).toNat 0)) a.toNat row:=QG;have GP:fO 7 h=h+1:=QF;rw[sy s];have GL:=fun W=>Bp a b c XA row xcap W Z
 cases he:pB 7 a b c row with
 |false=>
  rw[I]at he;refine(mn p v h 7 a b c A ε rows w XA row xcap (fun W=>?_)).x fun e w' ⟨F,G⟩=>ο.no Qt F G
  exact Wi
 |true=>
  rw[I]at he;have D:=GL;rw[he]at D;cases hc:me p v h rows 7 a b c row with
  |false=>
   refine(vG p v h 0 0 A ε rows [] w false a b c XA row xcap D (fun W hW=>?_) (fun h=>Qy) H (aW _) (fun r hr=>QB)).x fun e w' m=>m.none Qt Qt
   exact YD
  |true=>
   have hg:=iJ s hc;have T:∀r∈cG p v rows 7 a b c row (v+h).toNat,r.length<=maxLen:=by intro r hr;have F:=(hg.1 r hr).1;have G:fO 7 h<=h+1:=Rx;unfold maxLen;omega
   refine(vG p v h v (fO 7 h) A ε rows (cG p v rows 7 a b c row (v+h).toNat) w true a b c XA row xcap D (fun W hW=>?_) (fun _ W hW=>?_) H Ul T).x fun e w' m=>m.y Qt
   .exact YD
   .rw[GN]at hc;rw[Y,GP];simp[dx,iG,il]at hc;obtain⟨⟨J,ab⟩,⟨O,ac⟩,⟨ad,_⟩,_⟩:=hc;exact zd1 a b p v h A XA ε xcap row rows W (U.ext hW) s.n GS (hX.ext hW) Qu J Qu s.v0 Qu O Qu s.h0 Qu (fun r hr=>Ty)
def zhu(p v h a b c:Int)A ε rows w D row F(J:dZ w)(hR:bt w A rows)(ac:aO w D row)(Z:row.length<=1048576)(s:Δ p v h rows):az 101 #[p,.agg (aA v h A rows ε),.agg #[.int .i64 8,a,b,c,.slice D row F]] w (ο v (fO 8 h) (cG p v rows 8 a b c row (v+h).toNat) (nR p v h rows 8 a b c row) w):=by
 refine Ql fun GV GK Gh GO GM GR GS GU GQ=>?_
 have O:pB 8 a b c row=((a==0)&&((c==0)&&((row.length==0)))):=QI;have GN:me p v h rows 8 a b c row=(eU b 0 (h-1)&&te rows (v+b).toNat (-1)):=QH;have Y:cG p v rows 8 a b c row (v+h).toNat=rows.map (fun r=>r.eraseIdx (v+b).toNat):=QG;have GP:fO 8 h=h-1:=QF;rw[sy s];have GL:=fun W=>zo a b c D row F W Z
 cases he:pB 8 a b c row with
 |false=>
  rw[O]at he;refine(mn p v h 8 a b c A ε rows w D row F (fun W=>?_)).x fun e w' ⟨H,I⟩=>ο.no Qt H I
  exact Wi
 |true=>
  rw[O]at he;have G:=GL;rw[he]at G;cases hc:me p v h rows 8 a b c row with
  |false=>
   refine(uU p v h 0 0 A ε rows [] w false a b c D row F G (fun W hW=>?_) (fun h=>Qy) J (aW _) (fun r hr=>QB)).x fun e w' m=>m.none Qt Qt
   exact X8
  |true=>
   have hg:=iJ s hc;have U:∀r∈cG p v rows 8 a b c row (v+h).toNat,r.length<=maxLen:=by intro r hr;have H:=(hg.1 r hr).1;have I:fO 8 h<=h+1:=Rx;unfold maxLen;omega
   refine(uU p v h v (fO 8 h) A ε rows (cG p v rows 8 a b c row (v+h).toNat) w true a b c D row F G (fun W hW=>?_) (fun _ W hW=>?_) J Ul U).x fun e w' m=>m.y Qt
   .exact X8
   .rw[GN]at hc;rw[Y,GP];simp[dx,iG,il]at hc;obtain⟨⟨T,ab⟩,_⟩:=hc;exact zbs b p v h A ε rows W (hR.ext hW) s.n GS s.v0 Qu T Qu Qu Qu (fun r hr=>Ty)
def zhv(p v h a b c:Int)A ε rows w D row F(O:dZ w)(Z:bt w A rows)(ah:aO w D row)(ac:row.length<=1048576)(s:Δ p v h rows):az 101 #[p,.agg (aA v h A rows ε),.agg #[.int .i64 9,a,b,c,.slice D row F]] w (ο v (fO 9 h) (cG p v rows 9 a b c row (v+h).toNat) (nR p v h rows 9 a b c row) w):=by
 refine Ql fun GV GK Gh GO GM GR GS GU GQ=>?_
 have T:pB 9 a b c row=((a==0)&&((c==0)&&((row.length==0)))):=QI;have GN:me p v h rows 9 a b c row=(eU b 0 h):=QH;have ab:cG p v rows 9 a b c row (v+h).toNat=rows.map (fun r=>cT r (v+b).toNat 0):=QG;have GP:fO 9 h=h+1:=QF;rw[sy s];have GL:=fun W=>zp a b c D row F W ac
 cases he:pB 9 a b c row with
 |false=>
  rw[T]at he;refine(mn p v h 9 a b c A ε rows w D row F (fun W=>?_)).x fun e w' ⟨I,J⟩=>ο.no Qt I J
  exact Wi
 |true=>
  rw[T]at he;have G:=GL;rw[he]at G;cases hc:me p v h rows 9 a b c row with
  |false=>
   refine(uV p v h 0 0 A ε rows [] w false a b c D row F G (fun W H=>?_) (fun h=>Qy) O (aW _) (fun r hr=>QB)).x fun e w' m=>m.none Qt Qt
   exact WM
  |true=>
   have hg:=iJ s hc;have Y:∀r∈cG p v rows 9 a b c row (v+h).toNat,r.length<=maxLen:=by intro r hr;have I:=(hg.1 r hr).1;have J:fO 9 h<=h+1:=Rx;unfold maxLen;omega
   refine(uV p v h v (fO 9 h) A ε rows (cG p v rows 9 a b c row (v+h).toNat) w true a b c D row F G (fun W H=>?_) (fun _ W H=>?_) O Ul Y).x fun e w' m=>m.y Qt
   .exact WM
   .rw[GN]at hc;rw[ab,GP];simp[dx,iG,il]at hc;obtain⟨U,ad⟩:=hc;exact zbt b p v h A ε rows W (Z.ext H) s.n GS s.v0 Qu U Qu s.h0 Qu (fun r hr=>Ty)
def zji p v h k a b c A ε rows w D row F(H:dZ w)(I:bt w A rows)(J:aO w D row)(G:row.length<=1048576)(s:Δ p v h rows):az 101 (j9 p (aA v h A rows ε) (jP k a b c D row F)) w (ο v (fO k h) (cG p v rows k a b c row (v+h).toNat) (nR p v h rows k a b c row) w):=by
 by_cases O:k=1
 .subst O;exact zkE p v h a b c A ε rows w D row F H I J G s
 by_cases T:k=2
 .subst T;exact zjf p v h a b c A ε rows w D row F H I J G s
 by_cases U:k=3
 .subst U;exact zlH p v h a b c A ε rows w D row F H I J G s
 by_cases Y:k=4
 .subst Y;exact zkF p v h a b c A ε rows w D row F H I J G s
 by_cases Z:k=5
 .subst Z;exact zlI p v h a b c A ε rows w D row F H I J G s
 by_cases ab:k=6
 .subst ab;exact zjg p v h a b c A ε rows w D row F H I J G s
 by_cases ac:k=7
 .subst ac;exact zjh p v h a b c A ε rows w D row F H I J G s
 by_cases ad:k=8
 .subst ad;exact zhu p v h a b c A ε rows w D row F H I J G s
 by_cases ah:k=9
 .subst ah;exact zhv p v h a b c A ε rows w D row F H I J G s
 refine(mn p v h k a b c A ε rows w D row F (fun W=>zbA k a b c D row F W G O T U Y Z ab ac ad ah)).x fun e w' ⟨am,an⟩=>ο.no (by simp[nR, *]) am an
def zkK p s x A ε w D J(Z:dZ w)(ab:bt w A s.rows)(ac:aO w D x.row)(ah:x.row.length<=1048576)(am:s.Ok p)(F:vO p s x=true):az 101 (j9 p (da s A ε) (jP x.k x.a x.b x.c D x.row J)) w fun e w'=>∃h c2,e=.returned (.tuple (fH (eO (iQ p s x).v (iQ p s x).h h (iQ p s x).rows c2)))/\aY w' w (.slice h (iQ p s x).rows c2) (iQ p s x).rows/\ag w w':=by
 have:=zji p s.v s.h x.k x.a x.b x.c A ε s.rows w D x.row J Z ab ac ah am;refine this.x fun e w' ad=>?_
 obtain⟨v2,av,h,n2,c2,H,U,ap,Y⟩:=ad;unfold vO at F;rw[F]at H;obtain⟨O,T,G⟩:=U F;obtain⟨an,ao,I,_⟩:=G.p;simp only[ep]at I;obtain⟨rfl,rfl,rfl⟩:=I;subst O T;exact⟨h,c2,H,G,Y⟩
def zlX p s x A ε w h G(J:dZ w)(O:bt w A s.rows)(T:aO w h x.row)(Y:x.row.length<=1048576)(Z:s.Ok p)(D:vO p s x=false):az 101 (j9 p (da s A ε) (jP x.k x.a x.b x.c h x.row G)) w fun e w'=>e=.returned (.tuple (dz bx))/\ag w w':=by
 have:=zji p s.v s.h x.k x.a x.b x.c A ε s.rows w h x.row G J O T Y Z;refine this.x fun e w' U=>?_
 obtain⟨v2,ad,ab,n2,c2,F,ac,H,I⟩:=U;unfold vO at D;rw[D]at F;obtain⟨rfl,rfl,rfl,rfl,rfl⟩:=H D;exact⟨F,I⟩
def Ĵ(p:Int)(s:Sy)(xs:List j8)(w:aa)(e:Ending)(w':aa):Prop:=
 (eL p s xs<xs.length->e=.returned (.tuple (jy bx (eL p s xs:Nat))))/\
 (eL p s xs=xs.length->∃h c2,e=.returned (.tuple (jy (eO (iU p s xs xs).v (iU p s xs xs).h h (iU p s xs xs).rows c2) (-1)))/\aY w' w (.slice h (iU p s xs xs).rows c2) (iU p s xs xs).rows)/\
 ag w w'
def ET(p:Int)(s:Sy)(xs:List j8)(w:aa)(D k:Nat)(wr:aa):Prop:=
 k<=eL p s xs/\(∃h c2,bA wr D (eO (iU p s xs k).v (iU p s xs k).h h (iU p s xs k).rows c2) 57/\aY wr ((w:Nat)+2) (.slice h (iU p s xs k).rows c2) (iU p s xs k).rows)/\
 bA wr ((w:Nat)+1) bx 57/\ag w wr
def ET.next{s}{xs}{wr h}{x}{o}{F}(T:ET p s xs w J k wr)(ad:(w:Nat)+2<=J)(H:xs[k]?=some x)(ab:vO p (iU p s xs k) x=true)(D:ag wr h)(ac:aY h wr (.slice F (iQ p (iU p s xs k) x).rows c2) (iQ p (iU p s xs k) x).rows):ET p s xs w J (k+1) ((((h.alloc o).setCell ⟨J,0,none⟩ (zI (iQ p (iU p s xs k) x).v)).setCell ⟨J,1,none⟩ (zI (iQ p (iU p s xs k) x).h)).setCell ⟨J,2,none⟩ (.slice F (iQ p (iU p s xs k) x).rows c2)):=by
 obtain⟨U,⟨A1,c1,O,am⟩,Y,G⟩:=T;have ah:J < (wr:Nat):=(bk.1 O).1;have Z:Below w w (h.alloc o):=(aJ G D).alloc (aJ G D).size _;have I:Below wr wr (h.alloc o):=D.alloc D.size _;refine⟨zdV U H ab,⟨F,c2,?_,?_⟩,?_,e_ Z Qu _ _ _⟩
 .rw[qJ H];exact ja (ai O I)
 .rw[qJ H];exact((((ac.ext ((al _ _).alloc (ae _) o)).setCell Rs _).setCell Rs _).setCell Rs _).x (by have:=G.size;omega)
 .have:=ai Y I;rw[eX _ _ _ _ Rs,eX _ _ _ _ Rs,eX _ _ _ _ Rs];exact this
def zkL p(s:Sy)A ε xs w D ab(b9:dZ w)(ca:bt w A s.rows)(cb:iS w D xs)(ba:s.Ok p)(c9:xs.length<=3000)(co:∀x∈xs,x.row.length<=1048576):az 68 #[p,.agg (da s A ε),.slice D xs ab] w (Ĵ p s xs w):=by
 have bb:=ba.β;have⟨bu,cV,br,cI,cF,bp,bo⟩:=ß ca cb b9 ba co (show s.rows.length<=1048576 by have:=bb.n;omega) (show ∀r∈s.rows,r.length<=1048576 from fun r c3=>by have:=bb.ι r c3;omega);have b7:Below w w ((w.alloc (.cells (da s A ε) 57)).alloc (.cells bx 57)):=((al w w).alloc Qt _).alloc Qt _;have cA:((w.alloc (.cells (da s A ε) 57)).alloc (.cells bx 57)).heap[(w:Nat)+1]?=some (.cells bx 57 (0,0)):=aH _ _ Qt;have⟨a3,b3⟩:=bJ b7 cA;go_enter func68,ntmps68
 go_wp2_with (go_at_call 100;refine(mQ _ _ _ _ _ _ (bu.ext a3) bp bo).x ?_;rintro e be ⟨u,rfl,G,cc⟩;obtain⟨A1,c1,rfl,_⟩:=G.p;have b1:=zH G;have ac:=zH cc)
 have c4:=ac.size;simp only[dV]at c4;have cz:ET p s xs w be 0 (be.alloc (.cells (da s A1 c1) 57)):=by
  have b8:=a3.t (ac.x (B':=w.heap.size) Rs);refine⟨aW _,⟨A1,c1,?_,?_⟩,?_,b8.alloc b8.size _⟩
  .rw[mG];exact aH _ _ rfl
  .rw[mG];exact(b1.ext ((al _ _).alloc (ae _) _)).x Qt
  .exact ai (ai b3 ac) ((al _ _).alloc (ae _) _)
 have b0:=zH cz;go_loopw [17] (fun i wr=>∃k:Nat,k<=xs.length/\i=.int .i64 k/\ET p s xs w be k wr)
  (fun i _=>xs.length-(intOf i).toNat)
 case atStart=>exact⟨0,aW _,rfl,b0⟩
 case round=>
  obtain⟨k,c8,rfl,hrel⟩:=hrel;have cK:=zH hrel;obtain⟨cj,⟨bh,c2,cr,cq⟩,b6,ce⟩:=hrel;have⟨ad,ah,bi,O⟩:=gG cq cr b6 ce;have⟨H,ap⟩:=aR (iU p s xs k);have⟨Pa,bq⟩:=bJ ap (by rw[ap];exact vP cI cj:H.Ok p);rw[<-ap]at ad ah;clear ap;by_cases cn:k<xs.length
  .have⟨x,av⟩:=aq cn;obtain⟨b,o,rfl,ch⟩:=(cV.ext O).θ cn;obtain⟨bg,b5,⟨U,Y,Z,a0,a1⟩,ci⟩:=ch k x av;have⟨bv,bn,b2⟩:=er (cF x (aU av)) ci av;go_upto_region 5 with(fail)
   have⟨b4,FY⟩:=aR (wr.alloc (.cells (jP x.k x.a x.b x.c bg x.row b5) 97));rw[<-FY];have a9:ag wr b4:=UP;have ct:bA b4 wr (jP x.k x.a x.b x.c bg x.row b5) 97:=TK;have h:=zH a9;have⟨d0,d1,d2,_⟩:=dS (ai ah a9);have⟨U,Y,Z,a0,a1⟩:=fg ct;clear FY;cases ao:vO p H x with
   |true=>
    have HO:=zH ao;have⟨bd,bc⟩:=aR (iQ p H x);have⟨bz,am⟩:=bJ bc (fun(A ε W D ab a6 a7 a8)=>zkK p H x A ε W D ab a6 a7 a8 bv bq HO);rw[<-bc]at am;clear bc;go_upto_region 6 with(go_at_call 101;refine(am.o _ _ _ _ _ (br.ext (aJ O h)) ((CG ad).ext h) (bn.ext h)).x ?_;rintro e I ⟨a2,a5,rfl,G,T⟩;have J:=zH (aT h T);have cO:=zH (G.x h.size))
    have⟨an,OY⟩:=aR (I.alloc (.cells (da bd a2 a5) 57));rw[<-OY];have F:ag I an:=UH;have cu:bA an I (da bd a2 a5) 57:=by rw[OY];exact aH _ _ rfl
    have⟨d0,d1,d2,f0,f1,f2⟩:=dS (ai (ai ah J.o) F);have⟨U,Y,Z⟩:=aD cu;have cR:=zH OY;clear OY;go_wp2;go_roundw
    case rel=>
     have cp:=cK.next (o:=.cells (da bd a2 a5) 57) (x:=x) Qu b2 Tn J.o (by rw[<-Pa.o,<-bz.o];exact cO);rw[<-Pa.o,<-bz.o,<-cR.o]at cp;exact⟨k+1,Qu,Qx,cp⟩
    case measure=>simp[intOf];omega
   |false=>
    have HO:=zH ao;have am:=zH (fun(A ε W D ab a6 a7 a8)=>zlX p H x A ε W D ab a6 a7 a8 bv bq HO);go_upto_region 6 with(go_at_call 101;refine(am.o _ _ _ _ _ (br.ext (aJ O h)) ((CG ad).ext h) (bn.ext h)).x ?_;rintro e I ⟨rfl,T⟩;have J:=zH (aT h T))
    have⟨an,OY⟩:=aR (I.alloc (.cells bx 57));rw[<-OY];have F:ag I an:=UH;have⟨d0,d1,d2,f0,f1,f2⟩:=dS (ai (ai bi J.o) F);have cB:=zH (aJ (aJ O J.o) F);clear OY;go_wp2;have c0:=zdW cj b2 Tn;refine aI (v:=.tuple (jy bx k)) Uj rfl ⟨fun _=>by rw[c0],fun cW=>Qu,?_⟩;exact e_ cB Qu _ _ _
  .have ck:k=xs.length:=Qu;have a4:=zH ck;have⟨d0,d1,d2,_⟩:=dS ah;have⟨c5,c6,c7,f0,f1,f2⟩:=dS bi;go_wp2;refine aI (v:=.tuple (jy (da H bh c2) (-1))) Uj rfl ⟨fun cW=>by have:=a4.o;omega,fun _=>⟨bh,c2,?_,?_⟩,?_⟩
   .rw[<-a4.o,<-Pa.o]
   .rw[<-a4.o,<-Pa.o];exact(((ad.setCell Rs _).setCell Rs _).setCell Rs _).x Qu
   .exact e_ O Qu _ _ _
def zfB p v h k a b c A ε rows w F row G(I:bt w A rows)(an:aO w F row)(s:Δ p v h rows)(ap:nR p v h rows k a b c row=true):az 96 (j9 p (aA v h A rows ε) (jP k a b c F row G)) w fun e w'=>∃u,e=.returned (.agg (en v (fO k h) u))/\aY w' w u (cG p v rows k a b c row (v+h).toNat)/\ag w w':=by
 have av:=s.p2;have a0:=s.p97;have a1:=s.v0;have a2:=s.Â;have a3:=s.h0;have a4:=s.χ;have H:=s.n;have J:∀r∈rows,r.length<=1000:=fun r hr=>Ty
 have O:∀r∈rows,∀x∈r,0<=x/\x<=1000:=fun r hr x hx=>TR
 have ao:∀r∈rows,r.length=(v+h).toNat:=fun r hr=>Ty
 have D:=ap;unfold nR at D;rw[bN]at D
 replace D:=D.2
 by_cases T:k=1
 .subst T;simp[dx]at D;rw[show fO 1 h=h by simp[fO],show cG p v rows 1 a b c row (v+h).toNat=((rows.set a.toNat (rows.getD b.toNat [])).set b.toNat (rows.getD a.toNat [])) by simp[cG]];exact zkP p v h a b c A ε rows w F row G I H J Qu Qu Qu Qu Qu
 by_cases U:k=2
 .subst U;simp[dx]at D;rw[show fO 2 h=h by simp[fO],show cG p v rows 2 a b c row (v+h).toNat=(rows.set a.toNat (kq p c (rows.getD a.toNat []))) by simp[cG]];exact zjS p v h a b c A ε rows w F row G I H J Qu Qu Qu Qu Qu Qu O
 by_cases Y:k=3
 .subst Y;simp[dx]at D;rw[show fO 3 h=h by simp[fO],show cG p v rows 3 a b c row (v+h).toNat=(rows.set b.toNat (dw p c (rows.getD b.toNat []) (rows.getD a.toNat []))) by simp[cG]];exact zlm p v h a b c A ε rows w F row G I H J Qu Qu Qu Qu Qu Qu Qu Qu Qu O (v+h).toNat ao
 by_cases Z:k=4
 .subst Z;simp[dx]at D;rw[show fO 4 h=h by simp[fO],show cG p v rows 4 a b c row (v+h).toNat=(rows.eraseIdx a.toNat) by simp[cG]];exact zkQ p v h a b c A ε rows w F row G I H J Qu Qu
 by_cases ab:k=5
 .subst ab;simp[dx]at D;rw[show fO 5 h=h by simp[fO],show cG p v rows 5 a b c row (v+h).toNat=(cT rows a.toNat (List.replicate (v+h).toNat 0)) by simp[cG]];exact zl1 p v h a b c A ε rows w F row G I H J Qu Qu Qu Qu Qu Qu
 by_cases ac:k=6
 .subst ac;simp[dx]at D;rw[show fO 6 h=h-1 by simp[fO],show cG p v rows 6 a b c row (v+h).toNat=((rows.map (fun r=>r.eraseIdx (v+b).toNat)).eraseIdx a.toNat) by simp[cG]];exact ziO p v h a b c A ε rows w F row G I H J Qu Qu Qu Qu Qu Qu Qu Qu (fun r hr=>Ty)
 by_cases ad:k=7
 .subst ad;simp[dx]at D;rw[show fO 7 h=h+1 by simp[fO],show cG p v rows 7 a b c row (v+h).toNat=(cT (rows.map (fun r=>cT r (v+b).toNat 0)) a.toNat row) by simp[cG]];exact zjA p v h a b c A ε rows w F row G I H J Qu Qu Qu Qu Qu Qu (fun r hr=>Ty) Qu Qu row an rfl Qu
 by_cases ah:k=8
 .subst ah;simp[dx]at D;rw[show fO 8 h=h-1 by simp[fO],show cG p v rows 8 a b c row (v+h).toNat=(rows.map (fun r=>r.eraseIdx (v+b).toNat)) by simp[cG]];exact zgU p v h a b c A ε rows w F row G I H J Qu Qu Qu Qu Qu Qu (fun r hr=>Ty)
 by_cases am:k=9
 .subst am;simp[dx]at D;rw[show fO 9 h=h+1 by simp[fO],show cG p v rows 9 a b c row (v+h).toNat=(rows.map (fun r=>cT r (v+b).toNat 0)) by simp[cG]];exact zhO p v h a b c A ε rows w F row G I H J Qu Qu Qu Qu Qu Qu (fun r hr=>Ty)
 simp[*]at D
def yr(p:Int)(s:Sy)(xs:List j8)(n:Nat):List Sy:=(List.range n).map (iU p s xs)
def zhG p s xs n:yr p s xs (n+1)=yr p s xs n++[iU p s xs n]:=by simp[yr,nk]
def EC p s xs n:(yr p s xs n).length=n:=by simp[yr]
def ŷ p s xs n k(h:k<n):(yr p s xs n)[k]?=some (iU p s xs k):=by simp[yr,h]
def zkG p s x A ε w D G(J:bt w A s.rows)(O:aO w D x.row)(Y:s.Ok p)(U:vO p s x=true):az 96 (j9 p (da s A ε) (jP x.k x.a x.b x.c D x.row G)) w fun e w'=>∃h c2,e=.returned (.agg (eO (iQ p s x).v (iQ p s x).h h (iQ p s x).rows c2))/\aY w' w (.slice h (iQ p s x).rows c2) (iQ p s x).rows/\ag w w':=by
 refine(zfB p s.v s.h x.k x.a x.b x.c A ε s.rows w D x.row G J O Y U).x fun e w' T=>?_
 obtain⟨u,H,F,I⟩:=T;obtain⟨h,c2,rfl,_⟩:=F.p;exact⟨h,c2,H,F,I⟩
def ĕ(p:Int)(s:Sy)(xs:List j8)(w:aa)(e:Ending)(w':aa):Prop:=
 ∃g ε,e=.returned (.slice (bH g) (eL p s xs+1) ε)/\uY w' w (.slice (bH g) (eL p s xs+1) ε) (yr p s xs (eL p s xs+1))/\ag w w'
def ī(p:Int)(s:Sy)(xs:List j8)(w:aa)(k:Nat)(u:aG)(wr:aa):Prop:=
 k<=eL p s xs/\∃g m ε,m=k+1/\u=.slice (bH g) m ε/\uY wr w u (yr p s xs (k+1))/\ag w wr
def zhH p(s:Sy)A ε xs w a1 b3(cp:bt w A s.rows)(cr:iS w a1 xs)(bu:s.Ok p)(em:xs.length<=3000)(cO:∀x∈xs,x.row.length<=1048576):az 60 #[p,.agg (da s A ε),.slice a1 xs b3] w (ĕ p s xs w):=by
 have bz:=bu.β;obtain⟨ca,d2,dr,dc,b9,b7⟩:=ny cp cr bu cO (show s.rows.length<=1048576 by have:=bz.n;omega) (show ∀r∈s.rows,r.length<=1048576 from fun r d9=>by have:=bz.ι r d9;omega);have a7:=zH ((al w w).alloc (ae _) (.cells (da s A ε) 57));go_enter func60,ntmps60
 go_wp2_with (go_at_call 94;refine(kL _ _ _ _ _ _ (ca.ext a7) b9 b7).x ?_;rintro e b2 ⟨u,rfl,b1,ct⟩;obtain⟨A1,c1,rfl,_⟩:=b1.p;have ci:=zH b1;have b5:=zH ct)
 have c4:ī p s xs w 0 (.slice (bH b2) 1 1) (b2.alloc (.cells (da s A1 c1) 57)):=by have bo:=a7.t (b5.x (B':=w.heap.size) Rs);refine⟨aW _,_,1,_,rfl,rfl,?_,bo.alloc bo.size _⟩;have:=uY.ψ b2 w s (.slice A1 s.rows c1) bo.size (ci.x Qt);rw[show yr p s xs (0+1)=[s] by simp[yr,mG]];exact this
 have ch:=zH c4;go_loopw [7,15] (fun u i wr=>∃k:Nat,k<=xs.length/\i=.int .i64 k/\ī p s xs w k u wr)
  (fun _ i _=>xs.length-(intOf i).toNat)
 case atStart=>exact⟨0,aW _,rfl,ch⟩
 case round=>
  obtain⟨k,ej,rfl,bq,g,m,bn,cK,rfl,a3,bp⟩:=hrel;have am:=zH cK;have ek:k<m:=Qu;clear cK;have⟨a9,ah⟩:=bJ a3 bp;have⟨D,a0⟩:=aR (iU p s xs k);obtain⟨Pa,a8⟩:=bJ a0 (by rw[a0];exact vP dr bq:D.Ok p);by_cases cI:k<xs.length
  .have⟨x,a4⟩:=aq cI;obtain⟨b,o,rfl,cA⟩:=(d2.ext ah).θ cI;obtain⟨Z,ap,⟨J,O,T,U,Y⟩,cF⟩:=cA k x a4;have⟨cc,db,ba⟩:=er (dc x (aU a4)) cF a4;obtain⟨ee,eg,c6,c0,_⟩:=a3.p;simp only[ep]at c6;obtain⟨rfl,-,-⟩:=c6;have br:k < (yr p s xs (k+1)).length:=by rw[EC];omega
   obtain⟨ei,eo,cB,c3⟩:∃b o,some (⟨g,0,none⟩:dM)=some ⟨b,o,none⟩/\∀(a5:Nat) (x:Sy),(yr p s xs (k+1))[a5]?=some x->∃Z ε,(af wr b (o+a5*3) (zI x.v)/\af wr b (o+a5*3+1) (zI x.h)/\af wr b (o+a5*3+2) (.slice Z x.rows ε))/\bt wr Z x.rows:=by
    rcases c0 with h|h
    .rw[h]at br;simp at br
    .exact h
   simp only[dW,xg,and_true]at cB;obtain⟨rfl,rfl⟩:=cB;obtain⟨a6,bc,⟨G,H,I⟩,cW⟩:=c3 k D (by rw[a0];exact ŷ _ _ _ _ _ Qu);simp only[jU]at G H I;have⟨dT,d3,d4,d5⟩:=gG cW G H I;clear cA cF a0 c3 c0;go_upto_region 5 with(fail)
   have⟨F,FY⟩:=aR (wr.alloc (.cells (jP x.k x.a x.b x.c Z x.row ap) 97));rw[<-FY];have ac:ag wr F:=UP;have cV:bA F wr (jP x.k x.a x.b x.c Z x.row ap) 97:=TK;have b4:=zH ac;have⟨J,O,T,U,Y⟩:=fg cV;have G:=ar ac d3;have H:=ar ac d4;have I:=ar ac d5;have bd:∀W:κ F,af W.W wr 0 (zI x.k):=fun W=>W.cell J
   have be:∀W:κ F,af W.W wr 1 (zI x.a):=fun W=>W.cell O
   have bg:∀W:κ F,af W.W wr 2 (zI x.b):=fun W=>W.cell T
   have bh:∀W:κ F,af W.W wr 3 (zI x.c):=fun W=>W.cell U
   have bi:∀W:κ F,af W.W wr 4 (.slice Z x.row ap):=fun W=>W.cell Y
   have f0:∀W:κ F,af W.W g (k*3) (zI D.v):=fun W=>W.cell G
   have f1:∀W:κ F,af W.W g (k*3+1) (zI D.h):=fun W=>W.cell H
   have f2:∀W:κ F,af W.W g (k*3+2) (.slice a6 D.rows bc):=fun W=>W.cell I
   have⟨an,ao⟩:=bJ (fun W:κ F=>(dT.ext ac).ext W.ok) (fun W:κ F=>(db.ext ac).ext W.ok);cases a2:vO p D x with
   |true=>
    have HO:=zH a2;refine bU QT QT ?_
    repeat (go_big_quiet_step ((go_at_call 95;exact Calls.fh (Calls.bl (za1 p D.v D.h x.k x.a x.b x.c _ _ D.rows _ _ x.row _ (an.o _) (ao.o _) cc a8) HO))))
    refine dJ ?_;rintro _ ⟨W,rfl⟩;have⟨ab,cb,cj⟩:=er (aJ b4 W.ok) (an W) (ao W);have J:=bd W;have O:=be W;have T:=bg W;have U:=bh W;have Y:=bi W;have G:=f0 W;have H:=f1 W;have I:=f2 W;have⟨bb,cq⟩:=aR W.W;rw[<-cq]at ab cb cj J O T U Y G H I ⊢;clear an ao cq;have⟨c7,b0⟩:=aR (iQ p D x);obtain⟨d0,ck⟩:=bJ b0 (fun A ε W a1 b3 d6 d7=>zkG p D x A ε W a1 b3 d6 d7 a8 HO);rw[<-b0]at ck;clear b0;go_upto_region 7 with(fail)
    refine cU (S:=fun W=>af W wr 0 (zI x.k)/\af W wr 1 (zI x.a)/\af W wr 2 (zI x.b)/\af W wr 3 (zI x.c)/\af W wr 4 (.slice Z x.row ap)/\af W g (k*3) (zI D.v)/\af W g (k*3+1) (zI D.h)/\af W g (k*3+2) (.slice a6 D.rows bc)) 9 QT ⟨J,O,T,U,Y,G,H,I⟩ (fun hHeld=>?_);refine Qi ?_;refine aM 6 ?_;refine Ny fun K hK=>?_
    refine(ck.o _ _ _ _ _ (cb.ext (al _ _).drew) (cj.ext (al _ _).drew)).x ?_;rintro e ea ⟨c8,c2,rfl,c5,cu⟩;have⟨ad,d1,ce⟩:=er ((al bb bb).drew.t cu) c5 (fun w' (h:ag bb w')=>(⟨ar h J,ar h O,ar h T,ar h U,ar h Y,ar h G,ar h H,ar h I⟩:af w' wr 0 (zI x.k)/\af w' wr 1 (zI x.a)/\af w' wr 2 (zI x.b)/\af w' wr 3 (zI x.c)/\af w' wr 4 (.slice Z x.row ap)/\af w' g (k*3) (zI D.v)/\af w' g (k*3+1) (zI D.h)/\af w' g (k*3+2) (.slice a6 D.rows bc)));clear c5 cu;go_simp;refine hK.out _ _ (fun _=>ce.o _ ad.o) (fun hHeld=>?_);refine Mr fun hHeld=>?_
    refine cm 8 fun K hK=>?_
    go_simp;refine hK.out _ _ (fun _=>ce.o _ (ad.alloc ad.size _)) (fun hHeld=>?_);refine Mr fun hHeld=>?_
    refine cm 9 fun K hK=>?_
    have⟨dO,b8⟩:=bJ (a9.ext (aJ ab ad)) (EC p s xs (k+1));refine FO rfl (.tmp 29) (.tmp 37) rfl w ea (.slice (bH g) m bn) (.slice c8 c7.rows c2) (yr p s xs (k+1)) c7 dO.o (d1.x (by have:=(aJ ah ab).size;simpa using this)) (by rw[b8.o];omega) (by have:=(aJ ah (aJ ab ad)).size;exact this) rfl rfl ?_;intro co cn eb bv d8 cz;rw[b8.o]at bv ⊢;have⟨dq,c9⟩:=bJ bv cz;refine Qn ?_;refine cm 10 fun K hK=>?_
    go_simp;refine hK.out _ _ (fun h=>absurd h Qw) (fun _=>?_);refine P9 ?_;refine gM QT ?_ _;have cR:ī p s xs w (k+1) (.slice (bH co) (k+1+1) cn) eb:=by refine⟨zdV bq ba Tn,co,_,cn,rfl,rfl,?_,(aJ ah (aJ ab ad)).t c9⟩;rw[zhG p s xs (k+1),qJ ba,<-Pa.o,<-d0.o];exact dq
    have dl:=zH cR;go_wp2;go_roundw
    case rel=>exact⟨k+1,Qu,Qx,dl⟩
    case measure=>simp[intOf];omega
   |false=>
    have HO:=zH a2;refine bU QT QT ?_
    repeat (go_big_quiet_step ((go_at_call 95;exact Calls.fh (Calls.bl (za1 p D.v D.h x.k x.a x.b x.c _ _ D.rows _ _ x.row _ (an.o _) (ao.o _) cc a8) HO))))
    refine dJ ?_;rintro _ ⟨W,rfl⟩;have ab:=zH (aJ b4 W.ok);go_wp2;go_ret
    have av:=zdW bq ba Tn;exact⟨g,bn,by rw[av,<-am.o];rfl,by rw[av,<-am.o];have:=a9.ext ab;rw[<-am.o]at this;exact this,aJ ah ab⟩
  .have av:eL p s xs=k:=by have:=pk p xs s;omega
   have b6:=zH av;go_wp2;go_ret
   exact⟨g,bn,by rw[b6.o,<-am.o];rfl,by rw[b6.o,<-am.o];have:=a9.o;rw[<-am.o]at this;exact this,ah⟩
def Ψ(M:aP)(v:aL):List Int:=M.map fun b=>v.getD (ew b) 0
def zbV M U bc v A ε w(ab:bt w U M)(ac:aO w A v)(bi:M.length<=1048576)(bp:v.length<=1048576)(ao:∀r∈M,r.length<=1048576/\ew r<v.length):az 160 (mv U M bc A v ε) w fun e w'=>∃u,e=.returned u/\aE w' w u (Ψ M v)/\ag w w':=by
 have⟨ba,a8,a4⟩:=er ac ab ao;clear ac ab ao;go_enter func160,ntmps160
 go_wp2;go_loopw [5,10] (fun u i wr=>∃k:Nat,k<=M.length/\i=.int .i64 k/\aE wr w u ((Ψ M v).take k)/\ag w wr)
  (fun _ i _=>M.length-(intOf i).toNat)
 case atStart=>exact⟨0,aW _,rfl,S_,al _ _⟩
 case round=>
  obtain⟨k,bo,rfl,F,h⟩:=hrel;by_cases av:k<M.length
  .have⟨r,G⟩:=aq av;obtain⟨a1,O⟩:=a4 r (aU G);obtain⟨bg,o,rfl,am⟩:=(a8.ext h).θ av;obtain⟨a2,bb,bn,an⟩:=am k r G;have⟨x,T⟩:=aq O;obtain⟨b,br,rfl,ah⟩:=(ba.ext h).θ O;have J:=ah _ _ T;have a9:=zH (show(Ψ M v).take (k+1)=(Ψ M v).take k++[x] by rw[du];unfold Ψ;rw[bI,G];show _++[v.getD (ew r) 0]=_;rw[bf,T];rfl)
   have⟨a5,Z,H,I⟩:=gG (by rw[cQ];unfold Ψ;rw[bs];omega:((Ψ M v).take k).length=k) (yw r a2 bb wr an a1) h F;have⟨bq,ap⟩:=aR (ew r);rw[<-ap]at Z J O;clear F h am an ah T G a1 ap;go_wp2_with (first|(go_at_call 201;refine Z.x ?_;rintro e be ⟨rfl,D⟩;have bh:=ar D J;have a6:=zH (I.ext D);have Y:=zH (aT H D);clear D J)|(at_builtin;refine qm rfl _ _ rfl _ be _ _ _ rfl rfl a6.o (by rw[a5.o];omega) Y.o.size ?_;intro bu bv a0 _ ad;have a7:=zH a0;have a3:=zH (Y.t ad);clear a0 ad))
   go_roundw
   case rel=>exact⟨k+1,Qu,Qx,by rw[a9.o];exact a7,a3⟩
   case measure=>simp[intOf];omega
  .obtain rfl:k=M.length:=Qu;have⟨I,H⟩:=bJ F h;clear F h;go_wp2;go_ret
   exact⟨_,rfl,by have bd:=I.o;rwa[cZ (by simp[Ψ])]at bd,H⟩
def zjG(h:aO w A xs)(h0:0<xs.length):∀a,A=some a->a.block < (w:Nat):=fun a e=>XP
def zL:∀(xs:aL),rC xs=ew xs
 |[]=>rfl
 |x::xs=>by
  have:=zL xs;unfold rC at this ⊢;unfold ew;rw[List.takeWhile_cons];by_cases h:x=0
  .simp[h,this]
  .simp[h]
def FH(p b:Int)B n ε G A1 D xs ys w(Y:1<=p)(Z:p<=1000)(J:-1000000<=b)(O:b<=1000000)(h:aE w B (.slice A1 n ε) xs)(I:aO w D ys)(Hu:∀a,D=some a->0<n->a.block<B)(F:xs.length=n)(H:ys.length=n)(ao:n<=1048576)(ab:∀x∈xs,0<=x/\x<=1000)(ac:∀y∈ys,0<=y/\y<=1000)(ah:B<=(w:Nat))(h0:0<n):az 176 #[p,.slice A1 n ε,b,.slice D n G] w fun e w'=>e=.returned (.tuple #[])/\aE w' B (.slice A1 n ε) (dw p b xs ys)/\w.grownBy w' (Value.slice A1 n ε).ownBlock:=by unfold aE at h;rw[F]at h;obtain⟨g,rfl⟩:∃g,A1=some ⟨g,0,none⟩:=Xk;have an:=(bS h g rfl).1;have:=pL p b B g ε G D xs ys w Y Z J O (by rw[F];exact h) I (fun ad o e am=>UJ) Qu Qu ab ac;rw[F,H]at this;refine iB this ?_;rintro e w' ⟨rfl,U,T⟩;refine⟨rfl,?_,T⟩;unfold aE;rw[mD,F,H,rX];exact U
def zfk p n M v bh A c4 ε w(d0:2<=p)(d1:p<=97)(b5:bt w bh M)(H:aO w A v)(dr:M.length<=1048576)(c9:n<=1048576)(bg:v.length=n)(ck:∀r∈M,r.length=n/\(∀x∈r,0<=x/\x<p)/\ew r<n)(co:∀k,k<=M.length->(xC p M v k).length=n/\∀x∈xC p M v k,0<=x/\x<p):az 132 (wY p bh M c4 A n ε) w fun e w'=>∃u,e=.returned (.tuple #[u,.bool (BN p M v)])/\ag w w':=by
 have⟨cF,cK,b0,bz,bi⟩:=pD b5 ck co bg (fun V (c6:ag w V)=>(by rw[<-bg];exact qg A ε v V (H.ext c6) Qu:az 71 (bZ A n ε) V fun e w'=>∃u,e=.returned u/\aE w' V u v/\ag V w'));go_enter func132,ntmps132
 go_upto_region 2 with(go_at_call 71;refine(bi.o _ (al _ _)).x ?_;rintro e h ⟨u,rfl,a2,b7⟩;obtain⟨I,D,rfl,-⟩:=a2.p;rw[bz.o]at a2 ⊢;have a8:=zH a2;have ac:=zH b7)
 go_upto_region 3 with(fail)
 have⟨a7,a9,a5,cO,bu⟩:=pD (show aE (h.alloc (.cells #[] 3)) h (.slice (bH h) 0 0) [] from aE.lit _ _ (ae _)) (a8.ext ((al h h).alloc (ae _) (.cells #[] 3))) (ac.alloc ac.size (.cells #[] 3)) ac.size (Qt:(h:Nat)<=(h.alloc (.cells #[] 3)));have ce:=a8.lt;have cu:=zH (show ∀k,(Value.slice I n D).ownBlock=some k->k < (h:Nat) from fun k bd=>(ce k bd).2);generalize h.alloc _=d3 at a7 a9 a5 bu ⊢;go_wp2;go_loopw [9,18] (fun u i wr=>∃(k:Nat) (ys:aL),k<=M.length/\i=.int .i64 k/\aE wr w (.slice I n D) (xC p M v k)/\aE wr h u ys/\ys.length=k/\ag w wr/\(h:Nat)<=wr) (fun _ i _=>M.length-(intOf i).toNat)
 case atStart=>exact⟨0,[],aW _,rfl,a9,a7,rfl,a5,bu⟩
 case round=>
  obtain⟨k,ys,bd,rfl,F,av,cp,Y,be⟩:=hrel;by_cases cc:k<M.length
  .have⟨r,a0⟩:=aq cc;obtain⟨dc,o,rfl,b9⟩:=cF.θ cc;obtain⟨ab,ba,ca,ao⟩:=b9 k r a0;have c8:=ar Y ca;obtain⟨a1,cj,db⟩:=cK r (aU a0);obtain⟨c1,c2⟩:=b0 k bd;have⟨T,bb⟩:=aR (xC p M v k);rw[<-bb]at F c1 c2;have⟨a4,ap⟩:=aR (ew r);rw[<-ap]at db;have⟨x,a3⟩:=aq (Qu:a4<T.length);obtain⟨d6,d7⟩:=c2 x (aU a3);have cW:=zH (show xC p M v (k+1)=dw p (-x) T r by
    show dw p (-((xC p M v k).getD (ew (M.getD k [])) 0)) (xC p M v k) (M.getD k [])=_
    rw[getD_some a0,<-bb,<-ap,bf,a3];rfl)
   rw[a1]at c8;have cz:=zH (fun V (H:ag w V)=>(by
    have:=zdX ab ba r V (ao.ext H) SL;rw[zL,<-ap,a1]at this;exact this:az 185 (bZ ab n ba) V fun e w'=>e=.returned (zI a4)/\V=w'))
   have b3:0<n:=Qu;obtain⟨g,rfl⟩:∃g,I=some ⟨g,0,none⟩:=by
    have J:=F;unfold aE at J;rw[c1]at J;rcases J.2 with⟨_,dq⟩|⟨g,c,dl,e,_⟩
    .omega
    .cases e;exact⟨g,rfl⟩
   have cn:wr.ownsRow w 3 1 (.slice (bH g) n D) n (T.map (Value.int .i64)):=by have J:=F;unfold aE at J;rwa[c1]at J
   have dO:af wr g a4 (zI x):=by rw[cn.C a4 Qu,bI,a3];rfl
   have cb:=cu g rfl;have b6:∀a,ab=some a->0<n->a.block < (w:Nat):=fun a e b3=>zjG ao Qu a e
   have dT:IntKind.i64.wrap (-x)=-x:=Rt;have⟨cq,br,cB,ad,bv,b1,c0,bn⟩:=ð (fun V (H:ag w V) (c5:aE V w (.slice (bH g) n D) T)=>FH p (-x) w n D ba (some ⟨g,0,none⟩) ab T r V Qu Qu Qu Qu c5 (ao.ext H) b6 c1 a1 c9 (fun z G=>by have:=c2 z G;omega) (fun z G=>by have:=cj z G;omega) H.size b3) F av Y be cp (av.lt) cb;clear ap;go_wp2_with (first|(go_at_call 185;refine(cz.o _ ad.o).x ?_;rintro e w' ⟨rfl,rfl⟩)|(at_builtin;refine qm rfl _ _ rfl _ wr _ _ _ rfl rfl cB.o (by rw[b1.o];omega) bv.o ?_;intro d2 d4 ci bc b8;have bp:=zH ci;have bq:=zH (aE.kept br bc (au (fun e=>by have:=c0 g e.q;have:=bn.o;omega)));have a6:=zH ((ad.x (ae _)).t (b8.x cO));have cR:=zH (aZ bv bc.size))|(go_at_call 176;refine(cq.o _ a6 bq).x ?_;rintro e d5 ⟨rfl,ch,an⟩;have cI:=zH ch;have cA:=zH (aE.kept bp an (au (fun e=>by have:=(bp.lt g e).1;have:=bn.o;omega)));have cr:=zH (a6.grown an a6.size fun b c7=>(bq.lt b c7).1);have cV:=zH (aZ cR an.size)))
   go_roundw
   case rel=>exact⟨k+1,ys++[x],Qu,Qx,by rw[cW.o];exact cI,cA,by simp[b1.o],cr,cV⟩
   case measure=>simp[intOf];omega
  .obtain rfl:k=M.length:=Qu;have⟨br,ad,bo⟩:=er F Y (show ∃O ah,(Value.slice I n D)=.slice O (xC p M v M.length) ah/\aO wr O (xC p M v M.length) from by obtain⟨O,ah,e,U,-⟩:=F.p;exact⟨O,ah,e,U⟩);obtain⟨O,ah,b2,b4⟩:=bo.o;have Z:=(b0.o _ (ae _)).1;rw[Z]at b2;cases b2
   have ct:=zH (by have:=EZ I D (xC p M v M.length) wr b4 (by rw[Z];unfold maxLen;omega);rw[Z]at this;exact this:az 186 (bZ I n D) wr fun e w'=>e=.returned (.bool (uX (xC p M v M.length)))/\wr=w');have c3:=zH (show uX (xC p M v M.length)=BN p M v by
    unfold BN uX;rw[jQ,cf,bz.o,<-Z,vW,eD];constructor
    .intro U d am;have⟨z,G⟩:=aq am;rw[bf,G];exact oM (U z (aU G))
    .intro U z G;obtain⟨d,am⟩:=eH.1 G;have:=U d (bG.1 am).1;rw[bf,am]at this;exact fT this)
   go_wp2_with (go_at_call 186;refine ct.x ?_;rintro e w' ⟨rfl,rfl⟩)
   refine aI (v:=.tuple #[_,.bool (uX (xC p M v M.length))]) (by simp[results,results132,go_sem, *];rfl) rfl ⟨_,by rw[c3.o],ad⟩
def ziA p l r N M A ε w(am:bV p=true)(O:bt w A M)(s:eV p N (l+r) M)(ad:N<=1048576)(an:l+r<=1048576):az 117 (wT p l r A N ε) w (lJ (vc p l r M) w):=by
 have⟨T,U⟩:=bM w (.cells bx 67);have I:=zH (show ∀V,ag w V->az 158 (eO p ((l:Int)+(r:Int)) A N ε) V (Ct (j5 p (l+r) M) V) from fun V ah=>by have:=tz p M A ε N (l+r) V am (O.ext ah) s ad an;rw[show(((l+r:Nat)):Int)=(l:Int)+(r:Int) from C3 l r]at this;exact this)
 have ao:IntKind.i64.wrap ((l:Int)+(r:Int))=(l:Int)+(r:Int):=Rt;have⟨G,HQ⟩:=bJ T U;have⟨Z,H⟩:=aR (j5 p (l+r) M);have J:=zH H;rw[<-H]at I;clear T U O s H;go_enter func117,ntmps117
 go_upto_region 1 with(fail)
 generalize w.alloc _=W at G HQ ⊢;go_wp2_with (go_at_call 158;refine(I.o _ G.o).x ?_;rintro e w2 ⟨D,d,rfl,Y,F⟩;have h:=ai HQ F;have⟨ap,av,a0⟩:=aD h;have f0:=aK h 0;have f1:=aK h 1;have f2:=aK h 2;have HZ:=zH h;have ac:=zH (Y.frC F.size);have ab:=zH (aT G F);clear h Y F)
 refine MQ fun y1 y2 y3 u0 u1 u2 Ge=>?_
 refine aI (v:=.agg (dh l r D Z d)) (by simp[results,results117,go_sem, *]) rfl ⟨D,d,by rw[J.o];rfl,?_,((ab.setCell (p:=⟨w,0,none⟩) (ae _) _).setCell (p:=⟨w,1,none⟩) (ae _) _).setCell (p:=⟨w,2,none⟩) (ae _) _⟩;rw[show(vc p l r M).b=Z from J.o.q];exact(ac.y (w':=((w2.setCell ⟨w,0,none⟩ (zI (l:Nat))).setCell ⟨w,1,none⟩ (zI (r:Nat))).setCell ⟨w,2,none⟩ (.slice D Z d)) fun q a _=>(a_ _ _ _ _ (by show q≠w.heap.size;omega)).t ((a_ _ _ _ _ (by show q≠w.heap.size;omega)).t (a_ _ _ _ _ (by show q≠w.heap.size;omega)))).to Qu Qt
def zen p M a6 cn N n w(am:bV p=true)(cp:bt w a6 M)(s:eV p N n M)(d9:N<=1048576)(cV:n<=1048576):az 157 (eO p n a6 N cn) w (Ct (xN p n M) w):=by
 have⟨c8,hi,c6,c7,FU⟩:=dp gD;have⟨p2,ek⟩:=cv am;have⟨em,e8,e3,ab,ck,_⟩:=kM am p2 s;have bh:=zH (tz p M a6 cn N n w am cp s d9 cV);have b3:xN p n M=j5 p n (qB p n (j5 p n M)):=rfl;have a1:=zH (CM ab ck);have⟨R,cq⟩:=aR (j5 p n M);rw[<-cq]at ab a1 bh b3;have ej:=ab.1;obtain rfl:R.length=em:=ej;have⟨bd,dT,cb⟩:=er ab am b3;have e4:R.length<=1048576:=Qu;clear ab ck cq s am cp b3;go_enter func157,ntmps157
 go_wp2_with fail
 refine bh.x ?_;rintro e D ⟨A1,c1,rfl,cW,cr⟩;have⟨ch,b6⟩:=bJ cW.at cr;clear cW cr bh;go_wp2_with ((at_make;refine jg _ rfl _ _ 26 rfl D.heap.size 3 c8 (zI 0) 1 dR hi c6 c7 .i64 .i64 n n n rfl rfl rfl rfl RF SL (ae _) ?_;intro eo FT cK))
 have b7:=zH (cy cK);rw[jn]at FT;have cc:=zH (by rw[iP,fA];exact FT:eo.ownsRow D 3 1 (.slice (bH D) n n) n ((eF (List.replicate n (-1)) 0 0).map (Value.int .i64)));clear FT cK;go_loopw [25] (fun i wr=>∃k:Nat,k<=n/\i=.int .i64 k/\wr.ownsRow D 3 1 (.slice (bH D) n n) n ((eF (List.replicate n (-1:Int)) 0 k).map (Value.int .i64))/\ag D wr) (fun i _=>n-(intOf i).toNat)
 case atStart=>exact⟨0,aW _,rfl,cc,b7⟩
 case round=>
  obtain⟨k,an,rfl,FT,G⟩:=hrel;clear cc b7;by_cases bz:k<n
  .have cz:af wr D k (zI 0):=by rw[FT.C k Qu,bI,lD _ _ _ (by rw[fA];exact bz)];rfl
   have cI:=FT.g k;have GW:=(FT.j k (zI (-1))).1;rw[<-eW,jq _ _ _ _ (by rw[fI,ak bz]:(List.replicate n (-1:Int))[k]?=some (-1))]at GW;have⟨HS,HB⟩:=bJ GW (G.setCell (p:=⟨D,k,none⟩) (ae _) (zI (-1)));exact Yr
  .rw[jo _ _ _ (by rw[fA];omega)]at FT;have⟨ce,b8⟩:=bJ FT G;clear FT G;go_wp2;go_loopw [34] (fun i wr=>∃k:Nat,k<=R.length/\i=.int .i64 k/\wr.ownsRow D 3 1 (.slice (bH D) n n) n ((Ô n R k).map (Value.int .i64))/\ag D wr) (fun i _=>R.length-(intOf i).toNat)
   case atStart=>exact⟨0,aW _,rfl,ce,b8⟩
   case round=>
    obtain⟨F,e1,rfl,FT,G⟩:=hrel;clear ce b8 bz an;by_cases b0:F<R.length
    .have⟨I,J⟩:=aq b0;obtain⟨bi,o,rfl,ad⟩:=(ch.ext G).θ b0;obtain⟨a5,Y,ah,Z⟩:=ad F I J;have U:=bd.row I (aU J);have ao:nw R F=ew I:=by unfold nw;rw[getD_some J]
     have bv:=a1.ln F b0;have bg:=zH (fun W (bo:ag wr W)=>(by
      have:=yw I a5 Y W (Z.ext bo) Qu;rw[<-ao,U]at this;exact this:az 201 (bZ a5 n Y) W fun e w'=>e=.returned (zI (nw R F))/\ag W w'))
     rw[U]at ah;obtain⟨bc,a8,ba⟩:=er FT G (show(Ô n R F).set (nw R F) F=Ô n R (F+1) from rfl);clear J ad Z U ao FT G;go_wp2_with ((go_at_call 201;refine(bg.o _ (al _ _)).x ?_;rintro e w' ⟨rfl,H⟩;have Lu:=jA bc (row:=none) ⟨H.os,H.tape,H.output,H.size,fun k an _=>H.block k an⟩ SY;have av:=ba.o;obtain⟨d,hd⟩:=aq (by rw[Ě];exact bv:nw R F < (Ô n R F).length);have cz:af w' D (nw R F) (zI d):=U0;have cI:=Lu.g (nw R F);have GW:=(Lu.j (nw R F) (zI F)).1;rw[<-eW,av]at GW;have HS:=zH GW;have HB:=zH ((aT a8 H).setCell (p:=⟨D,nw R F,none⟩) (ae _) (zI F));clear GW Lu av hd H))
     go_roundw
     case rel=>exact⟨F+1,Qu,Qx,HS,HB⟩
     case measure=>simp[intOf];omega
    .have bu:F=R.length:=Qu;subst bu;have⟨bb,a7⟩:=bJ FT G;have⟨c9,c4⟩:=aR wr;rw[<-c4]at bb a7 ⊢;clear FT G c4;go_wp2;have eB:(D:Nat)<c9:=(bS bb.o D rfl).2;go_loopw [12,13] (fun u12 u13 wr=>∃j:Nat,j<=n/\u13=.int .i64 j/\aY wr ((D:Nat)+1) u12 ((Ö n R j).map (j7 p n R))/\Below ((D:Nat)+1) c9 wr) (fun _ u _=>n-(intOf u).toNat)
     case atStart=>exact⟨0,aW _,rfl,aY.empty (rT _ _ _ _),al _ _⟩
     case round=>
      obtain⟨j,e0,rfl,FT,G⟩:=hrel;obtain⟨h,rfl⟩:∃h,h=wr:=⟨wr,rfl⟩;have⟨be,ca⟩:=bJ FT G;have e5:=G.size;clear FT;have d5:=zH (ch.ext ((a7.t (G.x Qu))));by_cases b1:j<n
      .obtain⟨x,b5⟩:=aq (by rw[Ě];exact b1:j < (Ô n R R).length);have⟨a3,e6,e7⟩:=zfI b5;have ee:af h D j (zI x):=(G.cell (p:=⟨D,j,none⟩) Qt).t (by rw[bb.o.C j Qu,bI,b5];rfl);clear b5 G;by_cases c5:0<=x
       .have a9:=zH (zlj (n:=n) (a3.1 c5));clear a3;go_wp2;go_roundw
        case rel=>exact⟨j+1,Qu,Qx,by rw[a9.o];exact be,ca⟩
        case measure=>simp[intOf];omega
       .have br:mK (nw R) R j:=fun i hi e=>c5 (a3.2 ⟨i,hi,e⟩)
        have⟨a9,d0⟩:=bJ (zkb (n:=n) br) (zli p2 rfl a1.o b1 br);clear a3 br;go_wp2_with ((at_make;refine jg _ rfl _ _ 26 rfl h.heap.size 3 c8 (zI 0) 1 dR hi c6 c7 .i64 .i64 n n n rfl rfl rfl rfl RF SL (ae _) ?_;intro db ap cO;have ct:=cy cO;rw[jn]at ap;have eb:af db h j (zI 0):=(by rw[ap.C j Qu,bI,fI,ak b1];rfl);have eg:=ap.g j;have b4:=(ap.j j (zI 1)).1;rw[<-eW]at b4;have ci:=zH (show(db.setCell ⟨h,j,none⟩ (zI 1)).ownsRow h 3 1 (.slice (bH h) n n) n ((Ì p n R j 0).map (Value.int .i64)) from b4);have b9:=zH (ct.setCell (p:=⟨h,j,none⟩) (ae _) (zI 1));clear b4 ap cO ct))
        clear eb eg;go_loopw [62] (fun u dc=>∃k:Nat,k<=R.length/\u=.int .i64 k/\dc.ownsRow h 3 1 (.slice (bH h) n n) n ((Ì p n R j k).map (Value.int .i64))/\ag h dc) (fun u _=>R.length-(intOf u).toNat)
        case atStart=>exact⟨0,aW _,rfl,ci,b9⟩
        case round=>
         obtain⟨k,e2,rfl,a2,T⟩:=hrel;clear ci b9 ee;by_cases b2:k<R.length
         .have⟨I,J⟩:=aq b2;obtain⟨bi,o,rfl,ad⟩:=d5.θ b2;obtain⟨a5,Y,bq,Z⟩:=ad k I J;have ez:bi < (h:Nat):=ju bq;have ah:=ar T bq;have U:=bd.row I (aU J);have ao:nw R k=ew I:=by unfold nw;rw[getD_some J]
          have bv:=a1.ln k b2;have⟨y,a0⟩:=aq (Qu:j<I.length);obtain⟨ac,a4,rfl,bp⟩:=Z.θ (Qu:j<I.length);have ey:ac < (h:Nat):=ju (bp _ _ a0);have cA:=ar T (bp _ _ a0);have cB:eM R k j=y:=by unfold eM;rw[getD_some J,getD_some a0]
          obtain⟨es,ev⟩:=bd.el I (aU J) y (aU a0);have bg:=zH (fun W (bo:ag wr W)=>(by
           have:=yw I (some ⟨ac,a4,none⟩) Y W ((Z.ext T).ext bo) Qu;rw[<-ao,U]at this;exact this:az 201 (bZ (some ⟨ac,a4,none⟩) n Y) W fun e w'=>e=.returned (zI (nw R k))/\ag W w'))
          rw[U]at ah;obtain⟨bc,a8,ba⟩:=er a2 T (by rw[<-cB,<-zcy];rfl:(Ì p n R j k).set (nw R k) (-y%p)=Ì p n R j (k+1));clear J ad Z bq U ao a2 T bp a0 cB;go_wp2_with fail
          go_region_held3 (fun W=>af W bi (o+k) (.slice (some ⟨ac,a4,none⟩) n Y)/\af W ac (a4+j) (zI y))
           (first|exact bn|exact⟨ah,cA⟩|(refine⟨?_,?_⟩<;>(first|(refine(cE Rs).t ?_;first|exact bn.1|exact bn.2)|trace_state)))
           ((first|(go_at_call 201;refine(bg.o _ (al _ _).drew).x ?_;rintro e w' ⟨rfl,H⟩;have bn:=aQ (ar H ah) (ar H cA);have O:=(al wr wr).drew.t H;have Lu:=jA bc (row:=none) ⟨O.os,O.tape,O.output,O.size,fun k an _=>O.block k an⟩ SY;have av:=ba.o;obtain⟨d,hd⟩:=aq (by rw[CD];exact bv:nw R k < (Ì p n R j k).length);have cz:af w' h (nw R k) (zI d):=U0;have cI:=Lu.g (nw R k);have GW:=(Lu.j (nw R k) (zI (-y%p))).1;rw[<-eW,av]at GW;have HS:=zH GW;have HB:=zH ((aT a8 O).setCell (p:=⟨h,nw R k,none⟩) (ae _) (zI (-y%p)));clear GW Lu av hd H O)|(go_at_call 156;refine(Ŗ p y _ p2 ek es ev).x ?_;rintro e fa ⟨rfl,rfl⟩)))
          all_goals go_wp2
          all_goals go_roundw
          all_goals try (case rel=>exact⟨k+1,Qu,Qx,HS,HB⟩)
          all_goals (try (simp[intOf];omega))
         .have bu:k=R.length:=Qu;subst bu;have d3:=zH (show aE wr h (.slice (bH h) n n) (j7 p n R j) by have co:=a2;rw[d0.o]at co;unfold aE;rw[show(j7 p n R j).length=n by simp[j7]];exact co)
          obtain⟨dO,d1,d2⟩:=er T (show((Ö n R j).map (j7 p n R)).length+1<=1073741824 by rw[bs];have:=Ō n R j;omega) (by rw[a9.o,kA];rfl:(Ö n R (j+1)).map (j7 p n R)=(Ö n R j).map (j7 p n R)++[j7 p n R j]);clear a2 T;go_wp2_with ((at_builtin;refine m7 rfl _ _ rfl ((D:Nat)+1) h _ _ _ _ _ be dO.o d3.o d1.o Qu rfl rfl ?_;intro e9 fb ei ea))
          go_roundw
          case rel=>exact⟨j+1,Qu,Qx,by rw[d2.o];exact ei,ca.t ea⟩
          case measure=>simp[intOf];omega
      .have cR:j=n:=Qu;have FT:=be.o;rw[cR,zka]at FT;have cF:(xM n R).map (j7 p n R)=qB p n R:=rfl;rw[cF]at FT;obtain⟨dl,d7,rfl,c0,_⟩:=FT.p;have eA:(qB p n R).length<=n:=by unfold qB;rw[bs];exact Ō n R n
       obtain⟨d6,cj⟩:=bJ (tz p (qB p n R) dl d7 (qB p n R) n h dT c0 (by rw[wE p2 |>.1];exact wE p2) Qu cV) (b6.t ((a7.t (G.x Qu)).x b6.size));clear FT c0 cF cR G;go_wp2_with fail
       refine d6.x ?_;rintro e fc ⟨dq,d8,rfl,c3,cu⟩;have⟨d4,dr⟩:=bJ c3 cu;clear c3 cu;go_wp2;go_ret
       exact⟨dq,d8,by rw[cb.o];rfl,by rw[cb.o];exact d4.x cj.size,aT cj dr⟩
def zcU{ys}(G:Fr w lo hi (fun V=>bt V A ys))(D:ys≠[]):∃b o,A=some ⟨b,o,none⟩/\lo<=b/\b<hi:=by
 rcases G w (fun k _ _=>rfl)with h|⟨b,o,e,U⟩
 .exact absurd h D
 .refine⟨b,o,e,?_⟩;refine AD fun ap=>?_
  have ab:0<ys.length:=List.length_pos_iff.2 D;have⟨y,J⟩:=aq ab;obtain⟨ac,am,Z,_⟩:=U 0 y J;have T:b < (w:Nat):=jB _ _ Z;obtain⟨V,H⟩:∃V:aa,V={w with heap:=w.heap.setIfInBounds b (.cells #[] 0 (0,0))}:=⟨_,rfl⟩;have O:bA V b #[] 0:=by rw[H];show(w.heap.setIfInBounds b _)[b]?=_;rw[Array.getElem?_setIfInBounds_self_of_lt T]
  rcases G V (fun k an ao=>by rw[H];show(w.heap.setIfInBounds b _)[k]?=_;rw[Array.getElem?_setIfInBounds_ne Qu])with h|⟨ah,av,F,Y⟩
  .exact D h
  .rw[e]at F;cases F
   obtain⟨ad,c2,I,_⟩:=Y 0 y J;rw[bB O]at I;simp at I
def ERa(w:aa)(r:aL)(c:cL):Prop:=∃A ε,c=[.slice A r ε]/\aO w A r
def yb:RT prog 55 26 1 (.slice none 0 0) 24:=⟨iA,QT,Qw,Qw,Qw⟩
def sq(h:bR 1 ERa w A rows):bt w A rows:=by
 rcases h with h|⟨b,o,e,H⟩
 .exact ay h
 .refine au ⟨b,o,e,fun k r I=>?_⟩;obtain⟨c,F,D,ε,rfl,G⟩:=H k r I;have:=F 0 _ rfl;rw[fk,jf]at this;exact⟨D,ε,this,G⟩
def Ba(a6:o.guard=none)a1 x(a8:o.op=.call {callee:=.builtin .append,args:=#[a1,x],argTypes:=#[55,55]})B lo hi W v xs ys A ε(I:bw 26 1 ERa W B v xs)(ad:Fr W lo hi (fun V=>bt V A ys))(bo:∀g,v.ownBlock=some g->g<lo∨hi<=g)(be:B<=lo)(bq:hi<=(W:Nat))(a3:B<=(W:Nat))(b3:xs.length+ys<=1048576)(a9:a.eval a1=v)(U:a.eval x=.slice A ys ε)(h:∀v' w',bw 26 1 ERa w' B v' (xs++ys)->W.grownBy w' v.ownBlock->(∀g,v'.ownBlock=some g->v.ownBlock=some g∨(W:Nat)<=g)->Below B W w'->wpList prog ops Q rest (a.put o.dst v') w'):wpList prog ops Q (o::rest) a W:=by
 have⟨ba,a7,bu,bv,bz⟩:=dp yb.Ï;obtain⟨cs,I⟩:=I;cases A with
 |none=>
  have J:ys=[]:=AD fun J=>by have⟨b,a0,e,_⟩:=zcU ad J;cases e
  subst J;refine l7 a6 fun K hK=>?_
  have br:=iZ (P:=prog) (w:=W) B 55 o.type 26 ba 1 yb.und a7 v _ ε _ I.η;unfold Oper.wp;simp only[iN]at U;simp[execOp,a8,resolve,invoke,builtin,a9,U,br,Result.andThen];exact hK _ _ (h v W ⟨cs,by simpa using I⟩ ⟨rfl,rfl,rfl,ae _,fun _ _ _=>rfl⟩ (fun g e=>ay e) (al _ _))
 |some Y=>
  have bn:∀(k:Nat) (y:aL),ys[k]?=some y->∃D F,W.cell? (Y.add k)=some (.slice D y F)/\Fr W lo hi (fun V=>ERa V y [.slice D y F]):=fun k y G=>by
   have J:ys≠[]:=fun e=>by rw[e]at G;simp at G
   have⟨b,a0,bb,bg,bh⟩:=zcU ad J;cases bb
   rw[dF];rcases ad W (fun _ _ _=>rfl)with ah|⟨b1,b4,e,ab⟩
   .exact absurd ah J
   .cases e
    obtain⟨D,F,O,Z⟩:=ab k y G;refine⟨D,F,O,fun V a4=>?_⟩;rcases ad V a4 with ah|⟨b2,b5,bc,bi⟩
    .exact absurd ah J
    .cases bc
     obtain⟨b0,c2,a2,bd⟩:=bi k y G;have:V.cell? ⟨b,a0+k,none⟩=W.cell? ⟨b,a0+k,none⟩:=l6 (a4 b bg bh);rw[this,O]at a2;cases a2
     exact⟨D,F,rfl,bd⟩
  obtain⟨us,ap⟩:∃us:cL,us=(List.range ys).map fun k=>(W.cell? (Y.add k)).getD undef:=⟨_,rfl⟩
  obtain⟨ds,ac⟩:∃ds:List (List Value),ds=us.map fun u=>[u]:=⟨_,rfl⟩
  have T:us.length=ys:=by rw[ap];simp
  have a5:ds.length=ys:=by rw[ac,bs,T]
  have am:ds.flatten=us:=by rw[ac];clear ac a5 T ap;induction us with
   |nil=>rfl
   |cons u us ih=>simp[ih]
  have ao:∀(k:Nat) (y:aL) (u:aG),ys[k]?=some y->us[k]?=some u->W.cell? (Y.add k)=some u/\∃D F,u=.slice D y F/\Fr W lo hi (fun V=>ERa V y [.slice D y F]):=fun k y u G H=>by obtain⟨D,F,O,Z⟩:=bn k y G;rw[ap,bI,iy (bG.1 G).1]at H;simp only[ox,O,xd,dW]at H;exact⟨by rw[O,H],D,F,H.q,Z⟩
  have bp:∀(k:Nat) (x:aL) (c:cL),ys[k]?=some x->ds[k]?=some c->c.length=1/\(∀u∈c,u.oneCell'=true)/\kn ERa W B v x c:=fun k x c U ab=>by rw[ac,bI]at ab;obtain⟨u,H,rfl⟩:=oF.1 ab;obtain⟨_,D,F,rfl,Z⟩:=ao k x u U H;exact⟨rfl,fun u H=>by simp at H;subst H;rfl,lo,hi,be,bq,bo,Z⟩
  refine AE W a6 a1 x 55 a8 B 26 ba (.slice none 0 0) 1 24 yb.und a7 bu bv bz yb.zs yb.pos v _ _ a9 I.η Y ys ε ds.flatten U (by rw[am,T];simp) (fun j u an=>?_) ?_ ?_ ?_ a3 ?_
  .rw[am]at an;have⟨y,av⟩:=aq (by rw[<-T];exact(bG.1 an).1:j<ys.length);exact(ao j y u av an).1
  .intro u H;rw[am]at H;obtain⟨k,G⟩:=eH.1 H;have⟨y,av⟩:=aq (by rw[<-T];exact(bG.1 G).1:k<ys.length);obtain⟨_,D,F,rfl,_⟩:=ao k y u av G;rfl
  .unfold maxLen;omega
  .omega
  .refine OL fun v' w' FT Gx _ Ha hv=>?_
   exact h v' w' ⟨cs++ds,I.th a5 bp FT Gx hv⟩ Gx hv ((al _ _).grown Gx a3 fun k G=>(bS I.η k G).1)
def Ξ(xs ys:aL)(k:Nat):Int:=bW (fun d=>xs.getD d 0*ys.getD d 0) k
def ziR{p}{xs ys:aL}(J:2<=p)(O:p<=97)(I:xs.length<=ys)(h:∀x∈xs,0<=x/\x<p)(F:∀y∈ys,0<=y/\y<p):∀k,k<=xs.length->0<=Ξ xs ys k/\Ξ xs ys k<=10000*k
 |0,_=>⟨Int.le_refl _,Int.le_refl _⟩
 |k+1,Z=>by
  have⟨U,Y⟩:=ziR J O I h F k Qu;have⟨x,D⟩:=aq (Qu:k<xs.length);have⟨y,G⟩:=aq (Qu:k<ys.length);obtain⟨T,ad⟩:=h x (aU D);obtain⟨H,ah⟩:=F y (aU G);have e:Ξ xs ys (k+1)=Ξ xs ys k+x*y:=by unfold Ξ;rw[bW,bf,bf,D,G];rfl
  have ab:0<=x*y:=rS T H;have ac:x*y<=97*97:=uB Qu Qu H Qu;rw[e];omega
def ĺ{x y}(h:xs[k]?=some x)(D:ys[k]?=some y):Ξ xs ys (k+1)=Ξ xs ys k+x*y:=by unfold Ξ;rw[bW,bf,bf,h,D];rfl
def zkl p A F ε ad xs ys w(H:aO w A xs)(I:aO w F ys)(an:2<=p)(ao:p<=97)(a3:xs.length<=4096)(am:xs.length<=ys)(a4:ys.length<=1048576)(h:∀x∈xs,0<=x/\x<p)(D:∀y∈ys,0<=y/\y<p):az 135 (wY p A xs ε F ys ad) w fun e w'=>e=.returned (zI (Ξ xs ys xs%p))/\w=w':=by
 have⟨G,Z,ab⟩:=er (ziR an ao am h D) h D;clear h D;go_enter func135,ntmps135
 go_wp2;go_loop [7,12] (fun s i=>∃k:Nat,k<=xs.length/\i=.int .i64 k/\s=.int .i64 (Ξ xs ys k)) (fun _ i=>xs.length-(intOf i).toNat)
 case atStart=>exact⟨0,aW _,rfl,rfl⟩
 case round=>
  obtain⟨k,ah,rfl,rfl⟩:=hrel;obtain⟨av,a0⟩:=G k ah;have ac:=G xs (ae _);by_cases T:k<xs.length
  .have⟨x,h⟩:=aq T;have⟨y,D⟩:=aq (Qu:k<ys.length);obtain⟨b,o,rfl,J⟩:=H.θ T;obtain⟨c,q,rfl,O⟩:=I.θ (Qu:k<ys.length);have a1:=J k x h;have a2:=O k y D;obtain⟨ap,a7⟩:=Z x (aU h);obtain⟨U,a8⟩:=ab y (aU D);have a5:0<=x*y:=rS ap U;have a6:x*y<=97*97:=uB Qu Qu U Qu;have e:=ĺ h D;have Y:=zH e;clear h D J O H I e ac;go_wp2;go_round
   case rel=>exact⟨k+1,Qu,Qx,by rw[Y.o]⟩
   case measure=>simp[intOf];omega
  .obtain rfl:k=xs.length:=Qu;go_wp2_with (go_at_call 127;refine(CL _ _ _ Qu Qu Qu Qu).x ?_;rintro e w' ⟨rfl,rfl⟩)
   exact V8
def zg2 p A J ε am xs ys w(G:aO w A xs)(H:aO w J ys)(a5:2<=p)(a6:p<=97)(a3:xs.length<=4096)(a2:xs.length<=ys)(a4:ys.length<=1048576)(h:∀x∈xs,0<=x/\x<p)(D:∀y∈ys,0<=y/\y<p):az 115 (wY p A xs ε J ys am) w fun e w'=>e=.returned (zI (Ξ xs ys xs%p))/\ag w w':=by
 have⟨ad,ah⟩:=bJ h D;clear h D;go_enter func115,ntmps115
 go_wp2;go_loopw [7,11] (fun s i wr=>∃k:Nat,k<=xs.length/\i=.int .i64 k/\s=.int .i64 (Ξ xs ys k%p)/\ag w wr) (fun _ i _=>xs.length-(intOf i).toNat)
 case atStart=>exact⟨0,aW _,rfl,by simp[Ξ,bW],al _ _⟩
 case round=>
  obtain⟨k,a1,rfl,rfl,I⟩:=hrel
  replace G:=G.ext I;replace H:=H.ext I
  have O:=zH I;clear I;by_cases Y:k<xs.length
  .have⟨x,h⟩:=aq Y;have⟨y,D⟩:=aq (Qu:k<ys.length);obtain⟨b,o,rfl,T⟩:=G.θ Y;obtain⟨c,q,rfl,U⟩:=H.θ (Qu:k<ys.length);have av:=T k x h;have a0:=U k y D;obtain⟨an,bb⟩:=ad x (aU h);obtain⟨Z,bc⟩:=ah y (aU D);have a7:0<=x*y:=rS an Z;have a8:x*y<=97*97:=uB Qu Qu Z Qu;have ab:=zH (ĺ h D);have⟨s,F⟩:=aR (Ξ xs ys k%p);have ao:0<=s:=by rw[F];exact gV _ Qu
   have ap:s<p:=by rw[F];exact gW _ Qu
   have a9:¬p=0:=Qu;have ba:(s+x*y).tmod p=(s+x*y)%p:=Int.tmod_eq_emod_of_nonneg Qu;have ac:=zH F;rw[<-F];clear h D T U G H F;go_wp2;go_quiet (fail)
   go_wp2;go_roundw
   case rel=>exact⟨k+1,Qu,Qx,by rw[ab.o,ac.o];simp[Int.add_emod],aJ O (rD _ _)⟩
   case measure=>simp[intOf];omega
  .obtain rfl:k=xs.length:=Qu;go_wp2;go_ret
   exact⟨rfl,O⟩
def AU xs l r k F d A h w(I:aO w h xs)(T:xs.length=l+r)(J:xs.length<=d)(O:l+r<=1048576):az 175 #[.agg (gH l r A k F),.slice h xs d] w fun e w'=>∃D G,e=.returned (.slice D l G)/\l<=G/\aO w' D (xs.take l)/\ag w w':=by refine iB (zas l r k F A h xs d w Qu Qu) ?_;rintro e w' ⟨rfl,H⟩;exact⟨h,d,rfl,Qu,lL (I.ext H) l,H⟩
def xZ xs l r k F d A h w(H:aO w h xs)(U:xs.length=l+r)(I:0<xs.length)(J:xs.length<=d)(T:l+r<=1048576):az 174 #[.agg (gH l r A k F),.slice h xs d] w fun e w'=>∃D G,e=.returned (.slice D r G)/\r<=G/\aO w' D (xs.drop l)/\ag w w':=by
 obtain⟨b,o,rfl,-⟩:=H.θ I;refine iB (BQ l r k F A b o xs d w Qu J Qu) ?_;rintro e w' ⟨rfl,hb⟩;have O:xs.length-l=r:=Qu;rw[O];by_cases e:d=l
 .exact WJ
 .rw[aj e];exact⟨_,_,rfl,Qu,mR (H.ext hb) l,hb⟩
def FA xs l r k I d F A H V(a4:bA V F (gH l r A k I) 67)(T:aO V H xs)(ac:xs.length=l+r)(an:0<xs.length)(Z:xs.length<=d)(ab:l+r<=1048576):az 215 #[.slice H xs d,.pointer (bH F)] V fun e w'=>∃G J,e=.returned (.slice G xs J)/\xs.length<=J/\Fr w' V w' (fun W=>aO W G (xs.drop l++xs.take l))/\ag V w':=by
 have⟨ah,ad⟩:=bJ (fun W (U:ag V W)=>xZ xs l r k I d A H W (T.ext U) ac an Z ab) (fun W (U:ag V W)=>AU xs l r k I d A H W (T.ext U) ac Z ab);have⟨n,a3⟩:=aR xs.length;obtain⟨bg,bh,bi,bn⟩:=gG (Ro:r=(xs.drop l).length) (Rv:l=(xs.take l).length) (by rw[bm,fS,cQ];omega:n=(xs.drop l++xs.take l).length) (Qu:r+l<=1048576);rw[<-a3]at ah ad ⊢;have⟨a5,a6,a7⟩:=aD a4;have h:=aQ a5 (aQ a6 a7);clear a4 T ac an Z ab a3 a5 a6 a7;go_enter func215,ntmps215
 go_upto_region 1 with(fail)
 go_region_held3 (fun W=>af W F 0 (zI (l:Nat))/\af W F 1 (zI (r:Nat))/\af W F 2 (.slice A k I))
  (first|with_reducible exact h|with_reducible exact jH (aC _) h|with_reducible exact jH O.o h|with_reducible exact jH D.o h|with_reducible exact jH (D.o.alloc D.o.size _) h|with_reducible exact jH am.o h)
  ((first|(go_at_call 174;with_reducible refine(ah.o _ (aC _)).x ?_;rintro e bp ⟨a8,d1,rfl,-,a0,ao⟩;have O:=zH ((aC V).t (ao.x (aC V).size));have bb:=zH a0;clear a0 ao)|(go_at_call 175;with_reducible refine(ad.o _ O.o).x ?_;rintro e bo ⟨a9,d2,rfl,-,a1,Y⟩;have D:=zH (aT O.o Y);have bd:=zH (bb.o.ext Y);have bc:=zH a1;clear a1 Y)|(go_at_call 65;with_reducible refine(mS (xs.drop l) (xs.take l) a8 a9 d1 d2 r l n bo bd.o bc.o bg.o bh.o bi.o bn.o).x ?_;rintro e bq ⟨G,J,rfl,a2,av,ap⟩;have be:=zH a2;have am:=zH (aT D.o ap);have ba:=zH (av.to (lo':=V.heap.size) D.o.size (ae _));clear a2 av ap)))
 go_wp2;go_ret
 exact⟨G,J,rfl,be,ba,am⟩
def Fq f M N c0 A v0 v1 a9 w(hM:M.length=N)(bz:N<=1048576)(hR:cS w A M)(H:∀(xs:aL) (T:ax) (d:Nat) (V:aa),xs∈M->ag w V->aO V T xs->xs.length<=d->az 215 #[.slice T xs d,a9] V fun e ad=>∃F J,e=.returned (.slice F (f xs) J)/\(f xs).length<=J/\Fr ad V ad (fun W=>aO W F (f xs))/\ag V ad):az 173 #[.agg #[v0,v1,.slice A N c0],.func (.func 215) #[] #[a9]] w fun e w'=>∃ao bh,e=.returned (.slice ao N bh)/\Fr w' w w' (fun W=>cS W ao (M.map f))/\ag w w':=by
 refine Od fun HH HM HR hB hq=>?_;clear hM hR H
 go_enter func173,ntmps173
 go_upto_region 1 with(fail)
 generalize w.alloc _=W at hB hq ⊢;have av:=zH (bw.lit 26 1 Bf W w hB.size);have Y:=aw W (.cells #[] 26);have ap:=zH (aT hB Y);have ba:=aF (ai hq Y) 2 rfl;clear hB hq;go_upto_region 2 with(fail)
 generalize W.alloc _=br at av ap ba Y ⊢;clear Y;go_wp2;go_loopw [5,12] (fun u i wr=>∃k:Nat,k<=N/\i=.int .i64 k/\bw 26 1 Bf wr w u ((M.take k).map f)/\ag w wr) (fun _ i _=>N-(intOf i).toNat)
 case atStart=>exact⟨0,aW _,rfl,av,ap⟩
 case round=>
  obtain⟨k,b0,rfl,h,D⟩:=hrel;clear ba;by_cases FX:k<N
  .have⟨xs,hx⟩:=aq (SF:k<M.length);have bq:=HR wr D;rcases bq with Ht|⟨b,o,rfl,a3⟩
   .exact Wc
   obtain⟨T,d,bo,a2,a0⟩:=a3 k xs hx;have⟨Z,Gl,Gu⟩:=er (HH xs T d wr (aU hx) D a0 a2) (SE:(M.take (k+1)).map f=(M.take k).map f++[f xs]) (Tv:((M.take k).map f).length=k);obtain⟨u0,U,rfl,-⟩:=h.p;rw[Gu.o];have⟨ab,G⟩:=bJ h D;have⟨n,a8⟩:=aR xs.length;rw[<-a8]at bo Z;have⟨ah,a5⟩:=aR (f xs);rw[<-a5]at Z Gl;clear h D a3 hx a0 a2 a8 a5;have bg:=zH (show ∀g,(Value.slice u0 k U).ownBlock=some g->g < (wr:Nat) from fun g e=>by obtain⟨cs,I⟩:=ab.o;rw[Gu.o]at I;exact(bS I.η g e).2)
   rw[Gu.o]at ab;go_upto_region 6 with(first|(go_at_call 215;refine Z.x ?_;rintro e O ⟨F,J,rfl,a6,a4,am⟩;have ac:=zH am;have bc:=zH a4;have bd:=zH a6;have be:=zH (ab.ext am);clear a4 am a6)|(at_builtin;refine de yU rfl (.tmp 16) (.tmp 20) rfl w (O.alloc (.cells (aV F ah J) 26)) (.slice u0 k U) ((M.take k).map f) ah [.slice F ah J] O (be.ext (aw _ _)) rfl SU ⟨wr,O,G.size,(aw _ _).size,fun g e=>ay (bg g e),(bc.ext (aw _ _) (ae _)).E fun V hV=>⟨F,J,rfl,bd,hV⟩⟩ R5 (aZ G.size (aZ ac.size (aw _ _).size)) rfl rfl (aH O _ rfl) ?_;intro bv bu b1 an bp bi a1;rw[Gu.o]at an ⊢;have Gv:=zH an;have G0:=zH (((aT G ac).t ((aw O _).x (aZ G.size ac.size))).t a1);clear an bp bi a1))
   exact Yz
  .obtain rfl:k=N:=Qu;rw[cZ (by rw[HM.o];exact ae _)]at h;obtain⟨u0,U,rfl,-⟩:=h.p;have a7:(M.map f).length=k:=by rw[bs,HM.o]
   rw[a7]at h ⊢;have⟨bb,G⟩:=bJ ((h.fr (fun _ _ _ _ bn I=>I.ext bn) D.size).E fun V I=>lM I) D;clear h D a7;go_wp2;go_ret
   exact⟨u0,U,rfl,bb,G⟩
def zbS p R N D A w(a3:bV p=true)(a1:cS w A R.b)(a0:R.b.length=N)(an:N<=1048576)(a9:R.l+R.r<=1048576)(a7:∀row∈R.b,row.length=R.l+R.r/\0<row.length)(a8:eV p N (R.r+R.l) (R.b.map fun row=>row.drop R.l++row.take R.l)):az 183 (gj p (dh R.l R.r A N D)) w (lJ (ô p R) w):=by
 obtain⟨l,r,M⟩:=R;dsimp only at *;have am:=((al w w).alloc (ae _) (.cells (eO l r A N D) 67)).alloc Qt (.cells bx 67);have Y:=(bO (w.alloc (.cells (eO l r A N D) 67)) (.cells bx 67) (k:=w.heap.size) Qt).t (aH w _ rfl);have Z:=aH (w.alloc (.cells (eO l r A N D) 67)) (.cells bx 67) (n:=(w:Nat)+1) Qt;have⟨Q,ao⟩:=aR (vc p r l (M.map fun row=>row.drop l++row.take l));have bq:=zH (show ô p ⟨l,r,M⟩=Q from ao.q);have bh:=zH (fun(W V:aa) (b1:ag w W) (F:bA W w (eO l r A N D) 67)=>Fq (fun row=>row.drop l++row.take l) M N D A (zI l) (zI r) (.pointer (bH w)) W a0 an (a1.ext b1) (fun xs G d V b3 b0 bz b2=>by
  have U:=a7 xs b3;have bv:(xs.drop l++xs.take l).length=xs:=by rw[bm,fS,cQ];omega
  rw[bv];exact FA xs l r N D d w A G V (ai F b0) bz U.1 U.2 b2 a9))
 have av:=zH (fun(W:aa) (O:ax) (ah:Nat) (I:cS W O (M.map fun row=>row.drop l++row.take l))=>mO p r l N (M.map fun row=>row.drop l++row.take l) O ah W a3 I.at a8 an Qu);rw[<-ao]at av;rw[bq.o];clear a3 a1 a0 an a9 a7 a8 ao;go_enter func183,ntmps183
 go_upto_region 1 with(fail)
 generalize (w.alloc _).alloc _=W at am Y Z ⊢;have⟨ba,bb,bc⟩:=aD Y;have H:=aQ ba (aQ bb bc);obtain⟨ac,bp,br,Gn,h⟩:=pD am Y Z (show(w:Nat)+1<W from(bk.1 Z).1) (Qu:w.heap.size≠(w:Nat)+1);clear am Y Z ba bb bc;go_region_held3 (fun V=>af V w 0 (zI (l:Nat))/\af V w 1 (zI (r:Nat))/\af V w 2 (.slice A N D))
  (first|with_reducible exact H|with_reducible exact jH (aC _) H|with_reducible exact jH ad.o H|with_reducible exact jH T.o H|with_reducible exact kp3 h.o h.o h.o (kp3 h.o h.o h.o (kp3 h.o h.o h.o (jH T.o H))))
  ((first|(go_at_call 173;with_reducible refine(bh.o _ W (ac.o.t ((aC W).x ac.o.size)) (ai bp.o (aC W))).x ?_;rintro e b7 ⟨O,ah,rfl,a4,a2⟩;have ad:=zH ((aC W).t (a2.x (aC W).size));have bi:=zH a4.D;clear a4 a2)|(go_at_call 179;with_reducible refine(av.o b7 O ah bi.o).x ?_;intro e ab I;unfold lJ at I;obtain⟨G,d,U,a5,J⟩:=I;subst U;have T:=zH (aT ad.o J);have bn:=zH (Fr.to (lo':=W.heap.size) (hi':=ab.heap.size) a5 ad.o.size (ae _));have F:=ai br.o T.o;have⟨b4,b5,b6⟩:=aD F;have f0:=aK F 0;have f1:=aK F 1;have f2:=aK F 2;have bu:=zH F;clear a5 J F)))
 have bd:=bE ab ((w:Nat)+1) 0 _ _ (zI (Q.l:Nat)) bu;have be:=bE _ ((w:Nat)+1) 1 _ _ (zI (Q.r:Nat)) bd;have ap:=bE _ ((w:Nat)+1) 2 _ _ (.slice G Q.b d) be;simp only[zA]at ap;have⟨u0,u1,u2⟩:=aD ap;have J:=aT ac T.o;have a6:Fr (((ab.setCell ⟨(w:Nat)+1,0,none⟩ (zI (Q.l:Nat))).setCell ⟨(w:Nat)+1,1,none⟩ (zI (Q.r:Nat))).setCell ⟨(w:Nat)+1,2,none⟩ (.slice G Q.b d)) W ab (fun V=>cS V G Q.b):=bn.y fun q a _=>by have I:=Gn.o;exact(a_ _ _ _ _ (by show q≠(w:Nat)+1;omega)).t ((a_ _ _ _ _ (by show q≠(w:Nat)+1;omega)).t (a_ _ _ _ _ (by show q≠(w:Nat)+1;omega)))
 have⟨bo,bg⟩:=bJ a6 J;clear bd be ap a6 J b4 b5 b6 f0 f1 f2 H;go_wp2;refine aI (v:=.agg (dh Q.l Q.r G Q.b d)) (by simp[results,results183,go_sem, *]) rfl ⟨G,d,rfl,?_,((bg.setCell (p:=⟨(w:Nat)+1,0,none⟩) (by show(w:Nat)<=w+1;omega) _).setCell (p:=⟨(w:Nat)+1,1,none⟩) (by show(w:Nat)<=w+1;omega) _).setCell (p:=⟨(w:Nat)+1,2,none⟩) (by show(w:Nat)<=w+1;omega) _⟩;exact bo.to Sx Qt
def bR.E{h}{E E'}{xs:List h}(H:∀x c,E w x c->E' w x c)(D:bR s E w A xs):bR s E' w A xs:=
 Or.E id (fun⟨b,o,e,I⟩=>⟨b,o,e,fun k x J=>by obtain⟨c,F,G⟩:=I k x J;exact⟨c,F,H x c G⟩⟩) D
def bw.toE{F}{D}{E E'}{xs:List F}(U:∀W x c,E W x c->E' W x c)(h:bw D s E w B v xs):bw D s E' w B v xs:=by obtain⟨cs,h⟩:=h;refine⟨cs,h.η,h.ι,fun k x c Z Y=>?_⟩;obtain⟨G,H,lo,hi,I,J,O,T⟩:=h.ν k x c Z Y;exact⟨G,H,lo,hi,I,J,O,T.E fun W h=>U W x c h⟩
def ύ(F:aa)(rows:aP)(N:Nat)(w:aa)(e:Ending)(w':aa):Prop:=∃h D,e=.returned (.slice h N D)/\bw 26 1 (fun _=>Bf F) w' w (.slice h N D) rows/\ag w w'
def ER(h:bR 1 (fun _=>Bf w) V A rows)(D:ag w V):cS V A rows:=lM (bR.E (fun _ _ h=>Bf.ext D h) h)
def zlV f M N an A v0 v1 a5 h w(ao:ag h w)(ap:M.length=N)(bi:N<=1048576)(av:cS h A M)(ab:∀(xs:aL) (D:ax) (d:Nat) (V:aa),xs∈M->ag w V->aO h D xs->xs.length<=d->az 175 #[a5,.slice D xs d] V fun e ba=>∃F G,e=.returned (.slice F (f xs) G)/\(f xs).length<=G/\aO h F (f xs)/\ag V ba):az 173 #[.agg #[v0,v1,.slice A N an],.func (.func 175) #[a5] #[]] w (ύ h (M.map f) N w):=by
 have⟨HH,HM,a9,Nu⟩:=gG ab ap av ao;have⟨I,Z⟩:=bM w (.cells #[v0,v1,.slice A N an] 67);go_enter func173,ntmps173
 go_upto_region 1 with(fail)
 generalize w.alloc _=W at I Z ⊢;have ad:=zH (bw.lit 26 1 (fun _=>Bf h) W w I.size);have J:=aw W (.cells #[] 26);have ac:=zH (aT I J);have a6:=aF (ai Z J) 2 rfl;go_upto_region 2 with(fail)
 generalize W.alloc _=be at ad ac a6 J ⊢;go_wp2;go_loopw [5,12] (fun u i wr=>∃k:Nat,k<=N/\i=.int .i64 k/\bw 26 1 (fun _=>Bf h) wr w u ((M.take k).map f)/\ag w wr) (fun _ i _=>N-(intOf i).toNat)
 case atStart=>exact⟨0,aW _,rfl,ad,ac⟩
 case round=>
  obtain⟨k,bn,rfl,FT,FW⟩:=hrel;by_cases FX:k<N
  .have⟨xs,hx⟩:=aq (SF:k<M.length);have bd:=a9.o;rcases bd with Ht|⟨b,o,rfl,Gk⟩
   .exact Wc
   refine M5 fun D d Nt hI HC J7 Gl Gu=>?_
   obtain⟨u0,cu,rfl,-⟩:=FT.p;rw[Gu.o];have⟨am,Gc⟩:=bJ FT FW;have⟨n,a4⟩:=aR xs.length;rw[<-a4]at J7 HC;have⟨T,a2⟩:=aR (f xs);rw[<-a2]at HC Gl;clear a4 a2;rw[Gu.o]at am;go_upto_region 6 with(first|(go_at_call 175;refine HC.x ?_;rintro e O ⟨F,G,rfl,a3,a1,U⟩;have H:=zH U;have a7:=zH a1;have a8:=zH a3;have ah:=zH (am.ext U))|(at_builtin;refine de yU rfl (.tmp 16) (.tmp 20) rfl w (O.alloc (.cells (aV F T G) 26)) (.slice u0 k cu) ((M.take k).map f) T [.slice F T G] O (ah.ext (aw _ _)) rfl SU (kn.d (ah.ext (aw _ _)) (aZ Gc.size (aZ H.size (aw _ _).size)) fun _=>⟨F,G,rfl,a8,a7⟩) R5 (aZ Gc.size (aZ H.size (aw _ _).size)) rfl rfl (aH O _ rfl) ?_;intro bh bg bo Y bc bb a0;rw[Gu.o]at Y ⊢;have Gv:=zH Y;have G0:=zH (((aT Gc H).t ((aw O _).x (aZ Gc.size H.size))).t a0)))
   exact Yz
  .exact Zh
def zlW f M N an A v0 v1 a5 h w(ao:ag h w)(ap:M.length=N)(bi:N<=1048576)(av:cS h A M)(ab:∀(xs:aL) (D:ax) (d:Nat) (V:aa),xs∈M->ag w V->aO h D xs->xs.length<=d->az 174 #[a5,.slice D xs d] V fun e ba=>∃F G,e=.returned (.slice F (f xs) G)/\(f xs).length<=G/\aO h F (f xs)/\ag V ba):az 173 #[.agg #[v0,v1,.slice A N an],.func (.func 174) #[a5] #[]] w (ύ h (M.map f) N w):=by
 have⟨HH,HM,a9,Nu⟩:=gG ab ap av ao;have⟨I,Z⟩:=bM w (.cells #[v0,v1,.slice A N an] 67);go_enter func173,ntmps173
 go_upto_region 1 with(fail)
 generalize w.alloc _=W at I Z ⊢;have ad:=zH (bw.lit 26 1 (fun _=>Bf h) W w I.size);have J:=aw W (.cells #[] 26);have ac:=zH (aT I J);have a6:=aF (ai Z J) 2 rfl;go_upto_region 2 with(fail)
 generalize W.alloc _=be at ad ac a6 J ⊢;go_wp2;go_loopw [5,12] (fun u i wr=>∃k:Nat,k<=N/\i=.int .i64 k/\bw 26 1 (fun _=>Bf h) wr w u ((M.take k).map f)/\ag w wr) (fun _ i _=>N-(intOf i).toNat)
 case atStart=>exact⟨0,aW _,rfl,ad,ac⟩
 case round=>
  obtain⟨k,bn,rfl,FT,FW⟩:=hrel;by_cases FX:k<N
  .have⟨xs,hx⟩:=aq (SF:k<M.length);have bd:=a9.o;rcases bd with Ht|⟨b,o,rfl,Gk⟩
   .exact Wc
   refine M5 fun D d Nt hI HC J7 Gl Gu=>?_
   obtain⟨u0,cu,rfl,-⟩:=FT.p;rw[Gu.o];have⟨am,Gc⟩:=bJ FT FW;have⟨n,a4⟩:=aR xs.length;rw[<-a4]at J7 HC;have⟨T,a2⟩:=aR (f xs);rw[<-a2]at HC Gl;clear a4 a2;rw[Gu.o]at am;go_upto_region 6 with(first|(go_at_call 174;refine HC.x ?_;rintro e O ⟨F,G,rfl,a3,a1,U⟩;have H:=zH U;have a7:=zH a1;have a8:=zH a3;have ah:=zH (am.ext U))|(at_builtin;refine de yU rfl (.tmp 16) (.tmp 20) rfl w (O.alloc (.cells (aV F T G) 26)) (.slice u0 k cu) ((M.take k).map f) T [.slice F T G] O (ah.ext (aw _ _)) rfl SU (kn.d (ah.ext (aw _ _)) (aZ Gc.size (aZ H.size (aw _ _).size)) fun _=>⟨F,G,rfl,a8,a7⟩) R5 (aZ Gc.size (aZ H.size (aw _ _).size)) rfl rfl (aH O _ rfl) ?_;intro bh bg bo Y bc bb a0;rw[Gu.o]at Y ⊢;have Gv:=zH Y;have G0:=zH (((aT Gc H).t ((aw O _).x (aZ Gc.size H.size))).t a0)))
   exact Yz
  .exact Zh
def ES R A N h D w(G:ag D w)(J:R.b.length=N)(O:N<=1048576)(T:cS D A R.b)(Y:∀row∈R.b,row.length=R.l+R.r)(ah:R.l+R.r<=1048576):az 173 #[.agg (dh R.l R.r A N h),.func (.func 175) #[.agg (dh R.l R.r A N h)] #[]] w (ύ D (kS R) N w):=by
 refine zlV (fun xs=>xs.take R.l) R.b N h A _ _ _ D w G J O T fun xs F d V Z ab I ac=>?_
 have ad:=Y xs Z;refine iB (zas R.l R.r N h A F xs d V Qu Qu) ?_;rintro e w' ⟨rfl,U⟩;have H:(xs.take R.l).length=R.l:=Rv;rw[H];exact⟨F,d,rfl,Qu,lL I _,U⟩
def Cf R A N h D w(H:ag D w)(J:R.b.length=N)(O:N<=1048576)(T:cS D A R.b)(Y:∀row∈R.b,row.length=R.l+R.r/\0<row.length)(ah:R.l+R.r<=1048576):az 173 #[.agg (dh R.l R.r A N h),.func (.func 174) #[.agg (dh R.l R.r A N h)] #[]] w (ύ D (mA R) N w):=by
 refine zlW (fun xs=>xs.drop R.l) R.b N h A _ _ _ D w H J O T fun xs ab d V Z ac F U=>?_
 obtain⟨ad,G⟩:=Y xs Z;obtain⟨b,o,rfl,-⟩:=F.θ G;refine iB (BQ R.l R.r N h A b o xs d V Qu U Qu) ?_;rintro e w' ⟨rfl,hb⟩;have I:(xs.drop R.l).length=xs-R.l:=by rw[fS]
 rw[I];by_cases e:d=R.l
 .rw[ak e];exact WJ
 .rw[aj e];exact⟨_,_,rfl,Qu,mR F _,hb⟩
def Rl.Ok.row(h:R.Ok p):∀row∈R.b,row.length=R.l+R.r/\0<row.length:=fun row D=>by obtain⟨k,G⟩:=eH.1 D;have F:=eV.row h.Η row D;have H:=h.red.ln k (bG.1 G).1;exact⟨F,Qu⟩
def Rl.Ok.ι(h:R.Ok p):R.b.length<=R.l+R.r:=by
 have F:∀i,i<R.b.length->i<=nw R.b i:=by
  intro i;induction i with
  |zero=>intro _;exact aW _
  |succ i ih=>intro hi;have:=h.red.Ν i (i+1) Qu hi;have:=ih Qu;omega
 rcases AH R.b with D|D
 .omega
 .have G:=F (R.b.length-1) Qu;have H:=h.red.ln (R.b.length-1) Qu;omega
structure RSm(R:Rl):Prop where
 l:R.l<=1024
 r:R.r<=1024
structure Bg(p:Int)(L:List eE)(t:Tm)(T:List Tm)(k:Nat):Prop where
 kl:k<=L.length
 rd:fp ((cJ L).drop k) T=some [t]
 ty:∀u∈T,∃c,u.ty=some c
 ov:∀u∈T,u.pf p
 ι:T.length<=k
def Bg.φ{t}(h:fp (cJ L) []=some [t]):Bg p L t [] 0:=⟨aW _,h,fun u h=>QO,fun u h=>QO,ae _⟩
def Bg.leaf{t}{H}{x}(h:Bg p L t H k)(ab:qS (cJ L)=true)(Z:qp p (cJ L)=true)(F:L[k]?=some x)(T:¬x.k=15)(U:¬x.k=16):s_ p x.nd/\Bg p L t (Tm.lf x.nd::H) (k+1):=by
 have Y:=(bG.1 F).1;have hr:=h.rd;rw[lF F,jw,Bi T U]at hr;have hl:dI x.nd=true:=WS;rw[ak hl]at hr;have I:x.nd∈cJ L:=Ę (aU F);have G:=eD.1 ab x.nd I;have O:=eD.1 Z x.nd I;simp only[bN,cf]at G;have J:s_ p x.nd:=⟨hl,G.1,G.2,fun D=>by
  simp only[jS,uE,uC,uD,cf]at O;rcases O with h|h
  .rcases D with D|D
   .exact absurd D h.1
   .exact absurd D h.2
  .exact h⟩
 have OM:(Tm.lf x.nd).ty=some (pC x.nd,sC x.nd):=by unfold Tm.ty;rw[ak hl]
 refine⟨J,Y,hr,?_,?_,by have:=h.ι;simp;omega⟩
 .exact Xf
 .intro u hu;rcases et.1 hu with rfl|hu
  .exact J
  .exact h.ov u hu
def Bg.δ{t}{G}{x}(h:Bg p L t G k)(I:L[k]?=some x)(h1:x.k=15∨x.k=16):∃b a S z,G=b::a::S/\(Tm.op x.k a b).ty=some z/\(Tm.op x.k a b).pf p/\Bg p L t (Tm.op x.k a b::S) (k+1):=by
 have J:=(bG.1 I).1;have F:=h.rd;rw[lF I,jw]at F;have O:FC x.nd=true:=UK;cases D:ρ G x.nd with
 |none=>rw[D]at F;cases F
 |some U=>
  rw[D]at F;unfold ρ at D;rw[ak O]at D;split at D
  .split at D
   .rename_i b a S;split at D
    .rename_i Y T;obtain⟨z,hz⟩:=Av.1 T;cases D
     have H:(Tm.op x.k a b).pf p:=⟨h.ov a Qt,h.ov b Qt⟩;refine⟨b,a,S,z,rfl,hz,H,J,F,?_,?_,Uo⟩
     .exact Xy
     .intro u hu;rcases et.1 hu with rfl|hu
      .exact H
      .exact h.ov u (by simp[hu])
    .cases D
   .cases D
  .cases D
def Bg.U{t}{D}(F:Bg p L t D k)(G:¬k<L.length):D=[t]:=by have h:=F.rd;rw[jR RI]at h;unfold fp at h;exact ji h
def ϛ{t:Tm}{c}(H:bV p=true)(h:t.ty=some c)(I:t.pf p):(t.rel p).Ok p/\(t.rel p).l=c.1/\(t.rel p).r=c.2/\RSm (t.rel p):=by obtain⟨D,F,G,-⟩:=Tm.tN H h I;have:=Tm.zaS h;exact⟨G,D,F,⟨Qu,Qu⟩⟩
def xu(p:Int)(h:List Tm):List Rl:=h.reverse.map (Tm.rel p)
def q6 p h:(xu p h).length=h:=by simp[xu]
def qv p t h:xu p (t::h)=xu p h++[t.rel p]:=by simp[xu]
def Ŭ(h:aO w A xs)(h0:0<xs.length):∀a,A=some a->a.block < (w:Nat):=fun a e=>XP
def zB(p b:Int)B n ε G A1 D xs ys w(ad:1<=p)(ah:p<=1000)(T:-1000000<=b)(U:b<=1000000)(h:aE w B (.slice A1 n ε) xs)(J:aO w D ys)(Hu:∀a,D=some a->0<n->a.block<B)(F:xs.length=n)(H:ys.length=n)(av:n<=1048576)(am:∀x∈xs,0<=x/\x<=1000)(an:∀y∈ys,0<=y/\y<=1000)(O:B<=(w:Nat)):az 176 #[p,.slice A1 n ε,b,.slice D n G] w fun e w'=>e=.returned (.tuple #[])/\aE w' B (.slice A1 n ε) (dw p b xs ys)/\Below B w w':=by
 rcases AH n with h0|h0
 .subst h0;refine iB (tj p b A1 D ε G w) ?_;rintro e w' ⟨rfl,rfl⟩;have I:xs=[]:=iq F;subst I;exact⟨rfl,by simpa[dw]using h,al _ _⟩
 .unfold aE at h;rw[F]at h;obtain⟨g,rfl⟩:∃g,A1=some ⟨g,0,none⟩:=Xk;have Y:=(bS h g rfl).1;have:=pL p b B g ε G D xs ys w ad ah T U (by rw[F];exact h) J (fun ao o e ap=>UJ) Qu Qu am an;rw[F,H]at this;refine iB this ?_;rintro e w' ⟨rfl,ac,Z⟩;refine⟨rfl,?_,(al _ _).grown Z O fun k ab=>by cases ab;exact Y⟩;unfold aE;rw[mD,F,H,rX];exact ac
def Ca p c M m n N A1 am b8 b9 w(bc:bV p=true)(a1:aO w A1 c)(a3:bt w am M)(be:c.length=m)(cj:N<=m)(a4:∀x∈c,-1000000<=x/\x<=1000000)(ad:∀r∈M,r.length=n/\∀x∈r,0<=x/\x<=1000)(a2:M.length=N)(ci:N<=1048576)(b5:n<=1048576):az 178 #[p,.slice A1 m b8,.slice am N b9,n] w fun e w'=>∃an k,e=.returned (.slice an n k)/\n<=k/\Fr w' w w' (fun W=>aO W an (fY p c M n N))/\ag w w':=by
 have⟨p2,co⟩:=cv bc;have ac:∀i,i<N->(M.getD i []).length=n:=fun i hi=>by have⟨r,D⟩:=aq (Qu:i<M.length);rw[getD_some D];exact(ad r (aU D)).1
 have T:=zH (kN (p:=p) (c:=c) ac);have br:=zH (show ∀k,k<=N->∀x∈fY p c M n k,0<=x/\x<=1000 from fun k F x G=>by obtain⟨d,ba⟩:=eH.1 G;have bb:=(bG.1 ba).1;rw[T.o k F]at bb;have:=(qU (c:=c) p2 ac bb k F).2;rw[getD_some ba]at this;omega)
 have⟨bz,bq,b0,bo,HM,Jy⟩:=ny a3 a1 ad a4 a2 be;clear a3 a1 ad a4 ac a2 be bc;go_enter func178,ntmps178
 go_upto_region 2 with(go_at_call 98;refine(kO n _ Qu).x ?_;rintro e cp ⟨u,rfl,J,a5⟩;obtain⟨O,U,rfl,-⟩:=J.p;rw[fA]at J ⊢;have ap:=zH J;have ao:=zH a5;clear J a5)
 go_wp2;go_loopw [16] (fun i wr=>∃k:Nat,k<=N/\i=.int .i64 k/\aE wr w (.slice O n U) (fY p c M n k)/\ag w wr) (fun i _=>N-(intOf i).toNat)
 case atStart=>exact⟨0,aW _,rfl,ap,ao⟩
 case round=>
  obtain⟨k,F,rfl,H,h⟩:=hrel;clear ap ao;by_cases FX:k<N
  .have⟨r,D⟩:=aq (SF:k<M.length);obtain⟨cc,o,rfl,a8⟩:=bz.θ (SF:k<M.length);obtain⟨ah,b2,a9,Z⟩:=a8 k r D;have b4:=ar h a9;have bd:=Z.ext h;obtain⟨ab,bh⟩:=b0 r (aU D);rw[ab]at b4;have⟨x,G⟩:=aq (RW:k<c.length);obtain⟨cb,cn,rfl,a7⟩:=(bq.ext h).θ (RW:k<c.length);have ck:=a7 k x G;obtain⟨b6,b7⟩:=bo x (aU G);have b1:=zH (show fY p c M n (k+1)=dw p x (fY p c M n k) r by show dw p (c.getD k 0) _ (M.getD k [])=_;rw[getD_some G,getD_some D]);have a0:∀a,ah=some a->0<n->a.block < (w:Nat):=fun a e ch=>Ŭ Z Qu a e
   have⟨bn,I⟩:=bJ (zB p x w n U b2 O ah (fY p c M n k) r wr Qu Qu b6 b7 H bd a0 (T.o k F) ab b5 (br k F) bh h.size) h;clear H h bd Z a9 a8 a7 G D a0 bh ab;go_wp2_with ((go_at_call 176;refine bn.x ?_;rintro e cq ⟨rfl,bg,a6⟩;have bv:=zH bg;have bp:=zH (I.t a6);clear bg a6))
   go_roundw
   case rel=>exact⟨k+1,Qu,Qx,by rw[b1.o];exact bv,bp⟩
   case measure=>simp[intOf];omega
  .obtain rfl:k=N:=Qu;have⟨bu,I⟩:=bJ H h;obtain⟨ca,ce,av,b3,Y,-⟩:=H.p;rw[T.o k F]at av Y;cases av
   have bi:=zH Y;clear H h b3 Y;go_wp2;go_ret
   exact⟨O,U,rfl,bi,bu.fr I.size,I⟩
def zcC D F G H A1 I J O c1 c2 ab ac U n2 Y Z n V(a3:aO V A1 D)(a4:aO V I F)(a5:aO V J G)(a6:aO V O H)(ap:U=D.length)(av:n2=F.length)(a0:Y=G.length)(a1:Z=H.length)(a2:n=(D++(F++(G++H))).length)(bd:U+n2+Y+Z<=1048576):az 65 #[.slice (bH V) 4 4] (V.alloc (.cells #[.slice A1 U c1,.slice I n2 c2,.slice J Y ab,.slice O Z ac] 26)) fun e w'=>∃ad ah,e=.returned (.slice ad n ah)/\n<=ah/\Fr w' V w' (fun W=>aO W ad (D++(F++(G++H))))/\ag V w':=by
 have T:=aw V (.cells #[.slice A1 U c1,.slice I n2 c2,.slice J Y ab,.slice O Z ac] 26);have⟨a9,ba,bb,bc⟩:=aB (aH V (.cells #[.slice A1 U c1,.slice I n2 c2,.slice J Y ab,.slice O Z ac] 26) rfl);have a7:bt (V.alloc (.cells #[.slice A1 U c1,.slice I n2 c2,.slice J Y ab,.slice O Z ac] 26)) (some ⟨V,0,none⟩) [D,F,G,H]:=au ⟨V,0,rfl,fun k r h=>by
  match k,h with
  |0,h=>simp at h;subst h;exact⟨A1,c1,by rw[<-ap];exact a9,a3.ext T⟩
  |1,h=>simp at h;subst h;exact⟨I,c2,by rw[<-av];exact ba,a4.ext T⟩
  |2,h=>simp at h;subst h;exact⟨J,ab,by rw[<-a0];exact bb,a5.ext T⟩
  |3,h=>simp at h;subst h;exact⟨O,ac,by rw[<-a1];exact bc,a6.ext T⟩
  |k+4,h=>simp at h⟩
 have:=ya [D,F,G,H] (some ⟨V,0,none⟩) 4 _ a7 Qt (fun k _=>by
  match k with
  |0=>simp
  |1=>simp;omega
  |2=>simp;omega
  |3=>simp;omega
  |k+4=>simp;omega)
 refine iB this ?_;rintro e w' ⟨u,rfl,am,an⟩;have a8:[D,F,G,H].flatten=D++(F++(G++H)):=Qt;rw[a8]at am;obtain⟨ad,ah,rfl,-,ao,-⟩:=am.p;rw[<-a2]at ao ⊢;exact⟨ad,ah,rfl,ao,(am.fr an.size).to T.size (ae _),aT T an⟩
def zbk(n:Nat)w(h:n<=1099511627776):az 98 (bK n) w fun e w'=>∃u,e=.returned u/\aE w' w u (jG n)/\ag w w':=kO n w h
def zcD xs l r k c0 d G J l2 r2 ca c2 A bb D V(a4:bA V G (gH l r A k c0) 67)(a5:bA V J (gH l2 r2 bb ca c2) 67)(hI:aO V D xs)(hx:xs.length=l+r)(h0:0<xs.length)(hc:xs.length<=d)(b6:l+r<=65536)(b7:l2+r2<=65536):az 180 #[.slice D xs d,.pointer (bH G),.pointer (bH J)] V fun e w'=>∃I T,e=.returned (.slice I (xs.take l++(jG l2++(xs.drop l++jG r2))) T)/\(xs.take l++(jG l2++(xs.drop l++jG r2))).length<=T/\Fr w' V w' (fun W=>aO W I (xs.take l++(jG l2++(xs.drop l++jG r2))))/\ag V w':=by
 refine No fun HS HF P7 IL n hn=>?_
 have⟨m,Z⟩:=aR ((xs.take l++(jG l2++(xs.drop l++jG r2))).length);have⟨b2,b3,b4,ab,ac,b5⟩:=ny Z (Rv:l=(xs.take l).length) (Ro:r=(xs.drop l).length) (QN:l2=(jG l2).length) (QN:r2=(jG r2).length) (Qu:l+l2+r+r2<=1048576);rw[<-hn]at HS HF ⊢;rw[<-Z];have⟨a6,a7,a8⟩:=aD a4;obtain⟨a9,ba,-⟩:=aD a5;have h:=aQ a6 (aQ a7 (aQ a8 (aQ a9 ba)));clear a4 a5 hI hx h0 hc b6 b7 hn Z a6 a7 a8 a9 ba;go_enter func180,ntmps180
 go_upto_region 1 with(fail)
 go_region_held3 (fun W=>af W G 0 (zI (l:Nat))/\af W G 1 (zI (r:Nat))/\af W G 2 (.slice A k c0)/\af W J 0 (zI (l2:Nat))/\af W J 1 (zI (r2:Nat)))
  (first|with_reducible exact h|with_reducible exact kU (aC _) h|with_reducible exact kU ad.o h|with_reducible exact kU U.o h|with_reducible exact kU ah.o h|with_reducible exact kU F.o h|with_reducible exact kU (F.o.alloc F.o.size _) h|with_reducible exact kU am.o h)
  ((first|(go_at_call 175;with_reducible refine(HF.o _ (aC V)).x ?_;rintro e ce ⟨bc,d1,rfl,-,av,an⟩;have ad:=zH ((aC V).t (an.x (aC V).size));have bi:=zH av;clear av an)|(go_at_call 98;with_reducible refine(P7.o _).x ?_;rintro e ch ⟨u2,rfl,b8,Y⟩;obtain⟨bd,d2,rfl,a0,-⟩:=b8.p;rw[<-ab.o];have U:=zH (aT ad.o Y);have bu:=zH a0;have bn:=zH (bi.o.ext Y);clear a0 Y)|(go_at_call 174;with_reducible refine(HS.o _ U.o).x ?_;rintro e ci ⟨be,d3,rfl,-,a1,O⟩;have ah:=zH (aT U.o O);have bq:=zH a1;have bo:=zH (bn.o.ext O);have bv:=zH (bu.o.ext O);clear a1 O)|(go_at_call 98;with_reducible refine(IL.o _).x ?_;rintro e cb ⟨u4,rfl,b9,H⟩;obtain⟨bg,d4,rfl,a2,-⟩:=b9.p;rw[<-ac.o];have F:=zH (aT ah.o H);have b0:=zH a2;have bp:=zH (bo.o.ext H);have bz:=zH (bv.o.ext H);have br:=zH (bq.o.ext H);clear a2 H)|(go_at_call 65;with_reducible refine(zcC (xs.take l) (jG l2) (xs.drop l) (jG r2) bc bd be bg d1 d2 d3 d4 l l2 r r2 m cb bp.o bz.o br.o b0.o b3.o ab.o b4.o ac.o b2.o b5.o).x ?_;rintro e cc ⟨I,T,rfl,a3,ap,ao⟩;have b1:=zH a3;have am:=zH (aT F.o ao);have bh:=zH (ap.to (lo':=V.heap.size) F.o.size (ae _));clear a3 ap ao)))
 go_wp2;go_ret
 exact⟨I,T,rfl,b1,bh,am⟩
def zcE xs l r k c0 d G J l2 r2 ca c2 A bb D V(a4:bA V G (gH l r A k c0) 67)(a5:bA V J (gH l2 r2 bb ca c2) 67)(hI:aO V D xs)(hx:xs.length=l+r)(h0:0<xs.length)(hc:xs.length<=d)(b6:l+r<=65536)(b7:l2+r2<=65536):az 181 #[.slice D xs d,.pointer (bH J),.pointer (bH G)] V fun e w'=>∃I T,e=.returned (.slice I (jG l2++(xs.take l++(jG r2++xs.drop l))) T)/\(jG l2++(xs.take l++(jG r2++xs.drop l))).length<=T/\Fr w' V w' (fun W=>aO W I (jG l2++(xs.take l++(jG r2++xs.drop l))))/\ag V w':=by
 refine No fun HS HF P7 IL n hn=>?_
 have⟨m,ab⟩:=aR ((jG l2++(xs.take l++(jG r2++xs.drop l))).length);have⟨b2,b3,b4,ac,ad,b5⟩:=ny ab (Rv:l=(xs.take l).length) (Ro:r=(xs.drop l).length) (QN:l2=(jG l2).length) (QN:r2=(jG r2).length) (Qu:l2+l+r2+r<=1048576);rw[<-hn]at HS HF ⊢;rw[<-ab];have⟨a6,a7,a8⟩:=aD a4;obtain⟨a9,ba,-⟩:=aD a5;have h:=aQ a6 (aQ a7 (aQ a8 (aQ a9 ba)));clear a4 a5 hI hx h0 hc b6 b7 hn ab a6 a7 a8 a9 ba;go_enter func181,ntmps181
 go_upto_region 1 with(fail)
 go_region_held3 (fun W=>af W G 0 (zI (l:Nat))/\af W G 1 (zI (r:Nat))/\af W G 2 (.slice A k c0)/\af W J 0 (zI (l2:Nat))/\af W J 1 (zI (r2:Nat)))
  (first|with_reducible exact h|with_reducible exact kU (aC _) h|with_reducible exact kU U.o h|with_reducible exact kU ah.o h|with_reducible exact kU Y.o h|with_reducible exact kU F.o h|with_reducible exact kU (F.o.alloc F.o.size _) h|with_reducible exact kU am.o h)
  ((first|(go_at_call 98;with_reducible refine(P7.o _).x ?_;rintro e ce ⟨u1,rfl,b8,an⟩;obtain⟨bc,d1,rfl,av,-⟩:=b8.p;rw[<-ac.o];have U:=zH ((aC V).t (an.x (aC V).size));have bq:=zH av;clear av an)|(go_at_call 175;with_reducible refine(HF.o _ U.o).x ?_;rintro e ch ⟨bd,d2,rfl,-,a0,Z⟩;have ah:=zH (aT U.o Z);have bi:=zH a0;have br:=zH (bq.o.ext Z);clear a0 Z)|(go_at_call 98;with_reducible refine(IL.o _).x ?_;rintro e ci ⟨u3,rfl,b9,O⟩;obtain⟨be,d3,rfl,a1,-⟩:=b9.p;rw[<-ad.o];have Y:=zH (aT ah.o O);have bz:=zH a1;have bu:=zH (br.o.ext O);have bn:=zH (bi.o.ext O);clear a1 O)|(go_at_call 174;with_reducible refine(HS.o _ Y.o).x ?_;rintro e cb ⟨bg,d4,rfl,-,a2,H⟩;have F:=zH (aT Y.o H);have bp:=zH a2;have bv:=zH (bu.o.ext H);have bo:=zH (bn.o.ext H);have b0:=zH (bz.o.ext H);clear a2 H)|(go_at_call 65;with_reducible refine(zcC (jG l2) (xs.take l) (jG r2) (xs.drop l) bc bd be bg d1 d2 d3 d4 l2 l r2 r m cb bv.o bo.o b0.o bp.o ac.o b3.o ad.o b4.o b2.o b5.o).x ?_;rintro e cc ⟨I,T,rfl,a3,ap,ao⟩;have b1:=zH a3;have am:=zH (aT F.o ao);have bh:=zH (ap.to (lo':=V.heap.size) F.o.size (ae _));clear a3 ap ao)))
 go_wp2;go_ret
 exact⟨I,T,rfl,b1,bh,am⟩
def zk1(rows:aP)(N:Nat)(w:aa)(e:Ending)(w':aa):Prop:=∃h D,e=.returned (.slice h N D)/\bw 26 1 Bf w' w (.slice h N D) rows/\ag w w'
def zgK f M N c0 A v0 v1 a3 p2 w(hM:M.length=N)(bh:N<=1048576)(hR:cS w A M)(H:∀(xs:aL) (G:ax) (d:Nat) (V:aa),xs∈M->ag w V->aO V G xs->xs.length<=d->az 180 #[.slice G xs d,a3,p2] V fun e U=>∃h D,e=.returned (.slice h (f xs) D)/\(f xs).length<=D/\Fr U V U (fun W=>aO W h (f xs))/\ag V U):az 173 #[.agg #[v0,v1,.slice A N c0],.func (.func 180) #[] #[a3,p2]] w (zk1 (M.map f) N w):=by
 refine Od fun HH HM HR hB hq=>?_;clear hM hR H
 go_enter func173,ntmps173
 go_upto_region 1 with(fail)
 generalize w.alloc _=W at hB hq ⊢;have ad:=zH (bw.lit 26 1 Bf W w hB.size);have I:=aw W (.cells #[] 26);have ac:=zH (aT hB I);have a4:=aF (ai hq I) 2 rfl;clear hB hq;go_upto_region 2 with(fail)
 generalize W.alloc _=bd at ad ac a4 I ⊢;clear I;go_wp2;go_loopw [5,12] (fun u i wr=>∃k:Nat,k<=N/\i=.int .i64 k/\bw 26 1 Bf wr w u ((M.take k).map f)/\ag w wr) (fun _ i _=>N-(intOf i).toNat)
 case atStart=>exact⟨0,aW _,rfl,ad,ac⟩
 case round=>
  obtain⟨k,bi,rfl,FT,FW⟩:=hrel;clear a4;by_cases FX:k<N
  .have⟨xs,hx⟩:=aq (SF:k<M.length);have bc:=HR wr FW;rcases bc with Ht|⟨b,o,rfl,ap⟩
   .exact Wc
   obtain⟨G,d,ba,ao,am⟩:=ap k xs hx;have⟨J,Gl,Gu⟩:=er (HH xs G d wr (aU hx) FW am ao) (SE:(M.take (k+1)).map f=(M.take k).map f++[f xs]) (Tv:((M.take k).map f).length=k);obtain⟨u0,cu,rfl,-⟩:=FT.p;rw[Gu.o];have⟨O,Gc⟩:=bJ FT FW;have⟨n,a2⟩:=aR xs.length;rw[<-a2]at ba J;have⟨Y,a0⟩:=aR (f xs);rw[<-a0]at J Gl;clear FT FW ap hx am ao a2 a0;have a8:=zH (show ∀g,(Value.slice u0 k cu).ownBlock=some g->g < (wr:Nat) from fun g e=>by obtain⟨cs,ah⟩:=O.o;rw[Gu.o]at ah;exact(bS ah.η g e).2)
   rw[Gu.o]at O;go_upto_region 6 with(first|(go_at_call 180;refine J.o.x ?_;rintro e F ⟨h,D,rfl,a1,av,Z⟩;have T:=zH Z;have a5:=zH av;have a6:=zH a1;have a7:=zH (O.ext Z);clear av Z a1)|(at_builtin;refine de yU rfl (.tmp 16) (.tmp 20) rfl w (F.alloc (.cells (aV h Y D) 26)) (.slice u0 k cu) ((M.take k).map f) Y [.slice h Y D] F (a7.ext (aw _ _)) rfl SU ⟨wr,F,Gc.size,(aw _ _).size,fun g e=>ay (a8 g e),(a5.ext (aw _ _) (ae _)).E fun V hV=>⟨h,D,rfl,a6,hV⟩⟩ R5 (aZ Gc.size (aZ T.o.size (aw _ _).size)) rfl rfl (aH F _ rfl) ?_;intro bg be bn ab bb a9 an;rw[Gu.o]at ab ⊢;have Gv:=zH ab;have G0:=zH (((aT Gc T.o).t ((aw F _).x (aZ Gc.size T.o.size))).t an);clear ab bb a9 an))
   exact Yz
  .exact Zh
def zgL f M N c0 A v0 v1 a3 p2 w(hM:M.length=N)(bh:N<=1048576)(hR:cS w A M)(H:∀(xs:aL) (G:ax) (d:Nat) (V:aa),xs∈M->ag w V->aO V G xs->xs.length<=d->az 181 #[.slice G xs d,a3,p2] V fun e U=>∃h D,e=.returned (.slice h (f xs) D)/\(f xs).length<=D/\Fr U V U (fun W=>aO W h (f xs))/\ag V U):az 173 #[.agg #[v0,v1,.slice A N c0],.func (.func 181) #[] #[a3,p2]] w (zk1 (M.map f) N w):=by
 refine Od fun HH HM HR hB hq=>?_;clear hM hR H
 go_enter func173,ntmps173
 go_upto_region 1 with(fail)
 generalize w.alloc _=W at hB hq ⊢;have ad:=zH (bw.lit 26 1 Bf W w hB.size);have I:=aw W (.cells #[] 26);have ac:=zH (aT hB I);have a4:=aF (ai hq I) 2 rfl;clear hB hq;go_upto_region 2 with(fail)
 generalize W.alloc _=bd at ad ac a4 I ⊢;clear I;go_wp2;go_loopw [5,12] (fun u i wr=>∃k:Nat,k<=N/\i=.int .i64 k/\bw 26 1 Bf wr w u ((M.take k).map f)/\ag w wr) (fun _ i _=>N-(intOf i).toNat)
 case atStart=>exact⟨0,aW _,rfl,ad,ac⟩
 case round=>
  obtain⟨k,bi,rfl,FT,FW⟩:=hrel;clear a4;by_cases FX:k<N
  .have⟨xs,hx⟩:=aq (SF:k<M.length);have bc:=HR wr FW;rcases bc with Ht|⟨b,o,rfl,ap⟩
   .exact Wc
   obtain⟨G,d,ba,ao,am⟩:=ap k xs hx;have⟨J,Gl,Gu⟩:=er (HH xs G d wr (aU hx) FW am ao) (SE:(M.take (k+1)).map f=(M.take k).map f++[f xs]) (Tv:((M.take k).map f).length=k);obtain⟨u0,cu,rfl,-⟩:=FT.p;rw[Gu.o];have⟨O,Gc⟩:=bJ FT FW;have⟨n,a2⟩:=aR xs.length;rw[<-a2]at ba J;have⟨Y,a0⟩:=aR (f xs);rw[<-a0]at J Gl;clear FT FW ap hx am ao a2 a0;have a8:=zH (show ∀g,(Value.slice u0 k cu).ownBlock=some g->g < (wr:Nat) from fun g e=>by obtain⟨cs,ah⟩:=O.o;rw[Gu.o]at ah;exact(bS ah.η g e).2)
   rw[Gu.o]at O;go_upto_region 6 with(first|(go_at_call 181;refine J.o.x ?_;rintro e F ⟨h,D,rfl,a1,av,Z⟩;have T:=zH Z;have a5:=zH av;have a6:=zH a1;have a7:=zH (O.ext Z);clear av Z a1)|(at_builtin;refine de yU rfl (.tmp 16) (.tmp 20) rfl w (F.alloc (.cells (aV h Y D) 26)) (.slice u0 k cu) ((M.take k).map f) Y [.slice h Y D] F (a7.ext (aw _ _)) rfl SU ⟨wr,F,Gc.size,(aw _ _).size,fun g e=>ay (a8 g e),(a5.ext (aw _ _) (ae _)).E fun V hV=>⟨h,D,rfl,a6,hV⟩⟩ R5 (aZ Gc.size (aZ T.o.size (aw _ _).size)) rfl rfl (aH F _ rfl) ?_;intro bg be bn ab bb a9 an;rw[Gu.o]at ab ⊢;have Gv:=zH ab;have G0:=zH (((aT Gc T.o).t ((aw F _).x (aZ Gc.size T.o.size))).t an);clear ab bb a9 an))
   exact Yz
  .exact Zh
end Go.Proofs.YtpieilkmmiopfaaGreatDoor
