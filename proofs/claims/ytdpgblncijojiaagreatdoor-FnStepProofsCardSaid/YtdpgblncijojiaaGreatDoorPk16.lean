/- Parts of the walks. Conditions: as stated with each. -/
import Derived.Test.YtdpgblncijojiaaGreatDoorPk15
namespace Go.Proofs.YtdpgblncijojiaaGreatDoor
open Go.RowKit Tryz
set_option linter.all false
set_option maxHeartbeats 4000000
set_option maxRecDepth 100000
variable{A:aq}{D b c d k n r x:Nat}{g:Gr}{ps:qX}{v2 v3:av}{w:aa}{xs:aH}

def ft(g:Gr):List (List Nat):=[g.i,g.o]++g.es.flatMap fun e=>[e.i,e.o]
def uk(g:Gr)(x:Nat):(∃l∈ft g,x∈l)↔g.On x:=by
 unfold ft Gr.On;constructor
 .rintro⟨l,D,B⟩;rcases eO.1 D with h|h
  .simp at h;rcases h with rfl|rfl
   .exact aG B
   .exact aB (aG B)
  .obtain⟨e,z,h⟩:=wO.1 h;simp at h;rcases h with rfl|rfl
   .exact aB (aB ⟨e,z,aG B⟩)
   .exact aB (aB ⟨e,z,aB B⟩)
 .rintro(h|h|⟨e,z,h|h⟩)
  .exact⟨g.i,Rx,h⟩
  .exact⟨g.o,Rx,h⟩
  .exact⟨e.i,o5 _ (wO.2 ⟨e,z,Rx⟩),h⟩
  .exact⟨e.o,o5 _ (wO.2 ⟨e,z,Rx⟩),h⟩
def zfS:(prog.info? 4).map (fun i=>(i.zero,i.size,i.bytes))=some (some (.bool false),1,1):=RU
def qY(C:bW)(d:List (List Nat))(r:Nat):Bool:=d.any fun l=>l.any fun x=>decide (C.getD x 0=r)
def tP(n:Nat)(C:bW)(d:List (List Nat)):List Bool:=(List.range n).map (qY C d)
def B4(n:Nat)(C:bW)(d:List (List Nat)):(tP n C d).length=n:=by simp[tP]
def xr(C:bW)(d:List (List Nat))(h:r<n):(tP n C d)[r]?=some (qY C d r):=by simp[tP,h]
def Av{C:bW}:qY C (ft g) r=true↔∃x,g.On x/\C.getD x 0=r:=by
 unfold qY;rw[mn];constructor
 .rintro⟨l,B,h⟩;rw[mn]at h;obtain⟨x,z,h⟩:=h;exact⟨x,(uk g x).1 ⟨l,B,z⟩,R3⟩
 .rintro⟨x,z,h⟩;obtain⟨l,B,z⟩:=(uk g x).2 z;exact⟨l,B,mn.2 ⟨x,z,R3⟩⟩
def zcX{C:bW}(E:g.In):Bm g C r=(decide (C.getD r 0=r)&&qY C (ft g) r):=by
 rw[nl];unfold Bm;rw[bn,bn,Av,mn];constructor
 .rintro⟨B,x,D,z⟩;rw[bn,cw]at z;exact⟨B,x,Gr.j9.1 z.1,z.2⟩
 .rintro⟨B,x,D,z⟩;exact⟨B,x,dQ.2 (E x D),by rw[Gr.j9.2 D];simpa using z⟩
def toN(g:Gr)(C:bW)(x:Nat):Int:=if qY C (ft g) (C.getD x 0)=true then(CV g C x:Nat) else -1
def toL(g:Gr)(C:bW):List Int:=(List.range g.w).map (toN g C)
def zcY(g:Gr)(C:bW):(toL g C).length=g.w:=by simp[toL]
def yI(C:bW)(h:x<g.w):(toL g C)[x]?=some (toN g C x):=by simp[toL,h]
def ql(g:Gr)(C:bW)(k:Nat):Nat:=((List.range k).filter (Bm g C)).length
def Dj(g:Gr)(C:bW)(k:Nat):ql g C k<=k:=by have:=yW (Bm g C) (List.range k);rw[hJ]at this;exact this
def Cc(g:Gr)(C:bW)(k:Nat):ql g C (k+1)=ql g C k+if Bm g C k=true then 1 else 0:=zaa k
def zei{C:bW}(B:g.In):zap (toL g C) (CV g C) g:=fun x z=>by rw[yI C (B x z)];unfold toN;rw[ar (Av.2 ⟨x,z,rfl⟩)]
def zhf{C:bW}(h:qY C (ft g) (C.getD k 0)=false):toN g C k=-1:=by unfold toN;rw[h];simp
def zhg{C:bW}(z:oL g.w C)(B:k<g.w):toN g C k=toN g C (C.getD k 0):=by unfold toN CV;rw[z.rep k B]
def zhh{C:bW}(h:qY C (ft g) (C.getD k 0)=true)(e:C.getD k 0=k):toN g C k=(ql g C k:Nat):=by unfold toN CV ql;rw[ar h,e]
def zhi{C:bW}(z:g.In)(h:qY C (ft g) (C.getD k 0)=true)(e:C.getD k 0=k):ql g C (k+1)=ql g C k+1:=by rw[Cc,zcX z,e];rw[e]at h;rw[h];simp
def zaz{C:bW}(z:g.In)(h:qY C (ft g) (C.getD k 0)=false∨C.getD k 0≠k):ql g C (k+1)=ql g C k:=by
 rw[Cc,zcX z];rcases h with h|h
 .by_cases e:C.getD k 0=k
  .rw[e]at h;rw[h];simp
  .rw[fh e,kz];rfl
 .rw[fh h,kz];rfl
def zaA(z:g.In)(B:∀q∈ps,q.1<g.w/\q.2<g.w):iB g ps=g.map (ql g (ji g.w ps) g.w) (CV g (ji g.w ps)):=zfw z B
def zcl(n:Nat):(madeCells (Value.bool false).cells (n*1)).toList=(List.replicate n false).map Value.bool:=YS
def mK{s:Nat}:∀{cs:List (List Value)},(∀c∈cs,c.length=s)->cs.flatten.length=cs*s
 |[],_=>Rx
 |c::cs,h=>by rw[zd,bS,h c (nw ..),mK fun c z=>h c (nv _ z),mr,Nat.succ_mul,Nat.add_comm]
def zbv(h:g.In):zap (iota g.w) (fun x=>x) g:=fun x z=>rp (h x z)
def zbw(h:g.In)(a:Nat):zap (bC (jv a g.w)) (fun x=>x+a) g:=fun x z=>fk (BF (h x z))
structure sq(g:Gr):Prop where
 inr:g.In
 w:g.w<=4096
 es:g.es.length<=4096
 i:g.i.length<=4096
 o:g.o.length<=4096
 el:∀e∈g.es,e.i.length<=4096/\e.o.length<=4096
def zK(v:aH)(A:aq)(cap:Nat)(Iq:aH)(A2:aq)(F:Nat)(w:aa)(B:aU w A v)(z:aU w A2 Iq)(I:v.length<=1048576)(H:Iq.length<=1048576)(D:∀i∈Iq,0<=i/\i<v.length):ax 171 (nj A2 Iq F A v cap) w fun e w'=>∃u,e=.returned u/\au w' w u (mJ v Iq)/\aj w w':=by
 obtain⟨HV,HA,HL⟩:=dD B z D;clear B z D;go_enter func171,ntmps171
 go_wp2;go_loopw [5,7,10] (fun u _ i wr=>∃k:Nat,k<=Iq.length/\i=.int .i64 k/\au wr w u ((mJ v Iq).take k)/\aj w wr)
  (fun _ _ i _=>Iq.length-(intOf i).toNat)
 case atStart=>exact⟨0,aT _,rfl,by simpa using au.nil _ _,ai _ _⟩
 case round=>
  obtain⟨k,hk,rfl,E,Ey⟩:=hrel;have Ip:=zH E;clear E;exact ZW
def zcL(t:aH)(f:gj)(l:bW)(A:aq)(cap n:Nat)(A2:aq)(B:Nat)(w:aa)(J:n=t.length)(H:aU w A t)(F:aU w A2 (bC l))(O:t.length<=1048576)(I:l.length<=1048576)(E:∀x∈l,t[x]?=some ((f x:Nat):Int)):ax 171 #[.slice A2 l B,.slice A n cap] w fun e w'=>∃A3 c3,e=.returned (.slice A3 l c3)/\Fr w' w w' (fun W=>aU W A3 (bC (l.map f)))/\aj w w':=by subst J;have:=zK t A cap (bC l) A2 B w H F O (by rw[bf];exact I) (zaq E);rw[bf]at this;refine this.mono ?_;rintro e w' ⟨u,rfl,z,D⟩;rw[Ao E]at z;obtain⟨A3,c3,rfl,-⟩:=z.view;exact⟨A3,c3,RW,z.fr D.size,D⟩
def au.frO(h:au w D (.slice A n c) xs)(z:D<=(w:Nat)):Fr w D w (fun W=>au W D (.slice A n c) xs):=qq (fun W B=>h.same B) (fun _ _ E h=>h.ext E) z
def zcM(t:aH)(f:gj)(l:bW)(A:aq)(cap n:Nat)(A2:aq)(E:Nat)(D:Nat)(w:aa)(I:D<=(w:Nat))(Q:n=t.length)(J:aU w A t)(H:aU w A2 (bC l))(R:t.length<=1048576)(O:l.length<=1048576)(B:∀x∈l,t[x]?=some ((f x:Nat):Int)):ax 171 #[.slice A2 l E,.slice A n cap] w fun e w'=>∃A3 c3,e=.returned (.slice A3 l c3)/\Fr w' w w' (fun W=>au W D (.slice A3 l c3) (bC (l.map f)))/\(∀g,(Value.slice A3 l c3).ownBlock=some g->(w:Nat)<=g/\g < (w':Nat))/\aj w w':=by subst Q;have:=zK t A cap (bC l) A2 E w J H R (by rw[bf];exact O) (zaq B);rw[bf]at this;refine this.mono ?_;rintro e w' ⟨u,rfl,z,F⟩;rw[Ao B]at z;obtain⟨A3,c3,rfl,-⟩:=z.view;have B:(bC (l.map f)).length=l:=RW;rw[B]at z ⊢;exact⟨A3,c3,rfl,(z.frO F.size).imp fun V h=>h.mono I,fun g e=>b_ z g e,F⟩
def zh8{a e:Nat}(z:∀g,v2.ownBlock=some g->a<=g/\g<b)(B:∀g,v3.ownBlock=some g->c<=g/\g<d)(D:b<=c)(E:b<=d)(F:d<=e):(∀g,v2.ownBlock=some g->v3.ownBlock≠some g/\g<e)/\∀g,v3.ownBlock=some g->g<e:=⟨fun g h=>⟨fun h'=>by have:=z g h;have:=B g h';omega,by have:=z g h;omega⟩,fun g h=>by have:=B g h;omega⟩
structure vh(B0 B:Nat)(V:aa)(A1:aq)(c1:Nat)(A2:aq)(c2:Nat)(A3:aq)(c3:Nat)(g:Gr):Prop where
 b:B0<=B
 s:B<=(V:Nat)
 i:au V B0 (.slice A2 g.i c2) (bC g.i)
 o:au V B0 (.slice A3 g.o c3) (bC g.o)
 d2:∀g',(Value.slice A2 g.i c2).ownBlock=some g'->(Value.slice A3 g.o c3).ownBlock≠some g'/\g'<B
 d3:∀g',(Value.slice A3 g.o c3).ownBlock=some g'->g'<B
 es:bP 166 4 EEd V B (.slice A1 g.es c1) g.es
def m7(g:Gr)(w:aa)(e:Ending)(w':aa):Prop:=∃A1 c1 A2 c2 A3 c3 z,e=.returned (.agg (bF g A1 c1 A2 c2 A3 c3))/\vh w z w' A1 c1 A2 c2 A3 c3 g/\aj w w'
def sr(g:Gr)(a3:Nat)(t:aH)(f:gj)(A1 A2 A3 At:aq)(c1 c2 c3 bv:Nat)(w:aa)(d3:oI w A1 A2 A3 g)(d4:aU w At t)(b1:zap t f g)(hg:t.length<=65536)(hr:g.w<=65536)(hp:a3<=65536)(bd:g.es.length<=65536)(hi:g.i.length<=65536)(b3:g.o.length<=65536)(e9:∀e∈g.es,e.i.length<=65536/\e.o.length<=65536):ax 161 #[.agg (bF g A1 c1 A2 c2 A3 c3),.slice At t bv,a3] w (m7 (g.map a3 f) w):=by
 obtain⟨d0,B,E,go⟩:=g;dsimp only at *;have e2:∀x∈E,t[x]?=some ((f x:Nat):Int):=fun x ba=>b1 x (aG ba)
 have e3:∀x∈go,t[x]?=some ((f x:Nat):Int):=fun x ba=>b1 x (aB (aG ba))
 have LE:∀e∈B,(∀x∈e.i,t[x]?=some ((f x:Nat):Int))/\∀x∈e.o,t[x]?=some ((f x:Nat):Int):=fun e fl=>⟨fun x ba=>b1 x (aB (aB ⟨e,fl,aG ba⟩)),fun x ba=>b1 x (aB (aB ⟨e,fl,aB ba⟩))⟩
 have bz:=((ai w w).alloc (ah _) (.cells (yS d0 A1 B c1 A2 E c2 A3 go c3) 151)).alloc Rx (.cells cf 151);have ct:=(bZ (w.alloc (.cells (yS d0 A1 B c1 A2 E c2 A3 go c3) 151)) (.cells cf 151) (k:=w.heap.size) Rx).trans (aD w _ rfl);have cu:=aD (w.alloc (.cells (yS d0 A1 B c1 A2 E c2 A3 go c3) 151)) (.cells cf 151) (n:=(w:Nat)+1) Rx;obtain⟨bi,cc,gB,gn⟩:=fS (d3.ext bz) (d4.ext bz) LE e9;have hd:E.length<=1048576:=Ry;have he:go.length<=1048576:=Ry;have cn:t.length<=1048576:=Ry;obtain⟨gA,ev⟩:=bL d3 d4;clear d3 d4 b1 LE e9 hi b3 hg;go_enter func161,ntmps161
 go_upto_region 1 with(fail)
 generalize (w.alloc _).alloc _=W at bz ct cu bi cc ⊢;obtain⟨cF,cI,b8,b9⟩:=aJ ct;obtain⟨eb,g2,g1,EX,ek,em⟩:=lq bz cu ct (show(w:Nat)+2<=W from(aP.1 cu).1) (fun(V:aa) (O:aj W V)=>zcM t f E At bv t A2 c2 W V O.size rfl (cc.ext O) (bi.i.ext O) cn hd e2) (fun(V:aa) (O:aj W V)=>zcM t f go At bv t A3 c3 W V O.size rfl (cc.ext O) (bi.o.o.ext O) cn he e3);have Z:=aY b8 b9;clear bz cu ct cF cI b8 b9 e2 e3;go_cut [7] from 10 (fun hk V=>∃J H I D F,hk=.pointer (aX J)/\aW V J #[.int .i64 a3,.slice none 0 0,.slice H E I,.slice D go F] 151/\(W:Nat)<=J/\vx V W J (fun dc=>au dc W (.slice H E I) (bC (E.map f)))/\vx V W J (fun dc=>au dc W (.slice D go F) (bC (go.map f)))/\((∀g,(Value.slice H E I).ownBlock=some g->(Value.slice D go F).ownBlock≠some g/\g < (V:Nat))/\∀g,(Value.slice D go F).ownBlock=some g->g < (V:Nat))/\aj W V)
 case first=>
  go_region_held3 (fun V=>af V w 2 (.slice A2 E c2)/\af V w 3 (.slice A3 go c3))
   (first|with_reducible exact Z|with_reducible exact mR (aF _) Z|with_reducible exact mR (aE _ _).drew Z|with_reducible exact mR z.o Z|with_reducible exact mR (z.o.alloc z.o.size _) Z|with_reducible exact mR U.o Z|with_reducible exact mR (U.o.alloc U.o.size _) Z|with_reducible exact mR (cX U.o (ah _) _ _ _ _) Z|with_reducible exact mR (cX U.o z.o.size _ _ _ _) Z)
   ((first|(go_at_call 171;(with_reducible refine(ek.o _ (by first|with_reducible exact aF _|with_reducible exact(aE _ _).drew)).mono ?_);rintro e b7 ⟨H,I,rfl,b4,hf,a6⟩;have c4:=zH hf;have z:Hd (aj W b7):=(by first|with_reducible exact zH ((aF _).trans (a6.mono (aF _).size))|with_reducible exact zH ((aE _ _).drew.trans (a6.mono (aE _ _).drew.size)));have bm:=zH b4;have eo:=zH a6;clear b4 a6)|(go_at_call 171;(with_reducible refine(em.o _ (by first|with_reducible exact z.o|with_reducible exact z.o.alloc z.o.size _)).mono ?_);rintro e ad ⟨D,F,rfl,b5,co,ac⟩;have c5:=zH co;have U:Hd (aj W ad):=(by first|with_reducible exact zH (bQ z.o ac)|with_reducible exact zH ((z.o.alloc z.o.size _).trans (ac.mono (z.o.alloc z.o.size _).size)));have R:Hd (aj b7 ad):=(by first|with_reducible exact zH ac|with_reducible exact zH ((aE _ _).trans (ac.mono (aE _ _).size)));have bo:=zH b5;have hm:=zH ac;(first|(have ab:=aA (aA (zbt W _) eo) ac;obtain⟨f6,f7,f8,f9⟩:=aJ ab;obtain⟨f0,f1,f2,f3⟩:=cH ab;have HZ:=zH ab;clear ab)|(have ab:=aA (aD b7 _ rfl) ac;obtain⟨f6,f7,f8,f9⟩:=aJ ab;obtain⟨f0,f1,f2,f3⟩:=cH ab;have HZ:=zH ab;clear ab)|skip);clear b5 ac)))
  all_goals
   go_wp2_with fail
   go_meet
   first
    |with_reducible exact⟨ad,H,I,D,F,rfl,aD ad _ rfl,U.o.size,vx.mk ((bm.o.ext R.o (ah _)).ext (aE _ _) R.o.size) (ah _) (bE R.o.size (aE _ _).size) (aB R.o.size),vx.mk (bo.o.ext (aE _ _) (ah _)) z.o.size (aE _ _).size (aB (ah _)),zh8 c4.o c5.o Uc R.o.size UB,U.o.alloc U.o.size _⟩
    |with_reducible exact⟨b7,H,I,D,F,rfl,cJ HZ.o,z.o.size,vx.mk4 (bm.o.ext R.o (ah _)) (ah _) R.o.size (aB (ah _)),vx.mk4 bo.o (bE z.o.size (aE _ _).size) (ah _) (aG Rx),zh8 c4.o c5.o Uc R.o.size UB,cX U.o z.o.size _ _ _ _⟩
    |with_reducible exact⟨W,H,I,D,F,rfl,cJ HZ.o,ah _,vx.mk4 (bm.o.ext R.o (ah _)) (aE _ _).drew.size R.o.size (aG Rx),vx.mk4 bo.o z.o.size (ah _) (aG (by have:=eo.o.size;simp at this;omega)),zh8 c4.o c5.o Uc R.o.size UB,cX U.o (ah _) _ _ _ _⟩
 case rest=>
  obtain⟨J,H,I,D,F,rfl,ab,e6,fa,fb,e8,b0⟩:=hcut;obtain⟨ei,gs,gw,ee,HZ,g3⟩:=lq e8 fa fb b0 e6 (aA g2 b0);have fo:=(aP.1 ab).1;have e1:=zH fo;have br:=(aJ (aA g1 b0)).2.1;obtain⟨cK,ca,z2,cO⟩:=aJ ab;have hl:=zH (bi.ext b0);clear fa fb b0 e6 fo e8 ek em Z bi cc;go_wp2;go_loopw [23] (fun i wr=>∃k:Nat,k<=B.length/\i=.int .i64 k/\(∃Q T,aW wr J #[.int .i64 a3,.slice Q k T,.slice H E I,.slice D go F] 151/\bP 166 4 EEd wr wc (.slice Q k T) ((B.map (Ed.map f)).take k))/\dd J (J+1) wc wr) (fun i _=>B.length-(intOf i).toNat)
  case atStart=>exact⟨0,aT _,rfl,⟨none,0,ab,bP.nil _ _ _ _ _⟩,dd.refl _ _ _⟩
  case round=>
   obtain⟨k,hq,rfl,⟨Q,T,b6,cr⟩,a9⟩:=hrel;clear cK ca z2 cO ab br;have cj:aj w wr:=(bQ eb ee).trans (a9.below UX (bQ eb ee).size);have fn:=a9.size;by_cases hc:k<B.length
   .obtain⟨e,bd⟩:=aw hc;obtain⟨hn,ho,cR,d1,c0,d2,rfl,cF,cI,b8,b9,d5,d6⟩:=pY ((gA.ext cj).es) bd;obtain⟨c9,da⟩:=gB e (aR bd);obtain⟨e4,e5⟩:=gn e (aR bd);have g5:=zH (by rw[fZ,bR,bd];rfl:(B.map (Ed.map f)).take (k+1)=(B.map (Ed.map f)).take k++[e.map f]);have fd:((B.map (Ed.map f)).take k).length=k:=by rw[dX,bl];omega
    obtain⟨ej,eg,bp,c7,ha⟩:=l_ fd cj a9 cr b6;have hs:=(aP.1 b6).1;obtain⟨ap,a0,am,ao⟩:=e;dsimp only at cF cI b8 b9 d5 d6 c9 da e4 e5;obtain⟨ci,d7⟩:=dC wr (.cells (jF ap a0 cR am d1 c0 ao d2) 166);clear bd fd cr a9 b6 cj;go_upto_region 5 with(fail)
    generalize wr.alloc _=hh at ci d7 ⊢;obtain⟨cb,gC,gK⟩:=dD ci (fun(V:aa) (O:aj wr V)=>zcL t f am At bv t cR d1 V rfl (ev.ext (bQ eg O)) (d5.ext O) cn Ry c9) (fun(V:aa) (O:aj wr V)=>zcL t f ao At bv t c0 d2 V rfl (ev.ext (bQ eg O)) (d6.ext O) cn Ry da);obtain⟨fs,fz,n2,f4⟩:=aJ d7;have ea:=aA ha ci;have g8:=zH ea;obtain⟨-,f5,-,-⟩:=aJ ea;have Z:=aY f5 (aY fs (aY fz (aY n2 f4)));clear cF cI b8 b9 d5 d6 c9 da e4 e5 ci d7 fs fz n2 f4 ea f5;refine bk (S:=fun V=>af V J 1 (.slice Q k T)/\af V wr 0 (zI ap)/\af V wr 1 (zI a0)/\af V wr 2 (.slice cR am d1)/\af V wr 3 (.slice c0 ao d2)) 18 RU Z (fun hHeld=>?_);refine ay 0 ?_;refine ay 1 ?_;refine ay 2 ?_;refine ay 3 ?_;refine ay 4 ?_;refine ay 5 ?_;refine ay 6 ?_;refine ay 7 ?_;refine ay 8 ?_;refine ay 10 ?_;refine ay 11 ?_;refine ay 12 ?_;refine bu 9 fun K hK=>?_
    go_simp;refine(gC.o _ (cb.drew)).mono ?_;rintro e b7 ⟨a1,a4,rfl,b4,a6⟩;obtain⟨z,eA,bm⟩:=dD (cb.drew.trans (a6.mono cb.size)) ((aF hh).trans a6) (b4.to (lo':=wr.heap.size) cb.size (ah _));clear b4 a6;go_simp;have br:=zfq eA Z;refine hK.out _ _ (fun _=>br) (fun hHeld=>?_);clear hK K hHeld;try simp only[Act.put,zA]
    refine bu 13 fun K hK=>?_
    go_simp;refine(gK.o _ z.o).mono ?_;rintro e ad ⟨a2,a5,rfl,b5,ac⟩;obtain⟨U,R,bo,g9⟩:=fS (bQ z ac) ac (b5.to (lo':=wr.heap.size) z.size (ah _)) (aA (aA g8 eA) ac);clear b5 ac;go_simp;have ch:=zfq R.o br;refine hK.out _ _ (fun _=>ch) (fun hHeld=>?_);clear hK K hHeld;try simp only[Act.put,zA]
    refine bu 14 fun K hK=>?_
    go_simp;refine hK.out _ _ (fun _=>ch) (fun hHeld=>?_);clear hK K hHeld;try simp only[Act.put,zA]
    refine bu 15 fun K hK=>?_
    go_simp;have a8:=zfq (aE ad (.cells (jF ap a0 a1 am a4 a2 ao a5) 166)) ch;refine hK.out _ _ (fun _=>a8) (fun hHeld=>?_);clear hK K hHeld;try simp only[Act.put,zA]
    obtain⟨en,a7⟩:=bL (aD ad (.cells (jF ap a0 a1 am a4 a2 ao a5) 166) rfl) (aE ad (.cells (jF ap a0 a1 am a4 a2 ao a5) 166));have c6:=zH ((c7.ext U.o).ext a7);have e0:=zH (show j2 EEd (ad.alloc (.cells (jF ap a0 a1 am a4 a2 ao a5) 166)) wc (.slice Q k T) (Ed.map f ⟨ap,a0,am,ao⟩) [.int .i64 ap,.int .i64 a0,.slice a1 am a4,.slice a2 ao a5] from by
     obtain⟨cs,b3⟩:=c7.o;refine⟨wr,ad,fn,a7.size,fun g e=>aG ((b_ b3.outer g e).2),?_⟩;refine Fr.imp (((bm.ext R.o (ah _)).to (ah _) R.o.size |>.and bo.o).ext a7 (ah _)) fun V O=>⟨a1,a4,a2,a5,?_,O.1,O.2⟩
     simp[Ed.map])
    obtain⟨es,ce⟩:=bL (show(wc:Nat)<=(ad.alloc (.cells (jF ap a0 a1 am a4 a2 ao a5) 166)) from bE fn (bE U.o.size a7.size)) (aA g9 a7);generalize ad.alloc _=hj at en a7 c6 e0 es ce a8 ⊢;have gL:=zH (zfT c6 ce RC);refine bu 16 fun K hK=>?_
    refine ow zh1 rfl (.tmp 28) (.tmp 42) rfl wc hj (.slice Q k T) ((B.map (Ed.map f)).take k) (Ed.map f ⟨ap,a0,am,ao⟩) [.int .i64 ap,.int .i64 a0,.slice a1 am a4,.slice a2 ao a5] ad c6.o rfl TM e0.o (by rw[ej.o];omega) es.o rfl rfl en.o ?_;intro dT dl gb d8 be hb e7;rw[ej.o]at d8 ⊢;obtain⟨gV,c8,g6⟩:=dD d8 ((be.block J (aP.1 ce).1 (fun e=>gL e.symm)).trans ce) (show dd J (J+1) wc gb from(bp.trans (dd.iD (bQ U.o a7))).low e7);obtain⟨cK,ca,z2,cO⟩:=aJ c8;obtain⟨gc,gd,gf,gi⟩:=cH c8;have b2:some wr.heap.size≠(Value.slice Q k T).ownBlock:=fun e=>by obtain⟨cs,b3⟩:=c7.o;have:=(b_ b3.outer _ e.symm).2;omega
    have db:=aY ca (aY (zf be a8.2.1 b2) (aY (zf be a8.2.2.1 b2) (aY (zf be a8.2.2.2.1 b2) (zf be a8.2.2.2.2 b2))));clear d8 be hb e7 b2;refine hK.out _ _ (fun _=>db) (fun hHeld=>?_);clear hK K hHeld;try simp only[Act.put,zA]
    refine bu 17 fun K hK=>?_
    go_simp;refine hK.out _ _ (fun _=>db) (fun hHeld=>?_);clear hK K hHeld;try simp only[Act.put,zA]
    refine bu 18 fun K hK=>?_
    go_simp;refine hK.out _ _ (fun h=>absurd h RC) (fun _=>?_);clear hK K;try simp only[Act.put,zA]
    refine dS RU ?_ _;have d9:=bw gb J 1 _ _ (.slice (aX dT) (k+1) dl) c8;simp only[zA]at d9;obtain⟨g4,g0,g7⟩:=dD d9 (gV.setCell (a:=⟨J,1,none⟩) (by have:=e1.o;exact this) (.slice (aX dT) (k+1) dl)) (g6.zjL (p:=⟨J,1,none⟩) (v:=.slice (aX dT) (k+1) dl) (ah _) (jL _));clear d9 Z br ch a8 db cK ca z2 cO gc gd gf gi;go_wp2;go_roundw
    case rel=>exact⟨k+1,Ry,RB,⟨_,_,g4,by rw[g5.o];exact g0⟩,g7⟩
    case measure=>simp[intOf];omega
   .obtain rfl:k=B.length:=Ry;obtain⟨cK,ca,z2,cO⟩:=aJ b6;have cz:=zhV g3 a9 (aG UX);obtain⟨f6,f7,f8,f9⟩:=aJ cz;obtain⟨f0,f1,f2,f3⟩:=cH cz;have y:=cJ (v0:=.int .i64 a3) (v1:=.slice Q B T) (v2:=.slice H E I) (v3:=.slice D go F) cz;obtain⟨gc,gd,gf,gi⟩:=aJ y;obtain⟨gm,bp⟩:=bL (cX cj (b:=(w:Nat)+1) Ry (zI a3) (.slice Q B T) (.slice H E I) (.slice D go F)) a9;have co:bP 166 4 EEd wr wc (.slice Q B T) (B.map (Ed.map f)):=by have:=cr;rwa[fO (by rw[bl];exact ah _)]at this
    have gR:=zH co;clear y b6 cz a9 cr co;go_wp2;have ht:=EX.o;have ga:=HZ.o;have hu:=e1.o;refine az (v:=.agg (yS a3 Q B T H E I D go F)) (by simp[results,results161,go_sem, *]) rfl ⟨Q,T,H,I,D,F,wc,?_,⟨?_,?_,?_,?_,?_,?_,?_⟩,gm⟩
    .show Ending.returned (Value.agg #[_,Value.slice Q _ T,Value.slice H _ I,Value.slice D _ F])=Ending.returned (Value.agg #[_,Value.slice Q (B.map (Ed.map f)) T,Value.slice H (E.map f) I,Value.slice D (go.map f) F])
     rw[bl,bl,bl];rfl
    .omega
    .show(wc:Nat)<=(ed wr ((w:Nat)+1) _ _ _ _)
     rw[eu];exact bp.size
    .show au _ _ (Value.slice H (E.map f) I) (bC (E.map f))
     rw[bl];exact((gs.late bp ga).zhM (b:=(w:Nat)+1) Ry).all.now.mono Ry
    .show au _ _ (Value.slice D (go.map f) F) (bC (go.map f))
     rw[bl];exact((gw.late bp ga).zhM (b:=(w:Nat)+1) Ry).all.now.mono Ry
    .show ∀bb,(Value.slice H (E.map f) I).ownBlock=some bb->(Value.slice D (go.map f) F).ownBlock≠some bb/\bb < (wc:Nat)
     rw[bl,bl];exact ei.1
    .show ∀bb,(Value.slice D (go.map f) F).ownBlock=some bb->bb < (wc:Nat)
     rw[bl];exact ei.2
    .show bP _ _ _ _ _ (Value.slice Q (B.map (Ed.map f)) T) (B.map (Ed.map f))
     rw[bl];exact(((gR.setCell (a:=⟨(w:Nat)+1,0,none⟩) (by show(w:Nat)+1<_;omega) _).setCell (a:=⟨(w:Nat)+1,1,none⟩) (by show(w:Nat)+1<_;omega) _).setCell (a:=⟨(w:Nat)+1,2,none⟩) (by show(w:Nat)+1<_;omega) _).setCell (a:=⟨(w:Nat)+1,3,none⟩) (by show(w:Nat)+1<_;omega) _
end Go.Proofs.YtdpgblncijojiaaGreatDoor
