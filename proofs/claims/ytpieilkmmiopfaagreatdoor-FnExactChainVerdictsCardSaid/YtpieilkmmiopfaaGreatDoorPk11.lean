/- Parts of the walks and laws (Uf1, Set6, OwnY). Conditions: as stated with each. -/
import Derived.Test.YtpieilkmmiopfaaGreatDoorPk10
import Derived.Test.YtpieilkmmiopfaaGreatDoorPk9
namespace Go.Proofs.YtpieilkmmiopfaaGreatDoor
open Go.RowKit Tryz
set_option linter.all false
variable{B B' H b d hi k lo n s x y:Nat}{C l:bO}{K:mE}{Q:gj}{R Rh Rj Ro T u v v0 v1 v2 v3 v4 v5 z2:ax}{Rk t:du}{a:Act}{e:Ed}{g:Gr}{o:fR}{ops:gP}{ps:nU}{us:bU}{w w':aa}
structure yn(n:Nat)(P C:bO):Prop where
 len:P.length=n
 cls:mB n C
 le:∀w,w<n->P.getD w 0<=w
 top:∀w,w<n->P.getD w 0=w->C.getD w 0=w
 up:∀w,w<n->C.getD (P.getD w 0) 0=C.getD w 0
theorem pG(h:x<n):(List.range n).getD x 0=x:=by rw[bP,lJ h];rfl
theorem zeI(n:Nat):yn n (List.range n) (List.range n):=by
 refine⟨fX,uR n,fun w h=>?_,fun w h _=>pG h,fun w h=>?_⟩
 .rw[pG h];exact af _
 .rw[pG h,pG h]
theorem zda{a:Nat}(ha:a<l.length):(l.set a x).getD d 0=if a=d then x else l.getD d 0:=XU
theorem zfX{P:bO}(h:yn n P C)(O:x<n)(R:y<n):yn n (P.set (max (C.getD x 0) (C.getD y 0)) (min (C.getD x 0) (C.getD y 0))) (rC C x y):=by
 have am:=h.cls.le x O;have ao:=h.cls.le y R;have U:=h.cls.rep x O;have V:=h.cls.rep y R;obtain⟨M,I⟩:=aM (max (C.getD x 0) (C.getD y 0));obtain⟨m,J⟩:=aM (min (C.getD x 0) (C.getD y 0));have ad:m<=M:=Rr;have ab:M<n:=Rr;have T:C.getD M 0=M:=by
  rcases Nat.le_total (C.getD x 0) (C.getD y 0)with F|F
  .rw[I,Nat.max_eq_right F];exact V
  .rw[I,Nat.max_eq_left F];exact U
 have Z:C.getD m 0=m:=by
  rcases Nat.le_total (C.getD x 0) (C.getD y 0)with F|F
  .rw[J,gR F];exact U
  .rw[J,wu F];exact V
 have H:∀z,z<n->(rC C x y).getD z 0=if C.getD z 0=M then m else C.getD z 0:=fun z ac=>by rw[pt h.cls ac,<-I,<-J]
 rw[<-I,<-J];have N:∀d,(P.set M m).getD d 0=if M=d then m else P.getD d 0:=fun d=>zda (by rw[h.len];exact ab)
 refine⟨TE,zar h.cls O R,fun w D=>?_,fun w D e=>?_,fun w D=>?_⟩
 .rw[N];split
  .omega
  .exact h.le w D
 .rw[N]at e;rw[H w D];split at e
  .rename_i G;subst G;rw[ay T];exact e
  .rename_i G;have:=h.top w D e;rw[this,av (fun Y=>G Y.symm)]
 .rw[N];split
  .rename_i G;subst G;rw[H _ D,H m Rr,T,Z,ay rfl];split <;>rfl
  .have:=h.le w D;rw[H w D,H _ Rr,h.up w D]
def Bk(g:Gr)(c:bO)(r:Nat):Bool:=decide (c.getD r 0=r)&&(List.range g.w).any fun x=>g.onB x&&decide (c.getD x 0=r)
theorem uC(g:Gr)(c:bO):nG g c=(List.range g.w).filter (Bk g c):=rfl
theorem zF{Q:Nat->Bool}{r:Nat}:∀{w:Nat},r<w->Q r=true->((List.range w).filter Q).idxOf r=((List.range r).filter Q).length
 |0,F,_=>Rr
 |w+1,F,D=>by
  rw[oL,List.filter_append];by_cases e:r=w
  .subst e;have G:r∉(List.range r).filter Q:=fun h=>by have:=fi.1 (wv.1 h).1;omega
   rw[List.idxOf_append,av G];have:([r].filter Q)=[r]:=by simp[D]
   rw[this,List.idxOf_cons];simp
  .have h:r∈(List.range w).filter Q:=wv.2 ⟨fi.2 Rr,D⟩;rw[List.idxOf_append,ay h];exact zF Rr D
theorem Es{Q:Nat->Bool}(w:Nat):((List.range (w+1)).filter Q).length=((List.range w).filter Q).length+if Q w=true then 1 else 0:=by
 rw[oL,List.filter_append,bx];congr 1
 by_cases h:Q w=true
 .rw[ay h];simp[h]
 .rw[av h];simp[h]
theorem zgY{c:bO}(h:mB g.w c)(D:g.In)(F:g.On x):Bk g c (c.getD x 0)=true:=by have:=zas h D F;rw[uC]at this;exact(wv.1 this).2
def zG(g:Gr)(c:bO)(x:Nat):Nat:=((List.range (c.getD x 0)).filter (Bk g c)).length
theorem zfY{c:bO}(h:mB g.w c)(D:g.In)(F:g.On x):(nG g c).idxOf (c.getD x 0)=zG g c x:=by have G:=D x F;have H:=h.le x G;exact zF Rr (zgY h D F)
theorem Ed.map_congr{f D:ir}(F:∀x,x∈e.i∨x∈e.o->f x=D x):e.map f=e.map D:=by unfold Ed.map;rw[kZ (fun x h=>F x (au h)),kZ (l:=e.o) (fun x h=>F x (an h))]
theorem Gr.map_congr{w:Nat}{f F:ir}(D:∀x,g.On x->f x=F x):g.map w f=g.map w F:=by unfold Gr.map;rw[kZ (l:=g.es) (fun e G=>Ed.map_congr fun x h=>D x (an (an ⟨e,G,h⟩))),kZ (l:=g.i) (fun x h=>D x (au h)),kZ (l:=g.o) (fun x h=>D x (an (au h)))]
theorem zeJ(h:g.In)(F:∀q∈ps,q.1<g.w/\q.2<g.w):iA g ps=g.map ((List.range g.w).filter (Bk g (iH g.w ps))).length (zG g (iH g.w ps)):=by
 have D:mB g.w (iH g.w ps):=Dj ps _ (uR g.w) F;unfold iA;rw[uC];refine Gr.map_congr fun x G=>?_
 rw[<-uC];exact zfY D h G
theorem Et(n:Nat)(ps:nU)(q:fQ):iH n (ps++[q])=rC (iH n ps) q.1 q.2:=by unfold iH;rw[List.foldl_append];rfl
theorem bn.nC{a b:aa}{p:dk}(h:bn lo hi a b)(G:lo<=p.block)(H:p.block<hi):bn lo hi a (b.setCell p v):=⟨h.os,h.tape,h.output,by simpa using h.size,fun k D F=>(aZ _ _ _ _ Rr).trans (h.block k D F)⟩
abbrev Dc(w:aa)(b:Nat)(v0 v1 v2 v3 v4 v5:ax):World:=(((((w.setCell ⟨b,0,none⟩ v0).setCell ⟨b,1,none⟩ v1).setCell ⟨b,2,none⟩ v2).setCell ⟨b,3,none⟩ v3).setCell ⟨b,4,none⟩ v4).setCell ⟨b,5,none⟩ v5
theorem dR(J:aW w b #[R,T,z2,Ro,Rj,Rh] t):(Dc w b v0 v1 v2 v3 v4 v5).heap[b]?=some (.cells #[v0,v1,v2,v3,v4,v5] t (0,0)):=by have h:=bm w b 0 _ _ v0 J;have D:=bm _ b 1 _ _ v1 h;have F:=bm _ b 2 _ _ v2 D;have G:=bm _ b 3 _ _ v3 F;have H:=bm _ b 4 _ _ v4 G;have I:=bm _ b 5 _ _ v5 H;simpa[Dc]using I
theorem dp(D:Below B w w')(h:B<=b)(v0 v1 v2 v3 v4 v5:ax):Below B w (Dc w' b v0 v1 v2 v3 v4 v5):=(((((D.setCell h _).setCell h _).setCell h _).setCell h _).setCell h _).setCell h _
theorem bB(h:aW w b #[R,T,z2,Ro,Rj,Rh] t):(ae w b 0 R/\ae w b 1 T/\ae w b 2 z2/\ae w b 3 Ro/\ae w b 4 Rj/\ae w b 5 Rh)/\w.frozen? ⟨b,0,none⟩=false/\w.frozen? ⟨b,1,none⟩=false/\w.frozen? ⟨b,2,none⟩=false/\w.frozen? ⟨b,3,none⟩=false/\w.frozen? ⟨b,4,none⟩=false/\w.frozen? ⟨b,5,none⟩=false:=⟨⟨aI h 0 rfl,aI h 1 rfl,aI h 2 rfl,aI h 3 rfl,aI h 4 rfl,aI h 5 rfl⟩,aK h 0,aK h 1,aK h 2,aK h 3,aK h 4,aK h 5⟩
theorem zhD:(prog.info? 57).map (fun i=>(i.zero,i.size,i.bytes))=some (some (.agg bj),3,40):=RP
theorem aU.zgL{w w':aa}{B:Nat}{v:ax}{rows:aN}{xs:bU}(h:aU w B u rows)(J:26≠Rk)(N:3≠Rk)(H:w.ownsRow B' Rk s v n xs)(D:w.grownBy w' v.ownBlock):aU w' B u rows:=by obtain⟨us,h⟩:=h;exact⟨us,ik h.outer D (jj J h.outer H),fun k I r G F=>aD.kept (h.each k I r G F) D (jj N (h.each k I r G F) H),h.apart⟩
def i_(x:Sy)(u:ax):List Value:=[.int .i64 x.v,.int .i64 x.h,u]
def tl:List Sy->List Value->List Value
 |x::xs,u::us=>i_ x u++tl xs us
 |_,_=>[]
theorem xL{j:Nat}(F:j<3):∀{xs:List Sy} {us:bU} {k:Nat} {x:Sy} {u:ax},xs[k]?=some x->us[k]?=some u->(tl xs us)[k*3+j]?=(i_ x u)[j]?
 |[],us,k,x,u,h,_=>RM
 |x::xs,[],k,_,_,_,h=>RM
 |x::xs,u::us,0,y,t,h,D=>by simp at h D;subst h D;rw[tl,df (by simp[i_];omega)];simp
 |x::xs,u::us,k+1,y,t,h,D=>by simp only[cP]at h D;have:=xL F h D;rw[tl,ef (by simp[i_];omega)];rw[<-this];congr 1;simp[i_];omega
theorem Ba:∀{xs:List Sy} {us:bU} (x:Sy) (u:ax),us.length=xs.length->tl (xs++[x]) (us++[u])=tl xs us++i_ x u
 |[],us,x,u,h=>by have:us=[]:=fC R9;subst this;simp[tl]
 |x::xs,[],_,_,h=>RM
 |x::xs,u::us,y,t,h=>by have:=Ba (xs:=xs) (us:=us) y t R9;simp[tl,this]
structure mw(w:aa)(B:Nat)(v:ax)(xs:List Sy)(us:bU):Prop where
 len:us.length=xs.length
 outer:w.ownsRow B 57 3 v xs.length (tl xs us)
 each:∀(k:Nat) (u:ax) (x:Sy),us[k]?=some u->xs[k]?=some x->aU w B u x.rows
def kU(w:aa)(B:Nat)(v:ax)(xs:List Sy):Prop:=∃us,mw w B v xs us
def zia(w:aa)(A:aq)(xs:List Sy):Prop:=
 xs=[]∨∃b o,A=some ⟨b,o,none⟩/\∀(k:Nat) (x:Sy),xs[k]?=some x->∃h cap,(ae w b (o+k*3) (.int .i64 x.v)/\ae w b (o+k*3+1) (.int .i64 x.h)/\ae w b (o+k*3+2) (.slice h x.rows.length cap))/\bk w h x.rows
section
variable{w w':aa}{B:Nat}{v:ax}{xs:List Sy}{us:bU}
theorem mw.get(h:mw w B v xs us){x:Sy}(hx:xs[k]?=some x):∃u,us[k]?=some u/\aU w B u x.rows:=Yh
theorem kU.view(h:kU w B v xs):∃A cap,v=.slice A xs.length cap/\zia w A xs/\xs.length<=cap/\cap<=maxLen:=by
 obtain⟨us,h⟩:=h;have J:=fun g=>lL h.outer (g:=g)
 rcases h.outer.2 with⟨rfl,hn⟩|⟨g,cap,U,rfl,V,Y,hn,N,Z⟩
 .exact WO
 .refine⟨_,cap,rfl,an ⟨g,0,rfl,fun k x H=>?_⟩,hn,N⟩;obtain⟨u,R,O⟩:=h.get H;obtain⟨F,G,rfl,hi,_⟩:=O.view;have D:∀(j:Nat) (y:ax),j<3->(i_ x (.slice F x.rows.length G))[j]?=some y->ae w g (0+k*3+j) y:=fun j y I T=>by have:=J g rfl (k*3+j) y (by rw[xL I H R];exact T);rwa[dj,<-oO]at this
  exact⟨F,G,⟨D 0 _ Rs rfl,D 1 _ Rs rfl,D 2 _ Rs rfl⟩,hi⟩
theorem mw.ext(D:mw w B v xs us)(h:ag w w'):mw w' B v xs us:=⟨D.len,ik D.outer (row:=none) ⟨h.os,h.tape,h.output,h.size,fun k F _=>h.block k F⟩ Uj,fun k u r H G=>(D.each k u r H G).ext h⟩
theorem kU.ext(h:kU w B v xs)(hb:ag w w'):kU w' B v xs:=Wq
theorem mw.mono{B':Nat}(h:mw w B v xs us)(H:B'<=B):mw w B' v xs us:=⟨h.len,⟨h.outer.1,h.outer.2.imp id fun⟨g,cap,G,D,N,F⟩=>⟨g,cap,G,D,Rr,F⟩⟩,fun k u r J I=>(h.each k u r J I).mono H⟩
theorem kU.mono(h:kU w B v xs)(D:B'<=B):kU w B' v xs:=by obtain⟨us,h⟩:=h;exact⟨us,h.mono D⟩
theorem kU.nil(w:aa)(B:Nat):kU w B (.slice none 0 0) []:=⟨[],rfl,qv _ _ _ _,fun k u r hu=>RN⟩
theorem kU.lit(W:aa)(B:Nat)(h:B<=W.heap.size):kU (W.alloc (.cells #[] 57)) B (.slice (some ⟨W.heap.size,0,none⟩) 0 0) []:=⟨[],rfl,wF W #[] 0 h Rs rfl,fun k u r hu=>RN⟩
theorem kU.one(W:aa)(B:Nat)(x:Sy)(u:ax)(F:B<=W.heap.size)(G:aU W B u x.rows):kU (W.alloc (.cells #[x.v,x.h,u] 57)) B (.slice (some ⟨W.heap.size,0,none⟩) 1 1) [x]:=by
 refine⟨[u],rfl,?_,fun k H I h D=>?_⟩
 .exact⟨rfl,an ⟨W.heap.size,1,#[.int .i64 x.v,.int .i64 x.h,u],rfl,F,aC _ _ rfl,af _,Rs,rfl,rfl⟩⟩
 .cases k with
  |zero=>simp at h D;subst h D;exact G.ext ((aj _ _).alloc (af _) _)
  |succ k=>simp at h
theorem mw.snoc{x:Sy}(h:mw w B v xs us)(J:aU w B u x.rows)(I:w'.ownsRow B 57 3 R (xs.length+1) (tl xs us++i_ x u))(G:w.grownBy w' v.ownBlock):mw w' B R (xs++[x]) (us++[u]):=by
 refine⟨RX,by rw[Ba _ _ h.len];simpa using I,?_⟩;intro k N O D F;by_cases hk:k<us.length
 .rw[df hk]at D;rw[df TQ]at F;exact aU.zgL (h.each k N O D F) Rs Rs h.outer G
 .have H:k=us.length:=by have:=(bG.1 D).1;simp at this;omega
  subst H;simp at D;rw[h.len]at F;simp at F;subst D F;exact aU.zgL J Rs Rs h.outer G
end
theorem BO{E:Prop}(T:o.guard=none)(s x:jk)(V:o.op=.call {callee:=.builtin .append,args:=#[s,x],argTypes:=#[106,106]})(B:Nat)(W:aa)(v u:ax)(xs:List Sy)(y:Sy)(Z:kU W B v xs)(J:aU W B u y.rows)(a2:xs.length+1<=1048576)(R:B<=W.heap.size)(ac:a.eval s=v)(ad:a.eval x=.slice (some ⟨W.heap.size,0,none⟩) 1 1)(O:∀g cap w',kU w' B (.slice (some ⟨g,0,none⟩) (xs.length+1) cap) (xs++[y])->W.grownBy w' v.ownBlock->Below B W w'->K (a.put o.dst (.slice (some ⟨g,0,none⟩) (xs.length+1) cap)) w'):if Region.wanted o (yielded ops a.tmps)=true then Oper.wp prog o a (W.alloc (.cells #[y.v,y.h,u] 57)) K Q else E:=by
 obtain⟨a0,hi,am,ao,ap⟩:=de zhD;obtain⟨us,D⟩:=Z;obtain⟨H,I,rfl,_⟩:=J.view;have Y:=km D.outer (.cells (cU y H I) 57);refine zc _ T s x 106 V B 57 a0 (.agg bj) 3 40 underlying106 hi am ao ap rfl Rs v _ _ ac Y ⟨W.heap.size,0,none⟩ 1 1 (i_ y (.slice H y.rows.length I)) ad rfl ?_ ?_ Rs ?_ ?_ ?_ _ rfl ?_
 .intro j a1 h
  match j,h with
  |0,h=>simp[i_]at h;subst h;simp[Addr.add]
  |1,h=>simp[i_]at h;subst h;simp[Addr.add]
  |2,h=>simp[i_]at h;subst h;simp[Addr.add]
  |j+3,h=>simp[i_]at h
 .intro a1 N;simp[i_]at N;rcases N with rfl|rfl|rfl <;>rfl
 .unfold maxLen;omega
 .omega
 .simp;omega
 .intro g cap w' ab Fy _ _;have F:W.grownBy w' v.ownBlock:=⟨Fy.os,Fy.tape,Fy.output,Vi,fun k G U=>(Fy.block k RS U).trans (sC W _ G)⟩;exact O g cap w' ⟨_,D.snoc J ab F⟩ F ((aj _ _).grown F R fun k G=>(bL D.outer k G).1)
theorem rX{E:Prop}(V:o.guard=none)(s x:jk)(Z:o.op=.call {callee:=.builtin .append,args:=#[s,x],argTypes:=#[37,37]})(B:Nat)(W:aa)(v u:ax)(xs:List ft)(us:bU)(y:ft)(D:cE W B v xs us)(N:aD W B u y.row)(U:∀b,u.ownBlock=some b->∀H∈us,H.ownBlock≠some b)(a2:xs.length+1<=1048576)(T:B<=W.heap.size)(ad:a.eval s=v)(am:a.eval x=.slice (some ⟨W.heap.size,0,none⟩) 1 1)(R:∀g cap w',cE w' B (.slice (some ⟨g,0,none⟩) (xs.length+1) cap) (xs++[y]) (us++[u])->W.grownBy w' v.ownBlock->Below B W w'->K (a.put o.dst (.slice (some ⟨g,0,none⟩) (xs.length+1) cap)) w'):if Region.wanted o (yielded ops a.tmps)=true then Oper.wp prog o a (W.alloc (.cells #[y.k,y.a,y.b,y.c,u] 97)) K Q else E:=by
 obtain⟨a1,hi,ao,ap,a0⟩:=de DG;obtain⟨I,J,rfl,_⟩:=N.view;have ab:=km D.outer (.cells (fO y.k y.a y.b y.c I y.row.length J) 97);refine zc _ V s x 37 Z B 97 a1 (.agg yU) 5 56 wP hi ao ap a0 rfl Rs v _ _ ad ab ⟨W.heap.size,0,none⟩ 1 1 (eZ y (.slice I y.row.length J)) am rfl ?_ ?_ Rs ?_ ?_ ?_ _ rfl ?_
 .intro j H h
  match j,h with
  |0,h=>simp[eZ]at h;subst h;simp[Addr.add]
  |1,h=>simp[eZ]at h;subst h;simp[Addr.add]
  |2,h=>simp[eZ]at h;subst h;simp[Addr.add]
  |3,h=>simp[eZ]at h;subst h;simp[Addr.add]
  |4,h=>simp[eZ]at h;subst h;simp[Addr.add]
  |j+5,h=>simp[eZ]at h
 .intro H O;simp[eZ]at O;rcases O with rfl|rfl|rfl|rfl|rfl <;>rfl
 .unfold maxLen;omega
 .omega
 .simp;omega
 .intro g cap w' ac Fy _ _;have F:W.grownBy w' v.ownBlock:=⟨Fy.os,Fy.tape,Fy.output,Vi,fun k G Y=>(Fy.block k RS Y).trans (sC W _ G)⟩;exact R g cap w' (D.snoc N U ac F) F ((aj _ _).grown F T fun k G=>(bL D.outer k G).1)
theorem CB:∀{xs ys:List ft} {us us2:bU},us.length=xs.length->gW (xs++ys) (us++us2)=gW xs us++gW ys us2
 |[],ys,us,us2,h=>WQ
 |x::xs,ys,[],_,h=>RM
 |x::xs,ys,u::us,us2,h=>by have:=CB (xs:=xs) (ys:=ys) (us:=us) (us2:=us2) R9;simp[gW,this]
theorem CC:∀{xs:List ft} {us:bU},(∀u∈us,∃A n c,u=.slice A n c)->∀z∈gW xs us,z.oneCell'=true
 |[],us,_,z,h=>by simp[gW]at h
 |x::xs,[],_,z,h=>by simp[gW]at h
 |x::xs,u::us,F,z,h=>by
  rw[gW]at h;rcases eh.1 h with D|D
  .obtain⟨A,n,c,rfl⟩:=F u (lh ..);simp[eZ]at D;rcases D with rfl|rfl|rfl|rfl|rfl <;>rfl
  .exact CC (fun u G=>F u (lg _ G)) z D
theorem cE.nm{xs ys:List ft}{us2:bU}(h:cE w B v xs us)(J:cE w H v2 ys us2)(ab:B<=H)(am:∀u∈us,∀b,u.ownBlock=some b->b<H)(ap:w'.ownsRow B 97 5 R (xs.length+ys.length) (gW xs us++gW ys us2))(Z:w.grownBy w' v.ownBlock):cE w' B R (xs++ys) (us++us2):=by
 refine⟨by simp[h.len,J.len],by rw[CB h.len];simpa using ap,?_,?_⟩
 .intro k u x G I;by_cases hk:k<us.length
  .rw[df hk]at G;rw[df TQ]at I;exact aD.kept (h.each k u x G I) Z (jj Rs (h.each k u x G I) h.outer)
  .rw[ef Rr]at G;rw[ef (by rw[<-h.len];omega),<-h.len]at I;exact(aD.kept (J.each _ u x G I) Z (jj Rs (J.each _ u x G I) h.outer)).mono ab
 .have Y:∀(u T:ax) (b:Nat),u∈us->T∈us2->u.ownBlock=some b->T.ownBlock=some b->False:=fun u T b G a0 ac ad=>by have D:=am u G b ac;obtain⟨k,hk⟩:=fk.1 a0;obtain⟨x,_,ao⟩:=J.kC hk;have:=(ao.lt b ad).1;omega
  intro i j u1 u2 b D F N O;by_cases U:i<us.length <;>by_cases V:j<us.length
  .rw[df U]at D;rw[df V]at F;exact h.apart i j u1 u2 b D F N O
  .rw[df U]at D;rw[ef Rr]at F;exact(Y u1 u2 b (aY D) (aY F) N O).elim
  .rw[ef Rr]at D;rw[df V]at F;exact(Y u2 u1 b (aY F) (aY D) O N).elim
  .rw[ef Rr]at D;rw[ef Rr]at F;have:=J.apart _ _ u1 u2 b D F N O;omega
end Go.Proofs.YtpieilkmmiopfaaGreatDoor
