/- Parts of the walks. Conditions: as stated with each. -/
import Derived.Test.YtpieilkmmiopfaaGreatDoorPk11
import Derived.Test.YtpieilkmmiopfaaGreatDoorPk12
namespace Go.Proofs.YtpieilkmmiopfaaGreatDoor
open Go.RowKit Tryz
set_option linter.all false
set_option maxHeartbeats 2000000
set_option maxRecDepth 100000
variable{A:ax}{B' J b c d hi k lo n s x y:Nat}{C l:bP}{M:aP}{T v v0 v1 v2 v3 v4 v5 z2:aG}{e:Ed}{f:Nat->Int}{g:Gr}{ps:ng}{t:dL}{us:cL}{w w':aa}{xs ys:aL}
section
variable{u:aG}
def zkS:(prog.info? 97).map (fun i=>(i.zero,i.size,i.bytes))=some (some (.agg #[(),(),(),(),dE]),5,56):=QT
def vT{w:aa}{B n'}{v}{D F}{xs U}(O:D≠F)(G:w.ownsRow B D s v n xs)(H:w.ownsRow B' F J T n' U):v.ownBlock=none∨v.ownBlock≠T.ownBlock:=by
 rcases G.2 with⟨rfl,_⟩|⟨g,ε,Z,rfl,_,I,_⟩
 .exact ay rfl
 .right;rcases H.2 with⟨rfl,_⟩|⟨ac,Y,ab,rfl,_,h,_⟩
  .simp[Value.ownBlock]
  .intro e;simp only[Value.ownBlock,dW]at e;subst e;rw[I]at h;simp at h;exact O h.2
def kJ(x:j8)(u:aG):List Value:=[.int .i64 x.k,.int .i64 x.a,.int .i64 x.b,.int .i64 x.c,u]
def pr:List j8->List Value->List Value
 |x::xs,u::us=>kJ x u++pr xs us
 |_,_=>[]
def zbb:∀{xs:List j8} {us:cL},us.length=xs->(pr xs us).length=xs*5
 |[],us,_=>by simp[pr]
 |x::xs,[],h=>QO
 |x::xs,u::us,h=>by have:=zbb (xs:=xs) (us:=us) Q_;simp[pr,kJ,this];omega
def wR{j}(F:j<5):∀{xs:List j8} {us:cL} {k:Nat} {x:j8} {u:aG},xs[k]?=some x->us[k]?=some u->(pr xs us)[k*5+j]?=(kJ x u)[j]?
 |[],us,k,x,u,h,_=>QO
 |x::xs,[],k,_,_,_,h=>QO
 |x::xs,u::us,0,y,t,h,D=>by simp at h D;subst h D;rw[pr,dU (by simp[kJ];omega)];simp
 |x::xs,u::us,k+1,y,t,h,D=>by
  simp only[dm]at h D;have:=wR F h D;rw[pr,fi (by simp[kJ];omega)];rw[<-this];congr 1
  simp[kJ];omega
def zfz:∀{xs:List j8} {us:cL} (x:j8) (u:aG),us.length=xs->pr (xs++[x]) (us++[u])=pr xs us++kJ x u
 |[],us,x,u,h=>by have:us=[]:=iq Q_;subst this;simp[pr]
 |x::xs,[],_,_,h=>QO
 |x::xs,u::us,y,t,h=>by have:=zfz (xs:=xs) (us:=us) y t Q_;simp[pr,this]
def zbc:∀{xs:List j8} {us:cL} {k:Nat} (x:j8) (u:aG),us.length=xs->k<xs.length->(((((pr xs us).set (k*5) (zI x.k)).set (k*5+1) (zI x.a)).set (k*5+2) (zI x.b)).set (k*5+3) (zI x.c)).set (k*5+4) u=pr (xs.set k x) (us.set k u)
 |[],us,k,x,u,_,hk=>by simp at hk
 |x::xs,[],_,_,_,h,_=>QO
 |y::xs,t::us,0,x,u,h,hk=>by simp[pr,kJ]
 |y::xs,t::us,k+1,x,u,h,hk=>by
  have:=zbc (xs:=xs) (us:=us) (k:=k) x u Q_ Rj;simp only[pr,kJ,wZ,rP,xh];rw[<-this];have e:∀j,(k+1)*5+j=(k*5+j)+5:=fun j=>Qu
  have D:(k+1)*5=k*5+5:=Qu;simp only[e,D,xh]
structure ff(w:aa)(B:Nat)(v:aG)(xs:List j8)(us:cL):Prop where
 ι:us.length=xs
 η:w.ownsRow B 97 5 v xs.length (pr xs us)
 ν:∀(k:Nat) (u:aG) (x:j8),us[k]?=some u->xs[k]?=some x->aE w B u x.row
 apart:∀(i j:Nat) (u u':aG) (b:Nat),us[i]?=some u->us[j]?=some u'->u.ownBlock=some b->u'.ownBlock=some b->i=j
def tg(w:aa)(B:Nat)(v:aG)(xs:List j8):Prop:=∃us,ff w B v xs us
section
variable{w w':aa}{B:Nat}{v:aG}{xs:List j8}{us:cL}
def ff.F(h:ff w B v xs us){x}(hx:xs[k]?=some x):∃u,us[k]?=some u/\aE w B u x.row:=Ye
def ff.nT(h:ff w B v xs us)(D:us[k]?=some u):∃x,xs[k]?=some x/\aE w B u x.row:=by
 have:k<xs.length:=by rw[<-h.ι];exact(bG.1 D).1
 have⟨x,F⟩:=aq this;exact⟨x,F,h.ν k u x D F⟩
def tg.p(h:tg w B v xs):∃A ε,v=.slice A xs ε/\iS w A xs/\xs.length<=ε/\ε<=maxLen:=by
 obtain⟨us,h⟩:=h;have I:=fun g=>oz h.η (g:=g)
 rcases h.η.2 with⟨rfl,hn⟩|⟨g,ε,U,rfl,Y,Z,hn,hm,ab⟩
 .exact WH
 .refine MG fun k x hk=>?_
  obtain⟨u,O,J⟩:=h.F hk;obtain⟨F,G,rfl,hi,_⟩:=J.p;have D:∀(j:Nat) (y:aG),j<5->(kJ x (.slice F x.row G))[j]?=some y->af w g (0+k*5+j) y:=fun j y H T=>by have:=I g rfl (k*5+j) y (by rw[wR H hk O];exact T);rwa[dF,<-ow]at this
  exact⟨F,G,⟨D 0 _ Qw rfl,D 1 _ Qw rfl,D 2 _ Qw rfl,D 3 _ Qw rfl,D 4 _ Qw rfl⟩,hi⟩
def ff.ext(D:ff w B v xs us)(h:ag w w'):ff w' B v xs us:=⟨D.ι,jA D.η (row:=none) ⟨h.os,h.tape,h.output,h.size,fun k F _=>h.block k F⟩ TC,fun k u r H G=>(D.ν k u r H G).ext h,D.apart⟩
def ff.lt(h:ff w B v xs us):∀k,v.ownBlock=some k->B<=k/\k < (w:Nat):=bS h.η
def ff.put{g ε}{x}(ad:n=xs.length)(h:ff w B (.slice (bH g) n ε) xs us)(hk:k<n)(O:aE w B u x.row)(I:∀b,u.ownBlock=some b->∀G∈us,G.ownBlock≠some b):ff (((((w.setCell ⟨g,k*5,none⟩ (zI x.k)).setCell ⟨g,k*5+1,none⟩ (zI x.a)).setCell ⟨g,k*5+2,none⟩ (zI x.b)).setCell ⟨g,k*5+3,none⟩ (zI x.c)).setCell ⟨g,k*5+4,none⟩ u) B (.slice (bH g) n ε) (xs.set k x) (us.set k u)/\w.grownBy (((((w.setCell ⟨g,k*5,none⟩ (zI x.k)).setCell ⟨g,k*5+1,none⟩ (zI x.a)).setCell ⟨g,k*5+2,none⟩ (zI x.b)).setCell ⟨g,k*5+3,none⟩ (zI x.c)).setCell ⟨g,k*5+4,none⟩ u) (some g):=by
 subst ad;have T:=h.η.j (k*5) (zI x.k);have U:=T.1.j (k*5+1) (zI x.a);have Y:=U.1.j (k*5+2) (zI x.b);have Z:=Y.1.j (k*5+3) (zI x.c);have ab:=Z.1.j (k*5+4) u;have H:=cx (cx (cx (cx T.2 U.2) Y.2) Z.2) ab.2;refine⟨⟨by simp[h.ι],?_,?_,?_⟩,H⟩
 .have:=ab.1;rw[zbc x u h.ι hk]at this;simpa using this
 .intro j G ac D F;by_cases J:k=j
  .subst J;rw[gl Sq]at D;rw[gl hk]at F;cases D;cases F
   exact aE.kept O H (vT Qw O h.η)
  .rw[gI J]at D F;exact aE.kept (h.ν j G ac D F) H (vT Qw (h.ν j G ac D F) h.η)
 .intro i j u1 u2 b h1 h2 h3 h4;by_cases ci:k=i<;>by_cases cj:k=j
  .omega
  .subst ci;rw[gl Sq]at h1;rw[gI cj]at h2;cases h1
   exact absurd h4 (I b h3 u2 (aU h2))
  .subst cj;rw[gl Sq]at h2;rw[gI ci]at h1;cases h2
   exact absurd h3 (I b h4 u1 (aU h1))
  .exact Xb
def ff.fresh{r}(D:ff w B v xs us)(I:aE w' w u r):∀b,u.ownBlock=some b->∀h∈us,h.ownBlock≠some b:=fun b F h J e=>by obtain⟨k,G⟩:=eH.1 J;obtain⟨x,_,H⟩:=D.nT G;have O:=(H.lt b e).2;have T:=(I.lt b F).1;omega
end
def zd6:j8:=⟨0,0,0,0,[]⟩
def zfA n:(madeCells (Value.agg #[.int .i64 0,.int .i64 0,.int .i64 0,.int .i64 0,.slice none 0 0]).cells (n*5)).toList=pr (List.replicate n zd6) (List.replicate n (.slice none 0 0)):=by
 apply gk;intro i;by_cases hi:i<n*5
 .have D:i / 5<n:=Qu;have:=wR (j:=i%5) Qu (xs:=List.replicate n zd6) (us:=List.replicate n (.slice none 0 0)) (k:=i / 5) (x:=zd6) (u:=dE) (by simp[D]) (by simp[D]);rw[show i / 5*5+i%5=i by omega]at this;rw[this];have F:i%5=0∨i%5=1∨i%5=2∨i%5=3∨i%5=4:=Qu;rcases F with h|h|h|h|h<;>simp[madeCells,Value.cells,hi,h,kJ,zd6]
 .rw[eP (by simp[madeCells];omega),eP (by rw[zbb Qt];simp;omega)]
def ff.made{w}{B}{v}(h:w.ownsRow B 97 5 v n (madeCells (Value.agg #[.int .i64 0,.int .i64 0,.int .i64 0,.int .i64 0,.slice none 0 0]).cells (n*5)).toList):ff w B v (List.replicate n zd6) (List.replicate n (.slice none 0 0)):=by
 rw[zfA]at h;refine⟨Qt,Q_,?_,?_⟩
 .exact YG
 .exact Yq
end
section
variable{B:Nat}
def ff.cells{g ε}{xs}(O:n=xs.length)(F:ff w B (.slice (bH g) n ε) xs us)(J:k<n):∃x u,xs[k]?=some x/\us[k]?=some u/\aE w B u x.row/\(af w g (k*5) (zI x.k)/\af w g (k*5+1) (zI x.a)/\af w g (k*5+2) (zI x.b)/\af w g (k*5+3) (zI x.c)/\af w g (k*5+4) u)/\(w.frozen? ⟨g,k*5,none⟩=false/\w.frozen? ⟨g,k*5+1,none⟩=false/\w.frozen? ⟨g,k*5+2,none⟩=false/\w.frozen? ⟨g,k*5+3,none⟩=false/\w.frozen? ⟨g,k*5+4,none⟩=false):=by
 subst O;have⟨x,G⟩:=aq J;obtain⟨u,H,T⟩:=F.F G;have D:∀j,j<5->w.cell? ⟨g,k*5+j,none⟩=(kJ x u)[j]?:=fun j I=>by rw[F.η.C _ Qu,wR I G H]
 have h:=F.η.g;exact⟨x,u,G,H,T,⟨D 0 Qw,D 1 Qw,D 2 Qw,D 3 Qw,D 4 Qw⟩,⟨h _,h _,h _,h _,h _⟩⟩
def zdq A ε xs w(ac:iS w A xs)(bb:xs.length<=1048576)(ao:∀r∈xs,r.row.length<=1048576):az 27 (aV A xs ε) w fun e w'=>∃u,e=.returned u/\tg w' w u xs/\ag w w':=by
 have⟨be,hi,bc,bd,FU⟩:=dp zkS;go_enter func27,ntmps27
 go_wp2_with ((at_make;refine jg _ rfl _ _ 37 rfl w.heap.size 97 be (.agg #[(),(),(),(),dE]) 5 underlying37 hi bc bd .i64 .i64 xs.length xs.length xs.length rfl rfl rfl rfl RF SL (ae _) ?_;intro br D am))
 have ad:=cy am;have Z:=zH (ff.made D);go_loopw [4] (fun i wr=>∃k:Nat,k<=xs.length/\i=.int .i64 k/\(∃us,ff wr w (.slice (bH w) xs xs) (eF xs zd6 k) us)/\ag w wr)
  (fun i _=>xs.length-(intOf i).toNat)
 case atStart=>exact⟨0,aW _,rfl,⟨_,by rw[iP];exact Z⟩,ad⟩
 case round=>
  obtain⟨k,bp,rfl,⟨us,D⟩,h⟩:=hrel;have I:=zH D;by_cases F:k<xs.length
  .have⟨r,G⟩:=aq F;obtain⟨bi,o,rfl,ah⟩:=(ac.ext h).θ F;obtain⟨bg,bn,⟨a7,c1,c2,a8,a9⟩,an⟩:=ah k r G;have⟨a3,a5,Y⟩:=er (show r.row.length<=1048576 by have:=ao r (aU G);omega) (jq xs zd6 r k G) (by simp[eF];omega:xs.length=(eF xs zd6 k));have ap:=h.size;have bq:xs.length<9223372036854775807:=Qu;have⟨a2,av⟩:=bJ an h;go_wp2_with ((go_at_call 52;refine(zeq _ _ _ _ _ _ _ _ a2 a3).x ?_;rintro e bu ⟨u2,rfl,H,J⟩;have T:=zH J;have U:=zH (I.ext J);have a0:=zH (I.fresh H);have a6:=zH H;obtain⟨bz,bv,_,_,_,⟨d0,d1,d2,d3,d4⟩,⟨f0,f1,f2,f3,f4⟩⟩:=U.cells Y F;obtain⟨bh,bo,rfl,_⟩:=H.p))
   have O:=U.put (x:=r) Y F (a6.x ap) a0;have⟨a4,a1⟩:=bJ O.1 O.2;go_roundw
   case rel=>exact⟨k+1,Qu,Qx,⟨_,by rw[<-a5.o];exact a4⟩,(av.t (T.o.x ap)).t (rY (al w _) a1 (by have:=T.o.size;omega) (fun b ba=>by cases ba;exact ae _))⟩
   case measure=>simp[intOf];omega
  .go_wp2;go_ret
   have ab:=I.o;rw[jo _ _ _ Qu]at ab;exact⟨_,rfl,⟨_,ab⟩,h⟩
def zbz A H ε av xs w(T:iS w A xs)(U:iS w H xs)(a8:xs.length<=1048576)(ad:∀r∈xs,r.row.length<=1048576):az 32 (mv A xs ε H xs av) w (dt w true):=by
 go_enter func32,ntmps32
 go_wp2;go_loopw [5] (fun i wr=>∃k:Nat,k<=xs.length/\i=.int .i64 k/\ag w wr) (fun i _=>xs.length-(intOf i).toNat)
 case atStart=>exact⟨0,aW _,rfl,al _ _⟩
 case round=>
  obtain⟨k,a7,rfl,FW⟩:=hrel;by_cases G:k<xs.length
  .have⟨x,F⟩:=aq G;obtain⟨b,o,rfl,Y⟩:=(T.ext FW).θ G;obtain⟨h,D,rfl,Z⟩:=(U.ext FW).θ G;obtain⟨ah,a0,⟨I,c1,c2,J,O⟩,ab⟩:=Y k x F;obtain⟨am,a1,⟨d0,d1,d2,d3,d4⟩,ac⟩:=Z k x F;have a2:∀W:κ wr,af W.W b (o+k*5) (zI x.k):=fun W=>W.cell I
   have a3:∀W:κ wr,af W.W b (o+k*5+1) (zI x.a):=fun W=>W.cell c1
   have a4:∀W:κ wr,af W.W b (o+k*5+2) (zI x.b):=fun W=>W.cell c2
   have a5:∀W:κ wr,af W.W b (o+k*5+3) (zI x.c):=fun W=>W.cell J
   have a6:∀W:κ wr,af W.W b (o+k*5+4) (.slice ah x.row a0):=fun W=>W.cell O
   have f0:∀W:κ wr,af W.W h (D+k*5) (zI x.k):=fun W=>W.cell d0
   have f1:∀W:κ wr,af W.W h (D+k*5+1) (zI x.a):=fun W=>W.cell d1
   have f2:∀W:κ wr,af W.W h (D+k*5+2) (zI x.b):=fun W=>W.cell d2
   have f3:∀W:κ wr,af W.W h (D+k*5+3) (zI x.c):=fun W=>W.cell d3
   have f4:∀W:κ wr,af W.W h (D+k*5+4) (.slice am x.row a1):=fun W=>W.cell d4
   have⟨an,ao,ap⟩:=er (fun W:κ wr=>ab.ext W.ok) (fun W:κ wr=>ac.ext W.ok) (show x.row.length<=maxLen by have:=ad x (aU F);unfold maxLen;omega);go_wp2;refine bU QT QT ?_
   repeat (go_big_quiet_step ((go_at_call 57;exact Calls.fh (zd_ _ _ _ _ _ _ _ _ _ _ (an.o _) (ao.o _) ap))))
   exact YI
  .go_wp2;go_ret
   exact⟨rfl,FW⟩
end
section
variable{B:Nat}
structure DI(w:aa)(lo hi:Nat)(v:aG)(xs:List j8)(us:cL):Prop where
 μ:ff w lo v xs us
 up:∀b,v.ownBlock=some b->b<hi
 Í:∀u∈us,∀b,u.ownBlock=some b->b<hi
def xq(w:aa)(lo hi:Nat)(v:aG)(xs:List j8):Prop:=∃us,DI w lo hi v xs us
section
variable{w w':aa}{lo hi lo' hi':Nat}{v:aG}{xs:List j8}{us:cL}
def xq.of(h:tg w B v xs):xq w B w v xs:=by obtain⟨us,h⟩:=h;refine⟨us,h,fun b hb=>(h.lt b hb).2,fun u hu b hb=>?_⟩;exact Xl
def DI.ext(h:DI w lo hi v xs us)(D:ag w w'):DI w' lo hi v xs us:=⟨h.μ.ext D,h.up,h.Í⟩
def xq.ext(h:xq w lo hi v xs)(D:ag w w'):xq w' lo hi v xs:=by obtain⟨us,h⟩:=h;exact⟨us,h.ext D⟩
def DI.u(h:DI w lo hi v xs us)(hw:b_ lo' hi' w w')(hd:hi<=lo'∨hi'<=lo):DI w' lo hi v xs us:=by refine⟨⟨h.μ.ι,⟨h.μ.η.1,h.μ.η.2.E id fun⟨g,ε,H,a1,F,D,G⟩=>⟨g,ε,H,a1,F,(hw.block g (bk.1 D).1 UL).t D,G⟩⟩,fun k u r hu hr=>?_,h.μ.apart⟩,h.up,h.Í⟩;exact WI
def xq.u(h:xq w lo hi v xs)(F:b_ lo' hi' w w')(D:hi<=lo'∨hi'<=lo):xq w' lo hi v xs:=by obtain⟨us,h⟩:=h;exact⟨us,h.u F D⟩
def xq.μ(h:xq w lo hi v xs):tg w lo v xs:=by obtain⟨us,h⟩:=h;exact⟨us,h.μ⟩
def ziP(h:tg w B (.slice A n c) xs):iS w A xs:=XM
end
def wh.le2{l r}{xs}(h:wh l r xs)(D:l<=1048576):r<=1048576:=by rcases h with h|h<;>omega
end
section
variable{N:Nat}{p:Int}
def zdo{f}:∀(l:bP) (r:aL),l.length=r->qP (l.zip r) f=bW (fun j=>r.getD j 0*f (l.getD j 0)) r
 |[],[],_=>rfl
 |[],_::_,h=>QO
 |_::_,[],h=>QO
 |x::l,y::r,h=>by
  rw[List.zip_cons_cons,zh0,zdo l r Q_,jT,show r.length+1=1+r by omega,x_];congr 1
  .simp[bW]
  .refine bF fun j _=>?_
   rw[uI 1 j];rfl
def zi_(D:bV p=true)(s:eV p N n M)z:DK p (ql p M n) n (ql p M n) z↔ij p N n M z:=by
 rw[od D s];constructor
 .intro h x G;have F:=(DL D s x).2 G;have:=yR h F;rwa[bF (fun d _=>gU (z d) (x d))]at this
 .intro h i hi;exact h (fun d=>eM (ql p M n) i d) ((DL D s _).1 (yS hi))
def zja{i o:bP}:i.map f=(List.range i).map (fun j=>f ((i++o).getD j 0))/\o.map f=((List.range o).map (· +i.length)).map (fun j=>f ((i++o).getD j 0)):=by
 constructor
 .refine gk fun j=>?_
  rw[bI,bI];by_cases h:j<i.length
  .rw[iy h,di h,ox,ox,bf,dU h,di h];rfl
  .rw[eP Qu,eP (by rw[fK];omega)];rfl
 .refine gk fun j=>?_
  rw[bI,bI,bI];by_cases h:j<o.length
  .rw[iy h,di h,ox,ox,ox,bf,fi Qu,Nat.add_sub_cancel,di h];rfl
  .rw[eP Qu,eP (by rw[fK];omega)];rfl
def Ed.yk(p:Int)(e:Ed):List (List Int):=ql p (rm p ⟨e.k,e.v,true⟩).b (e.i.length+e.o)
def Ed.zdp(h:bV p=true)(I:e.jd=true)(T:s_ p ⟨e.k,e.v,true⟩):eV p (e.yk p) (e.i.length+e.o) (e.yk p):=by have⟨_,_,J,O⟩:=tf I;have⟨D,F,G,_⟩:=CN h T;have s:=G.Η;unfold Rl.eV at s;rw[D,F,<-J,<-O]at s;have⟨r,l,_,H,_,_⟩:=xV h (cv h).1 s;exact sI H
def Ed.zkB(I:bV p=true)(T:e.jd=true)(U:s_ p ⟨e.k,e.v,true⟩):e.Ok p f↔∀r∈e.yk p,p∣qP ((e.i++e.o).zip r) f:=by
 have⟨ap,av,G,H⟩:=tf T;have⟨J,O,ab,ac⟩:=CN I U;have s:=ab.Η;unfold Rl.eV at s;have Z:=s;rw[J,O,<-G,<-H]at Z;have ah:(∀r∈e.yk p,p∣qP ((e.i++e.o).zip r) f)↔DK p (e.yk p) (e.i.length+e.o) (e.yk p) (fun j=>f ((e.i++e.o).getD j 0)):=by
  have ao:=Ed.zdp I T U;have D:∀r∈e.yk p,qP ((e.i++e.o).zip r) f=bW (fun j=>r.getD j 0*f ((e.i++e.o).getD j 0)) (e.i.length+e.o):=fun r D=>by have Y:=ao.row r D;rw[zdo _ _ (by rw[bm,Y]),Y]
  constructor
  .intro F i hi;have h:=mZ (rows:=e.yk p) hi;have:=F _ h;rw[D _ h]at this;exact this
  .intro F r h;obtain⟨i,hi,rfl⟩:=De h;rw[D _ h];have:=F i hi;unfold eM at this;rwa[bf (l:=e.yk p),di hi]at this
 rw[ah];unfold Ed.yk;rw[zi_ I Z];have ad:ij p (rm p ⟨e.k,e.v,true⟩).b (e.i.length+e.o) (rm p ⟨e.k,e.v,true⟩).b (fun j=>f ((e.i++e.o).getD j 0))↔(fv ⟨e.k,e.v,true⟩).M p (fun j=>f ((e.i++e.o).getD j 0)):=by rw[<-ac];unfold Rl.Sp;rw[J,O,<-G,<-H]
 rw[ad];unfold fv;dsimp only;rw[aj Qu,aj Qu,EE,<-G,<-H];have⟨am,an⟩:=zja (i:=e.i) (o:=e.o) (f:=f);unfold Ed.Ok;dsimp only;rw[<-am,<-an]
def Gr.zjb(F:bV p=true)(h:∀e∈g.es,e.jd=true/\s_ p ⟨e.k,e.v,true⟩):g.Fh p f↔∀e∈g.es,∀r∈e.yk p,p∣qP ((e.i++e.o).zip r) f:=lg fun e=>lg fun D=>Ed.zkB F (h e D).1 (h e D).2
end
def Bz(p:Int)(r W:aL)(n:Nat):Int:=bW (fun d=>r.getD d 0*W.getD d 0) n%p
def zdJ(p:Int)(g:Gr)(W:aL):Bool:=g.es.all fun e=>(e.yk p).all fun r=>decide (Bz p (iE p g.w ((e.i++e.o).zip r)) W g.w=0)
def lN(p:Int)(g:Gr)(W:aL):Bool:=(g.rows p).all fun r=>decide (Bz p r W g.w=0)
def EG{p}{L}{W}(D:2<=p)(h:∀q∈L,q.1<n):Bz p (iE p n L) W n=0↔p∣qP L (fun d=>W.getD d 0):=by unfold Bz;rw[<-jW (zd4 D h (fun d=>W.getD d 0))];exact⟨Int.dvd_of_emod_eq_zero,zcl⟩
def Gr.pf(p:Int)(g:Gr):Prop:=∀e∈g.es,e.jd=true/\s_ p ⟨e.k,e.v,true⟩
def zjt{p}{g}{W}(F:bV p=true)(G:g.In)(H:g.pf p):zdJ p g W=true↔g.Fh p (fun d=>W.getD d 0):=by
 have I:=(cv F).1;rw[Gr.zjb F H];unfold zdJ;simp only[eD,cf];refine lg fun e=>lg fun D=>lg fun r=>lg fun T=>EG I fun q O=>?_
 have J:=(pS O).1;rcases dP.1 J with h|h
 .exact G _ (au (au ⟨e,D,ay h⟩))
 .exact G _ (au (au ⟨e,D,au h⟩))
def zju{p}{g}{W}(I:bV p=true)(H:g.In)(F:∀e∈g.es,e.jd=true):lN p g W=true↔g.Fh p (fun d=>W.getD d 0):=by
 have G:=(cv I).1;rw[Gr.zfU F];unfold lN Gr.rows;simp only[eD,cf,cH];constructor
 .intro D L h;exact(EG G (Gr.yh F H L h)).1 (D _ ⟨L,h,rfl⟩)
 .rintro D r ⟨L,h,rfl⟩;exact(EG G (Gr.yh F H L h)).2 (D L h)
structure zmG(p:Int)(g:Gr)(R:Rl)(X Y W:aL):Prop where
 lw:W.length=g.w
 el:∀x∈W,0<=x/\x<p
 val:g.Fh p (fun d=>W.getD d 0)
 fx:eC g.i W=X
 fy:eC g.o W=Y
 no:¬R.Sp p (fun d=>(X++Y).getD d 0)
def EH(p:Int)(g:Gr)(A B:Rl)(X Y W:aL):Bool:=
 jX p X A.l&&(jX p Y A.r&&(jX p W g.w&&(BN p A.b (X++Y)&&(!BN p B.b (X++Y)&&(zdJ p g W&&decide (eC (g.i++g.o) W=X++Y))))))
def zbH(p:Int)(g:Gr)(B:Rl)(X Y W:aL):Bool:=
 decide (X.length=g.i)&&(decide (Y.length=g.o)&&(jX p W g.w&&(lN p g W&&(decide (eC g.i W=X)&&(decide (eC g.o W=Y)&&!zb2 p B.b (X++Y))))))
def BA{a b}{W}:eC (a++b) W=eC a W++eC b W:=by unfold eC;rw[kA]
def wJ{p}{W}(G:∀x∈l,x<n)(I:W.length=n)(F:∀x∈W,0<=x/\x<p):∀y∈eC l W,0<=y/\y<p:=by intro y h;unfold eC at h;obtain⟨x,H,rfl⟩:=cH.1 h;have:=G x H;have⟨z,D⟩:=aq (Qu:x<W.length);rw[bf,D];exact F z (aU D)
def zF{p}{v:aL}(F:∀x∈v,0<=x/\x<p)(D:d<v.length):0<=v.getD d 0/\v.getD d 0<p:=by have⟨z,h⟩:=aq D;rw[bf,h];exact F z (aU h)
section
variable{p:Int}{g:Gr}{A B:Rl}{X Y W:aL}
def zjv(T:bV p=true)(J:g.In)(ac:∀e∈g.es,e.jd=true)(Z:B.Ok p)(ao:B.l=g.i.length)(ap:B.r=g.o.length):zbH p g B X Y W=true↔zmG p g B X Y W:=by
 have ad:=(cv T).1;have hi:∀x∈g.i,x<g.w:=fun x h=>J x (ay h)
 have am:∀x∈g.o,x<g.w:=fun x h=>J x (au (ay h))
 have U:W.length=g.w->(∀x∈W,0<=x/\x<p)->eC g.i W=X->eC g.o W=Y->(zb2 p B.b (X++Y)=true↔B.Sp p (fun d=>(X++Y).getD d 0)):=fun D H F G=>by
  have e1:(X++Y).length=B.l+B.r:=by rw[<-F,<-G,bm,ao,ap];simp[eC]
  have ab:∀x∈X++Y,0<=x/\x<p:=fun x h=>by
   rcases dP.1 h with h|h
   .rw[<-F]at h;exact wJ hi D H x h
   .rw[<-G]at h;exact wJ am D H x h
  exact zjY ad Z.Η Z.red e1 fun d hd=>zF ab RO
 unfold zbH;simp only[bN,cf,il,zju T J ac,uE];constructor
 .rintro⟨_,_,⟨D,H⟩,O,F,G,I⟩;have D:W.length=g.w:=Qu;exact⟨D,H,O,F,G,fun an=>by rw[(U D H F G).2 an]at I;cases I⟩
 .rintro⟨D,H,O,F,G,I⟩;refine⟨by rw[<-F];simp[eC],by rw[<-G];simp[eC],⟨by rw[D],H⟩,O,F,G,?_⟩;cases ah:zb2 p B.b (X++Y)with
  |false=>rfl
  |true=>exact absurd ((U D H F G).1 ah) I
def zjw(ah:bV p=true)(ab:g.In)(ap:g.pf p)(am:A.Ok p)(a5:A.l=g.i.length)(a6:A.r=g.o.length)(av:∀z,A.Sp p z↔g.M p z)(O:B.Ok p)(a8:B.l=g.i.length)(a9:B.r=g.o.length):EH p g A B X Y W=true↔zmG p g B X Y W:=by
 have Z:=(cv ah).1;have hi:∀x∈g.i,x<g.w:=fun x h=>ab x (ay h)
 have a3:∀x∈g.o,x<g.w:=fun x h=>ab x (au (ay h))
 unfold EH;simp only[bN,cf,il,zjt ah ab ap,uE];constructor
 .rintro⟨⟨an,T⟩,⟨ao,U⟩,⟨D,H⟩,a7,ac,J,ad⟩;have D:W.length=g.w:=Qu;rw[BA]at ad;have⟨F,G⟩:=List.append_inj ad (by simp[eC];omega);refine⟨D,H,J,F,G,fun a4=>?_⟩;have e1:(X++Y).length=B.l+B.r:=Ra;have I:∀x∈X++Y,0<=x/\x<p:=fun x h=>(dP.1 h).elim (T x) (U x)
  rw[(Ff Z O.Η O.red e1 fun d hd=>zF I RO).2 a4]at ac;cases ac
 .rintro⟨D,H,J,F,G,a2⟩;have T:∀x∈X,0<=x/\x<p:=fun x h=>by rw[<-F]at h;exact wJ hi D H x h
  have U:∀x∈Y,0<=x/\x<p:=fun x h=>by rw[<-G]at h;exact wJ a3 D H x h
  have an:X.length=g.i:=by rw[<-F];simp[eC]
  have ao:Y.length=g.o:=by rw[<-G];simp[eC]
  have I:∀x∈X++Y,0<=x/\x<p:=fun x h=>(dP.1 h).elim (T x) (U x)
  have a0:g.M p (fun d=>(X++Y).getD d 0):=by refine⟨fun d=>W.getD d 0,J,Bh.2 fun d hd=>?_⟩;rw[<-F,<-G,<-BA,CH RP];exact⟨0,Qt⟩
  refine⟨⟨by rw[an,a5],T⟩,⟨by rw[ao,a6],U⟩,⟨by rw[D],H⟩,?_,?_,J,by rw[BA,F,G]⟩
  .have e1:(X++Y).length=A.l+A.r:=Ra;exact(Ff Z am.Η am.red e1 fun d hd=>zF I RO).2 ((av _).2 a0)
  .have e1:(X++Y).length=B.l+B.r:=Ra;cases a1:BN p B.b (X++Y)with
   |false=>rfl
   |true=>exact absurd ((Ff Z O.Η O.red e1 fun d hd=>zF I RO).1 a1) a2
end
def zdK{p}(h:bV p=true){a b:Tm}{c}{X Y W}(T:a.ty=some c)(U:b.ty=some c)(ao:a.pf p)(ab:b.pf p)(O:a.gr.pf p)(an:b.gr.pf p):EH p a.gr (a.rel p) (b.rel p) X Y W=zbH p a.gr (b.gr.qw p) X Y W:=by
 have⟨ac,ad,ah,am⟩:=Tm.tN h T ao;have⟨H,I,J,ap⟩:=Tm.tN h U ab;have⟨Z,F,G⟩:=Tm.qF T;have e:=Tm.zhf h U ab fun e D=>(an e D).1
 rw[<-e,jQ,zjw h Z O ah (ac.t F.q) (ad.t G.q) am J (H.t F.q) (I.t G.q),zjv h Z (fun e D=>(O e D).1) J (H.t F.q) (I.t G.q)]
def zan{n}(h:dI n=true):dI ⟨n.k,n.v,true⟩=true:=by unfold dI at h ⊢;rw[bN]at h;rw[bN];exact⟨rfl,h.2⟩
def sH{n}(h:dI n=true):(fv n).B=true:=by
 have T:=tK h;have H:=zdI n;have⟨U,Y⟩:=zaT n h;rw[Gr.iT];have J:(∀x∈(fv n).i,x < (fv n).w)/\(∀x∈(fv n).o,x < (fv n).w)/\∀e∈(fv n).es,(∀x∈e.i,x < (fv n).w)/\∀x∈e.o,x < (fv n).w:=
  ⟨fun x D=>H x (ay D),fun x D=>H x (au (ay D)),fun e F=>⟨fun x D=>H x (au (au ⟨e,F,ay D⟩)),fun x D=>H x (au (au ⟨e,F,au D⟩))⟩⟩
 have I:(fv n).w<=100/\(fv n).es.length<=60/\(∀e∈(fv n).es,e.jd=true)/\∀x,x < (fv n).w->(fv n).O x=true:=by
  by_cases G:n.k=1
  .have:fv n=⟨n.v.toNat,[],List.range n.v.toNat,List.range n.v.toNat⟩:=by unfold fv;rw[ak G]
   rw[this];have:n.v.toNat<=12:=by unfold dI at h;rw[bN]at h;have h:=h.2;rw[ak G]at h;simp only[bN,cf]at h;omega
   exact⟨RY,Qt,fun e F=>by simp at F,fun x D=>Gr.lO.2 (ay (fj.2 D))⟩
  by_cases O:n.k=2
  .have:fv n=⟨2,[],[0,1],[1,0]⟩:=by unfold fv;rw[aj G,ak O]
   rw[this];refine⟨RY,Qt,fun e F=>by simp at F,fun x D=>Gr.lO.2 (ay ?_)⟩;have:x=0∨x=1:=by dsimp only at D;omega
   rcases this with rfl|rfl<;>simp
  .have:fv n=⟨pC n+sC n,[⟨n.k,n.v,List.range (pC n),(List.range (sC n)).map (· +pC n)⟩],List.range (pC n),(List.range (sC n)).map (· +pC n)⟩:=by unfold fv;rw[aj G,aj O]
   rw[this];refine⟨RY,Qt,fun e F=>?_,fun x D=>Gr.lO.2 ?_⟩
   .have F:e=_:=kD.1 F;subst F;have ac:3<=n.k:=by
     unfold dI at h;rw[bN]at h;have h:=h.2;rw[aj G]at h;by_cases ad:n.k=7∨n.k=13
     .omega
     .rw[aj ad]at h;simp only[bN,cf]at h;omega
    have Z:pC ⟨n.k,n.v,true⟩=pC n:=rfl;have ab:sC ⟨n.k,n.v,true⟩=sC n:=rfl;unfold Ed.jd;dsimp only;rw[zan h,Z,ab];simp[ac]
   .dsimp only at D;by_cases ah:x<pC n
    .exact ay (fj.2 ah)
    .exact au (ay (cH.2 ⟨x-pC n,fj.2 Qu,Qu⟩))
 exact⟨I.1,I.2.1,by rw[U];exact T.1,by rw[Y];exact T.2,I.2.2.1,I.2.2.2,J.1,J.2.1,J.2.2⟩
def Tm.qR k a b:(Tm.op k a b).d=a.d++b.d++[⟨k,0,true⟩]:=rfl
def Tm.zao k a b:(Tm.op k a b).gr=if k=15 then pK a.gr b.gr else ls a.gr b.gr:=rfl
def Tm.I:Tm->List Nd
 |.lf n=>[n]
 |.op _ a b=>a.I++b.I
def Gr.kv(g:Gr):List (Int×Int):=g.es.map fun e=>(e.k,e.v)
def zap a b:(fG a b).map (fun e=>(e.k,e.v))=a.kv++b.kv:=by unfold fG Gr.kv;rw[kA,nr];rfl
def zlq a b:(pK a b).kv=a.kv++b.kv:=by rw[<-zap];unfold pK js Gr.kv Gr.map;dsimp only;rw[nr];rfl
def zlr a b:(ls a b).kv=a.kv++b.kv:=by rw[<-zap];rfl
def zki n:(fv n).kv=if n.k=1∨n.k=2 then[] else[(n.k,n.v)]:=by
 unfold fv;by_cases h:n.k=1
 .rw[ak h,ak (ay h)];rfl
 by_cases D:n.k=2
 .rw[aj h,ak D,ak (au D)];rfl
 .rw[aj h,aj D,aj Qu];rfl
def Tm.AX:∀{t:Tm} {x:Int×Int},x∈t.gr.kv↔∃n∈t.I,n.k≠1/\n.k≠2/\x=(n.k,n.v)
 |.lf n,x=>by
  show x∈(fv n).kv↔∃m∈[n],_
  rw[zki];by_cases h:n.k=1∨n.k=2
  .rw[ak h];simp only[gJ,kD,exists_eq_left,false_iff];omega
  .rw[aj h];simp only[kD,exists_eq_left];constructor
   .intro e;exact⟨Qu,Qu,e⟩
   .rintro⟨_,_,e⟩;exact e
 |.op k a b,x=>by
  have D:(Tm.op k a b).gr.kv=a.gr.kv++b.gr.kv:=by
   rw[Tm.zao];by_cases e:k=15
   .rw[ak e];exact zlq _ _
   .rw[aj e];exact zlr _ _
  rw[D,dP,Tm.AX (t:=a),Tm.AX (t:=b)]
  show _↔∃n∈a.I++b.I,_
  constructor
  .rintro(⟨n,h,r⟩|⟨n,h,r⟩)
   .exact⟨n,oD _ h,r⟩
   .exact⟨n,kE _ h,r⟩
  .rintro⟨n,h,r⟩;rcases dP.1 h with h|h
   .exact ay ⟨n,h,r⟩
   .exact au ⟨n,h,r⟩
def Tm.tq:∀{t:Tm} {c:g_},t.ty=some c->∀n∈t.I,dI n=true
 |.lf n,c,D,m,h=>by
  have h:m=n:=kD.1 h;subst h;unfold Tm.ty at D;split at D
  .assumption
  .cases D
 |.op k a b,c,D,m,h=>by
  have⟨x,y,F,G,_⟩:=Tm.qE D;rcases dP.1 h with h|h
  .exact Tm.tq F m h
  .exact Tm.tq G m h
def qS(L:List Nd):Bool:=L.all fun n=>decide (n.k≠8)&&decide (n.k≠14)
def qp(p:Int)(L:List Nd):Bool:=L.all fun n=>!(decide (n.k=7)||decide (n.k=13))||decide (n.v<p)
def Tm.DE{p}:∀{t:Tm} {c:g_},t.ty=some c->(t.pf p↔qS t.d=true/\qp p t.d=true)
 |.lf n,c,G=>by
  unfold Tm.ty at G;split at G
  .rename_i I;unfold Tm.pf s_ qS qp Tm.d;simp only[Ax,List.all_nil,Bool.and_true,bN,cf,jS,uE,uC,uD];constructor
   .rintro⟨_,h,D,F⟩;refine⟨⟨h,D⟩,?_⟩;by_cases e:n.k=7∨n.k=13
    .exact au (F e)
    .exact ay Qu
   .rintro⟨⟨h,D⟩,F⟩;exact⟨I,h,D,fun e=>Qu⟩
  .cases G
 |.op k a b,c,G=>by
  have⟨x,y,U,I,Y⟩:=Tm.qE G;have J:=qD Y;have O:qS (Tm.op k a b).d=(qS a.d&&qS b.d):=by rw[Tm.qR];unfold qS;rw[rV,rV];rcases J with rfl|rfl<;>simp
  have T:qp p (Tm.op k a b).d=(qp p a.d&&qp p b.d):=by rw[Tm.qR];unfold qp;rw[rV,rV];rcases J with rfl|rfl<;>simp
  rw[O,T];unfold Tm.pf;rw[Tm.DE U,Tm.DE I];simp only[bN];constructor
  .rintro⟨⟨h,D⟩,F,H⟩;exact⟨⟨h,F⟩,D,H⟩
  .rintro⟨⟨h,F⟩,D,H⟩;exact⟨⟨h,D⟩,F,H⟩
section
variable{p:Int}
def zbN(k v:Int)(i o:bP):List (List (Nat×Int)):=
 if k=3 then[[(o.getD 0 0,1),(i.getD 0 0,-1)],[(o.getD 1 0,1),(i.getD 0 0,-1)]]
 else if k=5 then[[(o.getD 0 0,1),(i.getD 0 0,-1),(i.getD 1 0,-1)]]
 else if k=6 then[[(o.getD 0 0,1)]]
 else if k=7 then[[(o.getD 0 0,1),(i.getD 0 0,-v)]]
 else[]
def Ed.zbO(e:Ed):List (List (Nat×Int)):=if 9<=e.k then zbN (e.k-6) e.v e.o e.i else zbN e.k e.v e.i e.o
def pj(p:Int)(n:Nat)(L:iH):List Int:=(List.range n).map fun d=>iD L d%p
def zlT{L}(h:d<n):(pj p n L).getD d 0=iD L d%p:=by unfold pj;rw[bf,bI,iy h];rfl
def EO p n L:(pj p n L).length=n:=by simp[pj]
def zhP{L}(H:2<=p)(G:∀q∈L,q.1<n):iE p n L=pj p n L:=by
 have⟨I,F⟩:=sD H G;refine gk fun d=>?_
 by_cases h:d<n
 .have:=F d h;have D:=zlT (p:=p) (L:=L) h;rw[bf,di Qu]at this;rw[bf,di (by rw[EO];exact h)]at D;rw[di Qu,di (by rw[EO];exact h)];simp only[xd]at this D;rw[this,D]
 .rw[eP Qu,eP (by rw[EO];omega)]
def zaZ{L h}(D:∀d,p∣iD L d-iD h d):pj p n L=pj p n h:=by
 unfold pj;refine kB fun d _=>?_
 exact Int.emod_eq_emod_iff_emod_sub_eq_zero.2 (zcl (D d))
def zjE{k v}{i o}:(BK p k v i o).map (pj p n)=(zbN k v i o).map (pj p n):=by
 have ψ:∀(a b:Nat) (x y:Int),p∣x-y->pj p n [(a,1),(b,x)]=pj p n [(a,1),(b,y)]:=fun a b x y h=>zaZ fun d=>by
  simp only[iD];by_cases D:b=d
  .rw[ak D,ak D];rwa[show ∀q:Int,q+(x+0)-(q+(y+0))=x-y from fun q=>Qu]
  .rw[aj D,aj D];exact⟨0,Qu⟩
 have J:∀(a b c:Nat) (x y:Int),p∣x-y->pj p n [(a,1),(b,x),(c,x)]=pj p n [(a,1),(b,y),(c,y)]:=fun a b c x y h=>zaZ fun d=>by simp only[iD];have G:p∣(if b=d then x else 0)-(if b=d then y else 0):=Ud;have H:p∣(if c=d then x else 0)-(if c=d then y else 0):=Ud;have:=ir G H;rwa[show ∀q b c e f:Int,q+(b+(c+0))-(q+(e+(f+0)))=b-e+(c-f) from fun q b c e f=>Qu]
 have F:p∣p-1 - -1:=⟨1,Qu⟩;have I:p∣(p-v)%p - -v:=by have:=ir (lI (p-v) p) (show p∣p from⟨1,Qu⟩);rwa[show ∀m:Int,m-(p-v)+p=m - -v from fun m=>Qu]at this
 unfold BK zbN;split
 .simp only[se,rU];rw[ψ _ _ _ _ F,ψ _ _ _ _ F]
 split
 .simp only[se,rU];rw[J _ _ _ _ _ F]
 split
 .rfl
 split
 .simp only[se,rU];rw[ψ _ _ _ _ I]
 .rfl
def Ed.zdO:(e.G p).map (pj p n)=e.zbO.map (pj p n):=by unfold Ed.G Ed.zbO;split<;>exact zjE
def Gr.f_(g:Gr):Nat:=g.i.length+g.o
def Gr.H(p:Int)(g:Gr):List (List Int):=(List.range g.f_).map fun k=>iE p (g.f_+g.w) [(k,1),(g.f_+(g.i++g.o).getD k 0,p-1)]
def Gr.og(p:Int)(g:Gr):List (List Int):=g.H p++(g.rows p).map fun r=>List.replicate g.f_ 0++r
def Gr.N(p:Int)(g:Gr):Sy:=⟨g.f_,g.w,g.og p⟩
def td p k v i o:(BK p k v i o).length<=2:=by
 unfold BK
 (repeat' split)<;>simp
def EP{D F:Type}{f:D->List F}(h:∀a,(f a).length<=2):∀(l:List D),(l.flatMap f).length<=2*l
 |[]=>Qt
 |a::l=>by rw[List.flatMap_cons,bm,jT];have:=EP h l;have:=h a;omega
def Gr.zkJ p(g:Gr):(g.V p).length<=2*g.es:=EP (fun e=>by unfold Ed.G;split<;>exact td ..) g.es
def zjF(s:eV p c n M):∀r∈M,r.length=n/\∀x∈r,0<=x/\x<p:=fun r h=>by have F:=s.row r h;refine⟨F,fun x G=>?_⟩;obtain⟨d,D,rfl⟩:=De G;have:=s.vY h (d:=d) Qu;rwa[bf,di D]at this
def Gr.zlU(G:bV p=true)(I:g.B=true):(g.N p).Ok p:=by
 have F:=(cv G).1;obtain⟨am,an,ao,ap,T,av,U,Y,a0⟩:=Gr.iT.1 I;have ac:=Gr.mE I;have ab:=zjF (zaE (p:=p) (n:=g.f_+g.w) (X:=(List.range g.f_).map fun k=>[(k,1),(g.f_+(g.i++g.o).getD k 0,p-1)]) F fun L Z q O=>by
  obtain⟨k,H,rfl⟩:=cH.1 Z;have H:=fj.1 H;simp only[et,gJ,gX]at O;rcases O with rfl|rfl
  .dsimp only;omega
  .have:=ku (l:=g.i++g.o) (j:=k) (by rw[bm];exact H);have a2:(g.i++g.o).getD k 0<g.w:=by
    rcases dP.1 this with D|D
    .exact U _ D
    .exact Y _ D
   dsimp only;omega)
 have ah:=zjF (Gr.zc F T ac);have a1:(g.rows p).length<=2*g.es:=by unfold Gr.rows;rw[bs];exact Gr.zkJ p g
 have J:∀r∈g.og p,r.length=g.f_+g.w/\∀x∈r,0<=x/\x<p:=fun r h=>by
  unfold Gr.og at h;rcases dP.1 h with h|h
  .refine ab r ?_;unfold Gr.H at h;rw[nr];exact h
  .obtain⟨r',ad,rfl⟩:=cH.1 h;obtain⟨c1,c2⟩:=ah r' ad;refine⟨by rw[bm,fA,c1],fun x D=>?_⟩;rcases dP.1 D with D|D
   .rw[(List.mem_replicate.1 D).2];omega
   .exact c2 x D
 unfold Gr.N Sy.Ok;refine⟨G,F,(cv G).2,RY,by dsimp only;unfold Gr.f_;omega,RY,RY,?_,fun r h=>by have:=(J r h).1;dsimp only;omega,fun r h=>(J r h).2⟩;dsimp only;unfold Gr.og Gr.H;rw[bm,bs,bs,fK];unfold Gr.f_;omega
end
structure Ck(n:Nat)(P C:bP):Prop where
 ι:P.length=n
 cls:l9 n C
 le:∀w,w<n->P.getD w 0<=w
 Ë:∀w,w<n->P.getD w 0=w->C.getD w 0=w
 up:∀w,w<n->C.getD (P.getD w 0) 0=C.getD w 0
def tp(h:x<n):(List.range n).getD x 0=x:=by rw[bf,iy h];rfl
def ziF n:Ck n (List.range n) (List.range n):=by
 refine⟨fK,qx n,fun w h=>?_,fun w h _=>tp h,fun w h=>?_⟩
 .rw[tp h];exact ae _
 .rw[tp h,tp h]
def zgR{a}(ha:a<l.length):(l.set a x).getD d 0=if a=d then x else l.getD d 0:=XR
def zkg{P}(h:Ck n P C)(T:x<n)(U:y<n):Ck n (P.set (max (C.getD x 0) (C.getD y 0)) (min (C.getD x 0) (C.getD y 0))) (mI C x y):=by
 have ao:=h.cls.le x T;have ap:=h.cls.le y U;have Z:=h.cls.rep x T;have ab:=h.cls.rep y U;have⟨M,I⟩:=aR (max (C.getD x 0) (C.getD y 0));have⟨m,J⟩:=aR (min (C.getD x 0) (C.getD y 0));have an:m<=M:=Qu;have ah:M<n:=Qu;have Y:C.getD M 0=M:=by
  rcases Aw (C.getD x 0) (C.getD y 0)with F|F
  .rw[I,Nat.max_eq_right F];exact ab
  .rw[I,Nat.max_eq_left F];exact Z
 have ad:C.getD m 0=m:=by
  rcases Aw (C.getD x 0) (C.getD y 0)with F|F
  .rw[J,iw F];exact Z
  .rw[J,uG F];exact ab
 have H:∀z,z<n->(mI C x y).getD z 0=if C.getD z 0=M then m else C.getD z 0:=fun z am=>by rw[kP h.cls am,<-I,<-J]
 rw[<-I,<-J];have O:∀d,(P.set M m).getD d 0=if M=d then m else P.getD d 0:=fun d=>zgR (by rw[h.ι];exact ah)
 refine⟨SM,vB h.cls T U,fun w D=>?_,fun w D e=>?_,fun w D=>?_⟩
 .rw[O];split
  .omega
  .exact h.le w D
 .rw[O]at e;rw[H w D];split at e
  .rename_i G;subst G;rw[ak Y];exact e
  .rename_i G;have:=h.Ë w D e;rw[this,aj (fun ac=>G ac.q)]
 .rw[O];split
  .rename_i G;subst G;rw[H _ D,H m Qu,Y,ad,ak rfl];split<;>rfl
  .have:=h.le w D;rw[H w D,H _ Qu,h.up w D]
def Fl(g:Gr)(c:bP)(r:Nat):Bool:=decide (c.getD r 0=r)&&(List.range g.w).any fun x=>g.O x&&decide (c.getD x 0=r)
def yO g c:lG g c=(List.range g.w).filter (Fl g c):=rfl
def DC{Q}{r}:∀{w:Nat},r<w->Q r=true->((List.range w).filter Q).idxOf r=((List.range r).filter Q).length
 |0,F,_=>Qu
 |w+1,F,D=>by
  rw[nk,C5];by_cases e:r=w
  .subst e;have G:r∉(List.range r).filter Q:=fun h=>by have:=fj.1 (xj.1 h).1;omega
   rw[List.idxOf_append,aj G];have:([r].filter Q)=[r]:=by simp[D]
   rw[this,List.idxOf_cons];simp
  .have h:r∈(List.range w).filter Q:=xj.2 ⟨fj.2 Qu,D⟩;rw[List.idxOf_append,ak h];exact DC Qu D
def zcJ{Q}w:((List.range (w+1)).filter Q).length=((List.range w).filter Q)+if Q w=true then 1 else 0:=by
 rw[nk,C5,bm];congr 1
 by_cases h:Q w=true
 .rw[ak h];simp[h]
 .rw[aj h];simp[h]
def zlp{c}(h:l9 g.w c)(D:g.In)(F:g.On x):Fl g c (c.getD x 0)=true:=by have:=Eg h D F;rw[yO]at this;exact(xj.1 this).2
def DD(g:Gr)(c:bP)(x:Nat):Nat:=((List.range (c.getD x 0)).filter (Fl g c)).length
def zkh{c}(h:l9 g.w c)(D:g.In)(F:g.On x):(lG g c).idxOf (c.getD x 0)=DD g c x:=by have G:=D x F;have H:=h.le x G;exact DC Qu (zlp h D F)
def Ed.R{f D}(F:∀x,x∈e.i∨x∈e.o->f x=D x):e.map f=e.map D:=by unfold Ed.map;rw[kB (fun x h=>F x (ay h)),kB (l:=e.o) (fun x h=>F x (au h))]
def Gr.R{w}{f F}(D:∀x,g.On x->f x=F x):g.map w f=g.map w F:=by unfold Gr.map;rw[kB (l:=g.es) (fun e G=>Ed.R fun x h=>D x (au (au ⟨e,G,h⟩))),kB (l:=g.i) (fun x h=>D x (ay h)),kB (l:=g.o) (fun x h=>D x (au (ay h)))]
def ziG(h:g.In)(F:∀q∈ps,q.1<g.w/\q.2<g.w):js g ps=g.map ((List.range g.w).filter (Fl g (jF g.w ps))) (DD g (jF g.w ps)):=by
 have D:l9 g.w (jF g.w ps):=Ef ps _ (qx g.w) F;unfold js;rw[yO];refine Gr.R fun x G=>?_
 rw[<-yO];exact zkh D h G
def zcK n ps q:jF n (ps++[q])=mI (jF n ps) q.1 q.2:=by unfold jF;rw[List.foldl_append];rfl
section
variable{p:Int}
def Tm.zeE k a b:(Tm.op k a b).pM=(a.pM&&(b.pM&&((Tm.op k a b).gr).B)):=rfl
def Tm.DN:∀{t:Tm},t.pM=true->t.gr.B=true
 |.lf _,h=>h
 |.op k a b,h=>by rw[Tm.zeE,bN,bN]at h;exact h.2.2
def Tm.vt{p}:∀{t:Tm},t.pf p->∀n∈t.I,s_ p n
 |.lf n,D,m,h=>by have h:m=n:=kD.1 h;subst h;exact D
 |.op k a b,D,m,h=>by
  rcases dP.1 h with h|h
  .exact Tm.vt D.1 m h
  .exact Tm.vt D.2 m h
def Tm.zbn{t:Tm}(Y:t.pf p)(O:t.pM=true):t.gr.pf p:=fun e D=>by have J:=(Gr.iT.1 (Tm.DN O)).2.2.2.2.1 e D;have T:(e.k,e.v)∈t.gr.kv:=cH.2 ⟨e,D,rfl⟩;obtain⟨n,U,_,_,h⟩:=Tm.AX.1 T;obtain⟨F,G,H,I⟩:=Tm.vt Y n U;simp only[Prod.mk.injEq]at h;refine⟨J,?_⟩;rw[h.1,h.2];exact⟨zan F,G,H,I⟩
def zkm(p:Int)(g:Gr):Bool:=(g.es.all fun e=>decide (e.v<p))&&g.es.all fun e=>decide (e.k≠8)&&decide (e.k≠14)
def Tm.vu:∀{t:Tm} {c:g_},t.ty=some c->∀n∈t.d,n∈t.I∨n.k=15∨n.k=16
 |.lf n,c,F,m,h=>ay h
 |.op k a b,c,F,m,h=>by
  have⟨x,y,G,H,I⟩:=Tm.qE F;have J:=qD I;rw[Tm.qR]at h;rcases dP.1 h with h|h
  .rcases dP.1 h with h|h
   .rcases Tm.vu G m h with D|D
    .exact ay (oD _ D)
    .exact au D
   .rcases Tm.vu H m h with D|D
    .exact ay (kE _ D)
    .exact au D
  .rw[kD.1 h];exact au J
def Tm.qW:∀{t:Tm},∀n∈t.I,n∈t.d
 |.lf n,m,h=>h
 |.op k a b,m,h=>by
  rw[Tm.qR];refine oD _ ?_;rcases dP.1 h with h|h
  .exact oD _ (Tm.qW m h)
  .exact kE _ (Tm.qW m h)
def zc3{n}(H:2<=p)(h:dI n=true)(F:n.k≠1)(G:n.k=7∨n.k=13->n.v<p):n.v<p:=by
 unfold dI at h;rw[bN]at h;have h:=h.2;rw[aj F]at h;by_cases D:n.k=7∨n.k=13
 .exact G D
 .rw[aj D]at h;simp only[bN,cf]at h;omega
def Tm.zkn{t:Tm}{c}(O:2<=p)(I:t.ty=some c)(H:qp p t.d=true):zkm p t.gr=qS t.d:=by
 have Y:∀n∈t.d,n.k=7∨n.k=13->n.v<p:=fun n D T=>by unfold qp at H;have:=eD.1 H n D;simp only[jS,uE,uC,uD,cf]at this;omega
 rw[jQ];unfold zkm qS;simp only[bN,eD,cf];constructor
 .rintro⟨_,G⟩ n D;rcases Tm.vu I n D with U|T
  .by_cases ab:n.k=1∨n.k=2
   .omega
   .obtain⟨e,F,h⟩:=cH.1 (Tm.AX.2 ⟨n,U,Qu,Qu,rfl⟩);simp only[Prod.mk.injEq]at h;have:=G e F;rw[h.1]at this;exact this
  .omega
 .intro G;refine⟨fun e F=>?_,fun e F=>?_⟩
  .obtain⟨n,D,J,Z,h⟩:=Tm.AX.1 (cH.2 ⟨e,F,rfl⟩:(e.k,e.v)∈t.gr.kv);simp only[Prod.mk.injEq]at h;rw[h.2];exact zc3 O (Tm.tq I n D) J (Y n (Tm.qW n D))
  .obtain⟨n,D,J,Z,h⟩:=Tm.AX.1 (cH.2 ⟨e,F,rfl⟩:(e.k,e.v)∈t.gr.kv);simp only[Prod.mk.injEq]at h;rw[h.1];exact G n (Tm.qW n D)
def Ι(S:List Gr)(n:Nd):Option (List Gr):=
 if n.k=15∨n.k=16 then
  match S with
  |b::a::S'=>if(if n.k=15 then pK a b else ls a b).B=true then some ((if n.k=15 then pK a b else ls a b)::S') else none
  |_=>none
 else if(fv n).B=true then some (fv n::S) else none
def oV:List Nd->List Gr->Option (List Gr)
 |[],S=>some S
 |n::L,S=>match Ι S n with
  |some S'=>oV L S'
  |none=>none
def tv n L S:oV (n::L) S=match Ι S n with|some S'=>oV L S'|none=>none:=rfl
def zfQ{n}(h:dI n=true):¬(n.k=15∨n.k=16):=fun D=>by
 have:FC n=true:=by unfold FC;rcases D with e|e<;>rw[e]<;>rfl
 rw[zbr this]at h;cases h
def yc:∀{t:Tm} {c:g_} (L:List Nd) (S:List Gr),t.ty=some c->oV (t.d++L) S=if t.pM=true then oV L (t.gr::S) else none
 |.lf n,c,L,S,h=>by
  have D:dI n=true:=by
   unfold Tm.ty at h;split at h
   .assumption
   .cases h
  have I:(Tm.lf n).pM=true:=sH D;rw[ak I]
  show oV (n::L) S=oV L (fv n::S)
  rw[tv];unfold Ι;rw[aj (zfQ D),ak (sH D)]
 |.op k a b,c,L,S,h=>by
  have⟨x,y,H,D,J⟩:=Tm.qE h;have O:=qD J;rw[Tm.qR,fJ,fJ,yc _ S H,Tm.zeE];by_cases h1:a.pM=true
  .rw[ak h1,yc _ _ D,h1];by_cases h2:b.pM=true
   .rw[ak h2,h2]
    show oV (⟨k,0,true⟩::L) _=_
    rw[tv,Tm.zao];unfold Ι;dsimp only;rw[ak O];have⟨F,G⟩:=aR (if k=15 then pK a.gr b.gr else ls a.gr b.gr);rw[<-G];by_cases e:F.B=true
    .rw[ak e,e,ak Qs]
    .rw[aj e,aj QC]
   .rw[aj h2,aj QQ]
  .rw[aj h1,aj QP]
def zg3{t:Tm}{c}(h:t.ty=some c):oV t.d []=if t.pM=true then some [t.gr] else none:=by have:=yc [] [] h;rwa[lZ]at this
end
structure Gr.G1(g:Gr):Prop where
 inr:g.In
 fit:∀e∈g.es,e.jd=true
 on:∀x,x<g.w->g.On x
def Gr.nK(h:g.B=true):g.G1:=⟨Gr.mE h,(Gr.iT.1 h).2.2.2.2.1,fun x D=>Gr.lO.1 ((Gr.iT.1 h).2.2.2.2.2.1 x D)⟩
def Ed.zfT f(e:Ed):(e.map f).jd=e.jd:=by unfold Ed.jd Ed.map;simp only[bs]
def Gr.ziX{w}{f}(h:g.On y):(g.map w f).On (f y):=by
 rcases h with h|h|⟨e,D,h⟩
 .exact ay (cH.2 ⟨y,h,rfl⟩)
 .exact au (ay (cH.2 ⟨y,h,rfl⟩))
 .refine au (au ⟨e.map f,cH.2 ⟨e,D,rfl⟩,?_⟩);exact h.E (fun h=>cH.2 ⟨y,h,rfl⟩) fun h=>cH.2 ⟨y,h,rfl⟩
def yd n q:((List.range n).filter q).Nodup:=List.Pairwise.filter _ List.nodup_range
def zks(Y:g.In)(U:∀e∈g.es,e.jd=true)(ab:∀q∈ps,q.1<g.w/\q.2<g.w):(js g ps).G1:=by
 refine⟨zgb Y ab,fun e O=>?_,fun x h=>?_⟩
 .obtain⟨J,T,rfl⟩:=cH.1 O;rw[Ed.zfT];exact U J T
 .have h:x < (lG g (jF g.w ps)).length:=h;have Z:(lG g (jF g.w ps)).Nodup:=yd _ _;have⟨r,I⟩:=aR ((lG g (jF g.w ps))[x]);have H:r∈lG g (jF g.w ps):=I ▸ xk h;rw[yO,xj]at H;have D:=H.2;unfold Fl at D;rw[bN,nl]at D;obtain⟨y,ac,F⟩:=D.2;rw[bN,cf]at F;have G:=Gr.ziX (w:=(lG g (jF g.w ps)).length) (f:=fun x=>(lG g (jF g.w ps)).idxOf ((jF g.w ps).getD x 0)) (Gr.lO.1 F.1);have e:(lG g (jF g.w ps)).idxOf ((jF g.w ps).getD y 0)=x:=by rw[F.2,I];exact Z.idxOf_getElem x h
  rw[e]at G;exact G
def DS{a b}(F:∀e∈a.es,e.jd=true)(G:∀e∈b.es,e.jd=true):∀e∈fG a b,e.jd=true:=fun e h=>by
 rcases dP.1 h with h|h
 .exact F e h
 .obtain⟨D,H,rfl⟩:=cH.1 h;rw[Ed.zfT];exact G D H
def jD(a b:Gr):Gr:=⟨a.w+b.w,fG a b,a.i,b.o.map (· +a.w)⟩
def BV(a b:Gr):List (Nat×Nat):=a.o.zip (b.i.map (· +a.w))
def zkt a b:pK a b=js (jD a b) (BV a b):=rfl
def vw{a b}(D:a.In)(F:b.In):(jD a b).In:=
 sU D F (fun x h=>by have:=D x (ay h);omega) fun x h=>by obtain⟨y,G,rfl⟩:=cH.1 h;have:=F y (au (ay G));omega
def yX{a b}(F:a.In)(G:b.In):∀q∈BV a b,q.1 < (jD a b).w/\q.2 < (jD a b).w:=fun q H=>by
 have⟨h,D⟩:=pS H;obtain⟨y,I,e⟩:=cH.1 D;have:=F q.1 (au (ay h));have:=G y (ay I)
 show q.1<a.w+b.w/\q.2<a.w+b.w
 omega
def zeN{a b}(h:a.G1)(D:b.G1):(pK a b).G1:=zks (g:=jD a b) (ps:=BV a b) (vw h.inr D.inr) (DS h.fit D.fit) (yX h.inr D.inr)
def zeO{a b}(F:a.G1)(G:b.G1):(ls a b).G1:=by
 have J:∀{l:bP},(∀x∈l,b.On x)->∀x∈l.map (· +a.w),x<a.w+b.w:=fun h x D=>by obtain⟨y,O,rfl⟩:=cH.1 D;have:=G.inr y (h y O);omega
 refine⟨sU F.inr G.inr (fun x D=>?_) (fun x D=>?_),DS F.fit G.fit,fun x D=>?_⟩
 .rcases dP.1 D with h|h
  .have:=F.inr x (ay h);omega
  .exact J (fun x D=>ay D) x h
 .rcases dP.1 D with h|h
  .have:=F.inr x (au (ay h));omega
  .exact J (fun x D=>au (ay D)) x h
 .have D:x<a.w+b.w:=D;by_cases h:x<a.w
  .rcases F.on x h with h|h|⟨e,H,h⟩
   .exact ay (oD _ h)
   .exact au (ay (oD _ h))
   .exact au (au ⟨e,oD _ H,h⟩)
  .have I:=Gr.ziX (w:=0) (f:=(· +a.w)) (G.on (x-a.w) Qu);rw[show x-a.w+a.w=x by omega]at I;rcases I with h|h|⟨e,H,h⟩
   .exact ay (kE _ h)
   .exact au (ay (kE _ h))
   .exact au (au ⟨e,kE _ H,h⟩)
def Tm.zay:∀{t:Tm} {c:g_},t.ty=some c->t.gr.G1
 |.lf n,c,h=>by
  unfold Tm.ty at h;split at h
  .rename_i D;exact Gr.nK (sH D)
  .cases h
 |.op k a b,c,h=>by
  have⟨x,y,F,D,G⟩:=Tm.qE h;rw[Tm.zao];split
  .exact zeN (Tm.zay F) (Tm.zay D)
  .exact zeO (Tm.zay F) (Tm.zay D)
def jc(g:Gr):Bool:=decide (g.w<=100)&&(decide (g.es.length<=60)&&(decide (g.i.length<=12)&&decide (g.o.length<=12)))
def Gr.G1.B(D:g.G1):g.B=jc g:=by
 rw[jQ,Gr.iT];unfold jc;simp only[bN,cf];constructor
 .rintro⟨F,G,H,I,_⟩;exact⟨F,G,H,I⟩
 .rintro⟨F,G,H,I⟩;exact⟨F,G,H,I,D.fit,fun x h=>Gr.lO.2 (D.on x h),fun x h=>D.inr x (ay h),fun x h=>D.inr x (au (ay h)),fun e J=>⟨fun x h=>D.inr x (au (au ⟨e,J,ay h⟩)),fun x h=>D.inr x (au (au ⟨e,J,au h⟩))⟩⟩
section
variable{B:Nat}
def b_.xv{a b}{p}(h:b_ lo hi a b)(G:lo<=p.block)(H:p.block<hi):b_ lo hi a (b.setCell p v):=⟨h.os,h.tape,h.output,by simpa using h.size,fun k D F=>(a_ _ _ _ _ Qu).t (h.block k D F)⟩
abbrev zhb(w:aa)(b:Nat)(v0 v1 v2 v3 v4 v5:aG):World:=(((((w.setCell ⟨b,0,none⟩ v0).setCell ⟨b,1,none⟩ v1).setCell ⟨b,2,none⟩ v2).setCell ⟨b,3,none⟩ v3).setCell ⟨b,4,none⟩ v4).setCell ⟨b,5,none⟩ v5
def zeU{H I J O}(h:bA w b #[T,H,z2,I,J,O] t):(zhb w b v0 v1 v2 v3 v4 v5).heap[b]?=some (.cells #[v0,v1,v2,v3,v4,v5] t (0,0)):=by
 refine NL fun e1 e2 e3=>?_
 have D:=bE _ b 3 _ _ v3 e3;have F:=bE _ b 4 _ _ v4 D;have G:=bE _ b 5 _ _ v5 F;simpa[zhb]using G
def zeV(D:Below B w w')(h:B<=b)v0 v1 v2 v3 v4 v5:Below B w (zhb w' b v0 v1 v2 v3 v4 v5):=(((((D.setCell h _).setCell h _).setCell h _).setCell h _).setCell h _).setCell h _
def gE{D F G H}(h:bA w b #[T,D,z2,F,G,H] t):(af w b 0 T/\af w b 1 D/\af w b 2 z2/\af w b 3 F/\af w b 4 G/\af w b 5 H)/\w.frozen? ⟨b,0,none⟩=false/\w.frozen? ⟨b,1,none⟩=false/\w.frozen? ⟨b,2,none⟩=false/\w.frozen? ⟨b,3,none⟩=false/\w.frozen? ⟨b,4,none⟩=false/\w.frozen? ⟨b,5,none⟩=false:=⟨⟨aF h 0 rfl,aF h 1 rfl,aF h 2 rfl,aF h 3 rfl,aF h 4 rfl,aF h 5 rfl⟩,aK h 0,aK h 1,aK h 2,aK h 3,aK h 4,aK h 5⟩
end
def Ξ(xs ys:aL)(k:Nat):Int:=bW (fun d=>xs.getD d 0*ys.getD d 0) k
def ziR{p}{xs ys:aL}(J:2<=p)(O:p<=97)(I:xs.length<=ys)(h:∀x∈xs,0<=x/\x<p)(F:∀y∈ys,0<=y/\y<p):∀k,k<=xs.length->0<=Ξ xs ys k/\Ξ xs ys k<=10000*k
 |0,_=>⟨Int.le_refl _,Int.le_refl _⟩
 |k+1,Z=>by
  have⟨U,Y⟩:=ziR J O I h F k Qu;have⟨x,D⟩:=aq (Qu:k<xs.length);have⟨y,G⟩:=aq (Qu:k<ys.length);obtain⟨T,ad⟩:=h x (aU D);obtain⟨H,ah⟩:=F y (aU G);have e:Ξ xs ys (k+1)=Ξ xs ys k+x*y:=by unfold Ξ;rw[bW,bf,bf,D,G];rfl
  have ab:0<=x*y:=rS T H;have ac:x*y<=97*97:=uB Qu Qu H Qu;rw[e];omega
def zcY{x y}(h:xs[k]?=some x)(D:ys[k]?=some y):Ξ xs ys (k+1)=Ξ xs ys k+x*y:=by unfold Ξ;rw[bW,bf,bf,h,D];rfl
def zkl p A F ε ad xs ys w(H:aO w A xs)(I:aO w F ys)(an:2<=p)(ao:p<=97)(a3:xs.length<=4096)(am:xs.length<=ys)(a4:ys.length<=1048576)(h:∀x∈xs,0<=x/\x<p)(D:∀y∈ys,0<=y/\y<p):az 135 (wY p A xs ε F ys ad) w fun e w'=>e=.returned (zI (Ξ xs ys xs%p))/\w=w':=by
 have⟨G,Z,ab⟩:=er (ziR an ao am h D) h D;clear h D;go_enter func135,ntmps135
 go_wp2;go_loop [7,12] (fun s i=>∃k:Nat,k<=xs.length/\i=.int .i64 k/\s=.int .i64 (Ξ xs ys k)) (fun _ i=>xs.length-(intOf i).toNat)
 case atStart=>exact⟨0,aW _,rfl,rfl⟩
 case round=>
  obtain⟨k,ah,rfl,rfl⟩:=hrel;obtain⟨av,a0⟩:=G k ah;have ac:=G xs (ae _);by_cases T:k<xs.length
  .have⟨x,h⟩:=aq T;have⟨y,D⟩:=aq (Qu:k<ys.length);obtain⟨b,o,rfl,J⟩:=H.θ T;obtain⟨c,q,rfl,O⟩:=I.θ (Qu:k<ys.length);have a1:=J k x h;have a2:=O k y D;obtain⟨ap,a7⟩:=Z x (aU h);obtain⟨U,a8⟩:=ab y (aU D);have a5:0<=x*y:=rS ap U;have a6:x*y<=97*97:=uB Qu Qu U Qu;have e:=zcY h D;have Y:=zH e;clear h D J O H I e ac;go_wp2;go_round
   case rel=>exact⟨k+1,Qu,Qx,by rw[Y.o]⟩
   case measure=>simp[intOf];omega
  .obtain rfl:k=xs.length:=Qu;go_wp2_with (go_at_call 127;refine(CL _ _ _ Qu Qu Qu Qu).x ?_;rintro e w' ⟨rfl,rfl⟩)
   exact V8
def zg2 p A J ε am xs ys w(G:aO w A xs)(H:aO w J ys)(a5:2<=p)(a6:p<=97)(a3:xs.length<=4096)(a2:xs.length<=ys)(a4:ys.length<=1048576)(h:∀x∈xs,0<=x/\x<p)(D:∀y∈ys,0<=y/\y<p):az 115 (wY p A xs ε J ys am) w fun e w'=>e=.returned (zI (Ξ xs ys xs%p))/\ag w w':=by
 have⟨ad,ah⟩:=bJ h D;clear h D;go_enter func115,ntmps115
 go_wp2;go_loopw [7,11] (fun s i wr=>∃k:Nat,k<=xs.length/\i=.int .i64 k/\s=.int .i64 (Ξ xs ys k%p)/\ag w wr) (fun _ i _=>xs.length-(intOf i).toNat)
 case atStart=>exact⟨0,aW _,rfl,by simp[Ξ,bW],al _ _⟩
 case round=>
  obtain⟨k,a1,rfl,rfl,I⟩:=hrel
  replace G:=G.ext I;replace H:=H.ext I
  have O:=zH I;clear I;by_cases Y:k<xs.length
  .have⟨x,h⟩:=aq Y;have⟨y,D⟩:=aq (Qu:k<ys.length);obtain⟨b,o,rfl,T⟩:=G.θ Y;obtain⟨c,q,rfl,U⟩:=H.θ (Qu:k<ys.length);have av:=T k x h;have a0:=U k y D;obtain⟨an,bb⟩:=ad x (aU h);obtain⟨Z,bc⟩:=ah y (aU D);have a7:0<=x*y:=rS an Z;have a8:x*y<=97*97:=uB Qu Qu Z Qu;have ab:=zH (zcY h D);have⟨s,F⟩:=aR (Ξ xs ys k%p);have ao:0<=s:=by rw[F];exact gV _ Qu
   have ap:s<p:=by rw[F];exact gW _ Qu
   have a9:¬p=0:=Qu;have ba:(s+x*y).tmod p=(s+x*y)%p:=Int.tmod_eq_emod_of_nonneg Qu;have ac:=zH F;rw[<-F];clear h D T U G H F;go_wp2;go_quiet (fail)
   go_wp2;go_roundw
   case rel=>exact⟨k+1,Qu,Qx,by rw[ab.o,ac.o];simp[Int.add_emod],aJ O (rD _ _)⟩
   case measure=>simp[intOf];omega
  .obtain rfl:k=xs.length:=Qu;go_wp2;go_ret
   exact⟨rfl,O⟩
end Go.Proofs.YtpieilkmmiopfaaGreatDoor
