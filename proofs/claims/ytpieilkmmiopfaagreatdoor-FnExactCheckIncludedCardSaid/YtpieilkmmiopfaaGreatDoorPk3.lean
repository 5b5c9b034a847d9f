/- Parts of the walks. Conditions: as stated with each. -/
import Derived.Test.YtpieilkmmiopfaaGreatDoorPk2
namespace Go.Proofs.YtpieilkmmiopfaaGreatDoor
open Go.RowKit Tryz
set_option linter.all false
set_option maxHeartbeats 4000000
set_option maxRecDepth 100000
variable{A:ax}{B' b c d hi i j k lo m n n2 q r s x y:Nat}{C l:bP}{M M' rws:aP}{S S':List Tm}{T u v:aG}{e:Ed}{f:Nat->Int}{g:Gr}{ps:ng}{r' xs ys:aL}{us:cL}{w w':aa}
def ϩ(w:aa)(b o:Nat)(x:j8)(h:ax)(ε:Nat):Prop:=
 af w b o (zI x.k)/\af w b (o+1) (zI x.a)/\af w b (o+2) (zI x.b)/\af w b (o+3) (zI x.c)/\af w b (o+4) (.slice h x.row ε)
def iS(w:aa)(A:ax)(xs:List j8):Prop:=
 xs=[]∨∃b o,A=some ⟨b,o,none⟩/\∀(k:Nat) (x:j8),xs[k]?=some x->∃h ε,ϩ w b (o+k*5) x h ε/\aO w h x.row
def ϩ.ext{o}{x}{F}{ε}(h:ϩ w b o x F ε)(D:ag w w'):ϩ w' b o x F ε:=⟨ar D h.1,ar D h.2.1,ar D h.2.2.1,ar D h.2.2.2.1,ar D h.2.2.2.2⟩
def iS.ext{xs}(h:iS w A xs)(D:ag w w'):iS w' A xs:=by
 rcases h with h|⟨b,o,I,J⟩
 .exact ay h
 .refine au ⟨b,o,I,fun k x O=>?_⟩;obtain⟨F,ε,G,H⟩:=J k x O;exact⟨F,ε,G.ext D,H.ext D⟩
def iS.θ{xs}(h:iS w A xs)(F:k<xs.length):∃b o,A=some ⟨b,o,none⟩/\∀(k:Nat) (x:j8),xs[k]?=some x->∃D ε,ϩ w b (o+k*5) x D ε/\aO w D x.row:=by
 rcases h with h|h
 .simp[h]at F
 .exact h
def wh(left r:Int)(xs:List j8):Prop:=r<0∨(0<=r/\r<=left/\(xs:Int)<=left/\∀x∈xs,(x.row.length:Int)<=left)
def zc2 A ε xs(left:Int)w(I:iS w A xs)(an:xs.length<=maxLen)(Y:∀r∈xs,r.row.length<=maxLen)(a9:0<=left)(ba:left<=1048576):az 22 #[.slice A xs ε,left] w fun e w'=>∃r,e=.returned (zI r)/\wh left r xs/\ag w w':=by
 unfold maxLen at an;by_cases a4:left-xs.length<0
 .go_enter func22,ntmps22
  exact Wu
 .go_enter func22,ntmps22
  go_wp2;go_loopw [1,5] (fun l i wr=>∃(k:Nat) (q:Int),k<=xs.length/\i=.int .i64 k/\l=.int .i64 q/\0<=q/\q<=left/\(∀x∈xs.take k,(x.row.length:Int)<=left)/\ag w wr) (fun _ i _=>xs.length-(intOf i).toNat)
  case atStart=>exact⟨0,_,aW _,rfl,rfl,Qu,Qu,fun x h=>by simp at h,al _ _⟩
  case round=>
   obtain⟨k,q,a8,rfl,rfl,Z,ao,J,D⟩:=hrel;have G:=zH J;clear J;by_cases U:k<xs.length
   .have⟨r,F⟩:=aq U;obtain⟨b,o,rfl,T⟩:=(I.ext D).θ U;obtain⟨av,a3,⟨a0,c1,c2,a1,a2⟩,a7⟩:=T k r F;have⟨ad,ah,ac⟩:=er (Y r (aU F)) F D;clear F T Y I D;go_wp2_with ((go_at_call 48;refine(zfy _ _ _ _ _ _ _ _ _ ad Z Qu).x ?_;rintro e w' ⟨ap,rfl,ab,O⟩;have am:=zH ab;have FV:=zH (aJ ac O);clear ab O))
    .exact Wm
    .go_roundw
     case rel=>
      rcases am.o with H|⟨H,a5,a6⟩
      .omega
      .exact⟨k+1,ap,Qu,Qx,rfl,H,Qu,fun x h=>by
        rw[du,ah.o]at h;rcases dP.1 h with h|h
        .exact G x h
        .simp at h;subst h;omega,FV⟩
     case measure=>simp[intOf];omega
   .go_wp2;go_ret
    refine⟨_,rfl,au ⟨Z,ao,Qu,fun x h=>G x ?_⟩,D⟩;rwa[cZ Qu]
section
variable{J:Nat}
def zkS:(prog.info? 97).map (fun i=>(i.zero,i.size,i.bytes))=some (some (.agg #[(),(),(),(),dE]),5,56):=QT
def vT{w:aa}{B n'}{v}{D F}{xs U}(O:D≠F)(G:w.ownsRow B D s v n xs)(H:w.ownsRow B' F J T n' U):v.ownBlock=none∨v.ownBlock≠T.ownBlock:=by
 rcases G.2 with⟨rfl,_⟩|⟨g,ε,Z,rfl,_,I,_⟩
 .exact ay rfl
 .right;rcases H.2 with⟨rfl,_⟩|⟨ac,Y,ab,rfl,_,h,_⟩
  .simp[Value.ownBlock]
  .intro e;simp only[Value.ownBlock,dW]at e;subst e;rw[I]at h;simp at h;exact O h.2
def kJ(x:j8)(u:aG):List Value:=[.int .i64 x.k,.int .i64 x.a,.int .i64 x.b,.int .i64 x.c,u]
def pr:List j8->List Value->List Value
 |x::xs,u::us=>kJ x u++pr xs us
 |_,_=>[]
def zbb:∀{xs:List j8} {us:cL},us.length=xs->(pr xs us).length=xs*5
 |[],us,_=>by simp[pr]
 |x::xs,[],h=>QO
 |x::xs,u::us,h=>by have:=zbb (xs:=xs) (us:=us) Q_;simp[pr,kJ,this];omega
def wR{j}(F:j<5):∀{xs:List j8} {us:cL} {k:Nat} {x:j8} {u:aG},xs[k]?=some x->us[k]?=some u->(pr xs us)[k*5+j]?=(kJ x u)[j]?
 |[],us,k,x,u,h,_=>QO
 |x::xs,[],k,_,_,_,h=>QO
 |x::xs,u::us,0,y,t,h,D=>by simp at h D;subst h D;rw[pr,dU (by simp[kJ];omega)];simp
 |x::xs,u::us,k+1,y,t,h,D=>by
  simp only[dm]at h D;have:=wR F h D;rw[pr,fi (by simp[kJ];omega)];rw[<-this];congr 1
  simp[kJ];omega
def zbc:∀{xs:List j8} {us:cL} {k:Nat} (x:j8) (u:aG),us.length=xs->k<xs.length->(((((pr xs us).set (k*5) (zI x.k)).set (k*5+1) (zI x.a)).set (k*5+2) (zI x.b)).set (k*5+3) (zI x.c)).set (k*5+4) u=pr (xs.set k x) (us.set k u)
 |[],us,k,x,u,_,hk=>by simp at hk
 |x::xs,[],_,_,_,h,_=>QO
 |y::xs,t::us,0,x,u,h,hk=>by simp[pr,kJ]
 |y::xs,t::us,k+1,x,u,h,hk=>by
  have:=zbc (xs:=xs) (us:=us) (k:=k) x u Q_ Rj;simp only[pr,kJ,wZ,rP,xh];rw[<-this];have e:∀j,(k+1)*5+j=(k*5+j)+5:=fun j=>Qu
  have D:(k+1)*5=k*5+5:=Qu;simp only[e,D,xh]
structure ff(w:aa)(B:Nat)(v:aG)(xs:List j8)(us:cL):Prop where
 ι:us.length=xs
 η:w.ownsRow B 97 5 v xs.length (pr xs us)
 ν:∀(k:Nat) (u:aG) (x:j8),us[k]?=some u->xs[k]?=some x->aE w B u x.row
 apart:∀(i j:Nat) (u u':aG) (b:Nat),us[i]?=some u->us[j]?=some u'->u.ownBlock=some b->u'.ownBlock=some b->i=j
def tg(w:aa)(B:Nat)(v:aG)(xs:List j8):Prop:=∃us,ff w B v xs us
section
variable{w w':aa}{B:Nat}{v:aG}{xs:List j8}{us:cL}
def ff.F(h:ff w B v xs us){x}(hx:xs[k]?=some x):∃u,us[k]?=some u/\aE w B u x.row:=Ye
def ff.nT(h:ff w B v xs us)(D:us[k]?=some u):∃x,xs[k]?=some x/\aE w B u x.row:=by
 have:k<xs.length:=by rw[<-h.ι];exact(bG.1 D).1
 have⟨x,F⟩:=aq this;exact⟨x,F,h.ν k u x D F⟩
def tg.p(h:tg w B v xs):∃A ε,v=.slice A xs ε/\iS w A xs/\xs.length<=ε/\ε<=maxLen:=by
 obtain⟨us,h⟩:=h;have I:=fun g=>oz h.η (g:=g)
 rcases h.η.2 with⟨rfl,hn⟩|⟨g,ε,U,rfl,Y,Z,hn,hm,ab⟩
 .exact WH
 .refine MG fun k x hk=>?_
  obtain⟨u,O,J⟩:=h.F hk;obtain⟨F,G,rfl,hi,_⟩:=J.p;have D:∀(j:Nat) (y:aG),j<5->(kJ x (.slice F x.row G))[j]?=some y->af w g (0+k*5+j) y:=fun j y H T=>by have:=I g rfl (k*5+j) y (by rw[wR H hk O];exact T);rwa[dF,<-ow]at this
  exact⟨F,G,⟨D 0 _ Qw rfl,D 1 _ Qw rfl,D 2 _ Qw rfl,D 3 _ Qw rfl,D 4 _ Qw rfl⟩,hi⟩
def ff.ext(D:ff w B v xs us)(h:ag w w'):ff w' B v xs us:=⟨D.ι,jA D.η (row:=none) ⟨h.os,h.tape,h.output,h.size,fun k F _=>h.block k F⟩ TC,fun k u r H G=>(D.ν k u r H G).ext h,D.apart⟩
def ff.lt(h:ff w B v xs us):∀k,v.ownBlock=some k->B<=k/\k < (w:Nat):=bS h.η
def ff.put{g ε}{x}(ad:n=xs.length)(h:ff w B (.slice (bH g) n ε) xs us)(hk:k<n)(O:aE w B u x.row)(I:∀b,u.ownBlock=some b->∀G∈us,G.ownBlock≠some b):ff (((((w.setCell ⟨g,k*5,none⟩ (zI x.k)).setCell ⟨g,k*5+1,none⟩ (zI x.a)).setCell ⟨g,k*5+2,none⟩ (zI x.b)).setCell ⟨g,k*5+3,none⟩ (zI x.c)).setCell ⟨g,k*5+4,none⟩ u) B (.slice (bH g) n ε) (xs.set k x) (us.set k u)/\w.grownBy (((((w.setCell ⟨g,k*5,none⟩ (zI x.k)).setCell ⟨g,k*5+1,none⟩ (zI x.a)).setCell ⟨g,k*5+2,none⟩ (zI x.b)).setCell ⟨g,k*5+3,none⟩ (zI x.c)).setCell ⟨g,k*5+4,none⟩ u) (some g):=by
 subst ad;have T:=h.η.j (k*5) (zI x.k);have U:=T.1.j (k*5+1) (zI x.a);have Y:=U.1.j (k*5+2) (zI x.b);have Z:=Y.1.j (k*5+3) (zI x.c);have ab:=Z.1.j (k*5+4) u;have H:=cx (cx (cx (cx T.2 U.2) Y.2) Z.2) ab.2;refine⟨⟨by simp[h.ι],?_,?_,?_⟩,H⟩
 .have:=ab.1;rw[zbc x u h.ι hk]at this;simpa using this
 .intro j G ac D F;by_cases J:k=j
  .subst J;rw[gl Sq]at D;rw[gl hk]at F;cases D;cases F
   exact aE.kept O H (vT Qw O h.η)
  .rw[gI J]at D F;exact aE.kept (h.ν j G ac D F) H (vT Qw (h.ν j G ac D F) h.η)
 .intro i j u1 u2 b h1 h2 h3 h4;by_cases ci:k=i<;>by_cases cj:k=j
  .omega
  .subst ci;rw[gl Sq]at h1;rw[gI cj]at h2;cases h1
   exact absurd h4 (I b h3 u2 (aU h2))
  .subst cj;rw[gl Sq]at h2;rw[gI ci]at h1;cases h2
   exact absurd h3 (I b h4 u1 (aU h1))
  .exact Xb
def ff.fresh{r}(D:ff w B v xs us)(I:aE w' w u r):∀b,u.ownBlock=some b->∀h∈us,h.ownBlock≠some b:=fun b F h J e=>by obtain⟨k,G⟩:=eH.1 J;obtain⟨x,_,H⟩:=D.nT G;have O:=(H.lt b e).2;have T:=(I.lt b F).1;omega
end
def æ:j8:=⟨0,0,0,0,[]⟩
def zfA n:(madeCells (Value.agg #[.int .i64 0,.int .i64 0,.int .i64 0,.int .i64 0,.slice none 0 0]).cells (n*5)).toList=pr (List.replicate n æ) (List.replicate n (.slice none 0 0)):=by
 apply gk;intro i;by_cases hi:i<n*5
 .have D:i / 5<n:=Qu;have:=wR (j:=i%5) Qu (xs:=List.replicate n æ) (us:=List.replicate n (.slice none 0 0)) (k:=i / 5) (x:=æ) (u:=dE) (by simp[D]) (by simp[D]);rw[show i / 5*5+i%5=i by omega]at this;rw[this];have F:i%5=0∨i%5=1∨i%5=2∨i%5=3∨i%5=4:=Qu;rcases F with h|h|h|h|h<;>simp[madeCells,Value.cells,hi,h,kJ,æ]
 .rw[eP (by simp[madeCells];omega),eP (by rw[zbb Qt];simp;omega)]
def ff.made{w}{B}{v}(h:w.ownsRow B 97 5 v n (madeCells (Value.agg #[.int .i64 0,.int .i64 0,.int .i64 0,.int .i64 0,.slice none 0 0]).cells (n*5)).toList):ff w B v (List.replicate n æ) (List.replicate n (.slice none 0 0)):=by
 rw[zfA]at h;refine⟨Qt,Q_,?_,?_⟩
 .exact YG
 .exact Yq
end
section
variable{B:Nat}
def ff.cells{g ε}{xs}(O:n=xs.length)(F:ff w B (.slice (bH g) n ε) xs us)(J:k<n):∃x u,xs[k]?=some x/\us[k]?=some u/\aE w B u x.row/\(af w g (k*5) (zI x.k)/\af w g (k*5+1) (zI x.a)/\af w g (k*5+2) (zI x.b)/\af w g (k*5+3) (zI x.c)/\af w g (k*5+4) u)/\(w.frozen? ⟨g,k*5,none⟩=false/\w.frozen? ⟨g,k*5+1,none⟩=false/\w.frozen? ⟨g,k*5+2,none⟩=false/\w.frozen? ⟨g,k*5+3,none⟩=false/\w.frozen? ⟨g,k*5+4,none⟩=false):=by
 subst O;have⟨x,G⟩:=aq J;obtain⟨u,H,T⟩:=F.F G;have D:∀j,j<5->w.cell? ⟨g,k*5+j,none⟩=(kJ x u)[j]?:=fun j I=>by rw[F.η.C _ Qu,wR I G H]
 have h:=F.η.g;exact⟨x,u,G,H,T,⟨D 0 Qw,D 1 Qw,D 2 Qw,D 3 Qw,D 4 Qw⟩,⟨h _,h _,h _,h _,h _⟩⟩
def zdq A ε xs w(ac:iS w A xs)(bb:xs.length<=1048576)(ao:∀r∈xs,r.row.length<=1048576):az 27 (aV A xs ε) w fun e w'=>∃u,e=.returned u/\tg w' w u xs/\ag w w':=by
 have⟨be,hi,bc,bd,FU⟩:=dp zkS;go_enter func27,ntmps27
 go_wp2_with ((at_make;refine jg _ rfl _ _ 37 rfl w.heap.size 97 be (.agg #[(),(),(),(),dE]) 5 underlying37 hi bc bd .i64 .i64 xs.length xs.length xs.length rfl rfl rfl rfl RF SL (ae _) ?_;intro br D am))
 have ad:=cy am;have Z:=zH (ff.made D);go_loopw [4] (fun i wr=>∃k:Nat,k<=xs.length/\i=.int .i64 k/\(∃us,ff wr w (.slice (bH w) xs xs) (eF xs æ k) us)/\ag w wr)
  (fun i _=>xs.length-(intOf i).toNat)
 case atStart=>exact⟨0,aW _,rfl,⟨_,by rw[iP];exact Z⟩,ad⟩
 case round=>
  obtain⟨k,bp,rfl,⟨us,D⟩,h⟩:=hrel;have I:=zH D;by_cases F:k<xs.length
  .have⟨r,G⟩:=aq F;obtain⟨bi,o,rfl,ah⟩:=(ac.ext h).θ F;obtain⟨bg,bn,⟨a7,c1,c2,a8,a9⟩,an⟩:=ah k r G;have⟨a3,a5,Y⟩:=er (show r.row.length<=1048576 by have:=ao r (aU G);omega) (jq xs æ r k G) (by simp[eF];omega:xs.length=(eF xs æ k));have ap:=h.size;have bq:xs.length<9223372036854775807:=Qu;have⟨a2,av⟩:=bJ an h;go_wp2_with ((go_at_call 52;refine(zeq _ _ _ _ _ _ _ _ a2 a3).x ?_;rintro e bu ⟨u2,rfl,H,J⟩;have T:=zH J;have U:=zH (I.ext J);have a0:=zH (I.fresh H);have a6:=zH H;obtain⟨bz,bv,_,_,_,⟨d0,d1,d2,d3,d4⟩,⟨f0,f1,f2,f3,f4⟩⟩:=U.cells Y F;obtain⟨bh,bo,rfl,_⟩:=H.p))
   have O:=U.put (x:=r) Y F (a6.x ap) a0;have⟨a4,a1⟩:=bJ O.1 O.2;go_roundw
   case rel=>exact⟨k+1,Qu,Qx,⟨_,by rw[<-a5.o];exact a4⟩,(av.t (T.o.x ap)).t (rY (al w _) a1 (by have:=T.o.size;omega) (fun b ba=>by cases ba;exact ae _))⟩
   case measure=>simp[intOf];omega
  .go_wp2;go_ret
   have ab:=I.o;rw[jo _ _ _ Qu]at ab;exact⟨_,rfl,⟨_,ab⟩,h⟩
def zbz A H ε av xs w(T:iS w A xs)(U:iS w H xs)(a8:xs.length<=1048576)(ad:∀r∈xs,r.row.length<=1048576):az 32 (mv A xs ε H xs av) w (dt w true):=by
 go_enter func32,ntmps32
 go_wp2;go_loopw [5] (fun i wr=>∃k:Nat,k<=xs.length/\i=.int .i64 k/\ag w wr) (fun i _=>xs.length-(intOf i).toNat)
 case atStart=>exact⟨0,aW _,rfl,al _ _⟩
 case round=>
  obtain⟨k,a7,rfl,FW⟩:=hrel;by_cases G:k<xs.length
  .have⟨x,F⟩:=aq G;obtain⟨b,o,rfl,Y⟩:=(T.ext FW).θ G;obtain⟨h,D,rfl,Z⟩:=(U.ext FW).θ G;obtain⟨ah,a0,⟨I,c1,c2,J,O⟩,ab⟩:=Y k x F;obtain⟨am,a1,⟨d0,d1,d2,d3,d4⟩,ac⟩:=Z k x F;have a2:∀W:κ wr,af W.W b (o+k*5) (zI x.k):=fun W=>W.cell I
   have a3:∀W:κ wr,af W.W b (o+k*5+1) (zI x.a):=fun W=>W.cell c1
   have a4:∀W:κ wr,af W.W b (o+k*5+2) (zI x.b):=fun W=>W.cell c2
   have a5:∀W:κ wr,af W.W b (o+k*5+3) (zI x.c):=fun W=>W.cell J
   have a6:∀W:κ wr,af W.W b (o+k*5+4) (.slice ah x.row a0):=fun W=>W.cell O
   have f0:∀W:κ wr,af W.W h (D+k*5) (zI x.k):=fun W=>W.cell d0
   have f1:∀W:κ wr,af W.W h (D+k*5+1) (zI x.a):=fun W=>W.cell d1
   have f2:∀W:κ wr,af W.W h (D+k*5+2) (zI x.b):=fun W=>W.cell d2
   have f3:∀W:κ wr,af W.W h (D+k*5+3) (zI x.c):=fun W=>W.cell d3
   have f4:∀W:κ wr,af W.W h (D+k*5+4) (.slice am x.row a1):=fun W=>W.cell d4
   have⟨an,ao,ap⟩:=er (fun W:κ wr=>ab.ext W.ok) (fun W:κ wr=>ac.ext W.ok) (show x.row.length<=maxLen by have:=ad x (aU F);unfold maxLen;omega);go_wp2;refine bU QT QT ?_
   repeat (go_big_quiet_step ((go_at_call 57;exact Calls.fh (zd_ _ _ _ _ _ _ _ _ _ _ (an.o _) (ao.o _) ap))))
   exact YI
  .go_wp2;go_ret
   exact⟨rfl,FW⟩
end
section
variable{p:Int}
def Dq:Nat->Int->Int->Int->Int->Int
 |0,_,h,_,_=>h
 |f+1,p,h,a,n=>if 0<n then Dq f p (if n%2=1 then h*a%p else h) (a*a%p) (n / 2) else h
def õ:Nat->Int->Int->Int->Int
 |0,_,_,_=>0
 |f+1,p,a,x=>if x<p then(if a*x%p=1 then x else õ f p a (x+1)) else 0
def lu(p a:Int):Int:=õ 97 p a 1
def ϫ(p:Int):Int:=p-2+(if p=2 then 1 else 0)
def zj_:((List.range 98).all fun p=>(!bV (p:Nat))||(List.range p).all fun a=>decide (a=0)||decide (Dq 7 (p:Nat) (1%(p:Nat)) (a:Nat) (ϫ (p:Nat))=lu (p:Nat) (a:Nat)))=true:=Rq
def Ý{a}(D:bV p=true)(I:1<=a)(J:a<p):Dq 7 p (1%p) a (ϫ p)=lu p a:=by
 have⟨G,H⟩:=cv D;obtain⟨q,rfl⟩:=iz (Qu:0<=p);obtain⟨c,rfl⟩:=iz (Qu:0<=a);have h:=eD.1 zj_ q (fj.2 Qu);rw[D]at h;simp only[Bool.not_true,Bool.false_or,eD,fj,jS,cf]at h;rcases h c Qu with F|F
 .omega
 .exact F
def ŵ b w:az 227 #[.bool b] w fun e w'=>e=.returned (zI (if b=true then 1 else 0))/\w=w':=by
 cases b
 all_goals
  go_enter func227,ntmps227
  go_wp2;go_ret
  exact⟨Qt,rfl⟩
def Ŗ p a w(F:2<=p)(G:p<=97)(h:0<=a)(D:a<p):az 156 (bC p a) w fun e w'=>e=.returned (zI ((p-a)%p))/\w=w':=by
 go_enter func156,ntmps156
 exact We
def ġ{x y:Int}(D:0<=x)(F:x<=97)(h:0<=y)(G:y<=97):0<=x*y/\x*y<=9409:=by
 constructor
 .exact rS D h
 .calc x*y<=97*y:=Ĥ F h
   _<=97*97:=Ĕ G Qu
   _<=9409:=Qu
def ņ p a n w(bd:2<=p)(be:p<=97)(a7:0<=a)(a8:a<=97)(bb:0<=n)(bc:n<128):az 226 (gT p a n) w fun e w'=>e=.returned (zI (Dq 7 p (1%p) a n))/\w=w':=by
 have a5:0<=1%p:=gV _ Qu;have a6:1%p<p:=gW _ Qu;have⟨R,I⟩:=aR (Dq 7 p (1%p) a n);rw[<-I];have Y:=zH I;clear I;go_enter func226,ntmps226
 go_wp2;go_loop [1,2,7] (fun x y z=>∃(f:Nat) (b m o:Int),x=.int .i64 b/\y=.int .i64 m/\z=.int .i64 o/\0<=b/\b<=97/\0<=o/\o<=97/\0<=m/\m<2 ^ f/\m<128/\R=Dq f p o b m) (fun _ y _=>(intOf y).toNat)
 case atStart=>exact⟨7,_,_,_,rfl,rfl,rfl,Qu,Qu,Qu,Qu,Qu,Qu,Qu,Y⟩
 case round=>
  obtain⟨f,b,m,o,rfl,rfl,rfl,J,O,ah,am,a9,Z,ba,ab⟩:=hrel;have⟨G,T⟩:=bJ ab Z;clear ab Z Y;by_cases H:0<m
  .have⟨ao,ap⟩:=ġ J O J O;have⟨av,a0⟩:=ġ ah am J O;have a1:0<=b*b%p:=gV _ Qu;have a2:b*b%p<p:=gW _ Qu;have a3:0<=o*b%p:=gV _ Qu;have a4:o*b%p<p:=gW _ Qu;have ad:∃D,f=D+1:=by
    cases f with
    |zero=>have:=T.o;simp at this;omega
    |succ f=>exact⟨f,rfl⟩
   obtain⟨D,rfl⟩:=ad;have U:=zH (show m / 2<2 ^ D by have:=T.o;rw[Int.pow_succ]at this;omega);by_cases h:m%2=1
   .have an:(m%2==1)=true:=by simp[h]
    have F:=zH h;clear h;go_wp2;go_round
    case rel=>exact⟨D,_,_,_,rfl,rfl,rfl,Qu,Qu,Qu,Qu,Qu,U,Qu,by rw[G.o,Dq,ak H,ak F.o]⟩
    case measure=>simp[intOf];omega
   .have an:(m%2==1)=false:=by simp[h]
    have F:=zH h;clear h;go_wp2;go_round
    case rel=>exact⟨D,_,_,_,rfl,rfl,rfl,Qu,Qu,Qu,Qu,Qu,U,Qu,by rw[G.o,Dq,ak H,aj F.o]⟩
    case measure=>simp[intOf];omega
  .have ac:=zH H;go_wp2;go_ret
   exact⟨rl (by rw[G.o];cases f with|zero=>rfl|succ f=>rw[Dq,aj (by have:=ac.o;omega)]),rfl⟩
def zcv p a w(h:bV p=true)(F:1<=a)(G:a<p):az 224 (bC p a) w fun e w'=>e=.returned (zI (lu p a))/\w=w':=by
 have⟨H,I⟩:=cv h;have D:=zH h;clear h;by_cases h2:p=2
 .have J:(p==2)=true:=QQ;have HI:=zH (by rw[<-Ý D F G,ϫ,ak h2]:Dq 7 p (1%p) a (p-2+1)=lu p a);clear h2;go_enter func224,ntmps224
  go_wp2_with (first|(go_at_call 227;refine(ŵ true _).x ?_;rintro e w' ⟨rfl,rfl⟩)|(go_at_call 226;refine(ņ p a _ _ H I Qu Qu Qu Qu).x ?_;rintro e w' ⟨rfl,rfl⟩))
  exact WX
 .have J:(p==2)=false:=QQ;have HI:=zH (by rw[<-Ý D F G,ϫ,aj h2,ux]:Dq 7 p (1%p) a (p-2)=lu p a);clear h2;go_enter func224,ntmps224
  go_wp2_with (first|(go_at_call 227;refine(ŵ false _).x ?_;rintro e w' ⟨rfl,rfl⟩)|(go_at_call 226;refine(ņ p a _ _ H I Qu Qu Qu Qu).x ?_;rintro e w' ⟨rfl,rfl⟩))
  exact WX
def zgD p a w(ah:2<=p)(am:p<=97)(O:0<=a)(Z:a<p):az 202 (bC p a) w fun e w'=>e=.returned (zI (lu p a))/\w=w':=by
 have⟨R,G⟩:=aR (lu p a);rw[<-G];have H:=zH G;clear G;go_enter func202,ntmps202
 go_wp2;go_loop [5] (fun x=>∃(f:Nat) (m:Int),x=.int .i64 m/\1<=m/\m<=p/\p-m<f/\R=õ f p a m) (fun x=>(p-intOf x).toNat)
 case atStart=>exact⟨97,1,rfl,Qu,Qu,Qu,H⟩
 case round=>
  obtain⟨f,m,rfl,ac,ad,ab,J⟩:=hrel;have D:=zH J;clear J H;have⟨U,Y⟩:=ġ O Qu (Qu:0<=m) Qu;obtain⟨F,rfl⟩:∃F,f=F+1:=⟨f-1,Qu⟩;by_cases I:m<p
  .by_cases h1:a*m%p=1
   .have T:(a*m%p==1)=true:=QP;have h:=zH h1;clear h1;go_wp2;go_ret
    exact⟨rl (by rw[D.o,õ,ak I,ak h.o]),rfl⟩
   .have T:(a*m%p==1)=false:=QP;have h:=zH h1;clear h1;go_wp2;go_round
    case rel=>exact⟨F,_,rfl,Qu,Qu,Qu,by rw[D.o,õ,ak I,aj h.o]⟩
    case measure=>simp[intOf];omega
  .go_wp2;go_ret
   exact⟨rl (by rw[D.o,õ,aj Qu]),rfl⟩
end
def ziS(n:Nat)w(U:n<=1048576)(J:0<n):az 98 (bK n) w fun e w'=>∃g c,e=.returned (.slice (bH g) n c)/\w'.ownsRow w 3 1 (.slice (bH g) n c) n ((List.replicate n (0:Int)).map (Value.int .i64))/\ag w w':=by
 refine(kO n w Qu).x fun e w' H=>?_
 obtain⟨u,D,F,G⟩:=H;have h:=F;unfold aE at h;rw[fA]at h;rcases h.2 with⟨rfl,O⟩|⟨g,c,I,rfl,T⟩
 .omega
 .exact⟨g,c,D,h,G⟩
def kg(n k:Nat):List Int:=(List.replicate n 0).set k 1
def kh n k:(kg n k).length=n:=by simp[kg]
def DP(n k:Nat)w(I:n<=1048576)(H:k<n):az 125 (bC n k) w fun e w'=>∃u,e=.returned u/\aE w' w u (kg n k)/\ag w w':=by
 go_enter func125,ntmps125
 go_wp2_with (go_at_call 98;refine(ziS n _ I Qu).x ?_;rintro e J ⟨g,c,rfl,h,D⟩;have O:af J g k (zI 0):=(by rw[h.C k Qu,bI,fI,ak H];rfl);have T:=h.g k;have G:=zH (h.j k (zI 1)).1;have F:=zH (D.setCell (p:=⟨g,k,none⟩) ((bS h g rfl).1) (zI 1)))
 go_ret
 refine⟨_,rfl,?_,F⟩;have:=G.o;rw[<-eW]at this;unfold aE;rw[kh];exact this
def υ(n:Nat):List Int:=(List.range n).map fun i:Nat=>(i:Int)
def dX n:(υ n).length=n:=by simp[υ]
def sM(h:k<n):(υ n)[k]?=some (k:Int):=by simp[υ,h]
def qu(n:Nat)w(T:n<=1048576):az 62 (bK n) w fun e w'=>∃u,e=.returned u/\aE w' w u (υ n)/\ag w w':=by
 go_enter func62,ntmps62
 go_wp2_with (go_at_call 98;refine(kO n _ Qu).x ?_;rintro e U ⟨u,rfl,h,G⟩;obtain⟨A,c,rfl,_⟩:=h.p;rw[fA]at h ⊢;have F:=zH h;have HB:=zH G)
 have h1:=F.o;unfold aE at h1;rw[fA,<-dX n,<-iP (υ n) (0:Int),dX]at h1;have D:=zH h1;go_loopw [4,9] (fun _ i wr=>∃k:Nat,k<=n/\i=.int .i64 k/\wr.ownsRow w 3 1 (.slice A n c) n ((eF (υ n) 0 k).map (Value.int .i64))/\ag w wr)
  (fun _ i _=>n-(intOf i).toNat)
 case atStart=>exact⟨0,aW _,rfl,D,HB⟩
 case round=>
  obtain⟨k,O,rfl,FT,H⟩:=hrel;by_cases FX:k<n
  .obtain⟨g,rfl⟩:∃g,A=some ⟨g,0,none⟩:=Xr;have I:af wr g k (zI 0):=Xg;have J:=FT.g k;have GW:=(FT.j k (zI k)).1;rw[<-eW,jq _ _ _ _ (sM FX)]at GW;have⟨HS,HB⟩:=bJ GW (H.setCell (p:=⟨g,k,none⟩) ((bS FT g rfl).1) (zI k));exact Yr
  .go_wp2;go_ret
   rw[jo _ _ _ Ru]at FT;exact⟨_,rfl,by unfold aE;rw[dX];exact FT,H⟩
def nA(v h:aL):List Int:=h.map fun i=>v.getD i.toNat 0
def DQ{v h}{i x}(hi:h[k]?=some i)(D:v[i.toNat]?=some x):(nA v h).take (k+1)=(nA v h).take k++[x]:=by rw[du];simp[nA,hi,D]
def zat v h k(D:k<=h.length):((nA v h).take k).length=k:=by simp[nA];omega
def zeF v A ε Mn F U w(J:aO w A v)(I:aO w F Mn)(ad:v.length<=1048576)(ac:Mn.length<=1048576)(T:∀i∈Mn,0<=i/\i<v.length):az 206 (mv A v ε F Mn U) w fun e w'=>∃u,e=.returned u/\aE w' w u (nA v Mn)/\ag w w':=by
 have⟨ab,hi,Y,Z,FU⟩:=dp gD;have⟨HV,HA,HL⟩:=er J I T;clear J I T;go_enter func206,ntmps206
 go_wp2_with ((at_make;refine wpList_make_own _ rfl _ _ 26 rfl w.heap.size 3 ab (zI 0) 1 dR hi Y Z .i64 .i64 _ Mn.length rfl rfl rfl RF SL (ae _) ?_;intro w1 D O))
 have⟨H,G⟩:=bJ (show aE w1 w (.slice (bH w) 0 Mn) [] from D) (cy O);clear D O;go_loopw [5,7,13] (fun u _ i wr=>∃k:Nat,k<=Mn.length/\i=.int .i64 k/\aE wr w u ((nA v Mn).take k)/\ag w wr)
  (fun _ _ i _=>Mn.length-(intOf i).toNat)
 case atStart=>exact⟨0,aW _,rfl,by simpa using H.o,G⟩
 case round=>
  obtain⟨k,hk,rfl,D,FW⟩:=hrel;have I5:=zH D;clear D H G
  by_cases FX:k<Mn.length
  .obtain⟨i,hi'⟩:=aq FX;obtain⟨hi1,hi2⟩:=HL.o i (aU hi');obtain⟨j,hj⟩:∃j:Nat,(j:Int)=i:=⟨i.toNat,by omega⟩;subst hj;have JT:j<v.length:=by omega
   obtain⟨x,hx⟩:=aq JT;obtain⟨b,o,rfl,hc⟩:=(HV.o.ext FW).θ JT;obtain⟨b2,o2,rfl,I4⟩:=(HA.o.ext FW).θ FX;have Mo:=hc _ _ hx;have Ms:=I4 _ _ hi';obtain⟨HS,Mp⟩:=bJ (DQ hi' (by simpa using hx)) (zat v Mn k hk);have Ge:=FW.size;clear hc I4 hx hi';go_wp2_with ((at_builtin;refine qm rfl _ _ rfl _ wr _ _ _ rfl rfl I5.o (by rw[Mp.o];omega) (by omega) ?_;intro u' w1 Ij _ Ik))
   go_roundw
   case rel=>exact⟨k+1,by omega,by go_num,by rw[HS.o];exact Ij,FW.t Ik⟩
   case measure=>simp[intOf];omega
  .go_wp2;go_ret
   exact⟨_,rfl,by have h:=I5.o;rwa[cZ (by simp[nA];omega)]at h,FW⟩
def zg5 p x y w(h:1<=p)(D:p<=1000)(F:0<=x)(G:x<p)(H:0<=y)(I:y<p):az 203 (gT p x y) w fun e w'=>e=.returned (zI ((x+p-y)%p))/\w=w':=by
 go_enter func203,ntmps203
 exact We
def zK(n:Nat):List (List Int):=(List.range n).map (kg n)
def ĵ n:(zK n).length=n:=by simp[zK]
def CQ(h:k<n):(zK n)[k]?=some (kg n k):=by simp[zK,h]
def BD(n:Nat)w(U:n<=1048576):az 212 (bK n) w fun e w'=>∃u,e=.returned u/\aY w' w u (zK n)/\ag w w':=by
 go_enter func212,ntmps212
 go_wp2;have⟨D,h⟩:=bJ (show aY (w.alloc (.cells #[] 26)) w (.slice (bH w) 0 0) [] from aY.empty (Db w #[] 0 (ae _) Qw rfl)) ((al w w).alloc (ae _) (.cells #[] 26));go_loopw [3,4,7] (fun u _ i wr=>∃k:Nat,k<=n/\i=.int .i64 k/\aY wr w u ((zK n).take k)/\ag w wr)
  (fun _ _ i _=>n-(intOf i).toNat)
 case atStart=>exact⟨0,aW _,rfl,D,h⟩
 case round=>
  obtain⟨k,ab,rfl,I,FW⟩:=hrel;have F:=zH I;clear I D h;by_cases H:k<n
  .have HT:=zH (by rw[du,CQ H];rfl:(zK n).take (k+1)=(zK n).take k++[kg n k]);have Y:=FW.size;have O:=zH (by simp[zK];omega:((zK n).take k).length+1<=1073741824);go_wp2_with (first|(go_at_call 125;refine(DP n k _ U H).x ?_;rintro e w' ⟨u2,rfl,J,T⟩;obtain⟨Z,c2,rfl,_⟩:=J.p)|(at_builtin;refine m7 rfl _ _ rfl w wr _ _ _ _ _ F T J O.o Y rfl rfl ?_;intro ac ad Ij Ik))
   exact YA
  .go_wp2;go_ret
   have G:=F.o;rw[cZ (by rw[ĵ];omega)]at G;exact⟨_,rfl,G,FW⟩
def ew:List Int->Nat
 |[]=>0
 |x::xs=>if x=0 then ew xs+1 else 0
def BE:∀(xs:aL),ew xs<=xs.length
 |[]=>ae _
 |x::xs=>by
  have:=BE xs;unfold ew;split
  .simp;omega
  .omega
def rn:∀{xs:aL} {k:Nat},k<ew xs->xs[k]?=some 0
 |[],k,h=>by simp[ew]at h
 |x::xs,k,h=>by
  unfold ew at h;split at h
  .rename_i D;cases k with
   |zero=>simp[D]
   |succ k=>simpa using rn (xs:=xs) (k:=k) Qu
  .omega
def wM:∀{xs:aL} {x:Int},xs[ew xs]?=some x->x≠0
 |[],x,h=>QO
 |y::ys,x,h=>by
  unfold ew at h;split at h
  .exact wM (xs:=ys) Q_
  .simp at h;subst h;assumption
def yw v A ε w(O:aO w A v)(ah:v.length<=1048576):az 201 (aV A v ε) w fun e w'=>e=.returned (zI (ew v))/\ag w w':=by
 have Z:=BE v;have⟨L,G⟩:=aR (ew v);rw[<-G]at Z ⊢;have⟨J,U⟩:=bJ G O;clear G O;go_enter func201,ntmps201
 go_wp2;go_loopw [3] (fun i wr=>∃k:Nat,k<=L/\i=.int .i64 k/\ag w wr) (fun i _=>L-(intOf i).toNat)
 case atStart=>exact⟨0,aW _,rfl,al _ _⟩
 case round=>
  obtain⟨k,ad,rfl,D⟩:=hrel;by_cases T:k<v.length
  .have⟨x,h⟩:=aq T;obtain⟨b,o,rfl,H⟩:=(U.ext D).θ T;have ac:=H _ _ h;by_cases Y:k<L
   .have h0:x=0:=by have:=rn (xs:=v) (k:=k) (by rw[<-J.o];exact Y);rw[h]at this;simpa using this
    subst h0;clear H h;go_wp2;go_roundw
    case rel=>exact⟨k+1,Qu,Qx,D⟩
    case measure=>simp[intOf];omega
   .have I:k=L:=Qu;have h0:x≠0:=wM (xs:=v) (by rw[<-J.o,<-I];exact h);have ab:(x==0)=false:=QL;have F:=zH I;clear H h I h0;go_wp2;go_ret
    rw[F.o];exact⟨rfl,D⟩
  .have F:=zH (Qu:k=L);go_wp2;go_ret
   rw[F.o];exact⟨rfl,D⟩
section
variable{p:Int}
def zbC:((List.range 98).all fun p=>(!bV (p:Nat))||(List.range p).all fun a=>decide (a=0)||(decide (((a:Int)*lu (p:Nat) (a:Nat))%(p:Nat)=1)&&(decide (1<=lu (p:Nat) (a:Nat))&&decide (lu (p:Nat) (a:Nat) < (p:Nat)))))=true:=Rq
def Ez{a}(F:bV p=true)(G:1<=a)(H:a<p):(a*lu p a)%p=1/\1<=lu p a/\lu p a<p:=by
 have I:=cv F;obtain⟨P,rfl⟩:=iz (Qu:0<=p);obtain⟨A,rfl⟩:=iz (Qu:0<=a);have D:=eD.1 zbC P (fj.2 Qu);rw[F]at D;simp only[Bool.not_true,Bool.false_or]at D;have h:=eD.1 D A (fj.2 Qu);simp only[jS,bN,cf]at h;rcases h with h|h
 .omega
 .exact h
def getD_some{h:Type}{l:List h}{x d}(D:l[i]?=some x):l.getD i d=x:=by rw[bf,D];rfl
def vY(s:Sy)(i c:Nat):Int:=(s.rows.getD i []).getD c 0
def yq(s:Sy)(c r:Nat):Nat:=r+((s.rows.drop r).takeWhile fun q=>q.getD c 0==0).length
def ļ{H:Type}f:∀(l:List H),(l.takeWhile f).length<=l/\(∀j x,j < (l.takeWhile f).length->l[j]?=some x->f x=true)/\(∀x,l[(l.takeWhile f).length]?=some x->f x=false)
 |[]=>⟨Qt,fun j x h=>QO,fun x h=>QO⟩
 |a::l=>by
  have⟨h1,I,J⟩:=ļ f l;by_cases F:f a=true
  .rw[List.takeWhile_cons_of_pos F];refine⟨Rp,fun j x G D=>?_,fun x D=>?_⟩
   .cases j with
    |zero=>simp at D;rw[<-D];exact F
    |succ j=>exact I j x (by simpa using G) (by simpa using D)
   .exact J x (by simpa using D)
  .rw[List.takeWhile_cons_of_neg F];refine⟨Qt,fun j x G=>by simp at G,fun x D=>?_⟩;simp at D;rw[<-D];simpa using F
def zdB s c r(O:r<=s.rows.length):r<=yq s c r/\yq s c r<=s.rows.length/\(∀j,r<=j->j<yq s c r->vY s j c=0)/\(yq s c r<s.rows.length->vY s (yq s c r) c≠0):=by
 have⟨D,F,G⟩:=ļ (fun q:List Int=>q.getD c 0==0) (s.rows.drop r);unfold yq;generalize ((s.rows.drop r).takeWhile fun q=>q.getD c 0==0).length=m at D F G;rw[fS]at D;refine⟨Qu,Qu,fun j I J=>?_,fun H=>?_⟩
 .have⟨q,h⟩:=aq (Qu:j<s.rows.length);have:=F (j-r) q Qu (by rw[fQ,show r+(j-r)=j by omega];exact h);unfold vY;rw[getD_some h];simpa using this
 .have⟨q,h⟩:=aq H;have:=G q (by rw[fQ];exact h);unfold vY;rw[getD_some h];simpa using this
def push(p:Int)(q:Sy×List j8)(x:j8):Sy×List j8:=(iQ p q.1 x,q.2++[x])
def zm5(p:Int)(a c:Nat)(iv:Int)(s:Sy)(i:Nat):j8:=⟨3,a,i,(-(vY s i c*iv))%p,[]⟩
def clr(p:Int)(a c:Nat)(iv:Int):Nat->Sy×List j8->Sy×List j8
 |0,q=>q
 |i+1,q=>if i≠a/\vY (clr p a c iv i q).1 i c≠0 then push p (clr p a c iv i q) (zm5 p a c iv (clr p a c iv i q).1 i) else clr p a c iv i q
def tI{f}(G:xs.length=ys)(h:d<xs.length):(dw p f xs ys).getD d 0=(xs.getD d 0+f*ys.getD d 0)%p:=by unfold dw;have⟨x,D⟩:=aq h;have⟨y,F⟩:=aq (Qu:d<ys.length);rw[bf,ģ,bf,bf,D,F];rfl
def ok1{s}{a}(h:a<s.rows.length)(D:b<s.rows.length)(F:a≠b):vO p s ⟨1,a,b,0,[]⟩=true:=by simp[vO,nR,pB,dx];omega
end
section
variable{N:Nat}{p:Int}
def eM(M:aP)(i d:Nat):Int:=(M.getD i []).getD d 0
def eV(p:Int)(N n:Nat)(M:aP):Prop:=M.length=N/\(∀i,i<N->(M.getD i []).length=n)/\∀i d,i<N->d<n->0<=eM M i d/\eM M i d<p
def ō{a}{r}(D:a<M.length):(M.set a r).getD i []=if i=a then r else M.getD i []:=by
 rw[bf,pV];by_cases h:a=i
 .subst h;rw[ak rfl,ak D,ak rfl];rfl
 .rw[aj h,aj (k_ h),bf]
def Em{a}{r}(h:a<M.length):eM (M.set a r) i d=if i=a then r.getD d 0 else eM M i d:=by unfold eM;rw[ō h];split<;>rfl
def En{f}(h:d<xs.length):(kq p f xs).getD d 0=xs.getD d 0*f%p:=by unfold kq;have⟨x,D⟩:=aq h;rw[bf,bI,bf,D];rfl
def eV.set{a}{r}(h:eV p N n M)(G:a<N)(I:r.length=n)(H:∀d,d<n->0<=r.getD d 0/\r.getD d 0<p):eV p N n (M.set a r):=by
 have D:a<M.length:=by rw[h.1];exact G
 refine⟨by rw[iW];exact h.1,fun i hi=>?_,fun i d hi F=>?_⟩
 .rw[ō D];split
  .exact I
  .exact h.2.1 i hi
 .rw[Em D];split
  .exact H d F
  .exact h.2.2 i d hi F
def Bm(M:aP)(a b:Nat):List (List Int):=(M.set a (M.getD b [])).set b (M.getD a [])
def Μ(p f:Int)(M:aP)(r:Nat):List (List Int):=M.set r (kq p f (M.getD r []))
def iu(p:Int)(r c:Nat):Nat->List (List Int)×List (List Int)->List (List Int)×List (List Int)
 |0,q=>q
 |i+1,q=>if i≠r/\eM (iu p r c i q).1 i c≠0 then
   ((iu p r c i q).1.set i (dw p (-(eM (iu p r c i q).1 i c)) ((iu p r c i q).1.getD i []) ((iu p r c i q).1.getD r [])),
    (iu p r c i q).2.set i (dw p (-(eM (iu p r c i q).1 i c)) ((iu p r c i q).2.getD i []) ((iu p r c i q).2.getD r [])))
  else iu p r c i q
def sx(p:Int)(r k c:Nat)(q:List (List Int)×List (List Int)):List (List Int)×List (List Int):=
 iu p r c q.1 (Μ p (lu p (eM (Bm q.1 r k) r c)) (Bm q.1 r k) r,Μ p (lu p (eM (Bm q.1 r k) r c)) (Bm q.2 r k) r)
def wu(h:eV p N n M)(G:r<N)(F:k<N):eV p N n (Bm M r k):=(h.set G (h.2.1 k F) (fun d D=>h.2.2 k d F D)).set F (h.2.1 r G) (fun d D=>h.2.2 r d G D)
def vD(F:eV p N n M)(H:r<N)(G:k<N):eM (Bm M r k) i d=eM M (mF r k i) d:=by
 unfold Bm;rw[Em (by rw[iW,F.1];exact G),Em (by rw[F.1];exact H)];unfold mF;by_cases D:i=k
 .subst D;rw[ak rfl];by_cases h:i=r
  .subst h;rw[ak rfl];rfl
  .rw[aj h,ak rfl];rfl
 .rw[aj D];by_cases h:i=r
  .rw[ak h,ak h];rfl
  .rw[aj h,aj h,aj D]
def wv{f}(G:2<=p)(h:eV p N n M)(D:r<N):eV p N n (Μ p f M r):=by refine h.set D (by rw[kq,bs];exact h.2.1 r D) (fun d F=>?_);rw[En (by rw[h.2.1 r D];exact F)];exact Wj
def ò{f}(h:eV p N n M)(D:r<N)(F:d<n):eM (Μ p f M r) i d=if i=r then eM M r d*f%p else eM M i d:=by
 unfold Μ;rw[Em (by rw[h.1];exact D)];split
 .rw[En (by rw[h.2.1 r D];exact F)];rfl
 .rfl
structure zm0(p:Int)(N n n2 r c:Nat)(q z:List (List Int)×List (List Int))(i:Nat):Prop where
 s1:eV p N n z.1
 s2:eV p N n2 z.2
 e1:∀j d,j<N->d<n->eM z.1 j d=if j<i/\j≠r then(eM q.1 j d-eM q.1 j c*eM q.1 r d)%p else eM q.1 j d
 e2:∀j d,j<N->d<n2->eM z.2 j d=if j<i/\j≠r then(eM q.2 j d-eM q.1 j c*eM q.2 r d)%p else eM q.2 j d
def CJ{f}(I:2<=p)(h:eV p N n M)(hi:i<N)(G:r<N):eV p N n (M.set i (dw p f (M.getD i []) (M.getD r [])))/\∀j d,d<n->eM (M.set i (dw p f (M.getD i []) (M.getD r []))) j d=if j=i then(eM M i d+f*eM M r d)%p else eM M j d:=by
 have H:(M.getD i []).length=(M.getD r []):=by rw[h.2.1 i hi,h.2.1 r G]
 have F:∀d,d<n->(dw p f (M.getD i []) (M.getD r [])).getD d 0=(eM M i d+f*eM M r d)%p:=fun d D=>tI H (by rw[h.2.1 i hi];exact D)
 refine⟨h.set hi (by rw[mD,h.2.1 i hi,h.2.1 r G];omega) (fun d D=>?_),fun j d D=>?_⟩
 .rw[F d D];exact Wj
 .rw[Em (by rw[h.1];exact hi)];split
  .exact F d D
  .rfl
def Eo{p}{N n n2 r c}{q}(H:2<=p)(J:eV p N n q.1)(O:eV p N n2 q.2)(F:r<N)(T:c<n):∀i,i<=N->zm0 p N n n2 r c q (iu p r c i q) i
 |0,_=>⟨J,O,fun j d _ _=>by rw[aj Qu];rfl,fun j d _ _=>by rw[aj Qu];rfl⟩
 |i+1,hi=>by
  have ih:=Eo H J O F T i Qu;have⟨z,am⟩:=aR (iu p r c i q);unfold iu;rw[<-am]at ih ⊢;have I:eM z.1 i c=eM q.1 i c:=by rw[ih.e1 i c Qu T,aj Qu]
  have ad:∀d,d<n->eM z.1 r d=eM q.1 r d:=fun d h=>by rw[ih.e1 r d F h,aj Qu]
  have ah:∀d,d<n2->eM z.2 r d=eM q.2 r d:=fun d h=>by rw[ih.e2 r d F h,aj Qu]
  split
  .rename_i G;have⟨U,Y⟩:=CJ (f:=-(eM z.1 i c)) H ih.s1 (Qu:i<N) F;have⟨Z,ab⟩:=CJ (f:=-(eM z.1 i c)) H ih.s2 (Qu:i<N) F;refine⟨U,Z,fun j d D h=>?_,fun j d D h=>?_⟩
   .rw[Y j d h];by_cases e:j=i
    .subst e;rw[ak rfl,ak ⟨Qu,G.1⟩,ih.e1 j d D h,aj Qu,ad d h,I,Int.neg_mul,<-Int.sub_eq_add_neg]
    .rw[aj e,ih.e1 j d D h];exact XH
   .rw[ab j d h];by_cases e:j=i
    .subst e;rw[ak rfl,ak ⟨Qu,G.1⟩,ih.e2 j d D h,aj Qu,ah d h,I,Int.neg_mul,<-Int.sub_eq_add_neg]
    .rw[aj e,ih.e2 j d D h];exact XH
  .rename_i G;have h0:i≠r->eM q.1 i c=0:=fun F0=>by rw[<-I];exact AD fun ac=>G ⟨F0,ac⟩
   refine⟨ih.s1,ih.s2,fun j d D h=>?_,fun j d D h=>?_⟩
   .rw[ih.e1 j d D h];by_cases e:j=i
    .subst e;rw[aj Qu];by_cases F0:j=r
     .rw[aj Qu]
     .have:=J.2.2 j d D h;exact WC
    .exact XH
   .rw[ih.e2 j d D h];by_cases e:j=i
    .subst e;rw[aj Qu];by_cases F0:j=r
     .rw[aj Qu]
     .have:=O.2.2 j d D h;exact WC
    .exact XH
def zlG{q}(J:2<=p)(F:eV p N n q.1)(I:eV p N n2 q.2)(h:r<N)(D:k<N)(O:c<n):eV p N n (sx p r k c q).1/\eV p N n2 (sx p r k c q).2/\(∀i d,i<N->d<n->eM (sx p r k c q).1 i d=jZ p r k c (lu p (eM q.1 k c)) (eM q.1) (eM q.1) i d)/\(∀i d,i<N->d<n2->eM (sx p r k c q).2 i d=jZ p r k c (lu p (eM q.1 k c)) (eM q.1) (eM q.2) i d):=by
 have U:eM (Bm q.1 r k) r c=eM q.1 k c:=by rw[vD F h D,m8]
 have H:=wu F h D;have T:=wu I h D;have z:=Eo (r:=r) (c:=c) (q:=(Μ p (lu p (eM q.1 k c)) (Bm q.1 r k) r,Μ p (lu p (eM q.1 k c)) (Bm q.2 r k) r)) J (wv J H h) (wv J T h) h O N (ae _);unfold sx;rw[U,F.1];refine⟨z.s1,z.s2,fun i d hi G=>?_,fun i d hi G=>?_⟩
 .rw[z.e1 i d hi G];dsimp only;rw[ò H h G,ò H h O,ò H h G];unfold jZ;by_cases e:i=r
  .subst e;rw[aj Qu,ak rfl,ak rfl,vD F h D,m8]
  .rw[ak ⟨hi,e⟩,aj e,aj e,aj e,ak rfl,vD F h D,vD F h D,vD F h D,m8]
 .rw[z.e2 i d hi G];dsimp only;rw[ò T h G,ò H h O,ò T h G];unfold jZ;by_cases e:i=r
  .subst e;rw[aj Qu,ak rfl,ak rfl,vD I h D,m8]
  .rw[ak ⟨hi,e⟩,aj e,aj e,aj e,ak rfl,vD F h D,vD I h D,vD I h D,m8]
end
section
variable{N:Nat}
def lI(a p:Int):p∣a%p-a:=⟨-(a / p),by rw[AL];have:=Int.emod_add_mul_ediv a p;omega⟩
section
variable{p:Int}{r k c:Nat}{iv:Int}{M X:Nat->Nat->Int}
def BI d:pg p r k iv (fun i=>M i c) (fun i=>X i d) (fun i=>jZ p r k c iv M X i d):=by
 have h:jZ p r k c iv M X r d=X k d*iv%p:=by unfold jZ;rw[ak rfl]
 refine⟨?_,fun i hi=>?_⟩
 .try dsimp only
  rw[h];exact lI _ _
 .try dsimp only
  rw[h];unfold jZ;rw[aj hi];exact lI _ _
def pg.add{g h F D}(a:pg p r k iv g f h)(b:pg p r k iv g F D):pg p r k iv g (fun i=>f i+F i) (fun i=>h i+D i):=by
 refine⟨?_,fun i hi=>?_⟩
 .have:=ir a.Ë b.Ë;try dsimp only
  rwa[show h r-f k*iv+(D r-F k*iv)=h r+D r-(f k+F k)*iv by rw[Int.add_mul];omega]at this
 .have:=ir (a.oth i hi) (b.oth i hi);try dsimp only
  rwa[show h i-(f (mF r k i)-g (mF r k i)*h r)+(D i-(F (mF r k i)-g (mF r k i)*D r))=h i+D i-(f (mF r k i)+F (mF r k i)-g (mF r k i)*(h r+D r)) by rw[Aq];omega]at this
def pg.mul{g h}(a:pg p r k iv g f h)x:pg p r k iv g (fun i=>f i*x) (fun i=>h i*x):=by
 refine⟨?_,fun i hi=>?_⟩
 .have:=kH a.Ë (⟨x,rfl⟩:h r-f k*iv∣(h r-f k*iv)*x);try dsimp only
  rwa[mz,Int.mul_right_comm]at this
 .have:=kH (a.oth i hi) (⟨x,rfl⟩:h i-(f (mF r k i)-g (mF r k i)*h r)∣(h i-(f (mF r k i)-g (mF r k i)*h r))*x);try dsimp only
  rwa[mz,mz,rW (g (mF r k i))]at this
def pg.zero g:pg p r k iv g (fun _=>0) (fun _=>0):=⟨⟨0,Qt⟩,fun i _=>⟨0,Qt⟩⟩
def wQ(x:Nat->Int):∀(n:Nat),pg p r k iv (fun i=>M i c) (fun i=>bW (fun d=>X i d*x d) n) (fun i=>bW (fun d=>jZ p r k c iv M X i d*x d) n)
 |0=>pg.zero _
 |n+1=>(wQ x n).add ((BI n).mul (x n))
def zjL(F:r<N)(D:k<N)(G:p∣M k c*iv-1)(x:Nat->Int):(∀i,i<N->p∣bW (fun d=>X i d*x d) n)↔(∀i,i<N->p∣bW (fun d=>jZ p r k c iv M X i d*x d) n):=⟨fun h=>(wQ x n).all F D h,fun h=>(wQ x n).back F D G h⟩
def zjM{h:Nat->Nat->Int}(H:r<N)(G:k<N)(D:∀i,i<N->∀d,d<n->p∣M i d-bW (fun j=>X i j*h j d) n2):∀i,i<N->∀d,d<n->p∣jZ p r k c iv M M i d-bW (fun j=>jZ p r k c iv M X i j*h j d) n2:=by
 intro i hi d F;have L:=(BI (p:=p) (r:=r) (k:=k) (c:=c) (iv:=iv) (M:=M) (X:=M) d).add ((wQ (p:=p) (r:=r) (k:=k) (c:=c) (iv:=iv) (M:=M) (X:=X) (fun j=>h j d) n2).mul (-1));have:=L.all H G (fun i hi=>by
  have:=D i hi d F;try dsimp only
  rwa[show M i d+bW (fun j=>X i j*h j d) n2 * -1=M i d-bW (fun j=>X i j*h j d) n2 by omega]) i hi
 try dsimp only at this
 rwa[show jZ p r k c iv M M i d+bW (fun j=>jZ p r k c iv M X i j*h j d) n2 * -1=jZ p r k c iv M M i d-bW (fun j=>jZ p r k c iv M X i j*h j d) n2 by omega]at this
end
def rq(a:Nat->Int){k}(h:k<n):bW (fun i=>if i=k then a i else 0) n=a k:=by rw[iC h (fun c _ D=>aj D),ak rfl]
def zjN f{r k}(H:r<N)(G:k<N):bW (fun i=>f (mF r k i)) N=bW f N:=by
 by_cases F:r=k
 .subst F;exact bF fun c _=>by unfold mF;split<;>(try split)<;>simp_all
 .have e:∀i,i<N->f (mF r k i)=f i+((if i=r then f k-f r else 0)+(if i=k then f r-f k else 0)):=fun i _=>by
   unfold mF;by_cases h:i=r
   .subst h;rw[ak rfl,ak rfl,aj F];omega
   .by_cases D:i=k
    .subst D;rw[aj h,ak rfl,aj h,ak rfl];omega
    .rw[aj h,aj D,aj h,aj D];omega
  rw[bF e,kI,kI,rq (fun _=>f k-f r) H,rq (fun _=>f r-f k) G];omega
def zjO{p}{r k c}{iv}{M X}(H:r<N)(ab:k<N)(Y:p∣M k c*iv-1)(I:∀x:Nat->Int,∃y:Nat->Int,∀j,j<n2->p∣x j-bW (fun i=>y i*X i j) N):∀x:Nat->Int,∃y:Nat->Int,∀j,j<n2->p∣x j-bW (fun i=>y i*jZ p r k c iv M X i j) N:=by
 intro x;obtain⟨y,ac⟩:=I x;have⟨S,U⟩:=aR (bW (fun i=>if i=r then 0 else y (mF r k i)*M (mF r k i) c) N);refine⟨fun i=>if i=r then M k c*y k+S else y (mF r k i),fun j Z=>?_⟩;have L:=BI (p:=p) (r:=r) (k:=k) (c:=c) (iv:=iv) (M:=M) (X:=X) j;obtain⟨h,G⟩:∃h:Nat->Int,h=fun i=>jZ p r k c iv M X i j:=⟨_,rfl⟩
 have F:pg p r k iv (fun i=>M i c) (fun i=>X i j) h:=by rw[G];exact L
 have T:∀i,jZ p r k c iv M X i j=h i:=fun i=>by rw[G]
 -- the Î combination, term by term
 have t1:∀i,i<N->p∣(if i=r then M k c*y k+S else y (mF r k i))*h i-(y (mF r k i)*X (mF r k i) j+((if i=r then S*h r else 0) + -1*((if i=r then 0 else y (mF r k i)*M (mF r k i) c)*h r))):=by
  intro i hi;by_cases e:i=r
  .subst e;rw[ak rfl,ak rfl,ak rfl,m8];have D:=kH F.Ë (⟨M k c*y k,rfl⟩:h i-X k j*iv∣(h i-X k j*iv)*(M k c*y k));have J:=kH Y (⟨X k j*y k,rfl⟩:M k c*iv-1∣(M k c*iv-1)*(X k j*y k));have O:=ir D J;rwa[show(h i-X k j*iv)*(M k c*y k)+(M k c*iv-1)*(X k j*y k)=(M k c*y k+S)*h i-(y k*X k j+(S*h i + -1*(0*h i))) from by grind]at O
  .rw[aj e,aj e,aj e];have D:=kH (F.oth i e) (⟨y (mF r k i),rfl⟩:h i-(X (mF r k i) j-M (mF r k i) c*h r)∣(h i-(X (mF r k i) j-M (mF r k i) c*h r))*y (mF r k i));rwa[show(h i-(X (mF r k i) j-M (mF r k i) c*h r))*y (mF r k i)=y (mF r k i)*h i-(y (mF r k i)*X (mF r k i) j+(0 + -1*(y (mF r k i)*M (mF r k i) c*h r))) from by grind]at D
 have t2:=eN t1;rw[kI,kI,rq (fun _=>S*h r) H,lH,mX,<-U,zjN (fun i=>y i*X i j) H ab]at t2;have t3:=eY (ac j Z) t2;rw[show bW (fun i=>(if i=r then M k c*y k+S else y (mF r k i))*jZ p r k c iv M X i j) N=bW (fun i=>(if i=r then M k c*y k+S else y (mF r k i))*h i) N from bF fun i _=>by rw[T]];rwa[show ∀a b d e:Int,a-b-(d-(b+(e + -1*e)))=a-d from fun a b d e=>Qu]at t3
end
section
variable{N:Nat}{p:Int}
def py(M:aP)(c r:Nat):Nat:=yq ⟨0,0,M⟩ c r
def Bk M c r(h:r<=M.length):r<=py M c r/\py M c r<=M.length/\(∀j,r<=j->j<py M c r->eM M j c=0)/\(py M c r<M.length->eM M (py M c r) c≠0):=zdB ⟨0,0,M⟩ c r h
def pc(p:Int):Nat->Nat->Nat×(List (List Int)×List (List Int))->Nat×(List (List Int)×List (List Int))
 |0,_,z=>z
 |m+1,c,z=>if z.1<z.2.1.length then pc p m (c+1) (if py z.2.1 c z.1=z.2.1.length then z else(z.1+1,sx p z.1 (py z.2.1 c z.1) c z.2)) else z
def ze2{A B}{l}(h:FG p n N A r c l)(e:∀i d,i<N->d<n->B i d=A i d):FG p n N B r c l:=
 ⟨fun i d hi D=>by rw[e i d hi D];exact h.bd i d hi D,h.rN,h.cn,h.lt,h.Ν,
  fun i hi=>by have:=h.lt i hi;have:=h.cn;have:=h.rN;rw[e i _ Qu Qu];exact h.ψ i hi,
  fun i d hi D=>by have:=h.lt i hi;have:=h.cn;have:=h.rN;rw[e i d Qu Qu];exact h.À i d hi D,
  fun i j hi F H=>by have:=h.lt i hi;have:=h.cn;rw[e j _ F Qu];exact h.Å i j hi F H,
  fun j d F G D=>by have:=h.cn;rw[e j d G Qu];exact h.z j d F G D⟩
structure Bl(p:Int)(N n n2:Nat)(M0 X0:aP)(c:Nat)(z:Nat×(List (List Int)×List (List Int))):Prop where
 s1:eV p N n z.2.1
 s2:eV p N n2 z.2.2
 inv:∃l,FG p n N (eM z.2.1) z.1 c l
 ann:∀x:Nat->Int,(∀i,i<N->p∣bW (fun d=>eM M0 i d*x d) n)↔(∀i,i<N->p∣bW (fun d=>eM z.2.1 i d*x d) n)
 mul:∀G:Nat->Nat->Int,(∀i,i<N->∀d,d<n->p∣eM M0 i d-bW (fun j=>eM X0 i j*G j d) n2)->∀i,i<N->∀d,d<n->p∣eM z.2.1 i d-bW (fun j=>eM z.2.2 i j*G j d) n2
 all:(∀x:Nat->Int,∃y:Nat->Int,∀j,j<n2->p∣x j-bW (fun i=>y i*eM X0 i j) N)->∀x:Nat->Int,∃y:Nat->Int,∀j,j<n2->p∣x j-bW (fun i=>y i*eM z.2.2 i j) N
def ze3{X}(D:eV p N n M)(F:eV p N n2 X):Bl p N n n2 M X 0 (0,(M,X)):=⟨D,F,⟨_,zfh D.2.2⟩,fun _=>Iff.rfl,fun _ h=>h,fun h=>h⟩
def zhn{T U}{z}(ap:bV p=true)(Z:2<=p)(h:Bl p N n n2 T U c z)(H:c<n):Bl p N n n2 T U (c+1) (if py z.2.1 c z.1=z.2.1.length then z else(z.1+1,sx p z.1 (py z.2.1 c z.1) c z.2)):=by
 obtain⟨l,hi⟩:=h.inv;have a0:=h.s1.1;have⟨f1,f2,f3,f4⟩:=Bk z.2.1 c z.1 (by rw[a0];exact hi.rN);have⟨k,av⟩:=aR (py z.2.1 c z.1);rw[<-av]at f1 f2 f3 f4 ⊢;split
 .rename_i e;exact⟨h.s1,h.s2,⟨l,zhL hi H (fun j ah a2=>f3 j ah Qu)⟩,h.ann,h.mul,h.all⟩
 .rename_i e;have F:k<N:=Qu;have J:z.1<N:=Qu;have ao:=h.s1.2.2 k c F H;have a3:=f4 Qu;have⟨ac,_,_⟩:=Ez ap (Qu:1<=eM z.2.1 k c) ao.2;have ab:p∣eM z.2.1 k c*lu p (eM z.2.1 k c)-1:=by have:=lI (eM z.2.1 k c*lu p (eM z.2.1 k c)) p;rw[ac]at this;have:=xl.2 this;rwa[show -(1-eM z.2.1 k c*lu p (eM z.2.1 k c))=eM z.2.1 k c*lu p (eM z.2.1 k c)-1 by omega]at this
  have⟨c1,c2,G,Y⟩:=zlG (r:=z.1) (k:=k) (c:=c) Z h.s1 h.s2 J F H;refine⟨c1,c2,⟨_,ze2 (zhM Z hi H f1 F ac) G⟩,fun x=>?_,fun ad an=>?_,fun am=>?_⟩
  .refine(h.ann x).t ((zjL J F ab x).t ⟨fun O i hi'=>?_,fun O i hi'=>?_⟩)
   .have:=O i hi';rwa[bF (fun d D=>by rw[<-G i d hi' D])]at this
   .have:=O i hi';dsimp only at this;rwa[bF (fun d D=>by rw[G i d hi' D])]at this
  .intro i hi' d D;have:=zjM (c:=c) (iv:=lu p (eM z.2.1 k c)) J F (h.mul ad an) i hi' d D;dsimp only;rw[G i d hi' D,bF (fun j I=>by rw[Y i j hi' I])];exact this
  .intro x;have⟨y,a1⟩:=zjO (c:=c) (iv:=lu p (eM z.2.1 k c)) J F ab (h.all am) x;refine⟨y,fun j I=>?_⟩;have:=a1 j I;dsimp only;rw[bF (fun i hi'=>by rw[Y i j hi' I])];exact this
def zdn{p}{N n n2}{D F}(I:bV p=true)(H:2<=p):∀(m c:Nat) (z:Nat×(List (List Int)×List (List Int))),Bl p N n n2 D F c z->c+m=n->∃G,Bl p N n n2 D F G (pc p m c z)/\(G=n∨(pc p m c z).1=N)
 |0,c,z,h,J=>⟨c,h,ay J⟩
 |m+1,c,z,h,J=>by
  unfold pc;split
  .exact zdn I H m (c+1) _ (zhn I H h Qu) Qu
  .rename_i O;obtain⟨l,hi⟩:=h.inv;have:=hi.rN;have:=h.s1.1;exact⟨c,h,au Qu⟩
def gY(p:Int)(n:Nat)(M X:aP):Nat×(List (List Int)×List (List Int)):=pc p n 0 (0,(M,X))
def nN{X}(G:bV p=true)(D:2<=p)(H:eV p N n M)(I:eV p N n2 X):∃c l,Bl p N n n2 M X c (gY p n M X)/\(gY p n M X).1<=N/\mi p n (gY p n M X).1 (eM (gY p n M X).2.1) l/\∀i,(gY p n M X).1<=i->i<N->∀d,d<n->eM (gY p n M X).2.1 i d=0:=by have⟨c,h,F⟩:=zdn G D n 0 (0,(M,X)) (ze3 H I) Qu;obtain⟨l,hi⟩:=h.inv;exact⟨c,l,h,hi.rN,zjy hi,zhN hi F⟩
end
section
variable{N:Nat}{p:Int}
def yH p N:eV p N 0 (List.replicate N []):=⟨fA,fun i hi=>by rw[bf,fI,ak hi];rfl,fun i d _ h=>Qu⟩
def ę(hi:i<r):eM (M.take r) i d=eM M i d:=by unfold eM;rw[bf (l:=M.take r),iM,ak hi,bf (l:=M)]
def eV.take(h:eV p N n M)(F:r<=N):eV p r n (M.take r):=by
 refine⟨by rw[cQ,h.1];omega,fun i hi=>?_,fun i d hi D=>?_⟩
 .rw[bf,iM,ak hi,<-bf];exact h.2.1 i Qu
 .rw[ę hi];exact h.2.2 i d Qu D
def zkd{A B}(h:eV p r n A)(D:eV p r n B)(J:∀i,i<r->∀d,d<n->eM A i d=eM B i d):A=B:=by
 apply gk;intro i;by_cases hi:i<r
 .have⟨a,F⟩:=aq (by rw[h.1];exact hi:i<A.length);have⟨b,G⟩:=aq (by rw[D.1];exact hi:i<B.length);have la:=h.2.1 i hi;have lb:=D.2.1 i hi;rw[bf,F]at la;rw[bf,G]at lb;rw[F,G];have:a=b:=by
   apply gk;intro d;by_cases O:d<n
   .have e:=J i hi d O;unfold eM at e;rw[bf (l:=A),F,bf (l:=B),G]at e;have⟨x,H⟩:=aq (show d<a.length by simpa using(by have:a.length=n:=la;omega:d<a.length));have⟨y,I⟩:=aq (show d<b.length by simpa using(by have:b.length=n:=lb;omega:d<b.length));simp only[xd,bf,H,I]at e;rw[H,I,e]
   .rw[eP (by have:a.length=n:=la;omega),eP (by have:b.length=n:=lb;omega)]
  rw[this]
 .rw[eP (by rw[h.1];omega),eP (by rw[D.1];omega)]
def j5(p:Int)(n:Nat)(M:aP):List (List Int):=(gY p n M (List.replicate M [])).2.1.take (gY p n M (List.replicate M [])).1
def kM(Y:bV p=true)(U:2<=p)(s:eV p N n M):∃r l,r<=N/\eV p r n (j5 p n M)/\mi p n r (eM (j5 p n M)) l/\∀x:Nat->Int,(∀i,i<N->p∣bW (fun d=>eM M i d*x d) n)↔Cz p n r (eM (j5 p n M)) x:=by
 obtain⟨c,l,e,G,h,I⟩:=nN (n2:=0) Y U s (by have:=yH p N;rwa[<-s.1]at this ⊢);unfold j5;rw[<-s.1]at G I ⊢;have⟨z,ac⟩:=aR (gY p n M (List.replicate M []));rw[<-ac]at e G h I ⊢;have D:∀i d,i<z.1->eM (z.2.1.take z.1) i d=eM z.2.1 i d:=fun i d hi=>ę hi
 have T:=e.s1;rw[<-s.1]at T;refine⟨z.1,l,G,T.take G,⟨fun i d hi F=>by rw[D i d hi];exact h.bd i d hi F,h.ln,h.Ν,fun i hi=>by rw[D i _ hi];exact h.ψ i hi,fun i d hi F=>by rw[D i d hi];exact h.À i d hi F,fun i j hi Z ab=>by rw[D i _ hi];exact h.Å i j hi Z ab⟩,fun x=>?_⟩;have J:=e.ann x;rw[<-s.1]at J;refine J.t ⟨fun H i hi=>?_,fun H i hi=>?_⟩
 .rw[bF (fun d _=>by rw[D i d hi])];exact H i Qu
 .by_cases O:i<z.1
  .have:=H i O;rwa[bF (fun d _=>by rw[D i d O])]at this
  .rw[gQ fun d F=>by rw[I i Qu hi d F,np]];exact⟨0,Qt⟩
end
section
variable{N:Nat}{p:Int}
def Λ(M:aP)(n:Nat):List (List Int):=(List.range n).map fun j=>M.map fun r=>r.getD j 0
def zkY(h:j<n):eM (Λ M n) j i=eM M i j:=by unfold eM Λ;rw[bf (l:=List.map _ _),bI,iy h];simp only[ox,xd,bf,bI];cases M[i]?<;>simp
def Ī(h:eV p N n M):eV p n N (Λ M n):=by
 refine⟨by simp[Λ],fun i hi=>?_,fun i d hi D=>?_⟩
 .unfold Λ;rw[bf,bI,iy hi];simp[h.1]
 .rw[zkY hi];exact h.2.2 d i D hi
def yF(hi:i<n)(D:j<n):eM (zK n) i j=if j=i then 1 else 0:=by
 unfold eM;rw[bf (l:=zK n),CQ hi]
 show(kg n i).getD j 0=_
 unfold kg;rw[bf,pV];by_cases h:i=j
 .subst h;rw[ak rfl,ak (by simpa using hi),ak rfl];rfl
 .rw[aj h,aj (k_ h),fI,ak D];rfl
def yG(D:2<=p):eV p n n (zK n):=by
 refine⟨ĵ n,fun i hi=>?_,fun i d hi h=>?_⟩
 .rw[bf,CQ hi];exact kh n i
 .rw[yF hi h];split<;>omega
def ħ M r i d:eM (M.drop r) i d=eM M (r+i) d:=by unfold eM;rw[bf (l:=M.drop r),fQ,<-bf]
def eV.drop(h:eV p N n M)(F:r<=N):eV p (N-r) n (M.drop r):=by
 refine⟨by rw[fS,h.1],fun i hi=>?_,fun i d hi D=>?_⟩
 .rw[bf,fQ,<-bf];exact h.2.1 (r+i) Qu
 .rw[ħ];exact h.2.2 (r+i) d Qu D
def á(p:Int)(n:Nat)(M:aP):List (List Int):=(gY p n M (zK M)).2.2.drop (gY p n M (zK M)).1
def qN(p:Int)(n:Nat)(M:aP):List (List Int):=j5 p M (á p n M)
def vX(U:bV p=true)(I:2<=p)(s:eV p N n M):∃D,D<=N/\eV p D N (á p n M)/\∀y:Nat->Int,(∀i,i<D->p∣bW (fun d=>eM (á p n M) i d*y d) N)↔(∀x:Nat->Int,(∀c,c<n->p∣bW (fun k=>x k*eM M k c) N)->p∣bW (fun k=>x k*y k) N):=by
 have hid:=yG (n:=N) I;have⟨c,l,e,H,J,O⟩:=nN (n2:=N) U I s hid;unfold á;rw[s.1];have⟨z,Z⟩:=aR (gY p n M (zK N));rw[<-Z]at e H J O ⊢;have Y:=e.mul (eM M) (fun i hi d ah=>by rw[iC hi (fun j h G=>by rw[yF hi h,aj G,np]),yF hi hi,ak rfl];exact⟨0,Qu⟩)
 have T:=e.all (fun x=>⟨x,fun j h=>by rw[iC h (fun i hi G=>by rw[yF hi h,aj (k_ G),jh]),yF h h,ak rfl];exact⟨0,Qu⟩⟩)
 refine⟨N-z.1,Qu,e.s2.drop H,fun y=>?_⟩;have ab:=zdt H J O Y T y;refine Iff.t ⟨fun F i ac ad=>?_,fun F i hi=>?_⟩ ab
 .have:=F (i-z.1) Qu;rwa[bF (fun d _=>by rw[ħ,show z.1+(i-z.1)=i by omega])]at this
 .rw[bF (fun d _=>by rw[ħ])];exact F (z.1+i) Qu Qu
def Fi(p:Int)(N n:Nat)(M:aP)(y:Nat->Int):Prop:=∀x:Nat->Int,(∀i,i<N->p∣bW (fun d=>eM M i d*x d) n)->p∣bW (fun d=>x d*y d) n
def ù(p:Int)(M:aP)(n:Nat):List (List Int):=á p M (Λ M n)
def ql(p:Int)(M:aP)(n:Nat):List (List Int):=qN p M (Λ M n)
def zgC(s:eV p N n M):ql p M n=j5 p n (ù p M n):=by unfold ql qN ù;rw[(Ī s).1]
def zek(I:bV p=true)(F:2<=p)(s:eV p N n M):∃h,h<=n/\eV p h n (ù p M n)/\∀y:Nat->Int,(∀i,i<h->p∣bW (fun d=>eM (ù p M n) i d*y d) n)↔Fi p N n M y:=by
 have⟨h,D,G,H⟩:=vX I F (Ī s);unfold ù;rw[s.1];refine⟨h,D,G,fun y=>(H y).t ?_⟩;unfold Fi;refine lg fun x=>imp_congr_left (lg fun i=>lg fun _=>?_)
 rw[bF (fun k J=>by rw[zkY J,gU])]
def xV(D:bV p=true)(h:2<=p)(s:eV p N n M):∃r l,r<=n/\eV p r n (ql p M n)/\mi p n r (eM (ql p M n)) l/\∀y:Nat->Int,Cz p n r (eM (ql p M n)) y↔Fi p N n M y:=by have⟨O,U,I,J⟩:=zek D h s;have⟨r,l,T,F,G,H⟩:=kM D h I;rw[zgC s];exact⟨r,l,Qu,F,G,fun y=>(H y).q.t (J y)⟩
end
section
variable{N:Nat}{p:Int}
def zhA(H:k<xs.length)(G:∀c,c<k->xs.getD c 0=0)(D:xs.getD k 0≠0):ew xs=k:=by
 rcases An (ew xs) k with h|h|h
 .have⟨x,F⟩:=aq (Qu:ew xs<xs.length);have:=G _ h;rw[bf,F]at this;exact absurd this (wM F)
 .exact h
 .have:=rn h;rw[bf,this]at D;exact absurd rfl D
def nw(R:aP)(i:Nat):Nat:=ew (R.getD i [])
def CM{R}{l}(s:eV p r n R)(h:mi p n r (eM R) l):mi p n r (eM R) (nw R):=by
 have e:∀i,i<r->nw R i=l i:=fun i hi=>zhA (by rw[s.2.1 i hi];exact h.ln i hi) (fun c F=>h.À i c hi F) (by have:=h.ψ i hi;unfold eM at this;omega)
 exact⟨h.bd,fun i hi=>by rw[e i hi];exact h.ln i hi,fun i j G D=>by rw[e i Qu,e j D];exact h.Ν i j G D,fun i hi=>by rw[e i hi];exact h.ψ i hi,fun i c hi F=>h.À i c hi (by rw[<-e i hi];exact F),fun i j hi D H=>by rw[e j D];exact h.Å i j hi D H⟩
def j7(p:Int)(n:Nat)(R:aP)(j:Nat):List Int:=(List.range n).map fun c=>mo (eM R) (nw R) R j c%p
def xM(n:Nat)(R:aP):List Nat:=(List.range n).filter fun j=>(List.range R).all fun i=>decide (nw R i≠j)
def qB(p:Int)(n:Nat)(R:aP):List (List Int):=(xM n R).map (j7 p n R)
def zaR{R}:j∈xM n R↔j<n/\mK (nw R) R j:=by unfold xM mK;simp[xj,eD]
def ā{R}(F:(xM n R)[i]?=some j)(D:d<n):eM (qB p n R) i d=mo (eM R) (nw R) R j d%p:=by
 show((qB p n R).getD i []).getD d 0=_
 have h:(qB p n R).getD i []=j7 p n R j:=by unfold qB;rw[bf,bI,F];rfl
 rw[h];unfold j7;rw[bf,bI,iy D];rfl
def wE{R}(F:2<=p):eV p (xM n R) n (qB p n R):=by
 refine⟨by simp[qB],fun i hi=>?_,fun i d hi D=>?_⟩
 .have⟨j,h⟩:=aq hi;unfold qB j7;rw[bf,bI,h];simp
 .have⟨j,h⟩:=aq hi;rw[ā h D];exact Wj
def ú(p:Int)(n:Nat)(M:aP):List (List Int):=qB p n (j5 p n M)
def xN(p:Int)(n:Nat)(M:aP):List (List Int):=j5 p n (ú p n M)
def zfc(ac:bV p=true)(U:2<=p)(s:eV p N n M):∃G,G<=n/\eV p G n (ú p n M)/\∀y:Nat->Int,(∀i,i<G->p∣bW (fun d=>eM (ú p n M) i d*y d) n)↔Fi p N n M y:=by
 have⟨r,l,_,H,O,T⟩:=kM ac U s;unfold ú;have⟨R,ab⟩:=aR (j5 p n M);rw[<-ab]at H O T ⊢;have F:R.length=r:=H.1;have an:=CM H O;refine⟨(xM n R),aZ (C4 _ _) Qt,wE U,fun y=>?_⟩;have am:=zhy an y;have ah:(∀x,Cz p n r (eM R) x->p∣bW (fun c=>x c*y c) n)↔Fi p N n M y:=lg fun x=>imp_congr_left (T x).q
 refine Iff.t ⟨fun I j D h=>?_,fun I i hi=>?_⟩ (am.t ah)
 .obtain⟨i,hi⟩:=eH.1 (zaR.2 ⟨D,by rw[F];exact h⟩);have Y:=I i (bG.1 hi).1;have Z:p∣bW (fun d=>eM (qB p n R) i d*y d) n-bW (fun c=>mo (eM R) (nw R) r j c*y c) n:=eN fun d J=>by rw[ā hi J,F];exact mJ (lI _ _)
  have:=eY Y Z;exact Xe
 .have⟨j,D⟩:=aq hi;obtain⟨ad,h⟩:=zaR.1 (aU D);rw[F]at h;refine jv (b:=bW (fun c=>mo (eM R) (nw R) r j c*y c) n) (eN fun d J=>?_) (I j ad h);rw[ā D J,F];exact mJ (lI _ _)
def Ex(D:bV p=true)(h:2<=p)(s:eV p N n M):∃r l,r<=n/\eV p r n (xN p n M)/\mi p n r (eM (xN p n M)) l/\∀y:Nat->Int,Cz p n r (eM (xN p n M)) y↔Fi p N n M y:=by have⟨O,U,I,J⟩:=zfc D h s;have⟨r,l,T,F,G,H⟩:=kM D h I;exact⟨r,l,Qu,F,G,fun y=>(H y).q.t (J y)⟩
end
section
variable{N:Nat}{p:Int}
def eV.row(h:eV p N n M):∀r∈M,r.length=n:=fun r D=>by obtain⟨i,hi⟩:=eH.1 D;have hl:=(bG.1 hi).1;have:=h.2.1 i SC;rwa[bf,hi]at this
end
section
variable{J N:Nat}{p:Int}
def ij(p:Int)(N n:Nat)(M:aP)(y:Nat->Int):Prop:=∃k:Nat->Int,∀d,d<n->p∣y d-bW (fun i=>k i*eM M i d) N
def DK(p:Int)(N n:Nat)(M:aP)(x:Nat->Int):Prop:=∀i,i<N->p∣bW (fun d=>eM M i d*x d) n
def yR{x y}(G:DK p N n M x)(H:ij p N n M y):p∣bW (fun d=>x d*y d) n:=by
 obtain⟨k,F⟩:=H;have h:p∣bW (fun d=>x d*y d) n-bW (fun d=>x d*bW (fun i=>k i*eM M i d) N) n:=eN fun d D=>by have:=F d D;rw[gU (x d),gU (x d)];exact mJ this
 refine jv h ?_;have e:bW (fun d=>x d*bW (fun i=>k i*eM M i d) N) n=bW (fun i=>k i*bW (fun d=>eM M i d*x d) n) N:=by
  rw[bF (f:=fun d=>x d*bW (fun i=>k i*eM M i d) N) (g:=fun d=>bW (fun i=>k i*(eM M i d*x d)) N) (fun d _=>by rw[<-lH];exact bF fun i _=>by rw[<-rW,gU (x d),rW,gU (x d)])]
  rw[sW (fun d i=>k i*(eM M i d*x d)) N n];exact bF fun i _=>by rw[lH]
 rw[e];exact vN fun i hi=>qd (G i hi)
def wj{y}(D:ij p N n M y):Fi p N n M y:=fun _ h=>yR h D
def yS(hi:i<N):ij p N n M (fun d=>eM M i d):=by
 refine⟨fun j=>if j=i then 1 else 0,fun d _=>?_⟩;rw[bF (g:=fun j=>if j=i then eM M i d else 0) (fun j _=>by
  dsimp only;by_cases e:j=i
  .rw[ak e,ak e,e,Int.one_mul]
  .rw[aj e,aj e,np]),rq (fun _=>eM M i d) hi]
 exact⟨0,by show eM M i d-eM M i d=p*0;omega⟩
def zeA{y z}(D:∀d,d<n->p∣y d-z d)(G:ij p N n M z):ij p N n M y:=by obtain⟨k,F⟩:=G;exact⟨k,fun d h=>by have:=ir (D d h) (F d h);rwa[show y d-z d+(z d-bW (fun i=>k i*eM M i d) N)=y d-bW (fun i=>k i*eM M i d) N by omega]at this⟩
def ziQ{y z}(G:ij p N n M y)(H:ij p N n M z):ij p N n M (fun d=>y d+z d):=by obtain⟨k,D⟩:=G;obtain⟨l,F⟩:=H;refine⟨fun i=>k i+l i,fun d h=>?_⟩;have:=ir (D d h) (F d h);rw[bF (f:=fun i=>(k i+l i)*eM M i d) (g:=fun i=>k i*eM M i d+l i*eM M i d) (fun i _=>by rw[Int.add_mul]),kI];rwa[show y d-bW (fun i=>k i*eM M i d) N+(z d-bW (fun i=>l i*eM M i d) N)=y d+z d-(bW (fun i=>k i*eM M i d) N+bW (fun i=>l i*eM M i d) N) by omega]at this
def zgZ{y}a(F:ij p N n M y):ij p N n M (fun d=>a*y d):=by obtain⟨k,D⟩:=F;refine⟨fun i=>a*k i,fun d h=>?_⟩;have:=qd (b:=a) (D d h);rw[oE]at this;rw[bF (f:=fun i=>a*k i*eM M i d) (g:=fun i=>a*(k i*eM M i d)) (fun i _=>by rw[rW]),lH];exact this
def zg0:ij p N n M (fun _=>0):=⟨fun _=>0,fun d _=>by rw[gQ (fun i _=>by rw[np])];exact⟨0,Qt⟩⟩
def Ū{p}{N n}{M}{f:Nat->Nat->Int}:∀{m:Nat},(∀j,j<m->ij p N n M (f j))->ij p N n M (fun d=>bW (fun j=>f j d) m)
 |0,_=>zg0
 |m+1,h=>by
  have D:=Ū (f:=f) (m:=m) fun j F=>h j Qu
  exact ziQ D (h m Qu)
def zeB{y}(h:∀i,i<N->ij p J n M' (fun d=>eM M i d))(F:ij p N n M y):ij p J n M' y:=by obtain⟨k,D⟩:=F;exact zeA D (Ū (f:=fun i d=>k i*eM M i d) fun i hi=>zgZ (k i) (h i hi))
def zcW{R}{l}(D:mi p n r (eM R) l){y}(ac:Fi p r n R y):ij p r n R y:=by
 refine⟨fun i=>y (l i),fun d H=>?_⟩
 -- the rest vanishes at the leads, and is annihilated by all that annihilates R
 obtain⟨z,G⟩:∃z:Nat->Int,z=fun d=>y d-bW (fun i=>y (l i)*eM R i d) r:=⟨_,rfl⟩
 have T:∀i,i<r->z (l i)=0:=fun i hi=>by rw[G];dsimp only;rw[iC hi (fun j ab F=>by rw[D.Å j i ab hi F,jh]),D.ψ i hi,r_];omega
 have ad:Fi p r n R z:=fun x h=>by have Y:=ac x h;have Z:p∣bW (fun d=>x d*bW (fun i=>y (l i)*eM R i d) r) n:=yR h ⟨fun i=>y (l i),fun d _=>⟨0,Qt⟩⟩;have:=eY Y Z;rw[G];rw[bF (f:=fun d=>x d*(y d-bW (fun i=>y (l i)*eM R i d) r)) (g:=fun d=>x d*y d+(-1)*(x d*bW (fun i=>y (l i)*eM R i d) r)) (fun d _=>by rw[oE];omega),kI,lH];rwa[show ∀a b:Int,a + -1*b=a-b from fun a b=>Qu]
 have U:p∣z d:=by
  by_cases J:∃i,i<r/\l i=d
  .obtain⟨i,hi,rfl⟩:=J;rw[T i hi];exact⟨0,Qt⟩
  .have I:mK l r d:=fun i hi e=>J ⟨i,hi,e⟩
   have h:=ad (mo (eM R) l r d) (wP D H I);rwa[iC H (fun c ah F=>?_),kt I,ak rfl,Int.one_mul]at h;by_cases O:∃i,i<r/\l i=c
   .obtain⟨i,hi,rfl⟩:=O;rw[T i hi,jh]
   .rw[kt (fun i hi e=>O ⟨i,hi,e⟩),aj F,np]
 rw[G]at U;exact U
def Bb{p}:∀(m c r:Nat) (M X h:aP),(pc p m c (r,(M,X))).1=(pc p m c (r,(M,h))).1/\(pc p m c (r,(M,X))).2.1=(pc p m c (r,(M,h))).2.1
 |0,c,r,M,X,h=>⟨rfl,rfl⟩
 |m+1,c,r,M,X,h=>by
  have clr:∀(r c i:Nat) (M X h:aP),(iu p r c i (M,X)).1=(iu p r c i (M,h)).1:=by
   intro r c i;induction i with
   |zero=>intro M X h;rfl
   |succ i ih=>
    intro M X h;unfold iu;rw[ih M X h];split
    .rfl
    .exact ih M X h
  unfold pc;dsimp only;by_cases F:r<M.length
  .rw[ak F,ak F];by_cases D:py M c r=M.length
   .rw[ak D,ak D];exact Bb m (c+1) r M X h
   .rw[aj D,aj D];have e:(sx p r (py M c r) c (M,X)).1=(sx p r (py M c r) c (M,h)).1:=by unfold sx;dsimp only;exact clr _ _ _ _ _ _
    have H:=Bb (p:=p) m (c+1) (r+1) (sx p r (py M c r) c (M,X)).1 (sx p r (py M c r) c (M,X)).2 (sx p r (py M c r) c (M,h)).2;have G:sx p r (py M c r) c (M,h)=((sx p r (py M c r) c (M,X)).1,(sx p r (py M c r) c (M,h)).2):=Qv;rw[G];exact H
  .rw[aj F,aj F];exact⟨rfl,rfl⟩
def Bc(D:bV p=true)(s:eV p N n M)y:ij p (j5 p n M) n (j5 p n M) y↔ij p N n M y:=by
 have h:=(cv D).1;have⟨r,l,ao,F,J,O⟩:=kM D h s;rw[F.1];constructor
 ·-- ν reduced row is a combination
  refine zeB fun i hi=>?_
  have⟨c,av,e,ap,_,_⟩:=nN (n2:=N) D h s (yG h);have ab:=e.mul (eM M) (fun i hi d I=>by rw[iC hi (fun j Z ac=>by rw[yF hi Z,aj ac,np]),yF hi hi,ak rfl];exact⟨0,Qu⟩)
  refine⟨fun j=>eM (gY p n M (zK N)).2.2 i j,fun d I=>?_⟩;have:=ab i Qu d I;have T:eM (j5 p n M) i d=eM (gY p n M (zK N)).2.1 i d:=by
   have U:=Bb (p:=p) n 0 0 M (List.replicate M []) (zK N);have Y:(gY p n M (List.replicate M [])).1=r:=by have H:=F.1;have⟨an,a0,G,ad,_,_⟩:=nN (n2:=0) D h s (yH p N);rw[<-s.1]at G ad;unfold j5 at H;rw[cQ,G.s1.1]at H;have:=s.1;omega
   unfold j5;rw[ę (by rw[Y];exact hi)];unfold gY;rw[U.2]
  show p∣eM (j5 p n M) i d-_
  rw[T];exact this
 .intro am;exact zcW J fun x ah=>wj am x ((O x).2 ah)
def od(h:bV p=true)(s:eV p N n M)y:ij p N n M y↔Fi p N n M y:=by refine⟨wj,fun I=>?_⟩;have⟨r,l,J,D,F,G⟩:=kM h (cv h).1 s;refine(Bc h s y).1 ?_;rw[D.1];exact zcW F fun x H=>I x ((G x).2 H)
def zcX(h:∀y,ij p N n M y->ij p J n M' y){x}(D:DK p J n M' x):DK p N n M x:=fun i hi=>by have:=yR D (h _ (yS hi));rwa[bF (fun d _=>by rw[gU])]at this
def DL(hf:bV p=true)(s:eV p N n M)y:ij p (ql p M n) n (ql p M n) y↔DK p N n M y:=by have⟨r,l,_,a1,D,a3⟩:=xV hf (cv hf).1 s;exact Y0
def zeC(hf:bV p=true)(s:eV p N n M)y:ij p (xN p n M) n (xN p n M) y↔DK p N n M y:=by have⟨r,l,_,a1,D,a3⟩:=Ex hf (cv hf).1 s;exact Y0
def zg1(h:bV p=true)(s:eV p N n M)y:ij p (qN p n M) N (qN p n M) y↔∀d,d<n->p∣bW (fun i=>y i*eM M i d) N:=by
 have J:=(cv h).1;have⟨T,U,G,H⟩:=vX h J s;have e:qN p n M=j5 p N (á p n M):=by unfold qN;rw[s.1]
 rw[e,Bc h G,od h G];constructor
 .intro D d O;have I:=D (fun i=>eM M i d) ((H _).2 fun x F=>by have:=F d O;exact this)
  rwa[bF (fun i _=>by rw[gU])]at I
 .intro D x F;have:=(H x).1 F y D;rwa[bF (fun i _=>by rw[gU])]at this
end
section
variable{J N:Nat}{p:Int}
structure Rl where
 l:Nat
 r:Nat
 b:List (List Int)
variable{R:Rl}
def Rl.eV(p:Int)(R:Rl):Prop:=Go.Proofs.YtpieilkmmiopfaaGreatDoor.eV p R.b (R.l+R.r) R.b
def Rl.Sp(p:Int)(R:Rl)(z:Nat->Int):Prop:=ij p R.b (R.l+R.r) R.b z
def vc(p:Int)(l r:Nat)(rws:aP):Rl:=⟨l,r,j5 p (l+r) rws⟩
def sI(h:Go.Proofs.YtpieilkmmiopfaaGreatDoor.eV p N n M):Go.Proofs.YtpieilkmmiopfaaGreatDoor.eV p M n M:=by rw[h.1];exact h
def Rl.Red(p:Int)(R:Rl):Prop:=mi p (R.l+R.r) R.b (eM R.b) (nw R.b)
structure Rl.Ok(p:Int)(R:Rl):Prop where
 Η:R.eV p
 red:R.Red p
def ziL{l}(D:bV p=true)(s:Go.Proofs.YtpieilkmmiopfaaGreatDoor.eV p N (l+r) rws):(vc p l r rws).Red p:=by have⟨k,lf,_,h,F,_⟩:=kM D (cv D).1 s;unfold Rl.Red vc;dsimp only;rw[h.1];exact CM h F
def wg{l}(h:bV p=true)(s:Go.Proofs.YtpieilkmmiopfaaGreatDoor.eV p N (l+r) rws):(vc p l r rws).Ok p/\∀z,(vc p l r rws).Sp p z↔ij p N (l+r) rws z:=by have⟨k,_,_,D,_,_⟩:=kM h (cv h).1 s;exact⟨⟨sI D,ziL h s⟩,fun z=>Bc h s z⟩
def qs{g}(h:g []=[])i d:eM (M.map g) i d=(g (M.getD i [])).getD d 0:=by
 unfold eM;rw[bf (l:=List.map g M),bI,bf (l:=M)];cases M[i]? with
 |none=>simp[h]
 |some r=>rfl
def kf{a b:aL}:(a++b).getD d 0=if d<a.length then a.getD d 0 else b.getD (d-a.length) 0:=by rw[bf,C9];split<;>rw[bf]
def nG(a:aL)q d:(a.drop q).getD d 0=a.getD (q+d) 0:=by rw[bf,fQ,bf]
def nH{a:aL}(h:d<q):(a.take q).getD d 0=a.getD d 0:=by rw[bf,iM,ak h,bf]
def ĝ{A B}:eM (A++B) i d=if i<A.length then eM A i d else eM B (i-A.length) d:=by
 unfold eM;rw[bf (l:=A++B),C9];split
 .rw[bf (l:=A)]
 .rw[bf (l:=B)]
def eV.X{A B}(h:eV p N n A)(D:eV p J n B):eV p (N+J) n (A++B):=by
 refine⟨by rw[bm,h.1,D.1],fun i hi=>?_,fun i d hi F=>?_⟩
 .rw[bf,C9];split
  .rename_i hl;rw[<-bf];exact h.2.1 i SC
  .rename_i hl;rw[<-bf];have:=h.1;exact D.2.1 _ Qu
 .rw[ĝ];have:=h.1;split
  .exact h.2.2 i d Qu F
  .exact D.2.2 _ d Qu F
def eV.yP{g}(F:eV p N n M)(G:∀r∈M,(g r).length=m/\∀d,d<m->0<=(g r).getD d 0/\(g r).getD d 0<p):eV p N m (M.map g):=by
 have h:∀i,i<N->(M.map g).getD i []=g (M.getD i [])/\M.getD i []∈M:=fun i hi=>by
  have D:i<M.length:=by rw[F.1];exact hi
  refine⟨?_,mZ D⟩;rw[bf,bI,di D,bf,di D];rfl
 refine⟨by rw[bs,F.1],fun i hi=>?_,fun i d hi H=>?_⟩
 .rw[(h i hi).1];exact(G _ (h i hi).2).1
 .unfold eM;rw[(h i hi).1];exact(G _ (h i hi).2).2 d H
def eV.vY(h:eV p N n M){r}(F:r∈M)(D:d<n):0<=r.getD d 0/\r.getD d 0<p:=by obtain⟨i,hi⟩:=eH.1 F;have hl:=(bG.1 hi).1;have:=h.2.2 i d SC D;unfold eM at this;rwa[getD_some hi]at this
def x_ f a:∀(b:Nat),bW f (a+b)=bW f a+bW (fun i=>f (a+i)) b
 |0=>by simp[bW]
 |b+1=>by rw[<-ow,bW,x_ f a b,bW];omega
def eu(c:Nat->Int)(M:aP)(N d:Nat):Int:=bW (fun i=>c i*eM M i d) N
def ŗ{c}{A B}(h:A.length=N):eu c (A++B) (N+J) d=eu c A N d+eu (fun i=>c (N+i)) B J d:=by
 unfold eu;rw[x_];congr 1
 .exact bF fun i hi=>by rw[ĝ,ak Qu]
 .exact bF fun i _=>by rw[ĝ,aj Qu,h,iY]
def yQ{k:Nat->Int}{C:Nat->Nat->Int}:eu (fun i=>bW (fun j=>k j*C j i) m) M N d=bW (fun j=>k j*eu (C j) M N d) m:=by
 unfold eu;rw[bF (g:=fun i=>bW (fun j=>k j*(C j i*eM M i d)) m) (fun i _=>by dsimp only;rw[<-mX];exact bF fun j _=>by rw[rW]),sW (fun i j=>k j*(C j i*eM M i d)) m N]
 exact bF fun j _=>by rw[lH]
def ň{c h}(D:∀i,i<N->p∣c i-h i):p∣eu c M N d-eu h M N d:=by unfold eu;exact eN fun i hi=>mJ (D i hi)
def fY(p:Int)(c:aL)(M:aP)(n:Nat):Nat->List Int
 |0=>List.replicate n 0
 |i+1=>dw p (c.getD i 0) (fY p c M n i) (M.getD i [])
def kN{p}{c}{M}{N n}(h:∀i,i<N->(M.getD i []).length=n):∀i,i<=N->(fY p c M n i).length=n
 |0,_=>by simp[fY]
 |i+1,hi=>by unfold fY;rw[mD,kN h i Qu,h i Qu,rX]
def qU{p}{c}{M}{N n d}(H:2<=p)(h:∀i,i<N->(M.getD i []).length=n)(D:d<n):∀i,i<=N->p∣(fY p c M n i).getD d 0-eu (fun j=>c.getD j 0) M i d/\0<=(fY p c M n i).getD d 0/\(fY p c M n i).getD d 0<p
 |0,_=>by
  have:(fY p c M n 0).getD d 0=0:=by unfold fY;rw[bf,fI,ak D];rfl
  rw[this];exact⟨⟨0,by simp[eu,bW]⟩,Qu,Qu⟩
 |i+1,hi=>by
  have⟨J,_,_⟩:=qU (c:=c) H h D i Qu;have F:=kN (p:=p) (c:=c) h i Qu;have I:(fY p c M n (i+1)).getD d 0=((fY p c M n i).getD d 0+c.getD i 0*(M.getD i []).getD d 0)%p:=by
   conv=>lhs;unfold fY
   exact tI (by rw[F,h i Qu]) (by rw[F];exact D)
  rw[I];refine⟨?_,gV _ Qu,gW _ Qu⟩;have G:=lI ((fY p c M n i).getD d 0+c.getD i 0*(M.getD i []).getD d 0) p;have e:eu (fun j=>c.getD j 0) M (i+1) d=eu (fun j=>c.getD j 0) M i d+c.getD i 0*(M.getD i []).getD d 0:=by unfold eu;rw[bW];rfl
  rw[e];have:=ir G J;rwa[show ∀a b c e:Int,a-(b+e)+(b-c)=a-(c+e) from fun a b c e=>Qu]at this
def qO(p:Int)(y:aL):List Int:=dw p (-1) (List.replicate y 0) y
def zcO p y:(qO p y).length=y:=by unfold qO;rw[mD];simp
def ziM{y}(F:2<=p)(h:d<y.length):p∣(qO p y).getD d 0+y.getD d 0/\0<=(qO p y).getD d 0/\(qO p y).getD d 0<p:=by
 have D:(qO p y).getD d 0=(0 + -1*y.getD d 0)%p:=by
  unfold qO;rw[tI Qt (by simpa using h)];congr 2
  rw[bf,fI,ak h];rfl
 rw[D];refine⟨?_,gV _ Qu,gW _ Qu⟩;have:=lI (0 + -1*y.getD d 0) p;rwa[show ∀a b:Int,a-(0 + -1*b)=a+b from fun a b=>Qu]at this
def kS(R:Rl):List (List Int):=R.b.map fun r=>r.take R.l
def mA(R:Rl):List (List Int):=R.b.map fun r=>r.drop R.l
def AZ(h:R.eV p):eV p R.b R.l (kS R)/\∀i d,d<R.l->eM (kS R) i d=eM R.b i d:=by
 refine⟨eV.yP h fun r F=>?_,fun i d D=>?_⟩
 .have hl:=h.row r F;exact⟨Sd,fun d D=>by rw[nH D];exact h.vY F Qu⟩
 .unfold kS;rw[qs Qt,nH D];rfl
def A_(h:R.eV p):eV p R.b R.r (mA R)/\∀i d,eM (mA R) i d=eM R.b i (R.l+d):=by
 refine⟨eV.yP h fun r D=>?_,fun i d=>?_⟩
 .have hl:=h.row r D;exact⟨Sc,fun d F=>by rw[nG];exact h.vY D Qu⟩
 .unfold mA;rw[qs Qt,nG];rfl
def ft(p:Int)(A B:Rl):List (List Int):=mA A++(kS B).map (qO p)
def iO(p:Int)(A B:Rl)(c:aL):List Int:=fY p (c.take A.b) (kS A) A.l A.b++fY p (c.drop A.b) (mA B) B.r B.b
def jm(p:Int)(A B:Rl):List (List Int):=(qN p A.r (ft p A B)).map (iO p A B)
def DF(p:Int)(A B:Rl):Rl:=vc p A.l B.r (jm p A B)
def DG{A B}(G:2<=p)(T:A.eV p)(U:B.eV p)(I:A.r=B.l):eV p (A.b.length+B.b) A.r (ft p A B)/\∀c d,d<A.r->p∣eu c (ft p A B) (A.b.length+B.b) d-(eu c (mA A) A.b d-eu (fun i=>c (A.b.length+i)) (kS B) B.b d):=by
 have⟨J,_⟩:=A_ T;have⟨h,_⟩:=AZ U;have O:eV p B.b B.l ((kS B).map (qO p)):=eV.yP h fun r F=>by have H:=h.row r F;exact⟨by rw[zcO,H],fun d D=>(ziM G (by rw[H];exact D)).2⟩
 rw[<-I]at O;refine⟨J.X O,fun c d D=>?_⟩;unfold ft;rw[ŗ J.1];have:p∣eu (fun i=>c (A.b.length+i)) ((kS B).map (qO p)) B.b d+eu (fun i=>c (A.b.length+i)) (kS B) B.b d:=by
  unfold eu;rw[<-kI];refine vN fun i hi=>?_
  rw[<-Aq];refine qd ?_;rw[qs (by simp[qO,dw])];have F:=mZ (rows:=kS B) (k:=i) (by rw[h.1];exact hi);exact(ziM G (by rw[h.row _ F,<-I];exact D)).1
 rwa[show ∀a b c:Int,a+b-(a-c)=b+c from fun a b c=>Qu]
def lC{A B}{c}(D:2<=p)(J:A.eV p)(O:B.eV p):(iO p A B c).length=A.l+B.r/\(∀d,d<A.l+B.r->0<=(iO p A B c).getD d 0/\(iO p A B c).getD d 0<p)/\(∀d,d<A.l->p∣(iO p A B c).getD d 0-eu (fun i=>c.getD i 0) (kS A) A.b d)/\(∀d,d<B.r->p∣(iO p A B c).getD (A.l+d) 0-eu (fun i=>c.getD (A.b.length+i) 0) (mA B) B.b d):=by
 have⟨G,_⟩:=AZ J;have⟨H,_⟩:=A_ O;have F:(fY p (c.take A.b) (kS A) A.l A.b).length=A.l:=kN G.2.1 _ (ae _);have T:(fY p (c.drop A.b) (mA B) B.r B.b).length=B.r:=kN H.2.1 _ (ae _);unfold iO;refine⟨by rw[bm,F,T],fun d h=>?_,fun d h=>?_,fun d h=>?_⟩
 .rw[kf,F];split
  .rename_i I;exact(qU D G.2.1 I _ (ae _)).2
  .exact(qU D H.2.1 Qu _ (ae _)).2
 .rw[kf,F,ak h];have:=(qU (c:=c.take A.b) D G.2.1 h _ (ae _)).1;have e:eu (fun j=>(c.take A.b).getD j 0) (kS A) A.b d=eu (fun i=>c.getD i 0) (kS A) A.b d:=by unfold eu;exact bF fun i hi=>by dsimp only;rw[nH hi]
  rwa[e]at this
 .rw[kf,F,aj Qu,iY];have:=(qU (c:=c.drop A.b) D H.2.1 h _ (ae _)).1;have e:eu (fun j=>(c.drop A.b).getD j 0) (mA B) B.b d=eu (fun i=>c.getD (A.b.length+i) 0) (mA B) B.b d:=by unfold eu;exact bF fun i hi=>by dsimp only;rw[nG]
  rwa[e]at this
def zex{A B}(U:bV p=true)(H:A.eV p)(I:B.eV p)(a3:A.r=B.l):(DF p A B).Ok p/\∀z,(DF p A B).Sp p z↔∃y:Nat->Int,A.Sp p (fun j=>if j<A.l then z j else y (j-A.l))/\B.Sp p (fun j=>if j<B.l then y j else z (A.l+(j-B.l))):=by
 have G:=(cv U).1;have⟨ad,an⟩:=DG G H I a3;have ac:=zg1 U ad;have ao:eV p (qN p A.r (ft p A B)) (A.b.length+B.b) (qN p A.r (ft p A B)):=by
  have⟨a9,_,ap,_⟩:=vX U G ad;have⟨r,_,_,av,_,_⟩:=kM U G ap;have e:qN p A.r (ft p A B)=j5 p (A.b.length+B.b) (á p A.r (ft p A B)):=by unfold qN;rw[ad.1]
  rw[e];exact sI av
 have⟨K,hK⟩:=aR (qN p A.r (ft p A B));rw[<-hK]at ac ao;have a8:eV p K (A.l+B.r) (jm p A B):=by unfold jm;rw[<-hK];exact eV.yP ao fun c _=>⟨(lC G H I).1,(lC G H I).2.1⟩
 have Z:∀j d,j<K.length->eM (jm p A B) j d=(iO p A B (K.getD j [])).getD d 0:=fun j d F=>by unfold eM jm;rw[<-hK,bf (l:=List.map _ _),bI,di F,bf (l:=K),di F];rfl
 have⟨a6,a7⟩:=wg U a8;refine⟨a6,fun z=>(a7 z).t ?_⟩;have⟨_,f1⟩:=AZ H;have⟨_,f2⟩:=A_ H;have⟨_,f3⟩:=AZ I;have⟨_,f4⟩:=A_ I;constructor
 .rintro⟨k,Y⟩;obtain⟨c,J⟩:∃c:Nat->Int,c=fun i=>bW (fun j=>k j*eM K j i) K:=⟨_,rfl⟩
  have a2:ij p K (A.b.length+B.b) K c:=⟨k,fun d _=>by rw[J];exact⟨0,Qt⟩⟩;have ab:=(ac c).1 a2;have a4:∀d,d<A.l->p∣z d-eu c (kS A) A.b d:=fun d h=>by
   have h1:=Y d Qu;have h3:p∣bW (fun j=>k j*eM (jm p A B) j d) K-eu c (kS A) A.b d:=by
    rw[J,yQ];refine eN fun j F=>?_
    rw[Z j d F,<-oE];exact qd ((lC G H I).2.2.1 d h)
   exact XZ
  have a5:∀d,d<B.r->p∣z (A.l+d)-eu (fun i=>c (A.b.length+i)) (mA B) B.b d:=fun d h=>by
   have h1:=Y (A.l+d) Qu;have h3:p∣bW (fun j=>k j*eM (jm p A B) j (A.l+d)) K-eu (fun i=>c (A.b.length+i)) (mA B) B.b d:=by
    rw[J,yQ (C:=fun j i=>eM K j (A.b.length+i))];refine eN fun j F=>?_
    rw[Z j _ F,<-oE];exact qd ((lC G H I).2.2.2 d h)
   exact XZ
  refine⟨fun d=>eu c (mA A) A.b d,⟨c,fun d h=>?_⟩,⟨fun i=>c (A.b.length+i),fun d h=>?_⟩⟩
  .dsimp only;by_cases D:d<A.l
   .rw[ak D];have:=a4 d D;unfold eu at this;rwa[bF (fun i _=>by rw[f1 i d D])]at this
   .rw[aj D];unfold eu;rw[bF (fun i _=>by rw[f2 i,show A.l+(d-A.l)=d by omega])];exact⟨0,Qt⟩
  .dsimp only;by_cases D:d<B.l
   .rw[ak D];have h1:=an c d Qu;have h3:=ab d Qu;have h4:=eY h3 h1;have e:bW (fun i=>c i*eM (ft p A B) i d) (A.b.length+B.b)=eu c (ft p A B) (A.b.length+B.b) d:=rfl;rw[e,show ∀a b:Int,a-(a-b)=b from fun a b=>Qu]at h4;unfold eu at h4 ⊢;rwa[bF (f:=fun i=>c (A.b.length+i)*eM (kS B) i d) (g:=fun i=>c (A.b.length+i)*eM B.b i d) (fun i _=>by rw[f3 i d D])]at h4
   .rw[aj D];have:=a5 (d-B.l) Qu;unfold eu at this;rwa[bF (fun i _=>by rw[f4 i,show B.l+(d-B.l)=d by omega])]at this
 .rintro⟨y,⟨O,ah⟩,⟨T,am⟩⟩;obtain⟨c,J⟩:∃c:Nat->Int,c=fun i=>if i<A.b.length then O i else T (i-A.b.length):=⟨_,rfl⟩
  have c1:∀(M:aP) (d:Nat),eu c M A.b d=eu O M A.b d:=fun M d=>by unfold eu;exact bF fun i hi=>by rw[J];dsimp only;rw[ak hi]
  have c2:∀(M:aP) (N d:Nat),eu (fun i=>c (A.b.length+i)) M N d=eu T M N d:=fun M N d=>by unfold eu;exact bF fun i hi=>by rw[J];dsimp only;rw[aj Qu,iY]
  have a0:∀d,d<A.r->p∣y d-eu O (mA A) A.b d:=fun d h=>by have:=ah (A.l+d) Qu;dsimp only at this;rw[aj Qu,iY]at this;unfold eu;rwa[bF (fun i _=>by rw[f2 i])]
  have a1:∀d,d<B.l->p∣y d-eu T (kS B) B.b d:=fun d h=>by have:=am d Qu;dsimp only at this;rw[ak h]at this;unfold eu;rwa[bF (fun i _=>by rw[f3 i d h])]
  have ab:=(ac c).2 fun d h=>by have h1:=an c d h;rw[c1,c2]at h1;have h3:=eY (a1 d Qu) (a0 d h);have e:bW (fun i=>c i*eM (ft p A B) i d) (A.b.length+B.b)=eu c (ft p A B) (A.b.length+B.b) d:=rfl;rw[e];refine jv h1 ?_;rwa[show ∀y a b:Int,y-b-(y-a)=a-b from fun y a b=>Qu]at h3
  obtain⟨k,Y⟩:=ab;refine⟨k,fun d h=>?_⟩;by_cases D:d<A.l
  .have h1:=ah d Qu;dsimp only at h1;rw[ak D]at h1;have h3:p∣eu O (kS A) A.b d-eu (fun i=>bW (fun j=>k j*eM K j i) K) (kS A) A.b d:=by rw[<-c1];exact ň fun i hi=>Y i Qu
   have h4:p∣bW (fun j=>k j*eM (jm p A B) j d) K-eu (fun i=>bW (fun j=>k j*eM K j i) K) (kS A) A.b d:=by
    rw[yQ];refine eN fun j F=>?_
    rw[Z j d F,<-oE];exact qd ((lC G H I).2.2.1 d D)
   have e:bW (fun i=>O i*eM A.b i d) A.b=eu O (kS A) A.b d:=by unfold eu;exact bF fun i _=>by rw[f1 i d D]
   exact YB
  .obtain⟨t,rfl⟩:∃t,d=A.l+t:=⟨d-A.l,Qu⟩;have h1:=am (B.l+t) Qu;dsimp only at h1;rw[aj Qu,iY]at h1;have h3:p∣eu T (mA B) B.b t-eu (fun i=>bW (fun j=>k j*eM K j (A.b.length+i)) K) (mA B) B.b t:=by rw[<-c2];exact ň fun i hi=>Y (A.b.length+i) Qu
   have h4:p∣bW (fun j=>k j*eM (jm p A B) j (A.l+t)) K-eu (fun i=>bW (fun j=>k j*eM K j (A.b.length+i)) K) (mA B) B.b t:=by
    rw[yQ (C:=fun j i=>eM K j (A.b.length+i))];refine eN fun j F=>?_
    rw[Z j _ F,<-oE];exact qd ((lC G H I).2.2.2 t Qu)
   have e:bW (fun i=>T i*eM B.b i (B.l+t)) B.b=eu T (mA B) B.b t:=by unfold eu;exact bF fun i _=>by rw[f4 i]
   exact YB
end
section
variable{N:Nat}{R:Rl}{p:Int}
def zhT{n'}{σ τ:gN}(H:∀i d,i<N->d<n'->eM M' i d=eM M i (σ d))(I:∀d,d<n'->σ d<n/\τ (σ d)=d)(J:∀d,d<n->τ d<n'/\σ (τ d)=d)z:ij p N n' M' z↔ij p N n M (fun d=>z (τ d)):=by
 constructor
 .rintro⟨k,G⟩;refine⟨k,fun d D=>?_⟩;obtain⟨h,F⟩:=J d D;have:=G (τ d) h;rwa[bF (fun i hi=>by rw[H i _ hi h,F])]at this
 .rintro⟨k,G⟩;refine⟨k,fun d D=>?_⟩;obtain⟨h,F⟩:=I d D;have:=G (σ d) h;dsimp only at this;rw[F]at this;rwa[bF (fun i hi=>by rw[H i d hi D])]
def ô(p:Int)(R:Rl):Rl:=vc p R.r R.l (R.b.map fun row=>row.drop R.l++row.take R.l)
def zfq(I:bV p=true)(F:R.eV p):(ô p R).Ok p/\∀z,(ô p R).Sp p z↔R.Sp p (fun j=>if j<R.l then z (R.r+j) else z (j-R.l)):=by
 have G:∀r∈R.b,∀d,d<R.r+R.l->(r.drop R.l++r.take R.l).getD d 0=r.getD (if d<R.r then R.l+d else d-R.r) 0:=fun r D d h=>by
  have hl:=F.row r D;have H:(r.drop R.l).length=R.r:=Sc;rw[kf,H];split
  .rw[nG]
  .rw[nH Qu]
 have s:eV p R.b (R.r+R.l) (R.b.map fun row=>row.drop R.l++row.take R.l):=eV.yP F fun r D=>by have hl:=F.row r D;refine⟨by rw[bm,fS,cQ,hl];omega,fun d h=>?_⟩;rw[G r D d h];exact F.vY D (by split<;>omega)
 have⟨J,O⟩:=wg I s;refine⟨J,fun z=>(O z).t ?_⟩;unfold Rl.Sp;have:=zhT (p:=p) (N:=R.b.length) (n:=R.l+R.r) (n':=R.r+R.l) (M:=R.b) (M':=R.b.map fun row=>row.drop R.l++row.take R.l) (σ:=fun d=>if d<R.r then R.l+d else d-R.r) (τ:=fun j=>if j<R.l then R.r+j else j-R.l)
  (fun i d hi h=>by rw[qs Qt];exact G _ (mZ hi) d h)
  (fun d h=>UT) (fun d h=>UT) z
 refine this.t ?_;have e:(fun d=>z (if d<R.l then R.r+d else d-R.l))=fun j=>if j<R.l then z (R.r+j) else z (j-R.l):=funext fun d=>by split<;>rfl
 rw[e]
def jG(n:Nat):List Int:=List.replicate n 0
def Ϯ n d:(jG n).getD d 0=0:=by unfold jG;rw[bf,fI];split<;>rfl
def nU(A B:Rl)(row:aL):List Int:=row.take A.l++(jG B.l++(row.drop A.l++jG B.r))
def nV(A B:Rl)(row:aL):List Int:=jG A.l++(row.take B.l++(jG A.r++row.drop B.l))
def EW(p:Int)(A B:Rl):Rl:=vc p (A.l+B.l) (A.r+B.r) (A.b.map (nU A B)++B.b.map (nV A B))
def zfr{A B}{row}(hl:row.length=A.l+A.r)d:(nU A B row).getD d 0=if d<A.l then row.getD d 0 else if d<A.l+B.l then 0 else if d<A.l+B.l+A.r then row.getD (A.l+(d-(A.l+B.l))) 0 else 0:=by
 have D:(row.take A.l).length=A.l:=Sd;have F:(row.drop A.l).length=A.r:=Sc;have G:(jG B.l).length=B.l:=QN;unfold nU;rw[kf,D];by_cases c1:d<A.l
 .rw[ak c1,ak c1,nH c1]
 rw[aj c1,aj c1,kf,G];by_cases c2:d<A.l+B.l
 .rw[ak Qu,ak c2,Ϯ]
 rw[aj Qu,aj c2,kf,F];by_cases h:d<A.l+B.l+A.r
 .rw[ak Qu,ak h,nG];congr 1
  omega
 .rw[aj Qu,aj h,Ϯ]
def ž{A B}{row}(hl:row.length=B.l+B.r)d:(nV A B row).getD d 0=if d<A.l then 0 else if d<A.l+B.l then row.getD (d-A.l) 0 else if d<A.l+B.l+A.r then 0 else row.getD (B.l+(d-(A.l+B.l+A.r))) 0:=by
 have D:(row.take B.l).length=B.l:=Sd;have F:(jG A.l).length=A.l:=QN;have G:(jG A.r).length=A.r:=QN;unfold nV;rw[kf,F];by_cases c1:d<A.l
 .rw[ak c1,ak c1,Ϯ]
 rw[aj c1,aj c1,kf,D];by_cases c2:d<A.l+B.l
 .rw[ak Qu,ak c2,nH Qu]
 rw[aj Qu,aj c2,kf,G];by_cases h:d<A.l+B.l+A.r
 .rw[ak Qu,ak h,Ϯ]
 .rw[aj Qu,aj h,nG];congr 1
  omega
def zft{A B}(I:bV p=true)(hA:A.eV p)(hB:B.eV p):(EW p A B).Ok p/\∀z,(EW p A B).Sp p z↔A.Sp p (fun j=>if j<A.l then z j else z (A.l+B.l+(j-A.l)))/\B.Sp p (fun j=>if j<B.l then z (A.l+j) else z (A.l+B.l+A.r+(j-B.l))):=by
 have U:=(cv I).1;refine ML fun sA sB=>?_
 have h:∀i d,i<A.b.length->eM (A.b.map (nU A B)) i d=if d<A.l then eM A.b i d else if d<A.l+B.l then 0 else if d<A.l+B.l+A.r then eM A.b i (A.l+(d-(A.l+B.l))) else 0:=fun i d hi=>by have hl:=hA.row _ (mZ hi);have:=zfr (B:=B) hl d;unfold eM;rw[bf (l:=List.map _ _),bI,di hi];rw[bf (l:=A.b),di hi]at this ⊢;exact this
 have D:∀i d,i<B.b.length->eM (B.b.map (nV A B)) i d=if d<A.l then 0 else if d<A.l+B.l then eM B.b i (d-A.l) else if d<A.l+B.l+A.r then 0 else eM B.b i (B.l+(d-(A.l+B.l+A.r))):=fun i d hi=>by have hl:=hB.row _ (mZ hi);have:=ž (A:=A) hl d;unfold eM;rw[bf (l:=List.map _ _),bI,di hi];rw[bf (l:=B.b),di hi]at this ⊢;exact this
 have⟨O,T⟩:=wg (l:=A.l+B.l) (r:=A.r+B.r) I (sA.X sB);refine⟨O,fun z=>(T z).t ?_⟩;unfold Rl.Sp;have split:∀(k:Nat->Int) (d:Nat),bW (fun i=>k i*eM (A.b.map (nU A B)++B.b.map (nV A B)) i d) (A.b.length+B.b)=bW (fun i=>k i*eM (A.b.map (nU A B)) i d) A.b+bW (fun i=>k (A.b.length+i)*eM (B.b.map (nV A B)) i d) B.b:=fun k d=>ŗ (c:=k) sA.1
 constructor
 .rintro⟨k,G⟩;refine⟨⟨k,fun d hd=>?_⟩,⟨fun i=>k (A.b.length+i),fun d hd=>?_⟩⟩
  .dsimp only;by_cases F:d<A.l
   .rw[ak F];have:=G d Qu;rw[split,bF (f:=fun i=>k i*eM (A.b.map (nU A B)) i d) (g:=fun i=>k i*eM A.b i d) (fun i hi=>by rw[h i d hi,ak F]),gQ (f:=fun i=>k (A.b.length+i)*eM (B.b.map (nV A B)) i d) (fun i hi=>by rw[D i d hi,ak F,jh]),ux]at this;exact this
   .rw[aj F];have:=G (A.l+B.l+(d-A.l)) Qu;rw[split,bF (f:=fun i=>k i*eM (A.b.map (nU A B)) i (A.l+B.l+(d-A.l))) (g:=fun i=>k i*eM A.b i d) (fun i hi=>by rw[h i _ hi,aj Qu,aj Qu,ak Qu,show A.l+(A.l+B.l+(d-A.l)-(A.l+B.l))=d by omega]),gQ (f:=fun i=>k (A.b.length+i)*eM (B.b.map (nV A B)) i (A.l+B.l+(d-A.l))) (fun i hi=>by rw[D i _ hi,aj Qu,aj Qu,ak Qu,jh]),ux]at this;exact this
  .dsimp only;by_cases F:d<B.l
   .rw[ak F];have:=G (A.l+d) Qu;rw[split,gQ (f:=fun i=>k i*eM (A.b.map (nU A B)) i (A.l+d)) (fun i hi=>by rw[h i _ hi,aj Qu,ak Qu,jh]),bF (f:=fun i=>k (A.b.length+i)*eM (B.b.map (nV A B)) i (A.l+d)) (g:=fun i=>k (A.b.length+i)*eM B.b i d) (fun i hi=>by rw[D i _ hi,aj Qu,ak Qu,iY]),uQ]at this;exact this
   .rw[aj F];have:=G (A.l+B.l+A.r+(d-B.l)) Qu;rw[split,gQ (f:=fun i=>k i*eM (A.b.map (nU A B)) i (A.l+B.l+A.r+(d-B.l))) (fun i hi=>by rw[h i _ hi,aj Qu,aj Qu,aj Qu,jh]),bF (f:=fun i=>k (A.b.length+i)*eM (B.b.map (nV A B)) i (A.l+B.l+A.r+(d-B.l))) (g:=fun i=>k (A.b.length+i)*eM B.b i d) (fun i hi=>by rw[D i _ hi,aj Qu,aj Qu,aj Qu,show B.l+(A.l+B.l+A.r+(d-B.l)-(A.l+B.l+A.r))=d by omega]),uQ]at this;exact this
 .rintro⟨⟨k,G⟩,⟨l,hl⟩⟩;have J:∀d,bW (fun i=>(if i<A.b.length then k i else l (i-A.b.length))*eM (A.b.map (nU A B)++B.b.map (nV A B)) i d) (A.b.length+B.b)=bW (fun i=>k i*eM (A.b.map (nU A B)) i d) A.b+bW (fun i=>l i*eM (B.b.map (nV A B)) i d) B.b:=fun d=>by
   rw[split];congr 1
   .exact bF fun i hi=>by rw[ak hi]
   .exact bF fun i _=>by rw[aj Qu,iY]
  refine⟨fun i=>if i<A.b.length then k i else l (i-A.b.length),fun d hd=>?_⟩;dsimp only;rw[J];by_cases c1:d<A.l
  .have:=G d Qu;dsimp only at this;rw[ak c1]at this;rw[bF (f:=fun i=>k i*eM (A.b.map (nU A B)) i d) (g:=fun i=>k i*eM A.b i d) (fun i hi=>by rw[h i d hi,ak c1]),gQ (f:=fun i=>l i*eM (B.b.map (nV A B)) i d) (fun i hi=>by rw[D i d hi,ak c1,jh]),ux];exact this
  by_cases c2:d<A.l+B.l
  .have:=hl (d-A.l) Qu;dsimp only at this;rw[ak Qu,show A.l+(d-A.l)=d by omega]at this;rw[gQ (f:=fun i=>k i*eM (A.b.map (nU A B)) i d) (fun i hi=>by rw[h i _ hi,aj c1,ak c2,jh]),bF (f:=fun i=>l i*eM (B.b.map (nV A B)) i d) (g:=fun i=>l i*eM B.b i (d-A.l)) (fun i hi=>by rw[D i _ hi,aj c1,ak c2]),uQ];exact this
  by_cases H:d<A.l+B.l+A.r
  .have:=G (A.l+(d-(A.l+B.l))) Qu;dsimp only at this;rw[aj Qu,show A.l+B.l+(A.l+(d-(A.l+B.l))-A.l)=d by omega]at this;rw[bF (f:=fun i=>k i*eM (A.b.map (nU A B)) i d) (g:=fun i=>k i*eM A.b i (A.l+(d-(A.l+B.l)))) (fun i hi=>by rw[h i _ hi,aj c1,aj c2,ak H]),gQ (f:=fun i=>l i*eM (B.b.map (nV A B)) i d) (fun i hi=>by rw[D i d hi,aj c1,aj c2,ak H,jh]),ux];exact this
  .have:=hl (B.l+(d-(A.l+B.l+A.r))) Qu;dsimp only at this;rw[aj Qu,show A.l+B.l+A.r+(B.l+(d-(A.l+B.l+A.r))-B.l)=d by omega]at this;rw[gQ (f:=fun i=>k i*eM (A.b.map (nU A B)) i d) (fun i hi=>by rw[h i _ hi,aj c1,aj c2,aj H,jh]),bF (f:=fun i=>l i*eM (B.b.map (nV A B)) i d) (g:=fun i=>l i*eM B.b i (B.l+(d-(A.l+B.l+A.r)))) (fun i hi=>by rw[D i _ hi,aj c1,aj c2,aj H]),uQ];exact this
end
section
variable{p:Int}
def zD(h:∀r∈M,r.length=n/\∀x∈r,0<=x/\x<p):eV p M n M:=by
 refine⟨rfl,fun i hi=>(h _ (mZ hi)).1,fun i d hi H=>?_⟩;obtain⟨F,G⟩:=h _ (mZ hi);unfold eM;have D:d < (M.getD i []).length:=by rw[F];exact H
 rw[bf (l:=M.getD i []),di D];exact G _ (xk D)
def d_(k v:Int):List (List Int):=if k=3 then[[1,1,1]] else if k=4 then[[1]] else if k=5 then[[1,0,1],[0,1,1]] else if k=7 then[[1,v]] else[]
def xz(k:Int):Nat:=if k=5 then 2 else if k=6 then 0 else 1
def mf(k:Int):Nat:=if k=3 then 2 else if k=4 then 0 else 1
def Ϣ(p k v:Int)(z:Nat->Int):Prop:=
 if k=3 then p∣z 1-z 0/\p∣z 2-z 0 else if k=5 then p∣z 2-(z 0+z 1) else if k=6 then p∣z 0 else if k=7 then p∣z 1-v*z 0 else True
def FD(p k v:Int):Prop:=3<=k/\k<=7/\(k=7->0<=v/\v<p)
def FD.cases{k v}(h:FD p k v):k=3∨k=4∨k=5∨k=6∨k=7:=by obtain⟨D,F,_⟩:=h;omega
def Cd{k v}(F:2<=p)(h:FD p k v):eV p (d_ k v) (xz k+mf k) (d_ k v):=by
 refine zD ?_;have D:=h.2.2;rcases h.cases with rfl|rfl|rfl|rfl|rfl
 .intro r hr;simp only[d_,ak,kD]at hr;subst hr;refine⟨rfl,fun x hx=>?_⟩;simp at hx;omega
 .intro r hr;exact Xc
 .intro r hr;simp[d_]at hr;exact XD
 .intro r hr;simp[d_]at hr
 .intro r hr;have D:=D rfl;exact Xc
def zjp{k v}(h:FD p k v)z:ij p (d_ k v) (xz k+mf k) (d_ k v) z↔Ϣ p k v z:=by
 rcases h.cases with rfl|rfl|rfl|rfl|rfl
 .constructor
  .rintro⟨k,D⟩;have h0:=D 0 Qw;have h1:=D 1 Qw;have F:=D 2 Qw;simp[d_,bW,eM]at h0 h1 F;refine⟨?_,?_⟩
   .exact X4
   .have:=eY F h0;rwa[show ∀a b c:Int,a-c-(b-c)=a-b from fun a b c=>Qu]at this
  .rintro⟨h1,F⟩;refine⟨z,fun d hd=>?_⟩;have hd:d=0∨d=1∨d=2:=TG;rcases hd with rfl|rfl|rfl<;>simp[d_,bW,eM]<;>assumption
 .refine⟨fun _=>by simp[Ϣ],fun _=>⟨z,fun d hd=>?_⟩⟩;have hd:d=0:=TG;subst hd;simp[d_,bW,eM]
 .constructor
  .rintro⟨k,D⟩;have h0:=D 0 Qw;have h1:=D 1 Qw;have F:=D 2 Qw;simp[d_,bW,eM]at h0 h1 F;have:=eY (eY F h0) h1
   show p∣z 2-(z 0+z 1)
   rwa[show ∀a b c x y:Int,c-(x+y)-(a-x)-(b-y)=c-(a+b) from fun a b c x y=>Qu]at this
  .intro h;have h:p∣z 2-(z 0+z 1):=h;refine⟨z,fun d hd=>?_⟩;have hd:d=0∨d=1∨d=2:=TG;rcases hd with rfl|rfl|rfl<;>simp[d_,bW,eM]
   exact h
 .constructor
  .rintro⟨k,D⟩;have h0:=D 0 Qw;simp[d_,bW]at h0;exact h0
  .intro h;have h:p∣z 0:=h;refine⟨z,fun d hd=>?_⟩;have hd:d=0:=TG;subst hd;simpa[d_,bW]using h
 .constructor
  .rintro⟨k,D⟩;have h0:=D 0 Qw;have h1:=D 1 Qw;simp[d_,bW,eM]at h0 h1
   show p∣z 1-v*z 0
   have:=eY h1 (qd (b:=v) h0);rwa[oE,gU v (k 0),show ∀a b c:Int,a-c-(b-c)=a-b from fun a b c=>Qu]at this
  .intro h;have h:p∣z 1-v*z 0:=h;refine⟨z,fun d hd=>?_⟩;have hd:d=0∨d=1:=TG;rcases hd with rfl|rfl<;>simp[d_,bW,eM]
   rwa[gU]
def mg(n:Nat):List (List Int):=(zK n).map fun r=>r++r
def ED(F:2<=p):eV p n (n+n) (mg n)/\∀i d,i<n->d<n+n->eM (mg n) i d=if d<n then(if d=i then 1 else 0) else if d-n=i then 1 else 0:=by
 have s:=yG (p:=p) (n:=n) F;have H:∀i d,i<n->d<n+n->eM (mg n) i d=if d<n then(if d=i then 1 else 0) else if d-n=i then 1 else 0:=fun i d hi G=>by
  unfold mg;rw[qs Qs,kf,s.2.1 i hi];by_cases h:d<n
  .rw[ak h,ak h];exact yF hi h
  .rw[aj h,aj h];exact yF hi Qu
 refine⟨eV.yP s fun r D=>?_,H⟩;have I:=s.row r D;refine⟨by rw[bm,I],fun d G=>?_⟩;rw[kf];split
 .exact s.vY D Qu
 .exact s.vY D Qu
def idR(n:Nat):Rl:=⟨n,n,mg n⟩
def zkH(h:2<=p)n:(idR n).eV p:=sI (ED h).1
def zkI(F:2<=p)n:(idR n).Red p:=by
 have⟨s,h⟩:=ED (n:=n) F;unfold Rl.Red idR;dsimp only;rw[s.1];refine CM (l:=fun i=>i) s ⟨fun i c hi D=>s.2.2 i c hi D,fun i hi=>Qu,fun i j G _=>G,fun i hi=>?_,fun i c hi D=>?_,fun i j hi H I=>?_⟩
 .rw[h i i hi Qu,ak hi,ak rfl]
 .rw[h i c hi Qu,ak Qu,aj Qu]
 .rw[h i j hi Qu,ak H,aj Qu]
def zjq(O:2<=p)z:(idR n).Sp p z↔∀d,d<n->p∣z (n+d)-z d:=by
 have⟨s,D⟩:=ED (n:=n) O;have F:∀(k:Nat->Int) d,d<n->bW (fun i=>k i*eM (mg n) i d) n=k d/\bW (fun i=>k i*eM (mg n) i (n+d)) n=k d:=fun k d h=>by
  refine⟨?_,?_⟩
  .rw[iC h (fun c G I=>by rw[D c d G Qu,ak h,aj (k_ I),jh]),D d d h Qu,ak h,ak rfl,r_]
  .rw[iC h (fun c G I=>by rw[D c _ G Qu,aj Qu,aj Qu,jh]),D d _ h Qu,aj Qu,ak Qu,r_]
 unfold Rl.Sp idR;dsimp only;rw[s.1];constructor
 .rintro⟨k,H⟩ d h;have h0:=H d Qu;have h1:=H (n+d) Qu;rw[(F k d h).1]at h0;rw[(F k d h).2]at h1;exact X4
 .intro J;refine⟨z,fun d h=>?_⟩;by_cases T:d<n
  .rw[(F z d T).1];exact⟨0,Qu⟩
  .obtain⟨t,rfl⟩:∃t,d=n+t:=⟨d-n,Qu⟩;rw[(F z t Qu).2];exact J t Qu
def swR(p:Int):Rl:=vc p 2 2 [[1,0,0,1],[0,1,1,0]]
def Ž(J:bV p=true):(swR p).Ok p/\∀z,(swR p).Sp p z↔p∣z 2-z 1/\p∣z 3-z 0:=by
 have U:=(cv J).1;have s:eV p 2 (2+2) [[1,0,0,1],[0,1,1,0]]:=zD (M:=[[1,0,0,1],[0,1,1,0]]) fun r hr=>by simp at hr;exact XD
 have⟨O,T⟩:=wg (l:=2) (r:=2) J s;refine⟨O,fun z=>(T z).t ?_⟩;constructor
 .rintro⟨k,F⟩;have G:=F 0 Qw;have h:=F 1 Qw;have D:=F 2 Qw;have H:=F 3 Qw;simp[bW,eM]at G h D H;refine⟨?_,?_⟩
  .have:=eY D h;rwa[show ∀a b c:Int,a-c-(b-c)=a-b from fun a b c=>Qu]at this
  .have:=eY H G;rwa[show ∀a b c:Int,a-c-(b-c)=a-b from fun a b c=>Qu]at this
 .rintro⟨h,D⟩;refine⟨z,fun d I=>?_⟩;have I:d=0∨d=1∨d=2∨d=3:=Qu;rcases I with rfl|rfl|rfl|rfl<;>simp[bW,eM]
  .exact h
  .exact D
def è(p k v:Int):Rl:=vc p (xz k) (mf k) (d_ k v)
def rm(p:Int)(n:Nd):Rl:=
 if n.k=1 then idR n.v.toNat else if n.k=2 then swR p else if 9<=n.k then ô p (è p (n.k-6) n.v) else è p n.k n.v
def s_(p:Int)(n:Nd):Prop:=dI n=true/\n.k≠8/\n.k≠14/\(n.k=7∨n.k=13->n.v<p)
def s_.gen{n}(F:s_ p n)(G:n.k≠1)(J:n.k≠2):if 9<=n.k then FD p (n.k-6) n.v else FD p n.k n.v:=by
 obtain⟨h,O,I,H⟩:=F;unfold dI at h;rw[bN]at h;have h:=h.2;rw[aj G]at h;by_cases D:n.k=7∨n.k=13
 .rw[ak D]at h;simp only[bN,cf]at h;have:=H D;unfold FD;split<;>omega
 .rw[aj D]at h;simp only[bN,cf]at h;unfold FD;split<;>omega
def EE{a}{k v}z:Gr.M p ⟨a+b,[⟨k,v,List.range a,(List.range b).map (· +a)⟩],List.range a,(List.range b).map (· +a)⟩ z↔Ed.Ok p ⟨k,v,List.range a,(List.range b).map (· +a)⟩ z:=by
 unfold Gr.M Gr.Fh;dsimp only;constructor
 .rintro⟨f,F,G,H⟩;refine(Ed.zfZ fun x hx=>?_).1 (F _ (kD.2 rfl));have J:p∣z x-f x:=by
   rcases hx with hx|hx
   .have:=fj.1 hx;exact G x x (iy this)
   .obtain⟨y,h,rfl⟩:=cH.1 hx;have h:=fj.1 h;have:=H y (y+a) (by rw[bI,iy h];rfl);dsimp only at this;rwa[fK,uI]at this
  have:=xl.2 J;rwa[Int.neg_sub]at this
 .intro D;refine⟨z,fun e I=>by rw[kD.1 I];exact D,fun j x hx=>?_,fun j x hx=>?_⟩
  .exact Wz
  .obtain⟨hj,rfl⟩:=bG.1 hx;rw[List.getElem_map,Dh,fK,uI];exact⟨0,Qt⟩
def İ{k v}(D:bV p=true)(h:FD p k v):(è p k v).Ok p/\∀z,(è p k v).Sp p z↔Ϣ p k v z:=by have⟨F,G⟩:=wg (l:=xz k) (r:=mf k) D (Cd (cv D).1 h);exact⟨F,fun z=>(G z).t (zjp h z)⟩
def CN{n}(H:bV p=true)(Y:s_ p n):(rm p n).l=pC n/\(rm p n).r=sC n/\(rm p n).Ok p/\∀z,(rm p n).Sp p z↔(fv n).M p z:=by
 have Z:=(cv H).1;obtain⟨k,v,e⟩:=n;have h:=Y.gen;unfold rm fv;dsimp only at h ⊢;by_cases D:k=1
 .subst D;rw[ak rfl,ak rfl];refine⟨rfl,rfl,⟨zkH Z _,zkI Z _⟩,fun z=>(zjq Z z).t ?_⟩;unfold Gr.M Gr.Fh;dsimp only;rw[fK];constructor
  .intro Y;refine⟨z,fun e ab=>by simp at ab,fun j x hx=>?_,fun j x hx=>?_⟩
   .exact Wz
   .obtain⟨hj,rfl⟩:=bG.1 hx;rw[fK]at hj;rw[Dh];exact Y j hj
  .rintro⟨f,_,F,G⟩ d ah;have T:=F d d (iy ah);have an:=G d d (iy ah);have:=eY an T;rwa[show ∀a b c:Int,a-c-(b-c)=a-b from fun a b c=>Qu]at this
 by_cases I:k=2
 .subst I;rw[aj D,aj D,ak rfl,ak rfl];refine⟨rfl,rfl,(Ž H).1,fun z=>((Ž H).2 z).t ?_⟩;unfold Gr.M Gr.Fh;dsimp only;constructor
  .rintro⟨F,G⟩;refine⟨z,fun e ab=>by simp at ab,fun j x hx=>?_,fun j x hx=>?_⟩
   .rcases j with _|_|j<;>simp at hx<;>subst hx<;>exact⟨0,Qt⟩
   .rcases j with _|_|j<;>simp at hx<;>subst hx
    .exact F
    .exact G
  .rintro⟨f,_,F,G⟩;have am:=F 0 0 rfl;have T:=F 1 1 rfl;have ac:=G 0 1 rfl;have ad:=G 1 0 rfl;simp at ac ad;refine⟨?_,?_⟩
   .have:=eY ac T;rwa[show ∀a b c:Int,a-c-(b-c)=a-b from fun a b c=>Qu]at this
   .have:=eY ad am;rwa[show ∀a b c:Int,a-c-(b-c)=a-b from fun a b c=>Qu]at this
 have h:=h D I;rw[aj D,aj I,aj D,aj I];by_cases J:9<=k
 .rw[ak J]at h ⊢;have⟨U,O⟩:=İ H h;have⟨c1,c2⟩:=zfq H U.Η;obtain⟨m,rfl⟩:∃m,k=m+6:=⟨k-6,Qu⟩;rw[show m+6-6=m by omega]at h O c1 c2 ⊢;have hc:=h.cases;refine⟨?_,?_,c1,fun z=>((c2 z).t (O _)).t ?_⟩
  .show mf m=_
   exact Ws
  .show xz m=_
   exact Ws
  .rw[EE];unfold Ed.Ok;rw[ak J];rcases hc with rfl|rfl|rfl|rfl|rfl<;>simp[zi,Ϣ,pC,sC,è,vc,xz,mf,nk]
 .rw[aj J]at h ⊢;have⟨U,O⟩:=İ H h;have hc:=h.cases;refine⟨?_,?_,U,fun z=>(O z).t ?_⟩
  .show xz k=_
   exact Ws
  .show mf k=_
   exact Ws
  .rw[EE];unfold Ed.Ok;rw[aj J];rcases hc with rfl|rfl|rfl|rfl|rfl<;>simp[zi,Ϣ,pC,sC,nk]
def Tm.rel(p:Int):Tm->Rl
 |.lf n=>rm p n
 |.op k a b=>if k=15 then DF p (a.rel p) (b.rel p) else EW p (a.rel p) (b.rel p)
def Tm.pf(p:Int):Tm->Prop
 |.lf n=>s_ p n
 |.op _ a b=>a.pf p/\b.pf p
def zgb(O:g.In)(U:∀q∈ps,q.1<g.w/\q.2<g.w):(js g ps).In:=by
 have T:l9 g.w (jF g.w ps):=Ef ps _ (qx g.w) U;intro x F;have G:∀y,g.On y->(lG g (jF g.w ps)).idxOf ((jF g.w ps).getD y 0) < (lG g (jF g.w ps)).length:=fun y h=>List.idxOf_lt_length_of_mem (Eg T O h)
 unfold js Gr.map at F ⊢;dsimp only at F ⊢;rcases F with D|D|⟨e,J,F⟩
 .obtain⟨y,h,rfl⟩:=cH.1 D;exact G y (ay h)
 .obtain⟨y,h,rfl⟩:=cH.1 D;exact G y (au (ay h))
 .obtain⟨H,I,rfl⟩:=cH.1 J;unfold Ed.map at F;rcases F with D|D
  .obtain⟨y,h,rfl⟩:=cH.1 D;exact G y (au (au ⟨H,I,ay h⟩))
  .obtain⟨y,h,rfl⟩:=cH.1 D;exact G y (au (au ⟨H,I,au h⟩))
def ů n:(fv n).In:=by
 unfold fv;split
 .rintro x (h|h|⟨e,F,_⟩)
  .exact fj.1 h
  .exact fj.1 h
  .simp at F
 split
 .rintro x (h|h|⟨e,F,_⟩)
  .simp at h;dsimp only;omega
  .simp at h;dsimp only;omega
  .simp at F
 .have hi:∀x,x∈List.range (pC n)->x<pC n+sC n:=fun x D=>by have:=fj.1 D;omega
  have G:∀x,x∈(List.range (sC n)).map (· +pC n)->x<pC n+sC n:=fun x D=>by obtain⟨y,H,rfl⟩:=cH.1 D;have:=fj.1 H;omega
  rintro x (h|h|⟨e,F,D⟩)
  .exact hi x h
  .exact G x h
  .rw[kD.1 F]at D;exact D.elim (hi x) (G x)
def zaT n(h:dI n=true):(fv n).i.length=pC n/\(fv n).o.length=sC n:=by
 unfold fv pC sC;split
 .simp
 split
 .simp
 .simp[pC,sC, *]
def Tm.qF:∀{t:Tm} {c:g_},t.ty=some c->t.gr.In/\t.gr.i.length=c.1/\t.gr.o.length=c.2
 |.lf n,c,F=>by
  unfold Tm.ty at F;split at F
  .rename_i O;simp only[dW]at F;subst F;exact⟨ů n,zaT n O⟩
  .cases F
 |.op k a b,c,F=>by
  have⟨x,y,ah,O,D⟩:=Tm.qE F;have⟨I,T,Z⟩:=Tm.qF ah;have⟨J,ab,U⟩:=Tm.qF O;unfold Tm.gr;unfold gP at D;by_cases e:k=15
  .rw[ak e]at D ⊢;split at D
   .rename_i am;simp only[dW]at D;subst D;refine⟨zgb (sU I J (fun z h=>by have:=I z (ay h);omega) (fun z h=>by
     obtain⟨H,G,rfl⟩:=cH.1 h;have:=J H (au (ay G));omega)) (fun q Y=>by
     have ac:=(pS Y).1;have ad:=(pS Y).2;obtain⟨H,G,e⟩:=cH.1 ad;have:=I _ (au (ay ac));have:=J H (ay G);dsimp only;omega),?_,?_⟩
    .show(List.map _ a.gr.i).length=_
     rw[bs];exact T
    .show(List.map _ (List.map _ b.gr.o)).length=_
     rw[bs,bs];exact U
   .cases D
  .rw[aj e]at D ⊢;split at D
   .split at D
    .simp only[dW]at D;subst D;unfold ls;refine⟨sU I J (fun z h=>?_) (fun z h=>?_),by dsimp only;rw[bm,bs,T,ab],by dsimp only;rw[bm,bs,Z,U]⟩
     .rcases dP.1 h with h|h
      .have:=I z (ay h);omega
      .obtain⟨H,G,rfl⟩:=cH.1 h;have:=J H (ay G);omega
     .rcases dP.1 h with h|h
      .have:=I z (au (ay h));omega
      .obtain⟨H,G,rfl⟩:=cH.1 h;have:=J H (au (ay G));omega
    .cases D
   .cases D
def Tm.tN{p}(F:bV p=true):∀{t:Tm} {c:g_},t.ty=some c->t.pf p->(t.rel p).l=c.1/\(t.rel p).r=c.2/\(t.rel p).Ok p/\∀z,(t.rel p).Sp p z↔t.gr.M p z
 |.lf n,c,D,I=>by
  unfold Tm.ty at D;split at D
  .simp only[dW]at D;subst D;exact CN F I
  .cases D
 |.op k a b,c,D,I=>by
  have⟨x,y,ap,av,h⟩:=Tm.qE D;have⟨G,J,Y,Z⟩:=Tm.tN F ap I.1;have⟨H,ab,ac,ad⟩:=Tm.tN F av I.2;have⟨ah,am,an⟩:=Tm.qF ap;have⟨ao,O,a1⟩:=Tm.qF av;unfold Tm.gr Tm.rel;unfold gP at h;by_cases e:k=15
  .rw[ak e]at h;rw[ak e,ak e];split at h
   .rename_i a0;simp only[dW]at h;subst h;have⟨T,U⟩:=zex F Y.Η ac.Η (by rw[J,H];exact a0);refine⟨G,ab,T,fun z=>(U z).t ?_⟩;rw[zky ah ao (by rw[an,O];exact a0),G,H,am,O];exact exists_congr fun w=>and_congr (Z _) (ad _)
   .cases h
  .rw[aj e]at h;rw[aj e,aj e];split at h
   .split at h
    .simp only[dW]at h;subst h;have⟨T,U⟩:=zft F Y.Η ac.Η;refine⟨by show(a.rel p).l+(b.rel p).l=_;rw[G,H],by show(a.rel p).r+(b.rel p).r=_;rw[J,ab],T,fun z=>(U z).t ?_⟩;rw[zkz ah ao,G,J,H,am,an,O];exact and_congr (Z _) (ad _)
    .cases h
   .cases h
end
section
variable{p:Int}
def Ad{B}{l}(F:mi p n r (eM B) l)v:ij p r n B v↔∀d,d<n->p∣v d-bW (fun i=>v (l i)*eM B i d) r:=by
 constructor
 .rintro⟨k,H⟩;have O:∀j,j<r->p∣k j-v (l j):=fun j D=>by have h:=H (l j) (F.ln j D);rw[iC D (fun c G T=>by rw[F.Å c j G D T,jh]),F.ψ j D,r_]at h;have:=xl.2 h;rwa[Int.neg_sub]at this
  intro d J;have h:=H d J;have I:p∣bW (fun i=>k i*eM B i d) r-bW (fun i=>v (l i)*eM B i d) r:=eN fun c G=>by rw[<-mz];exact Dl (O c G)
  have:=ir h I;rwa[show ∀a b c:Int,a-b+(b-c)=a-c from fun a b c=>Qu]at this
 .intro h;exact⟨fun i=>v (l i),h⟩
def xC(p:Int)(B:aP)(v:aL):Nat->List Int
 |0=>v
 |i+1=>dw p (-((xC p B v i).getD (ew (B.getD i [])) 0)) (xC p B v i) (B.getD i [])
def Ĉ{p}{n r}{B}{v}(O:2<=p)(s:eV p r n B)(h:mi p n r (eM B) (nw B))(J:v.length=n)(H:∀d,d<n->0<=v.getD d 0/\v.getD d 0<p):∀i,i<=r->(xC p B v i).length=n/\∀d,d<n->(0<=(xC p B v i).getD d 0/\(xC p B v i).getD d 0<p)/\p∣(xC p B v i).getD d 0-(v.getD d 0-bW (fun j=>v.getD (nw B j) 0*eM B j d) i)
 |0,_=>⟨J,fun d hd=>⟨H d hd,⟨0,by simp[xC,bW]⟩⟩⟩
 |i+1,hi=>by
  have⟨e1,F⟩:=Ĉ O s h J H i Qu;have I:(B.getD i []).length=n:=s.2.1 i Qu;have ab:nw B i<n:=h.ln i Qu;have U:p∣(xC p B v i).getD (nw B i) 0-v.getD (nw B i) 0:=by have:=(F _ ab).2;rwa[gQ (fun c ac=>by rw[h.Å c i Qu Qu Qu,jh]),AK]at this
  unfold xC;refine⟨by rw[mD,e1,I,rX],fun d hd=>?_⟩;rw[tI (by rw[e1,I]) RO];refine⟨⟨gV _ Qu,gW _ Qu⟩,?_⟩;have D:=lI ((xC p B v i).getD d 0 + -(xC p B v i).getD (ew (B.getD i [])) 0*(B.getD i []).getD d 0) p;have T:=(F d hd).2;have G:p∣((xC p B v i).getD (nw B i) 0-v.getD (nw B i) 0)*eM B i d:=Dl U;rw[bW];have Z:ew (B.getD i [])=nw B i:=rfl;have Y:(B.getD i []).getD d 0=eM B i d:=rfl;rw[Z,Y]at D ⊢;rw[mz]at G;rw[Int.neg_mul]at D ⊢;have:=eY (ir D T) G;rwa[show ∀m y b v s c:Int,m-(y + -b)+(y-(v-s))-(b-c)=m-(v-(s+c)) from fun m y b v s c=>Qu]at this
def BN(p:Int)(B:aP)(v:aL):Bool:=decide (ew (xC p B v B.length)=v.length)
def à(p:Int)(B:aP)(v:aL):Bool:=decide (fY p (B.map fun b=>v.getD (ew b) 0) B v B=v)
def vW:ew xs=xs.length↔∀d,d<xs.length->xs.getD d 0=0:=by
 constructor
 .intro D d H;rw[bf,rn (by rw[D];exact H)];rfl
 .intro D;rcases xp (ew xs) xs with h|h
  .have⟨x,G⟩:=aq h;have F:=D _ h;rw[bf,G]at F;exact absurd F (wM G)
  .exact Nat.le_antisymm (BE xs) h
def Ff{B}{v}(H:2<=p)(s:eV p r n B)(h:mi p n r (eM B) (nw B))(F:v.length=n)(I:∀d,d<n->0<=v.getD d 0/\v.getD d 0<p):BN p B v=true↔ij p r n B (fun d=>v.getD d 0):=by
 unfold BN;have⟨D,G⟩:=Ĉ H s h F I r (ae _);rw[cf,s.1,show ew (xC p B v r)=v.length↔ew (xC p B v r)=(xC p B v r).length by rw[D,F],vW,D,Ad h];refine lg fun d=>lg fun J=>?_
 obtain⟨b,O⟩:=G d J;rw[<-jW O];constructor
 .intro h;rw[h];exact⟨0,Qt⟩
 .intro h;have:=ϡ h;rwa[nq b.1 b.2]at this
def zjY{B}{v}(T:2<=p)(s:eV p r n B)(O:mi p n r (eM B) (nw B))(ac:v.length=n)(Z:∀d,d<n->0<=v.getD d 0/\v.getD d 0<p):à p B v=true↔ij p r n B (fun d=>v.getD d 0):=by
 unfold à;rw[cf,Ad O,s.1,ac];have an:(fY p (B.map fun b=>v.getD (ew b) 0) B n r).length=n:=kN s.2.1 _ (ae _);have J:∀d,d<n->p∣(fY p (B.map fun b=>v.getD (ew b) 0) B n r).getD d 0-bW (fun i=>v.getD (nw B i) 0*eM B i d) r/\0<=(fY p (B.map fun b=>v.getD (ew b) 0) B n r).getD d 0/\(fY p (B.map fun b=>v.getD (ew b) 0) B n r).getD d 0<p:=fun d h=>by
  have:=qU (c:=B.map fun b=>v.getD (ew b) 0) T s.2.1 h r (ae _);have e:eu (fun j=>(B.map fun b=>v.getD (ew b) 0).getD j 0) B r d=bW (fun i=>v.getD (nw B i) 0*eM B i d) r:=by
   unfold eu;refine bF fun i hi=>?_
   have hi':i<B.length:=by rw[s.1];exact hi
   unfold nw;dsimp only;rw[bf (l:=List.map _ _),bI,di hi',bf (l:=B),di hi'];rfl
  rwa[e]at this
 constructor
 .intro e d h;have:=(J d h).1;rwa[e]at this
 .intro ab;refine gk fun d=>?_
  by_cases h:d<n
  .have⟨x,H⟩:=aq (Qu:d < (fY p (B.map fun b=>v.getD (ew b) 0) B n r).length);have⟨y,I⟩:=aq (Qu:d<v.length);have D:=J d h;have G:=ab d h;have F:=Z d h;rw[bf (l:=fY _ _ _ _ _),H]at D;rw[bf (l:=v) (i:=d),I]at G F;simp only[xd]at D G F;rw[H,I];have U:p∣y-x:=by
    have:=eY G D.1;have e:∀S:Int,y-S-(x-S)=y-x:=fun S=>Qu
    rwa[e]at this
   obtain⟨q,ao⟩:=U;have:y=x:=by
    have ad:=nq F.1 F.2;have ah:=nq D.2.1 D.2.2;have Y:y=x+p*q:=Qu;have am:y%p=x%p:=by rw[Y,ĥ]
    omega
   rw[this]
  .rw[eP Qu,eP Qu]
end
section
variable{p:Int}
def vS(p:Int):List (Nat×Int)->List Int->List Int
 |[],r=>r
 |q::L,r=>vS p L (r.set q.1 ((r.getD q.1 0+q.2)%p))
def iD:List (Nat×Int)->Nat->Int
 |[],_=>0
 |q::L,d=>(if q.1=d then q.2 else 0)+iD L d
def qP:List (Nat×Int)->(Nat->Int)->Int
 |[],_=>0
 |q::L,f=>q.2*f q.1+qP L f
def E6 q L d:iD (q::L) d=(if q.1=d then q.2 else 0)+iD L d:=rfl
def zh0 q L f:qP (q::L) f=q.2*f q.1+qP L f:=rfl
def iE(p:Int)(n:Nat)(L:iH):List Int:=vS p L (List.replicate n 0)
def Ch{r:aL}{a}{x}(ha:a<r.length):(r.set a x).getD d 0=if a=d then x else r.getD d 0:=XR
def zd3{p}{n}(U:2<=p):∀(L:iH) (r:aL),r.length=n->(∀d,d<n->0<=r.getD d 0/\r.getD d 0<p)->(∀q∈L,q.1<n)->(vS p L r).length=n/\∀d,d<n->(vS p L r).getD d 0=(r.getD d 0+iD L d)%p
 |[],r,F,D,_=>⟨F,fun d h=>by unfold vS iD;rw[ux,nq (D d h).1 (D d h).2]⟩
 |q::L,r,F,D,H=>by
  have Z:=H q (kb ..);have G:∀d,(r.set q.1 ((r.getD q.1 0+q.2)%p)).getD d 0=if q.1=d then(r.getD q.1 0+q.2)%p else r.getD d 0:=fun d=>Ch Qu
  have⟨I,J⟩:=zd3 U L (r.set q.1 ((r.getD q.1 0+q.2)%p)) (by rw[iW];exact F) (fun d h=>by
   rw[G];split
   .exact Wj
   .exact D d h) (fun Y T=>H Y (kC _ T))
  refine⟨I,fun d h=>(J d h).t ?_⟩;rw[G,E6];split
  .rename_i O;subst O;rw[Int.emod_add_emod];congr 1
   omega
  .rw[uQ]
def sD{L}(H:2<=p)(I:∀q∈L,q.1<n):(iE p n L).length=n/\∀d,d<n->(iE p n L).getD d 0=iD L d%p:=by
 have D:∀d,d<n->(List.replicate n (0:Int)).getD d 0=0:=fun d h=>by rw[bf,fI,ak h];rfl
 have⟨F,G⟩:=zd3 (n:=n) H L (List.replicate n 0) Qt (fun d h=>by rw[D d h];omega) I;refine⟨F,fun d h=>(G d h).t ?_⟩;rw[D d h,uQ]
def Ų{n}{f}:∀(L:iH),(∀q∈L,q.1<n)->bW (fun d=>iD L d*f d) n=qP L f
 |[],_=>by unfold qP;exact gQ fun c _=>by unfold iD;rw[np]
 |q::L,h=>by
  unfold qP;rw[<-Ų L fun G D=>h G (kC _ D)];rw[bF (g:=fun d=>(if q.1=d then q.2 else 0)*f d+iD L d*f d) (fun c _=>by rw[iD,Int.add_mul]),kI];congr 1
  rw[iC (h q (kb ..)) (fun c _ F=>by rw[aj (fun e=>F e.q),np]),ak rfl]
def Ş{L}(D:2<=p)(h:∀q∈L,q.1<n)f:p∣bW (fun d=>(iE p n L).getD d 0*f d) n-qP L f:=by
 rw[<-Ų L h];refine eN fun d F=>?_
 rw[(sD D h).2 d F,<-mz];exact Dl (lI _ _)
def BK(p k v:Int)(i o:bP):List (List (Nat×Int)):=
 if k=3 then[[(o.getD 0 0,1),(i.getD 0 0,p-1)],[(o.getD 1 0,1),(i.getD 0 0,p-1)]]
 else if k=5 then[[(o.getD 0 0,1),(i.getD 0 0,p-1),(i.getD 1 0,p-1)]]
 else if k=6 then[[(o.getD 0 0,1)]]
 else if k=7 then[[(o.getD 0 0,1),(i.getD 0 0,(p-v)%p)]]
 else[]
def Ed.G(p:Int)(e:Ed):List (List (Nat×Int)):=if 9<=e.k then BK p (e.k-6) e.v e.o e.i else BK p e.k e.v e.i e.o
def ς(h:j<l.length):(l.map f).getD j 0=f (l.getD j 0):=by have⟨x,D⟩:=aq h;rw[bf,bI,bf,D];rfl
def zV{a b}q(h:a-b=p*q):p∣a↔p∣b:=jW ⟨q,h⟩
def zgp{k v}{i o}(hi:xz k<=i.length)(h:mf k<=o.length):zi p k v (i.map f) (o.map f)↔∀L∈BK p k v i o,p∣qP L f:=by
 unfold zi BK;by_cases F:k=3
 .subst F;rw[ak rfl,ak rfl];have J:1<=i.length:=hi;have D:2<=o.length:=h;rw[ς Qu,ς Qu,ς Qu];simp only[et,gJ,gX,forall_eq_or_imp,forall_eq,qP];refine and_congr (zV (-f (i.getD 0 0)) ?_) (zV (-f (i.getD 0 0)) ?_)<;>rw[mz]<;>rw[AL]<;>omega
 rw[aj F,aj F];by_cases G:k=5
 .subst G;rw[ak rfl,ak rfl];have J:2<=i.length:=hi;have D:1<=o.length:=h;rw[ς Qu,ς Qu,ς Qu];simp only[et,gJ,gX,forall_eq,qP];refine zV (-f (i.getD 0 0) + -f (i.getD 1 0)) ?_;rw[mz,mz,Aq,AL,AL];omega
 rw[aj G,aj G];by_cases H:k=6
 .subst H;rw[ak rfl,ak rfl];have D:1<=o.length:=h;rw[ς Qu];simp only[et,gJ,gX,forall_eq,qP];exact zV 0 Qu
 rw[aj H,aj H];by_cases I:k=7
 .subst I;rw[ak rfl,ak rfl];have J:1<=i.length:=hi;have D:1<=o.length:=h;rw[ς Qu,ς Qu];simp only[et,gJ,gX,forall_eq,qP];refine jW ?_;have:p∣((p-v)%p-(p-v))*f (i.getD 0 0):=Dl (lI (p-v) p);have O:p∣p*f (i.getD 0 0):=⟨_,rfl⟩;have:=xl.2 (ir this O);rw[mz,mz]at this;rwa[show ∀a b m q:Int,a-b-(1*a+(m+0))=-(m-(q-b)+q) from fun a b m q=>Qu]
 .rw[aj I,aj I];simp
def tf(D:e.jd=true):3<=e.k/\e.k<=14/\e.i.length=pC ⟨e.k,e.v,true⟩/\e.o.length=sC ⟨e.k,e.v,true⟩:=by
 unfold Ed.jd at D;simp only[bN,cf]at D;obtain⟨h,F,hi,G⟩:=D;refine⟨F,?_,hi,G⟩;unfold dI at h;simp only[xm]at h;rw[aj Qu]at h;split at h
 .omega
 .simp only[bN,cf]at h;omega
def ώ{k v}{b}(h:3<=k)(D:k<=8):pC ⟨k,v,b⟩=xz k/\sC ⟨k,v,b⟩=mf k/\pC ⟨k+6,v,b⟩=mf k/\sC ⟨k+6,v,b⟩=xz k:=by have:k=3∨k=4∨k=5∨k=6∨k=7∨k=8:=Qu;rcases this with rfl|rfl|rfl|rfl|rfl|rfl<;>exact⟨rfl,rfl,rfl,rfl⟩
def Ed.zgq(h:e.jd=true):e.Ok p f↔∀L∈e.G p,p∣qP L f:=by
 have⟨F,G,h3,h4⟩:=tf h;unfold Ed.Ok Ed.G;split
 .rename_i D;have⟨_,_,g1,g2⟩:=ώ (k:=e.k-6) (v:=e.v) (b:=true) Qu Qu;rw[show e.k-6+6=e.k by omega]at g1 g2;exact zgp Te Td
 .rename_i D;have⟨g1,g2,_,_⟩:=ώ (k:=e.k) (v:=e.v) (b:=true) Qu Qu;exact zgp Td Te
def ku(h:j<l.length):l.getD j 0∈l:=by rw[bf,di h];exact xk h
def Œ{k v}{i o}{w}(hi:xz k<=i.length)(G:mf k<=o.length)(Z:∀x∈i,x<w)(ab:∀x∈o,x<w):∀L∈BK p k v i o,∀q∈L,q.1<w:=by
 have F:∀j,j<i.length->i.getD j 0<w:=fun j I=>Z _ (ku I)
 have go:∀j,j<o.length->o.getD j 0<w:=fun j I=>ab _ (ku I)
 unfold BK;by_cases O:k=3
 .subst O;have J:1<=i.length:=hi;have H:2<=o.length:=G;rw[ak rfl];intro L h q D;have a:=F 0 Qu;have b:=go 0 Qu;have c:=go 1 Qu;simp only[et,gJ,gX]at h;rcases h with rfl|rfl<;>simp only[et,gJ,gX]at D<;>rcases D with rfl|rfl<;>assumption
 rw[aj O];by_cases T:k=5
 .subst T;have J:2<=i.length:=hi;have H:1<=o.length:=G;rw[ak rfl];intro L h q D;have a:=F 0 Qu;have b:=F 1 Qu;have c:=go 0 Qu;simp only[et,gJ,gX]at h;subst h;simp only[et,gJ,gX]at D;rcases D with rfl|rfl|rfl<;>assumption
 rw[aj T];by_cases U:k=6
 .subst U;have H:1<=o.length:=G;rw[ak rfl];intro L h q D;have c:=go 0 Qu;simp only[et,gJ,gX]at h;subst h;simp only[et,gJ,gX]at D;subst D;assumption
 rw[aj U];by_cases Y:k=7
 .subst Y;have J:1<=i.length:=hi;have H:1<=o.length:=G;rw[ak rfl];intro L h q D;have a:=F 0 Qu;have c:=go 0 Qu;simp only[et,gJ,gX]at h;subst h;simp only[et,gJ,gX]at D;rcases D with rfl|rfl<;>assumption
 .rw[aj Y];intro L h;simp at h
end
section
variable{J N:Nat}{p:Int}
def Gr.iT:g.B=true↔g.w<=100/\g.es.length<=60/\g.i.length<=12/\g.o.length<=12/\(∀e∈g.es,e.jd=true)/\(∀x,x<g.w->g.O x=true)/\(∀x∈g.i,x<g.w)/\(∀x∈g.o,x<g.w)/\∀e∈g.es,(∀x∈e.i,x<g.w)/\∀x∈e.o,x<g.w:=by unfold Gr.B;simp only[bN,eD,cf]
def Gr.V(p:Int)(g:Gr):List (List (Nat×Int)):=g.es.flatMap (Ed.G p)
def Gr.rows(p:Int)(g:Gr):List (List Int):=(g.V p).map (iE p g.w)
def Gr.yh(J:∀e∈g.es,e.jd=true)(G:g.In):∀L∈g.V p,∀q∈L,q.1<g.w:=by
 intro L h;unfold Gr.V at h;obtain⟨e,D,h⟩:=lh.1 h;have⟨O,T,h3,h4⟩:=tf (J e D);have H:∀x∈e.i,x<g.w:=fun x F=>G x (au (au ⟨e,D,ay F⟩))
 have I:∀x∈e.o,x<g.w:=fun x F=>G x (au (au ⟨e,D,au F⟩))
 unfold Ed.G at h;split at h
 .have⟨_,_,g1,g2⟩:=ώ (k:=e.k-6) (v:=e.v) (b:=true) Qu Qu;rw[show e.k-6+6=e.k by omega]at g1 g2;exact Œ Te Td I H L h
 .have⟨g1,g2,_,_⟩:=ώ (k:=e.k) (v:=e.v) (b:=true) Qu Qu;exact Œ Td Te H I L h
def zaE{X:List (List (Nat×Int))}(G:2<=p)(F:∀L∈X,∀q∈L,q.1<n):eV p X n (X.map (iE p n)):=by
 have:=zD (p:=p) (n:=n) (M:=X.map (iE p n)) fun r J=>by obtain⟨L,H,rfl⟩:=cH.1 J;have⟨h,D⟩:=sD G (F L H);refine⟨h,fun x O=>?_⟩;obtain⟨d,I,rfl⟩:=De O;have:=D d Qu;rw[bf,di I,xd]at this;rw[this];exact Wj
 rwa[bs]at this
def zhd{X:List (List (Nat×Int))}(G:2<=p)(F:∀L∈X,∀q∈L,q.1<n)f:DK p X n (X.map (iE p n)) f↔∀L∈X,p∣qP L f:=by
 have D:∀i,(hi:i<X.length)->p∣bW (fun d=>eM (X.map (iE p n)) i d*f d) n-qP (X[i]) f:=fun i hi=>by
  have:=Ş G (F X[i] (xk hi)) f;have e:(X.map (iE p n)).getD i []=iE p n X[i]:=by rw[bf,bI,di hi];rfl
  unfold eM;rw[e];exact this
 unfold DK;constructor
 .intro h L H;obtain⟨i,hi,rfl⟩:=De H;exact(jW (D i hi)).1 (h i hi)
 .intro h i hi;exact(jW (D i hi)).2 (h _ (xk hi))
def Gr.zfU(G:∀e∈g.es,e.jd=true):g.Fh p f↔∀L∈g.V p,p∣qP L f:=by
 unfold Gr.Fh Gr.V;constructor
 .intro F L h;obtain⟨e,D,h⟩:=lh.1 h;exact(Ed.zgq (G e D)).1 (F e D) L h
 .intro F e D;exact(Ed.zgq (G e D)).2 fun L h=>F L (lh.2 ⟨e,D,h⟩)
def Gr.zc(D:2<=p)(h:∀e∈g.es,e.jd=true)(F:g.In):eV p (g.V p) g.w (g.rows p):=zaE D (Gr.yh h F)
def Gr.lN(p:Int)(g:Gr):List (List Int):=xN p g.w (g.rows p)
def Gr.D0(h:bV p=true)(F:∀e∈g.es,e.jd=true)(G:g.In):eV p (g.lN p) g.w (g.lN p):=by have⟨r,l,_,D,_,_⟩:=Ex h (cv h).1 (Gr.zc (cv h).1 F G);exact sI D
def Gr.zaF(F:bV p=true)(h:∀e∈g.es,e.jd=true)(G:g.In)f:ij p (g.lN p) g.w (g.lN p) f↔g.Fh p f:=by have D:=(cv F).1;unfold Gr.lN;rw[zeC F (Gr.zc D h G),Gr.zfU h];exact zhd D (Gr.yh h G) f
def eC(l:bP)(row:aL):List Int:=l.map fun x=>row.getD x 0
def CH{row}(h:d<l.length):(eC l row).getD d 0=row.getD (l.getD d 0) 0:=ς h
def Gr.qw(p:Int)(g:Gr):Rl:=vc p g.i g.o ((g.lN p).map (eC (g.i++g.o)))
def Bh{i o}{z}:(nB p i f z/\nB p o f (fun j=>z (i.length+j)))↔∀d,d<i.length+o->p∣z d-f ((i++o).getD d 0):=by
 have F:∀d,(i++o).getD d 0=if d<i.length then i.getD d 0 else o.getD (d-i.length) 0:=fun d=>by rw[bf,C9];split<;>rw[bf]
 constructor
 .rintro⟨H,I⟩ d J;rw[F];by_cases D:d<i.length
  .rw[ak D];have⟨x,h⟩:=aq D;rw[bf,h];exact H d x h
  .rw[aj D];have⟨x,h⟩:=aq (Qu:d-i.length<o);rw[bf,h];have:=I _ x h;dsimp only at this;rwa[show i.length+(d-i.length)=d by omega]at this
 .intro D;refine⟨fun j x h=>?_,fun j x h=>?_⟩
  .have G:=(bG.1 h).1;have:=D j Qu;rwa[F,ak G,bf,h]at this
  .have G:=(bG.1 h).1;have:=D (i.length+j) Qu;rwa[F,aj Qu,iY,bf,h]at this
def Gr.zfV(F:bV p=true)(G:∀e∈g.es,e.jd=true)(D:g.In):(g.qw p).Ok p/\∀z,(g.qw p).Sp p z↔g.M p z:=by
 have O:=Gr.D0 F G D;have I:∀d,d<g.i.length+g.o->(g.i++g.o).getD d 0<g.w:=fun d hd=>by
  have:=ku (l:=g.i++g.o) (j:=d) RP;rcases dP.1 this with H|H
  .exact D _ (ay H)
  .exact D _ (au (ay H))
 have ac:eV p (g.lN p) (g.i.length+g.o) ((g.lN p).map (eC (g.i++g.o))):=eV.yP O fun r U=>by refine⟨by unfold eC;rw[bs,bm],fun d hd=>?_⟩;rw[CH RP];exact O.vY U (I d hd)
 have⟨Z,ab⟩:=wg F ac;refine⟨Z,fun z=>(ab z).t ?_⟩;have J:∀k d,k < (g.lN p).length->d<g.i.length+g.o->eM ((g.lN p).map (eC (g.i++g.o))) k d=eM (g.lN p) k ((g.i++g.o).getD d 0):=fun k d h hd=>by unfold eM;rw[bf (l:=List.map _ _),bI,di h,bf (l:=g.lN p),di h];exact CH RP
 unfold Gr.M;constructor
 .rintro⟨k,h⟩;refine⟨fun x=>bW (fun i=>k i*eM (g.lN p) i x) (g.lN p),(Gr.zaF F G D _).1 ⟨k,fun d _=>⟨0,Qt⟩⟩,Bh.2 fun d hd=>?_⟩;have:=h d hd;rwa[bF (fun i hi=>by rw[J i d hi hd])]at this
 .rintro⟨f,Y,T⟩;obtain⟨k,h⟩:=(Gr.zaF F G D _).2 Y;refine⟨k,fun d hd=>?_⟩;have h1:=Bh.1 T d hd;have h3:=h _ (I d hd);rw[bF (fun i hi=>by rw[J i d hi hd])];exact XZ
def zbu(F:∀y,ij p N n M y↔ij p J n M' y)x:DK p N n M x↔DK p J n M' x:=⟨fun h=>zcX (fun y D=>(F y).2 D) h,fun h=>zcX (fun y D=>(F y).1 D) h⟩
def zhe{A B:Rl}(U:2<=p)(Y:A.Ok p)(Z:B.Ok p)(I:A.l=B.l)(J:A.r=B.r)(h:∀z,A.Sp p z↔B.Sp p z):A=B:=by
 obtain⟨D,G⟩:=Y;obtain⟨F,H⟩:=Z;obtain⟨l,r,b⟩:=A;obtain⟨ac,r',ab⟩:=B;dsimp only at I J;subst I;subst J;unfold Rl.Sp at h;unfold Rl.eV at D F;unfold Rl.Red at G H;dsimp only at h D F G H;have⟨O,T⟩:=zfv U G H (fun x=>zbu h x);congr 1
 refine zkd D (by rw[O];exact F) T
def Tm.zhf(h:bV p=true){t:Tm}{c}(D:t.ty=some c)(ab:t.pf p)(Z:∀e∈t.gr.es,e.jd=true):t.rel p=t.gr.qw p:=by have⟨F,G,H,I⟩:=Tm.tN h D ab;have⟨T,U,Y⟩:=Tm.qF D;have⟨J,O⟩:=Gr.zfV h Z T;exact zhe (cv h).1 H J (F.t U.q) (G.t Y.q) fun z=>(I z).t (O z).q
end
section
variable{N:Nat}{p:Int}
def zdo{f}:∀(l:bP) (r:aL),l.length=r->qP (l.zip r) f=bW (fun j=>r.getD j 0*f (l.getD j 0)) r
 |[],[],_=>rfl
 |[],_::_,h=>QO
 |_::_,[],h=>QO
 |x::l,y::r,h=>by
  rw[List.zip_cons_cons,zh0,zdo l r Q_,jT,show r.length+1=1+r by omega,x_];congr 1
  .simp[bW]
  .refine bF fun j _=>?_
   rw[uI 1 j];rfl
def zi_(D:bV p=true)(s:eV p N n M)z:DK p (ql p M n) n (ql p M n) z↔ij p N n M z:=by
 rw[od D s];constructor
 .intro h x G;have F:=(DL D s x).2 G;have:=yR h F;rwa[bF (fun d _=>gU (z d) (x d))]at this
 .intro h i hi;exact h (fun d=>eM (ql p M n) i d) ((DL D s _).1 (yS hi))
def zja{i o:bP}:i.map f=(List.range i).map (fun j=>f ((i++o).getD j 0))/\o.map f=((List.range o).map (· +i.length)).map (fun j=>f ((i++o).getD j 0)):=by
 constructor
 .refine gk fun j=>?_
  rw[bI,bI];by_cases h:j<i.length
  .rw[iy h,di h,ox,ox,bf,dU h,di h];rfl
  .rw[eP Qu,eP (by rw[fK];omega)];rfl
 .refine gk fun j=>?_
  rw[bI,bI,bI];by_cases h:j<o.length
  .rw[iy h,di h,ox,ox,ox,bf,fi Qu,Nat.add_sub_cancel,di h];rfl
  .rw[eP Qu,eP (by rw[fK];omega)];rfl
def Ed.yk(p:Int)(e:Ed):List (List Int):=ql p (rm p ⟨e.k,e.v,true⟩).b (e.i.length+e.o)
def Ed.zdp(h:bV p=true)(I:e.jd=true)(T:s_ p ⟨e.k,e.v,true⟩):eV p (e.yk p) (e.i.length+e.o) (e.yk p):=by have⟨_,_,J,O⟩:=tf I;have⟨D,F,G,_⟩:=CN h T;have s:=G.Η;unfold Rl.eV at s;rw[D,F,<-J,<-O]at s;have⟨r,l,_,H,_,_⟩:=xV h (cv h).1 s;exact sI H
def Ed.zkB(I:bV p=true)(T:e.jd=true)(U:s_ p ⟨e.k,e.v,true⟩):e.Ok p f↔∀r∈e.yk p,p∣qP ((e.i++e.o).zip r) f:=by
 have⟨ap,av,G,H⟩:=tf T;have⟨J,O,ab,ac⟩:=CN I U;have s:=ab.Η;unfold Rl.eV at s;have Z:=s;rw[J,O,<-G,<-H]at Z;have ah:(∀r∈e.yk p,p∣qP ((e.i++e.o).zip r) f)↔DK p (e.yk p) (e.i.length+e.o) (e.yk p) (fun j=>f ((e.i++e.o).getD j 0)):=by
  have ao:=Ed.zdp I T U;have D:∀r∈e.yk p,qP ((e.i++e.o).zip r) f=bW (fun j=>r.getD j 0*f ((e.i++e.o).getD j 0)) (e.i.length+e.o):=fun r D=>by have Y:=ao.row r D;rw[zdo _ _ (by rw[bm,Y]),Y]
  constructor
  .intro F i hi;have h:=mZ (rows:=e.yk p) hi;have:=F _ h;rw[D _ h]at this;exact this
  .intro F r h;obtain⟨i,hi,rfl⟩:=De h;rw[D _ h];have:=F i hi;unfold eM at this;rwa[bf (l:=e.yk p),di hi]at this
 rw[ah];unfold Ed.yk;rw[zi_ I Z];have ad:ij p (rm p ⟨e.k,e.v,true⟩).b (e.i.length+e.o) (rm p ⟨e.k,e.v,true⟩).b (fun j=>f ((e.i++e.o).getD j 0))↔(fv ⟨e.k,e.v,true⟩).M p (fun j=>f ((e.i++e.o).getD j 0)):=by rw[<-ac];unfold Rl.Sp;rw[J,O,<-G,<-H]
 rw[ad];unfold fv;dsimp only;rw[aj Qu,aj Qu,EE,<-G,<-H];have⟨am,an⟩:=zja (i:=e.i) (o:=e.o) (f:=f);unfold Ed.Ok;dsimp only;rw[<-am,<-an]
def Gr.zjb(F:bV p=true)(h:∀e∈g.es,e.jd=true/\s_ p ⟨e.k,e.v,true⟩):g.Fh p f↔∀e∈g.es,∀r∈e.yk p,p∣qP ((e.i++e.o).zip r) f:=lg fun e=>lg fun D=>Ed.zkB F (h e D).1 (h e D).2
end
def Bz(p:Int)(r W:aL)(n:Nat):Int:=bW (fun d=>r.getD d 0*W.getD d 0) n%p
def ç(p:Int)(g:Gr)(W:aL):Bool:=g.es.all fun e=>(e.yk p).all fun r=>decide (Bz p (iE p g.w ((e.i++e.o).zip r)) W g.w=0)
def lN(p:Int)(g:Gr)(W:aL):Bool:=(g.rows p).all fun r=>decide (Bz p r W g.w=0)
def EG{p}{L}{W}(D:2<=p)(h:∀q∈L,q.1<n):Bz p (iE p n L) W n=0↔p∣qP L (fun d=>W.getD d 0):=by unfold Bz;rw[<-jW (Ş D h (fun d=>W.getD d 0))];exact⟨Int.dvd_of_emod_eq_zero,ϡ⟩
def Gr.pf(p:Int)(g:Gr):Prop:=∀e∈g.es,e.jd=true/\s_ p ⟨e.k,e.v,true⟩
def zjt{p}{g}{W}(F:bV p=true)(G:g.In)(H:g.pf p):ç p g W=true↔g.Fh p (fun d=>W.getD d 0):=by
 have I:=(cv F).1;rw[Gr.zjb F H];unfold ç;simp only[eD,cf];refine lg fun e=>lg fun D=>lg fun r=>lg fun T=>EG I fun q O=>?_
 have J:=(pS O).1;rcases dP.1 J with h|h
 .exact G _ (au (au ⟨e,D,ay h⟩))
 .exact G _ (au (au ⟨e,D,au h⟩))
def zju{p}{g}{W}(I:bV p=true)(H:g.In)(F:∀e∈g.es,e.jd=true):lN p g W=true↔g.Fh p (fun d=>W.getD d 0):=by
 have G:=(cv I).1;rw[Gr.zfU F];unfold lN Gr.rows;simp only[eD,cf,cH];constructor
 .intro D L h;exact(EG G (Gr.yh F H L h)).1 (D _ ⟨L,h,rfl⟩)
 .rintro D r ⟨L,h,rfl⟩;exact(EG G (Gr.yh F H L h)).2 (D L h)
structure ř(p:Int)(g:Gr)(R:Rl)(X Y W:aL):Prop where
 lw:W.length=g.w
 el:∀x∈W,0<=x/\x<p
 val:g.Fh p (fun d=>W.getD d 0)
 fx:eC g.i W=X
 fy:eC g.o W=Y
 no:¬R.Sp p (fun d=>(X++Y).getD d 0)
def EH(p:Int)(g:Gr)(A B:Rl)(X Y W:aL):Bool:=
 jX p X A.l&&(jX p Y A.r&&(jX p W g.w&&(BN p A.b (X++Y)&&(!BN p B.b (X++Y)&&(ç p g W&&decide (eC (g.i++g.o) W=X++Y))))))
def â(p:Int)(g:Gr)(B:Rl)(X Y W:aL):Bool:=
 decide (X.length=g.i)&&(decide (Y.length=g.o)&&(jX p W g.w&&(lN p g W&&(decide (eC g.i W=X)&&(decide (eC g.o W=Y)&&!à p B.b (X++Y))))))
def BA{a b}{W}:eC (a++b) W=eC a W++eC b W:=by unfold eC;rw[kA]
def wJ{p}{W}(G:∀x∈l,x<n)(I:W.length=n)(F:∀x∈W,0<=x/\x<p):∀y∈eC l W,0<=y/\y<p:=by intro y h;unfold eC at h;obtain⟨x,H,rfl⟩:=cH.1 h;have:=G x H;have⟨z,D⟩:=aq (Qu:x<W.length);rw[bf,D];exact F z (aU D)
def zF{p}{v:aL}(F:∀x∈v,0<=x/\x<p)(D:d<v.length):0<=v.getD d 0/\v.getD d 0<p:=by have⟨z,h⟩:=aq D;rw[bf,h];exact F z (aU h)
section
variable{p:Int}{g:Gr}{A B:Rl}{X Y W:aL}
def zjv(T:bV p=true)(J:g.In)(ac:∀e∈g.es,e.jd=true)(Z:B.Ok p)(ao:B.l=g.i.length)(ap:B.r=g.o.length):â p g B X Y W=true↔ř p g B X Y W:=by
 have ad:=(cv T).1;have hi:∀x∈g.i,x<g.w:=fun x h=>J x (ay h)
 have am:∀x∈g.o,x<g.w:=fun x h=>J x (au (ay h))
 have U:W.length=g.w->(∀x∈W,0<=x/\x<p)->eC g.i W=X->eC g.o W=Y->(à p B.b (X++Y)=true↔B.Sp p (fun d=>(X++Y).getD d 0)):=fun D H F G=>by
  have e1:(X++Y).length=B.l+B.r:=by rw[<-F,<-G,bm,ao,ap];simp[eC]
  have ab:∀x∈X++Y,0<=x/\x<p:=fun x h=>by
   rcases dP.1 h with h|h
   .rw[<-F]at h;exact wJ hi D H x h
   .rw[<-G]at h;exact wJ am D H x h
  exact zjY ad Z.Η Z.red e1 fun d hd=>zF ab RO
 unfold â;simp only[bN,cf,il,zju T J ac,uE];constructor
 .rintro⟨_,_,⟨D,H⟩,O,F,G,I⟩;have D:W.length=g.w:=Qu;exact⟨D,H,O,F,G,fun an=>by rw[(U D H F G).2 an]at I;cases I⟩
 .rintro⟨D,H,O,F,G,I⟩;refine⟨by rw[<-F];simp[eC],by rw[<-G];simp[eC],⟨by rw[D],H⟩,O,F,G,?_⟩;cases ah:à p B.b (X++Y)with
  |false=>rfl
  |true=>exact absurd ((U D H F G).1 ah) I
def zjw(ah:bV p=true)(ab:g.In)(ap:g.pf p)(am:A.Ok p)(a5:A.l=g.i.length)(a6:A.r=g.o.length)(av:∀z,A.Sp p z↔g.M p z)(O:B.Ok p)(a8:B.l=g.i.length)(a9:B.r=g.o.length):EH p g A B X Y W=true↔ř p g B X Y W:=by
 have Z:=(cv ah).1;have hi:∀x∈g.i,x<g.w:=fun x h=>ab x (ay h)
 have a3:∀x∈g.o,x<g.w:=fun x h=>ab x (au (ay h))
 unfold EH;simp only[bN,cf,il,zjt ah ab ap,uE];constructor
 .rintro⟨⟨an,T⟩,⟨ao,U⟩,⟨D,H⟩,a7,ac,J,ad⟩;have D:W.length=g.w:=Qu;rw[BA]at ad;have⟨F,G⟩:=List.append_inj ad (by simp[eC];omega);refine⟨D,H,J,F,G,fun a4=>?_⟩;have e1:(X++Y).length=B.l+B.r:=Ra;have I:∀x∈X++Y,0<=x/\x<p:=fun x h=>(dP.1 h).elim (T x) (U x)
  rw[(Ff Z O.Η O.red e1 fun d hd=>zF I RO).2 a4]at ac;cases ac
 .rintro⟨D,H,J,F,G,a2⟩;have T:∀x∈X,0<=x/\x<p:=fun x h=>by rw[<-F]at h;exact wJ hi D H x h
  have U:∀x∈Y,0<=x/\x<p:=fun x h=>by rw[<-G]at h;exact wJ a3 D H x h
  have an:X.length=g.i:=by rw[<-F];simp[eC]
  have ao:Y.length=g.o:=by rw[<-G];simp[eC]
  have I:∀x∈X++Y,0<=x/\x<p:=fun x h=>(dP.1 h).elim (T x) (U x)
  have a0:g.M p (fun d=>(X++Y).getD d 0):=by refine⟨fun d=>W.getD d 0,J,Bh.2 fun d hd=>?_⟩;rw[<-F,<-G,<-BA,CH RP];exact⟨0,Qt⟩
  refine⟨⟨by rw[an,a5],T⟩,⟨by rw[ao,a6],U⟩,⟨by rw[D],H⟩,?_,?_,J,by rw[BA,F,G]⟩
  .have e1:(X++Y).length=A.l+A.r:=Ra;exact(Ff Z am.Η am.red e1 fun d hd=>zF I RO).2 ((av _).2 a0)
  .have e1:(X++Y).length=B.l+B.r:=Ra;cases a1:BN p B.b (X++Y)with
   |false=>rfl
   |true=>exact absurd ((Ff Z O.Η O.red e1 fun d hd=>zF I RO).1 a1) a2
end
def zdK{p}(h:bV p=true){a b:Tm}{c}{X Y W}(T:a.ty=some c)(U:b.ty=some c)(ao:a.pf p)(ab:b.pf p)(O:a.gr.pf p)(an:b.gr.pf p):EH p a.gr (a.rel p) (b.rel p) X Y W=â p a.gr (b.gr.qw p) X Y W:=by
 have⟨ac,ad,ah,am⟩:=Tm.tN h T ao;have⟨H,I,J,ap⟩:=Tm.tN h U ab;have⟨Z,F,G⟩:=Tm.qF T;have e:=Tm.zhf h U ab fun e D=>(an e D).1
 rw[<-e,jQ,zjw h Z O ah (ac.t F.q) (ad.t G.q) am J (H.t F.q) (I.t G.q),zjv h Z (fun e D=>(O e D).1) J (H.t F.q) (I.t G.q)]
def zan{n}(h:dI n=true):dI ⟨n.k,n.v,true⟩=true:=by unfold dI at h ⊢;rw[bN]at h;rw[bN];exact⟨rfl,h.2⟩
def sH{n}(h:dI n=true):(fv n).B=true:=by
 have T:=tK h;have H:=ů n;have⟨U,Y⟩:=zaT n h;rw[Gr.iT];have J:(∀x∈(fv n).i,x < (fv n).w)/\(∀x∈(fv n).o,x < (fv n).w)/\∀e∈(fv n).es,(∀x∈e.i,x < (fv n).w)/\∀x∈e.o,x < (fv n).w:=
  ⟨fun x D=>H x (ay D),fun x D=>H x (au (ay D)),fun e F=>⟨fun x D=>H x (au (au ⟨e,F,ay D⟩)),fun x D=>H x (au (au ⟨e,F,au D⟩))⟩⟩
 have I:(fv n).w<=100/\(fv n).es.length<=60/\(∀e∈(fv n).es,e.jd=true)/\∀x,x < (fv n).w->(fv n).O x=true:=by
  by_cases G:n.k=1
  .have:fv n=⟨n.v.toNat,[],List.range n.v.toNat,List.range n.v.toNat⟩:=by unfold fv;rw[ak G]
   rw[this];have:n.v.toNat<=12:=by unfold dI at h;rw[bN]at h;have h:=h.2;rw[ak G]at h;simp only[bN,cf]at h;omega
   exact⟨RY,Qt,fun e F=>by simp at F,fun x D=>Gr.lO.2 (ay (fj.2 D))⟩
  by_cases O:n.k=2
  .have:fv n=⟨2,[],[0,1],[1,0]⟩:=by unfold fv;rw[aj G,ak O]
   rw[this];refine⟨RY,Qt,fun e F=>by simp at F,fun x D=>Gr.lO.2 (ay ?_)⟩;have:x=0∨x=1:=by dsimp only at D;omega
   rcases this with rfl|rfl<;>simp
  .have:fv n=⟨pC n+sC n,[⟨n.k,n.v,List.range (pC n),(List.range (sC n)).map (· +pC n)⟩],List.range (pC n),(List.range (sC n)).map (· +pC n)⟩:=by unfold fv;rw[aj G,aj O]
   rw[this];refine⟨RY,Qt,fun e F=>?_,fun x D=>Gr.lO.2 ?_⟩
   .have F:e=_:=kD.1 F;subst F;have ac:3<=n.k:=by
     unfold dI at h;rw[bN]at h;have h:=h.2;rw[aj G]at h;by_cases ad:n.k=7∨n.k=13
     .omega
     .rw[aj ad]at h;simp only[bN,cf]at h;omega
    have Z:pC ⟨n.k,n.v,true⟩=pC n:=rfl;have ab:sC ⟨n.k,n.v,true⟩=sC n:=rfl;unfold Ed.jd;dsimp only;rw[zan h,Z,ab];simp[ac]
   .dsimp only at D;by_cases ah:x<pC n
    .exact ay (fj.2 ah)
    .exact au (ay (cH.2 ⟨x-pC n,fj.2 Qu,Qu⟩))
 exact⟨I.1,I.2.1,by rw[U];exact T.1,by rw[Y];exact T.2,I.2.2.1,I.2.2.2,J.1,J.2.1,J.2.2⟩
def Tm.qR k a b:(Tm.op k a b).d=a.d++b.d++[⟨k,0,true⟩]:=rfl
def Tm.zao k a b:(Tm.op k a b).gr=if k=15 then pK a.gr b.gr else ls a.gr b.gr:=rfl
def Tm.I:Tm->List Nd
 |.lf n=>[n]
 |.op _ a b=>a.I++b.I
def Gr.kv(g:Gr):List (Int×Int):=g.es.map fun e=>(e.k,e.v)
def zap a b:(fG a b).map (fun e=>(e.k,e.v))=a.kv++b.kv:=by unfold fG Gr.kv;rw[kA,nr];rfl
def zlq a b:(pK a b).kv=a.kv++b.kv:=by rw[<-zap];unfold pK js Gr.kv Gr.map;dsimp only;rw[nr];rfl
def zlr a b:(ls a b).kv=a.kv++b.kv:=by rw[<-zap];rfl
def zki n:(fv n).kv=if n.k=1∨n.k=2 then[] else[(n.k,n.v)]:=by
 unfold fv;by_cases h:n.k=1
 .rw[ak h,ak (ay h)];rfl
 by_cases D:n.k=2
 .rw[aj h,ak D,ak (au D)];rfl
 .rw[aj h,aj D,aj Qu];rfl
def Tm.AX:∀{t:Tm} {x:Int×Int},x∈t.gr.kv↔∃n∈t.I,n.k≠1/\n.k≠2/\x=(n.k,n.v)
 |.lf n,x=>by
  show x∈(fv n).kv↔∃m∈[n],_
  rw[zki];by_cases h:n.k=1∨n.k=2
  .rw[ak h];simp only[gJ,kD,exists_eq_left,false_iff];omega
  .rw[aj h];simp only[kD,exists_eq_left];constructor
   .intro e;exact⟨Qu,Qu,e⟩
   .rintro⟨_,_,e⟩;exact e
 |.op k a b,x=>by
  have D:(Tm.op k a b).gr.kv=a.gr.kv++b.gr.kv:=by
   rw[Tm.zao];by_cases e:k=15
   .rw[ak e];exact zlq _ _
   .rw[aj e];exact zlr _ _
  rw[D,dP,Tm.AX (t:=a),Tm.AX (t:=b)]
  show _↔∃n∈a.I++b.I,_
  constructor
  .rintro(⟨n,h,r⟩|⟨n,h,r⟩)
   .exact⟨n,oD _ h,r⟩
   .exact⟨n,kE _ h,r⟩
  .rintro⟨n,h,r⟩;rcases dP.1 h with h|h
   .exact ay ⟨n,h,r⟩
   .exact au ⟨n,h,r⟩
def Tm.tq:∀{t:Tm} {c:g_},t.ty=some c->∀n∈t.I,dI n=true
 |.lf n,c,D,m,h=>by
  have h:m=n:=kD.1 h;subst h;unfold Tm.ty at D;split at D
  .assumption
  .cases D
 |.op k a b,c,D,m,h=>by
  have⟨x,y,F,G,_⟩:=Tm.qE D;rcases dP.1 h with h|h
  .exact Tm.tq F m h
  .exact Tm.tq G m h
def qS(L:List Nd):Bool:=L.all fun n=>decide (n.k≠8)&&decide (n.k≠14)
def qp(p:Int)(L:List Nd):Bool:=L.all fun n=>!(decide (n.k=7)||decide (n.k=13))||decide (n.v<p)
def Tm.DE{p}:∀{t:Tm} {c:g_},t.ty=some c->(t.pf p↔qS t.d=true/\qp p t.d=true)
 |.lf n,c,G=>by
  unfold Tm.ty at G;split at G
  .rename_i I;unfold Tm.pf s_ qS qp Tm.d;simp only[Ax,List.all_nil,Bool.and_true,bN,cf,jS,uE,uC,uD];constructor
   .rintro⟨_,h,D,F⟩;refine⟨⟨h,D⟩,?_⟩;by_cases e:n.k=7∨n.k=13
    .exact au (F e)
    .exact ay Qu
   .rintro⟨⟨h,D⟩,F⟩;exact⟨I,h,D,fun e=>Qu⟩
  .cases G
 |.op k a b,c,G=>by
  have⟨x,y,U,I,Y⟩:=Tm.qE G;have J:=qD Y;have O:qS (Tm.op k a b).d=(qS a.d&&qS b.d):=by rw[Tm.qR];unfold qS;rw[rV,rV];rcases J with rfl|rfl<;>simp
  have T:qp p (Tm.op k a b).d=(qp p a.d&&qp p b.d):=by rw[Tm.qR];unfold qp;rw[rV,rV];rcases J with rfl|rfl<;>simp
  rw[O,T];unfold Tm.pf;rw[Tm.DE U,Tm.DE I];simp only[bN];constructor
  .rintro⟨⟨h,D⟩,F,H⟩;exact⟨⟨h,F⟩,D,H⟩
  .rintro⟨⟨h,F⟩,D,H⟩;exact⟨⟨h,D⟩,F,H⟩
structure vg where
 f:List Nat
 i:List Nat
 o:List Nat
def vg.add(s:vg)(a b c:Nat):vg:=⟨s.f++[a],s.i++[b],s.o++[c]⟩
def mj(s:vg)(n:Nd):Option vg:=
 if dI n=true then some (s.add s.f (pC n) (sC n))
 else if FC n=true/\n.v=0/\n.e=true/\2<=s.f.length/\1<=s.f.getD (s.f.length-1) 0 then
  match gP n.k (s.i.getD (s.f.getD (s.f.length-1) 0-1) 0,s.o.getD (s.f.getD (s.f.length-1) 0-1) 0) (s.i.getD (s.f.length-1) 0,s.o.getD (s.f.length-1) 0)with
  |some c=>some (s.add (s.f.getD (s.f.getD (s.f.length-1) 0-1) 0) c.1 c.2)
  |none=>none
 else none
def mV:List Nd->vg->Option vg
 |[],s=>some s
 |n::L,s=>match mj s n with
  |some h=>mV L h
  |none=>none
def vx(s:vg):Nat->List Tm->Prop
 |k,[]=>k=0
 |k,t::S=>∃c,t.ty=some c/\1<=k/\k<=s.f.length/\s.f.getD (k-1) 0+t.d.length=k/\s.i.getD (k-1) 0=c.1/\s.o.getD (k-1) 0=c.2/\vx s (s.f.getD (k-1) 0) S
structure yY(s:vg)(S:List Tm):Prop where
 li:s.i.length=s.f
 lo:s.o.length=s.f
 ch:vx s s.f.length S
def yZ{a}(h:k<l.length):(l++[a]).getD k 0=l.getD k 0:=by rw[bf,dU h,bf]
def DV{a}:(l++[a]).getD l 0=a:=by rw[bf,fi (ae _),pR];rfl
def Tm.sQ(t:Tm):1<=t.d.length:=by
 cases t with
 |lf n=>simp[Tm.d]
 |op k a b=>simp[Tm.d];omega
def vx.add{s}{a b c}(Y:s.i.length=s.f)(lo:s.o.length=s.f):∀{S:List Tm} {k:Nat},k<=s.f.length->vx s k S->vx (s.add a b c) k S
 |[],k,_,G=>G
 |t::S,k,ab,⟨d,H,I,Z,J,O,T,U⟩=>by have h:(s.add a b c).f.getD (k-1) 0=s.f.getD (k-1) 0:=yZ Qu;have D:(s.add a b c).i.getD (k-1) 0=s.i.getD (k-1) 0:=yZ Qu;have F:(s.add a b c).o.getD (k-1) 0=s.o.getD (k-1) 0:=yZ Qu;refine⟨d,H,I,by show k<=(s.f++[a]).length;rw[bm];omega,by rw[h];exact J,by rw[D];exact O,by rw[F];exact T,?_⟩;rw[h];exact vx.add Y lo Qu U
def ziZ{s}{t:Tm}{c}{a}(h:yY s S)(I:t.ty=some c)(H:a+t.d.length=s.f+1)(G:vx s a S'):yY (s.add a c.1 c.2) (t::S'):=by
 have J:=t.sQ;have F:(s.add a c.1 c.2).f.length=s.f+1:=by show(s.f++[a]).length=_;simp
 have D:(s.add a c.1 c.2).f.getD s.f 0=a:=DV;refine⟨by show(s.i++[c.1]).length=(s.f++[a]);simp[h.li],by show(s.o++[c.2]).length=(s.f++[a]);simp[h.lo],?_⟩;rw[F];refine⟨c,I,Qu,by rw[F];exact ae _,?_,?_,?_,?_⟩<;>rw[Nat.add_sub_cancel]
 .rw[D];exact H
 .show(s.i++[c.1]).getD s.f 0=c.1
  rw[<-h.li];exact DV
 .show(s.o++[c.2]).getD s.f 0=c.2
  rw[<-h.lo];exact DV
 .rw[D];exact vx.add h.li h.lo Qu G
def ć{n}(D:FC n=true):dI n=false:=by
 unfold FC at D;simp only[jS,cf]at D;cases h:dI n with
 |false=>rfl
 |true=>
  exfalso;unfold dI at h;rw[bN]at h;have h:=h.2;rw[aj Qu,aj Qu]at h;simp only[bN,cf]at h;omega
def DW{s}n(H:yY s S):(∃Z S',mj s n=some Z/\ρ S n=some S'/\yY Z S')∨(mj s n=none/\ρ S n=none):=by
 by_cases F:FC n=true
 .have h:=ć F;unfold mj ρ;rw[h,aj Qw,ak F];by_cases G:n.v=0/\n.e=true
  .rw[ak G];have I:=H.ch
   match S,I with
   |[],I=>
    right;have:s.f.length=0:=I;exact⟨aj (fun D=>Qu),rfl⟩
   |[t],⟨d,O,an,ao,ap,T,U,av⟩=>
    right;have:s.f.getD (s.f.length-1) 0=0:=av;exact⟨aj (fun D=>Qu),rfl⟩
   |b::a::a6,⟨d,O,an,ao,ap,T,U,J,ab,ac,a7,a8,ad,ah,am⟩=>
    have a9:=b.sQ;rw[ak ⟨F,G.1,G.2,Qu,ac⟩,T,U,ad,ah];dsimp only;have Y:(Tm.op n.k a b).ty=gP n.k J d:=by unfold Tm.ty;rw[ab,O]
    rw[Y];obtain⟨a2,a3⟩:=d;obtain⟨a4,a5⟩:=J;cases a1:gP n.k (a4,a5) (a2,a3)with
    |none=>right;exact⟨rfl,rfl⟩
    |some c=>
     left;refine⟨_,_,rfl,rfl,?_⟩;refine ziZ H (Y.t a1) ?_ am;have a0:(Tm.op n.k a b).d=a.d++b.d++[⟨n.k,0,true⟩]:=rfl;rw[a0,bm,bm,Dd];omega
  .rw[aj G,aj (fun D=>G ⟨D.2.1,D.2.2.1⟩)];right;exact⟨rfl,rfl⟩
 .unfold mj ρ;rw[aj F];by_cases h:dI n=true
  .rw[ak h,ak h];left;exact⟨_,_,rfl,rfl,ziZ (c:=(pC n,sC n)) H (by unfold Tm.ty;rw[ak h]) (by simp[Tm.d]) H.ch⟩
  .rw[aj h,aj h,aj (fun D=>F D.1)];right;exact⟨rfl,rfl⟩
def DX:∀(L:List Nd) {s:vg} {S:List Tm},yY s S->(∃G S',mV L s=some G/\fp L S=some S'/\yY G S')∨(mV L s=none/\fp L S=none)
 |[],s,S,F=>ay ⟨s,S,rfl,rfl,F⟩
 |n::L,s,S,F=>by
  unfold mV fp;rcases DW n F with⟨G,S',h,D,H⟩|⟨h,D⟩
  .rw[h,D];exact DX L H
  .rw[h,D];exact au ⟨rfl,rfl⟩
def zha{L}(ao:L≠[]):(∃s,mV L ⟨[],[],[]⟩=some s/\s.f.getD (L.length-1) 0=0)↔∃t,č L t:=by
 have an:yY ⟨[],[],[]⟩ []:=⟨rfl,rfl,rfl⟩;rcases DX L an with⟨s,S,H,h,I⟩|⟨H,h⟩
 .have ah:=tM h;simp only[vJ,rP]at ah;have ap:∀{S:List Tm} {k:Nat},vx s k S->(vJ S).length=k:=by
   intro S;induction S with
   |nil=>intro k G;have:k=0:=G;rw[this];rfl
   |cons t S ih=>
    rintro k ⟨d,T,U,Y,Z,ab,ac,F⟩;unfold vJ;rw[bm,ih F];omega
  have G:=ap I.ch;rw[ah]at G;constructor
  .rintro⟨a3,D,ad⟩;rw[H]at D;simp only[dW]at D;subst D;have J:=I.ch
   match S,J with
   |[],J=>
    have:s.f.length=0:=J;exact absurd (Ao.1 (G.t this)) ao
   |t::am,⟨d,T,U,Y,Z,ab,ac,F⟩=>
    rw[G]at ad;rw[ad]at F
    match am,F with
    |[],_=>exact⟨t,sZ.2 h⟩
    |a4::av,⟨a0,a1,a2,_⟩=>omega
  .rintro⟨t,O⟩;have:=(sZ.1 O).q.t h;simp only[dW]at this;subst this;obtain⟨d,T,U,Y,Z,ab,ac,F⟩:=I.ch;have:s.f.getD (s.f.length-1) 0=0:=F;exact⟨s,H,by rw[G];exact this⟩
 .constructor
  .rintro⟨s,D,_⟩;rw[H]at D;cases D
  .rintro⟨t,O⟩;rw[sZ.1 O]at h;cases h
section
variable{p:Int}
def ã(k v:Int)(i o:bP):List (List (Nat×Int)):=
 if k=3 then[[(o.getD 0 0,1),(i.getD 0 0,-1)],[(o.getD 1 0,1),(i.getD 0 0,-1)]]
 else if k=5 then[[(o.getD 0 0,1),(i.getD 0 0,-1),(i.getD 1 0,-1)]]
 else if k=6 then[[(o.getD 0 0,1)]]
 else if k=7 then[[(o.getD 0 0,1),(i.getD 0 0,-v)]]
 else[]
def Ed.zbO(e:Ed):List (List (Nat×Int)):=if 9<=e.k then ã (e.k-6) e.v e.o e.i else ã e.k e.v e.i e.o
def pj(p:Int)(n:Nat)(L:iH):List Int:=(List.range n).map fun d=>iD L d%p
def zlT{L}(h:d<n):(pj p n L).getD d 0=iD L d%p:=by unfold pj;rw[bf,bI,iy h];rfl
def EO p n L:(pj p n L).length=n:=by simp[pj]
def zhP{L}(H:2<=p)(G:∀q∈L,q.1<n):iE p n L=pj p n L:=by
 have⟨I,F⟩:=sD H G;refine gk fun d=>?_
 by_cases h:d<n
 .have:=F d h;have D:=zlT (p:=p) (L:=L) h;rw[bf,di Qu]at this;rw[bf,di (by rw[EO];exact h)]at D;rw[di Qu,di (by rw[EO];exact h)];simp only[xd]at this D;rw[this,D]
 .rw[eP Qu,eP (by rw[EO];omega)]
def zaZ{L h}(D:∀d,p∣iD L d-iD h d):pj p n L=pj p n h:=by
 unfold pj;refine kB fun d _=>?_
 exact Int.emod_eq_emod_iff_emod_sub_eq_zero.2 (ϡ (D d))
def zjE{k v}{i o}:(BK p k v i o).map (pj p n)=(ã k v i o).map (pj p n):=by
 have ψ:∀(a b:Nat) (x y:Int),p∣x-y->pj p n [(a,1),(b,x)]=pj p n [(a,1),(b,y)]:=fun a b x y h=>zaZ fun d=>by
  simp only[iD];by_cases D:b=d
  .rw[ak D,ak D];rwa[show ∀q:Int,q+(x+0)-(q+(y+0))=x-y from fun q=>Qu]
  .rw[aj D,aj D];exact⟨0,Qu⟩
 have J:∀(a b c:Nat) (x y:Int),p∣x-y->pj p n [(a,1),(b,x),(c,x)]=pj p n [(a,1),(b,y),(c,y)]:=fun a b c x y h=>zaZ fun d=>by simp only[iD];have G:p∣(if b=d then x else 0)-(if b=d then y else 0):=Ud;have H:p∣(if c=d then x else 0)-(if c=d then y else 0):=Ud;have:=ir G H;rwa[show ∀q b c e f:Int,q+(b+(c+0))-(q+(e+(f+0)))=b-e+(c-f) from fun q b c e f=>Qu]
 have F:p∣p-1 - -1:=⟨1,Qu⟩;have I:p∣(p-v)%p - -v:=by have:=ir (lI (p-v) p) (show p∣p from⟨1,Qu⟩);rwa[show ∀m:Int,m-(p-v)+p=m - -v from fun m=>Qu]at this
 unfold BK ã;split
 .simp only[se,rU];rw[ψ _ _ _ _ F,ψ _ _ _ _ F]
 split
 .simp only[se,rU];rw[J _ _ _ _ _ F]
 split
 .rfl
 split
 .simp only[se,rU];rw[ψ _ _ _ _ I]
 .rfl
def Ed.zdO:(e.G p).map (pj p n)=e.zbO.map (pj p n):=by unfold Ed.G Ed.zbO;split<;>exact zjE
def Gr.f_(g:Gr):Nat:=g.i.length+g.o
def Gr.H(p:Int)(g:Gr):List (List Int):=(List.range g.f_).map fun k=>iE p (g.f_+g.w) [(k,1),(g.f_+(g.i++g.o).getD k 0,p-1)]
def Gr.og(p:Int)(g:Gr):List (List Int):=g.H p++(g.rows p).map fun r=>List.replicate g.f_ 0++r
def Gr.N(p:Int)(g:Gr):Sy:=⟨g.f_,g.w,g.og p⟩
def td p k v i o:(BK p k v i o).length<=2:=by
 unfold BK
 (repeat' split)<;>simp
def EP{D F:Type}{f:D->List F}(h:∀a,(f a).length<=2):∀(l:List D),(l.flatMap f).length<=2*l
 |[]=>Qt
 |a::l=>by rw[List.flatMap_cons,bm,jT];have:=EP h l;have:=h a;omega
def Gr.zkJ p(g:Gr):(g.V p).length<=2*g.es:=EP (fun e=>by unfold Ed.G;split<;>exact td ..) g.es
def zjF(s:eV p c n M):∀r∈M,r.length=n/\∀x∈r,0<=x/\x<p:=fun r h=>by have F:=s.row r h;refine⟨F,fun x G=>?_⟩;obtain⟨d,D,rfl⟩:=De G;have:=s.vY h (d:=d) Qu;rwa[bf,di D]at this
def Gr.zlU(G:bV p=true)(I:g.B=true):(g.N p).Ok p:=by
 have F:=(cv G).1;obtain⟨am,an,ao,ap,T,av,U,Y,a0⟩:=Gr.iT.1 I;have ac:=Gr.mE I;have ab:=zjF (zaE (p:=p) (n:=g.f_+g.w) (X:=(List.range g.f_).map fun k=>[(k,1),(g.f_+(g.i++g.o).getD k 0,p-1)]) F fun L Z q O=>by
  obtain⟨k,H,rfl⟩:=cH.1 Z;have H:=fj.1 H;simp only[et,gJ,gX]at O;rcases O with rfl|rfl
  .dsimp only;omega
  .have:=ku (l:=g.i++g.o) (j:=k) (by rw[bm];exact H);have a2:(g.i++g.o).getD k 0<g.w:=by
    rcases dP.1 this with D|D
    .exact U _ D
    .exact Y _ D
   dsimp only;omega)
 have ah:=zjF (Gr.zc F T ac);have a1:(g.rows p).length<=2*g.es:=by unfold Gr.rows;rw[bs];exact Gr.zkJ p g
 have J:∀r∈g.og p,r.length=g.f_+g.w/\∀x∈r,0<=x/\x<p:=fun r h=>by
  unfold Gr.og at h;rcases dP.1 h with h|h
  .refine ab r ?_;unfold Gr.H at h;rw[nr];exact h
  .obtain⟨r',ad,rfl⟩:=cH.1 h;obtain⟨c1,c2⟩:=ah r' ad;refine⟨by rw[bm,fA,c1],fun x D=>?_⟩;rcases dP.1 D with D|D
   .rw[(List.mem_replicate.1 D).2];omega
   .exact c2 x D
 unfold Gr.N Sy.Ok;refine⟨G,F,(cv G).2,RY,by dsimp only;unfold Gr.f_;omega,RY,RY,?_,fun r h=>by have:=(J r h).1;dsimp only;omega,fun r h=>(J r h).2⟩;dsimp only;unfold Gr.og Gr.H;rw[bm,bs,bs,fK];unfold Gr.f_;omega
end
structure Ck(n:Nat)(P C:bP):Prop where
 ι:P.length=n
 cls:l9 n C
 le:∀w,w<n->P.getD w 0<=w
 Ë:∀w,w<n->P.getD w 0=w->C.getD w 0=w
 up:∀w,w<n->C.getD (P.getD w 0) 0=C.getD w 0
def tp(h:x<n):(List.range n).getD x 0=x:=by rw[bf,iy h];rfl
def ziF n:Ck n (List.range n) (List.range n):=by
 refine⟨fK,qx n,fun w h=>?_,fun w h _=>tp h,fun w h=>?_⟩
 .rw[tp h];exact ae _
 .rw[tp h,tp h]
def zgR{a}(ha:a<l.length):(l.set a x).getD d 0=if a=d then x else l.getD d 0:=XR
def zkg{P}(h:Ck n P C)(T:x<n)(U:y<n):Ck n (P.set (max (C.getD x 0) (C.getD y 0)) (min (C.getD x 0) (C.getD y 0))) (mI C x y):=by
 have ao:=h.cls.le x T;have ap:=h.cls.le y U;have Z:=h.cls.rep x T;have ab:=h.cls.rep y U;have⟨M,I⟩:=aR (max (C.getD x 0) (C.getD y 0));have⟨m,J⟩:=aR (min (C.getD x 0) (C.getD y 0));have an:m<=M:=Qu;have ah:M<n:=Qu;have Y:C.getD M 0=M:=by
  rcases Aw (C.getD x 0) (C.getD y 0)with F|F
  .rw[I,Nat.max_eq_right F];exact ab
  .rw[I,Nat.max_eq_left F];exact Z
 have ad:C.getD m 0=m:=by
  rcases Aw (C.getD x 0) (C.getD y 0)with F|F
  .rw[J,iw F];exact Z
  .rw[J,uG F];exact ab
 have H:∀z,z<n->(mI C x y).getD z 0=if C.getD z 0=M then m else C.getD z 0:=fun z am=>by rw[kP h.cls am,<-I,<-J]
 rw[<-I,<-J];have O:∀d,(P.set M m).getD d 0=if M=d then m else P.getD d 0:=fun d=>zgR (by rw[h.ι];exact ah)
 refine⟨SM,vB h.cls T U,fun w D=>?_,fun w D e=>?_,fun w D=>?_⟩
 .rw[O];split
  .omega
  .exact h.le w D
 .rw[O]at e;rw[H w D];split at e
  .rename_i G;subst G;rw[ak Y];exact e
  .rename_i G;have:=h.Ë w D e;rw[this,aj (fun ac=>G ac.q)]
 .rw[O];split
  .rename_i G;subst G;rw[H _ D,H m Qu,Y,ad,ak rfl];split<;>rfl
  .have:=h.le w D;rw[H w D,H _ Qu,h.up w D]
def Fl(g:Gr)(c:bP)(r:Nat):Bool:=decide (c.getD r 0=r)&&(List.range g.w).any fun x=>g.O x&&decide (c.getD x 0=r)
def yO g c:lG g c=(List.range g.w).filter (Fl g c):=rfl
def DC{Q}{r}:∀{w:Nat},r<w->Q r=true->((List.range w).filter Q).idxOf r=((List.range r).filter Q).length
 |0,F,_=>Qu
 |w+1,F,D=>by
  rw[nk,C5];by_cases e:r=w
  .subst e;have G:r∉(List.range r).filter Q:=fun h=>by have:=fj.1 (xj.1 h).1;omega
   rw[List.idxOf_append,aj G];have:([r].filter Q)=[r]:=by simp[D]
   rw[this,List.idxOf_cons];simp
  .have h:r∈(List.range w).filter Q:=xj.2 ⟨fj.2 Qu,D⟩;rw[List.idxOf_append,ak h];exact DC Qu D
def zcJ{Q}w:((List.range (w+1)).filter Q).length=((List.range w).filter Q)+if Q w=true then 1 else 0:=by
 rw[nk,C5,bm];congr 1
 by_cases h:Q w=true
 .rw[ak h];simp[h]
 .rw[aj h];simp[h]
def zlp{c}(h:l9 g.w c)(D:g.In)(F:g.On x):Fl g c (c.getD x 0)=true:=by have:=Eg h D F;rw[yO]at this;exact(xj.1 this).2
def DD(g:Gr)(c:bP)(x:Nat):Nat:=((List.range (c.getD x 0)).filter (Fl g c)).length
def zkh{c}(h:l9 g.w c)(D:g.In)(F:g.On x):(lG g c).idxOf (c.getD x 0)=DD g c x:=by have G:=D x F;have H:=h.le x G;exact DC Qu (zlp h D F)
def Ed.R{f D}(F:∀x,x∈e.i∨x∈e.o->f x=D x):e.map f=e.map D:=by unfold Ed.map;rw[kB (fun x h=>F x (ay h)),kB (l:=e.o) (fun x h=>F x (au h))]
def Gr.R{w}{f F}(D:∀x,g.On x->f x=F x):g.map w f=g.map w F:=by unfold Gr.map;rw[kB (l:=g.es) (fun e G=>Ed.R fun x h=>D x (au (au ⟨e,G,h⟩))),kB (l:=g.i) (fun x h=>D x (ay h)),kB (l:=g.o) (fun x h=>D x (au (ay h)))]
def ziG(h:g.In)(F:∀q∈ps,q.1<g.w/\q.2<g.w):js g ps=g.map ((List.range g.w).filter (Fl g (jF g.w ps))) (DD g (jF g.w ps)):=by
 have D:l9 g.w (jF g.w ps):=Ef ps _ (qx g.w) F;unfold js;rw[yO];refine Gr.R fun x G=>?_
 rw[<-yO];exact zkh D h G
def ū n ps q:jF n (ps++[q])=mI (jF n ps) q.1 q.2:=by unfold jF;rw[List.foldl_append];rfl
section
variable{p:Int}
def Tm.zeE k a b:(Tm.op k a b).pM=(a.pM&&(b.pM&&((Tm.op k a b).gr).B)):=rfl
def Tm.DN:∀{t:Tm},t.pM=true->t.gr.B=true
 |.lf _,h=>h
 |.op k a b,h=>by rw[Tm.zeE,bN,bN]at h;exact h.2.2
def Tm.vt{p}:∀{t:Tm},t.pf p->∀n∈t.I,s_ p n
 |.lf n,D,m,h=>by have h:m=n:=kD.1 h;subst h;exact D
 |.op k a b,D,m,h=>by
  rcases dP.1 h with h|h
  .exact Tm.vt D.1 m h
  .exact Tm.vt D.2 m h
def Tm.zbn{t:Tm}(Y:t.pf p)(O:t.pM=true):t.gr.pf p:=fun e D=>by have J:=(Gr.iT.1 (Tm.DN O)).2.2.2.2.1 e D;have T:(e.k,e.v)∈t.gr.kv:=cH.2 ⟨e,D,rfl⟩;obtain⟨n,U,_,_,h⟩:=Tm.AX.1 T;obtain⟨F,G,H,I⟩:=Tm.vt Y n U;simp only[Prod.mk.injEq]at h;refine⟨J,?_⟩;rw[h.1,h.2];exact⟨zan F,G,H,I⟩
def ϙ(p:Int)(g:Gr):Bool:=(g.es.all fun e=>decide (e.v<p))&&g.es.all fun e=>decide (e.k≠8)&&decide (e.k≠14)
def Tm.vu:∀{t:Tm} {c:g_},t.ty=some c->∀n∈t.d,n∈t.I∨n.k=15∨n.k=16
 |.lf n,c,F,m,h=>ay h
 |.op k a b,c,F,m,h=>by
  have⟨x,y,G,H,I⟩:=Tm.qE F;have J:=qD I;rw[Tm.qR]at h;rcases dP.1 h with h|h
  .rcases dP.1 h with h|h
   .rcases Tm.vu G m h with D|D
    .exact ay (oD _ D)
    .exact au D
   .rcases Tm.vu H m h with D|D
    .exact ay (kE _ D)
    .exact au D
  .rw[kD.1 h];exact au J
def Tm.qW:∀{t:Tm},∀n∈t.I,n∈t.d
 |.lf n,m,h=>h
 |.op k a b,m,h=>by
  rw[Tm.qR];refine oD _ ?_;rcases dP.1 h with h|h
  .exact oD _ (Tm.qW m h)
  .exact kE _ (Tm.qW m h)
def zc3{n}(H:2<=p)(h:dI n=true)(F:n.k≠1)(G:n.k=7∨n.k=13->n.v<p):n.v<p:=by
 unfold dI at h;rw[bN]at h;have h:=h.2;rw[aj F]at h;by_cases D:n.k=7∨n.k=13
 .exact G D
 .rw[aj D]at h;simp only[bN,cf]at h;omega
def Tm.zkn{t:Tm}{c}(O:2<=p)(I:t.ty=some c)(H:qp p t.d=true):ϙ p t.gr=qS t.d:=by
 have Y:∀n∈t.d,n.k=7∨n.k=13->n.v<p:=fun n D T=>by unfold qp at H;have:=eD.1 H n D;simp only[jS,uE,uC,uD,cf]at this;omega
 rw[jQ];unfold ϙ qS;simp only[bN,eD,cf];constructor
 .rintro⟨_,G⟩ n D;rcases Tm.vu I n D with U|T
  .by_cases ab:n.k=1∨n.k=2
   .omega
   .obtain⟨e,F,h⟩:=cH.1 (Tm.AX.2 ⟨n,U,Qu,Qu,rfl⟩);simp only[Prod.mk.injEq]at h;have:=G e F;rw[h.1]at this;exact this
  .omega
 .intro G;refine⟨fun e F=>?_,fun e F=>?_⟩
  .obtain⟨n,D,J,Z,h⟩:=Tm.AX.1 (cH.2 ⟨e,F,rfl⟩:(e.k,e.v)∈t.gr.kv);simp only[Prod.mk.injEq]at h;rw[h.2];exact zc3 O (Tm.tq I n D) J (Y n (Tm.qW n D))
  .obtain⟨n,D,J,Z,h⟩:=Tm.AX.1 (cH.2 ⟨e,F,rfl⟩:(e.k,e.v)∈t.gr.kv);simp only[Prod.mk.injEq]at h;rw[h.1];exact G n (Tm.qW n D)
def Ι(S:List Gr)(n:Nd):Option (List Gr):=
 if n.k=15∨n.k=16 then
  match S with
  |b::a::S'=>if(if n.k=15 then pK a b else ls a b).B=true then some ((if n.k=15 then pK a b else ls a b)::S') else none
  |_=>none
 else if(fv n).B=true then some (fv n::S) else none
def oV:List Nd->List Gr->Option (List Gr)
 |[],S=>some S
 |n::L,S=>match Ι S n with
  |some S'=>oV L S'
  |none=>none
def tv n L S:oV (n::L) S=match Ι S n with|some S'=>oV L S'|none=>none:=rfl
def zfQ{n}(h:dI n=true):¬(n.k=15∨n.k=16):=fun D=>by
 have:FC n=true:=by unfold FC;rcases D with e|e<;>rw[e]<;>rfl
 rw[ć this]at h;cases h
def yc:∀{t:Tm} {c:g_} (L:List Nd) (S:List Gr),t.ty=some c->oV (t.d++L) S=if t.pM=true then oV L (t.gr::S) else none
 |.lf n,c,L,S,h=>by
  have D:dI n=true:=by
   unfold Tm.ty at h;split at h
   .assumption
   .cases h
  have I:(Tm.lf n).pM=true:=sH D;rw[ak I]
  show oV (n::L) S=oV L (fv n::S)
  rw[tv];unfold Ι;rw[aj (zfQ D),ak (sH D)]
 |.op k a b,c,L,S,h=>by
  have⟨x,y,H,D,J⟩:=Tm.qE h;have O:=qD J;rw[Tm.qR,fJ,fJ,yc _ S H,Tm.zeE];by_cases h1:a.pM=true
  .rw[ak h1,yc _ _ D,h1];by_cases h2:b.pM=true
   .rw[ak h2,h2]
    show oV (⟨k,0,true⟩::L) _=_
    rw[tv,Tm.zao];unfold Ι;dsimp only;rw[ak O];have⟨F,G⟩:=aR (if k=15 then pK a.gr b.gr else ls a.gr b.gr);rw[<-G];by_cases e:F.B=true
    .rw[ak e,e,ak Qs]
    .rw[aj e,aj QC]
   .rw[aj h2,aj QQ]
  .rw[aj h1,aj QP]
def zg3{t:Tm}{c}(h:t.ty=some c):oV t.d []=if t.pM=true then some [t.gr] else none:=by have:=yc [] [] h;rwa[lZ]at this
end
structure Gr.G1(g:Gr):Prop where
 inr:g.In
 fit:∀e∈g.es,e.jd=true
 on:∀x,x<g.w->g.On x
def Gr.nK(h:g.B=true):g.G1:=⟨Gr.mE h,(Gr.iT.1 h).2.2.2.2.1,fun x D=>Gr.lO.1 ((Gr.iT.1 h).2.2.2.2.2.1 x D)⟩
def Ed.zfT f(e:Ed):(e.map f).jd=e.jd:=by unfold Ed.jd Ed.map;simp only[bs]
def Gr.ziX{w}{f}(h:g.On y):(g.map w f).On (f y):=by
 rcases h with h|h|⟨e,D,h⟩
 .exact ay (cH.2 ⟨y,h,rfl⟩)
 .exact au (ay (cH.2 ⟨y,h,rfl⟩))
 .refine au (au ⟨e.map f,cH.2 ⟨e,D,rfl⟩,?_⟩);exact h.E (fun h=>cH.2 ⟨y,h,rfl⟩) fun h=>cH.2 ⟨y,h,rfl⟩
def yd n q:((List.range n).filter q).Nodup:=List.Pairwise.filter _ List.nodup_range
def zks(Y:g.In)(U:∀e∈g.es,e.jd=true)(ab:∀q∈ps,q.1<g.w/\q.2<g.w):(js g ps).G1:=by
 refine⟨zgb Y ab,fun e O=>?_,fun x h=>?_⟩
 .obtain⟨J,T,rfl⟩:=cH.1 O;rw[Ed.zfT];exact U J T
 .have h:x < (lG g (jF g.w ps)).length:=h;have Z:(lG g (jF g.w ps)).Nodup:=yd _ _;have⟨r,I⟩:=aR ((lG g (jF g.w ps))[x]);have H:r∈lG g (jF g.w ps):=I ▸ xk h;rw[yO,xj]at H;have D:=H.2;unfold Fl at D;rw[bN,nl]at D;obtain⟨y,ac,F⟩:=D.2;rw[bN,cf]at F;have G:=Gr.ziX (w:=(lG g (jF g.w ps)).length) (f:=fun x=>(lG g (jF g.w ps)).idxOf ((jF g.w ps).getD x 0)) (Gr.lO.1 F.1);have e:(lG g (jF g.w ps)).idxOf ((jF g.w ps).getD y 0)=x:=by rw[F.2,I];exact Z.idxOf_getElem x h
  rw[e]at G;exact G
def DS{a b}(F:∀e∈a.es,e.jd=true)(G:∀e∈b.es,e.jd=true):∀e∈fG a b,e.jd=true:=fun e h=>by
 rcases dP.1 h with h|h
 .exact F e h
 .obtain⟨D,H,rfl⟩:=cH.1 h;rw[Ed.zfT];exact G D H
def jD(a b:Gr):Gr:=⟨a.w+b.w,fG a b,a.i,b.o.map (· +a.w)⟩
def BV(a b:Gr):List (Nat×Nat):=a.o.zip (b.i.map (· +a.w))
def zkt a b:pK a b=js (jD a b) (BV a b):=rfl
def vw{a b}(D:a.In)(F:b.In):(jD a b).In:=
 sU D F (fun x h=>by have:=D x (ay h);omega) fun x h=>by obtain⟨y,G,rfl⟩:=cH.1 h;have:=F y (au (ay G));omega
def yX{a b}(F:a.In)(G:b.In):∀q∈BV a b,q.1 < (jD a b).w/\q.2 < (jD a b).w:=fun q H=>by
 have⟨h,D⟩:=pS H;obtain⟨y,I,e⟩:=cH.1 D;have:=F q.1 (au (ay h));have:=G y (ay I)
 show q.1<a.w+b.w/\q.2<a.w+b.w
 omega
def ď{a b}(h:a.G1)(D:b.G1):(pK a b).G1:=zks (g:=jD a b) (ps:=BV a b) (vw h.inr D.inr) (DS h.fit D.fit) (yX h.inr D.inr)
def ĭ{a b}(F:a.G1)(G:b.G1):(ls a b).G1:=by
 have J:∀{l:bP},(∀x∈l,b.On x)->∀x∈l.map (· +a.w),x<a.w+b.w:=fun h x D=>by obtain⟨y,O,rfl⟩:=cH.1 D;have:=G.inr y (h y O);omega
 refine⟨sU F.inr G.inr (fun x D=>?_) (fun x D=>?_),DS F.fit G.fit,fun x D=>?_⟩
 .rcases dP.1 D with h|h
  .have:=F.inr x (ay h);omega
  .exact J (fun x D=>ay D) x h
 .rcases dP.1 D with h|h
  .have:=F.inr x (au (ay h));omega
  .exact J (fun x D=>au (ay D)) x h
 .have D:x<a.w+b.w:=D;by_cases h:x<a.w
  .rcases F.on x h with h|h|⟨e,H,h⟩
   .exact ay (oD _ h)
   .exact au (ay (oD _ h))
   .exact au (au ⟨e,oD _ H,h⟩)
  .have I:=Gr.ziX (w:=0) (f:=(· +a.w)) (G.on (x-a.w) Qu);rw[show x-a.w+a.w=x by omega]at I;rcases I with h|h|⟨e,H,h⟩
   .exact ay (kE _ h)
   .exact au (ay (kE _ h))
   .exact au (au ⟨e,kE _ H,h⟩)
def Tm.zay:∀{t:Tm} {c:g_},t.ty=some c->t.gr.G1
 |.lf n,c,h=>by
  unfold Tm.ty at h;split at h
  .rename_i D;exact Gr.nK (sH D)
  .cases h
 |.op k a b,c,h=>by
  have⟨x,y,F,D,G⟩:=Tm.qE h;rw[Tm.zao];split
  .exact ď (Tm.zay F) (Tm.zay D)
  .exact ĭ (Tm.zay F) (Tm.zay D)
def jc(g:Gr):Bool:=decide (g.w<=100)&&(decide (g.es.length<=60)&&(decide (g.i.length<=12)&&decide (g.o.length<=12)))
def Gr.G1.B(D:g.G1):g.B=jc g:=by
 rw[jQ,Gr.iT];unfold jc;simp only[bN,cf];constructor
 .rintro⟨F,G,H,I,_⟩;exact⟨F,G,H,I⟩
 .rintro⟨F,G,H,I⟩;exact⟨F,G,H,I,D.fit,fun x h=>Gr.lO.2 (D.on x h),fun x h=>D.inr x (ay h),fun x h=>D.inr x (au (ay h)),fun e J=>⟨fun x h=>D.inr x (au (au ⟨e,J,ay h⟩)),fun x h=>D.inr x (au (au ⟨e,J,au h⟩))⟩⟩
section
variable{B:Nat}{rows:aP}
def bL.at{ε}{r}(D:bL w B (.slice A n ε) rows us)(G:rows[k]?=some r):∃g h c,A=some ⟨g,0,none⟩/\us[k]?=some (.slice h r c)/\af w g k (.slice h r c)/\w.frozen? ⟨g,k,none⟩=false/\B<=g/\g < (w:Nat)/\aE w B (.slice h r c) r:=by have T:=(bG.1 G).1;obtain⟨g,O,e,I,J⟩:=D.form Qu;simp only[ep]at e;obtain⟨rfl,rfl,rfl⟩:=e;obtain⟨u,H,F⟩:=D.F G;obtain⟨h,c,rfl,_⟩:=F.p;exact⟨g,h,c,rfl,H,by rw[D.η.C _ Qu,H],D.η.g k,I,J,F⟩
def bL.vY{r}{x}(G:bL w B v rows us)(Y:rows[k]?=some r)(O:r[j]?=some x):∃h c,us[k]?=some (.slice (bH h) r c)/\af w h j (zI x)/\w.frozen? ⟨h,j,none⟩=false/\B<=h/\h < (w:Nat)/\v.ownBlock≠some h/\∀y:Int,bL (w.setCell ⟨h,j,none⟩ (zI y)) B v (rows.set k (r.set j y)) us/\w.grownBy (w.setCell ⟨h,j,none⟩ (zI y)) (some h):=by
 have Z:=(bG.1 O).1;obtain⟨u,J,I⟩:=G.F Y;obtain⟨h,c,rfl,T,U⟩:=pW I Qu;have D:=I;unfold aE at D;refine⟨h,c,J,by rw[D.C _ Qu,bI,O];rfl,D.g j,T,U,?_,fun y=>?_⟩
 .rcases gF G.η I with H|H
  .rw[H];simp
  .exact H
 .have F:=D.j j (zI y);rw[<-eW]at F;exact⟨G.K J F.2 (by unfold aE;rw[iW];exact F.1),F.2⟩
def CE M n:(Λ M n).length=n:=by simp[Λ]
def zkc(h:j<n):(Λ M n)[j]?=some (jL M j):=by simp[Λ,h,jL]
def vZ M c:(jL M c).length=M:=by simp[jL]
def zgE{r}{x}(h:M[k]?=some r)(D:r[c]?=some x):(jL M c)[k]?=some x:=by simp[jL,h,D]
def Dr rows A ε n w(a1:bt w A rows)(cI:rows.length<=1048576)(cR:n<=1048576)(a8:∀r∈rows,n<=r.length):az 216 #[.slice A rows ε,n] w fun e w'=>∃u,e=.returned u/\aY w' w u (Λ rows n)/\ag w w':=by
 have⟨b8,hi,b6,b7,FU⟩:=dp kX;have⟨an,bh⟩:=bJ a1 a8;clear a1 a8;go_enter func216,ntmps216
 go_wp2_with ((at_make;refine jg _ rfl _ _ 55 rfl w.heap.size 26 b8 (.slice none 0 0) 1 iA hi b6 b7 .i64 .i64 n n n rfl rfl rfl rfl RF SL (ae _) ?_;intro c6 D a6))
 have⟨ad,am⟩:=bJ (cy a6) (bL.made D);clear D a6;go_loopw [13] (fun i wr=>∃k:Nat,k<=n/\i=.int .i64 k/\(∃us,bL wr w (.slice (bH w) n n) (eF (Λ rows n) [] k) us)/\ag w wr)
  (fun i _=>n-(intOf i).toNat)
 case atStart=>exact⟨0,aW _,rfl,⟨_,by rw[iP,CE];exact am⟩,ad⟩
 case round=>
  obtain⟨k,cB,rfl,⟨us,D⟩,U⟩:=hrel;have ao:=zH D;clear D am ad;by_cases Y:k<n
  .have b5:=U.size;have ah:=zH (by simp[eF,CE];omega:n=(eF (Λ rows n) [] k).length);go_wp2_with ((go_at_call 98;refine(kO rows _ Qu).x ?_;rintro e w' ⟨u2,rfl,J,a2⟩;obtain⟨ch,c2,rfl,_⟩:=J.p;rw[fA]at J ⊢;have⟨bd,be,⟨v0,ca⟩,cb⟩:=bL.set ah ao a2 J b5 Y;have ap:=zH bd;have av:=zH be;clear bd be J))
   go_loopw [24] (fun i W=>∃m:Nat,m<=rows.length/\i=.int .i64 m/\(∃us,bL W w (.slice (bH w) n n) ((eF (Λ rows n) [] k).set k (eF (jL rows k) 0 m)) us)/\ag w W)
    (fun i _=>rows.length-(intOf i).toNat)
   case atStart=>exact⟨0,aW _,rfl,⟨_,by rw[iP,vZ];exact ap⟩,U.t av⟩
   case round=>
    obtain⟨m,cK,rfl,⟨c5,h⟩,H⟩:=hrel;clear ca cb ap av a2;by_cases I:m<rows.length
    .have⟨r,F⟩:=aq I;obtain⟨co,o,rfl,a3⟩:=(an.ext H).θ I;obtain⟨ce,cp,b0,a7⟩:=a3 m r F;have c0:=bh r (aU F);have⟨x,O⟩:=aq (Qu:k<r.length);obtain⟨T,b9,rfl,a4⟩:=a7.θ (Qu:k<r.length);have cu:=a4 _ _ O;have cr:T < (w:Nat):=by
      obtain⟨ck,c3,bp,bu⟩:=an.θ I;obtain⟨ci,cq,b1,b4⟩:=bu m r F;cases bp
      have:=(ar H b1).q.t b0;simp only[dW,ep]at this;obtain⟨rfl,_,_⟩:=this;obtain⟨cn,c4,bq,bv⟩:=b4.θ (Qu:k<r.length);cases bq
      exact jB w _ (bv _ _ O)
     have Z:((eF (Λ rows n) [] k).set k (eF (jL rows k) 0 m))[k]?=some (eF (jL rows k) 0 m):=gl (by rw[<-ah.o];exact Y);have a5:(eF (jL rows k) (0:Int) m)[m]?=some 0:=lD _ _ _ (by rw[vZ];exact I);obtain⟨g,cj,bo,br,bc,bz,_⟩:=h.at Z;cases br
     obtain⟨G,c,ab,ct,cz,b2,cA,b3,bb⟩:=h.vY Z a5;rw[bc]at ab;simp only[dW,ep]at ab;obtain⟨rfl,_,rfl⟩:=ab;obtain⟨ac,cc⟩:=bb x;rw[List.set_set,jq _ _ _ _ (zgE F O)]at ac;have⟨bi,bn⟩:=bJ ac (H.setCell (p:=⟨G,m,none⟩) b2 (zI x));have cV:w.heap.size≠G:=fun e=>b3 (by rw[<-e];rfl)
     have cW:T≠G:=Qu;have cF:k<r.length:=Qu;have ba:(eF (jL rows k) (0:Int) m).length=rows:=by simp[eF,vZ];omega
     rw[ba]at bz;clear F a3 a7 O a4 Z a5 bc bb ac cc h ba;go_wp2_with fail
     go_region_held3 (fun w'=>af w' w k (.slice (bH G) rows bo)/\af w' T (b9+k) (zI x))
      (first|(simp[*];done)|(refine⟨?_,?_⟩<;>(first|(refine(fu Rs).t ?_;assumption)|(refine(lQ Rs).t ?_;assumption)))) (fail)
     go_wp2;go_roundw
     case rel=>exact⟨m+1,Qu,Qx,⟨_,bi.ext (al _ _).drew⟩,bn.drew⟩
     case measure=>simp[intOf];omega
    .have cO:m=rows.length:=Qu;have a9:(eF (Λ rows n) [] k).set k (eF (jL rows k) 0 m)=eF (Λ rows n) [] (k+1):=by rw[jo (jL rows k) (0:Int) m (by rw[vZ];omega)];exact jq _ _ _ _ (zkc Y)
     rw[a9]at h;have bg:=zH h;clear a9 h;go_wp2;go_roundw
     case rel=>exact⟨k+1,Qu,Qx,⟨_,bg⟩,H⟩
     case measure=>simp[intOf];omega
  .go_wp2;go_ret
   have a0:=ao.o;rw[jo _ _ _ (by rw[CE];omega)]at a0;exact⟨_,rfl,⟨_,a0⟩,U⟩
end
section
variable{N:Nat}{p:Int}
def eV.el(h:eV p N n M):∀r∈M,∀x∈r,0<=x/\x<p:=fun r F x I=>by obtain⟨i,hi⟩:=eH.1 F;obtain⟨d,D⟩:=eH.1 I;have H:=(bG.1 hi).1;have G:=(bG.1 D).1;have:=h.2.2 i d (by rw[<-h.1];exact H) (by rw[<-h.row r F];exact G);unfold eM at this;rwa[getD_some hi,getD_some D]at this
def tc.K(h:tc w lo hi v M us)(F:us[k]?=some u)(D:w.grownBy w' u.ownBlock)(G:aE w' lo u r'):tc w' lo hi v (M.set k r') us:=⟨h.μ.K F D G,h.up,h.Í⟩
def tc.J{g ε}{G}{I J}(h:tc w lo hi (.slice (bH g) n ε) M us)(O:n=M.length)(hi':us[i]?=some T)(H:us[j]?=some G)(U:M[i]?=some I)(Y:M[j]?=some J):tc ((w.setCell ⟨g,i,none⟩ G).setCell ⟨g,j,none⟩ T) lo hi (.slice (bH g) n ε) ((M.set i J).set j I) ((us.set i G).set j T):=
 ⟨h.μ.J O hi' H U Y,h.up,fun u Z b F=>by
  rcases Ε Z with D|rfl
  .rcases Ε D with D|rfl
   .exact h.Í u D b F
   .exact h.Í _ (aU H) b F
  .exact h.Í _ (aU hi') b F⟩
def Chg(lo hi:Nat)(v:aG)(M:aP)(w:aa)(e:Ending)(w':aa):Prop:=e=.returned (.tuple #[])/\Κ w' lo hi v M/\b_ lo hi w w'
def Ci p c a b lo hi n ε A M us w(h:tc w lo hi (.slice A n ε) M us)(a8:hi<=(w:Nat))(ad:a<M.length)(ah:b<M.length)(a6:a≠b):az 222 (rL (Ai a b c) p A n ε) w (Chg lo hi (.slice A n ε) (Bm M a b) w):=by
 have⟨Y,G⟩:=aq ad;have⟨rb,H⟩:=aq ah;have GX:=zH (by unfold Bm;rw[getD_some G,getD_some H]:Bm M a b=(M.set a rb).set b Y);have a0:n=M.length:=Xu;subst a0;go_enter func222,ntmps222
 go_upto_region 3 with(fail)
 have F:Below w w (w.alloc (.cells (Ai a b c) 267)):=(al _ _).alloc (ae _) _;have D:=h.ext F;obtain⟨g,Z,ab,rfl,T,am,an,ap,a7,_⟩:=D.μ.at G;obtain⟨a5,Ab,cb,ac,U,hcb,ao,_⟩:=D.μ.at H;cases ac
 have av:=h.up g rfl;have I:(w.alloc (.cells (Ai a b c) 267)).heap[w.heap.size]?=some (.cells (Ai a b c) 267 (0,0)):=aH _ _ rfl;have⟨W2,J⟩:=aR (w.alloc (.cells (Ai a b c) 267));rw[<-J]at F D am an hcb ao I ⊢;have⟨a1,a2,a3,a4⟩:=ye I;simp only[dA,dm]at a1 a2 a3 a4;have O:=D.J rfl T U G H;have⟨HS,HE⟩:=bJ O ((b_.gy (lo:=lo) (hi:=hi) F).t ((b_.EN (b:=g) (w:=W2) (w':=(W2.setCell ⟨g,a,none⟩ (.slice Ab rb cb)).setCell ⟨g,b,none⟩ (.slice Z Y ab)) (cx (D.μ.η.j a _).2 ((D.μ.η.j a (.slice Ab rb cb)).1.j b _).2) ap av)));have a9:g≠w.heap.size:=Qu;clear J O T U G H I F D h;refine C8 (S:=fun w'=>af w' w 1 (zI a)/\af w' w 2 (zI b)) QT QD (fun hHeld=>?_);refine eZ 0 ?_;refine eZ 1 ?_;refine eZ 2 ?_;refine eZ 3 ?_;refine eZ 4 ?_;refine eZ 5 ?_;refine eZ 6 ?_;refine eZ 7 ?_;refine eZ 8 ?_;refine eZ 9 ?_;refine eZ 11 ?_;refine eZ 12 ?_;refine eZ 13 ?_;refine eZ 14 ?_;refine lk (rs:=[10,15]) QT Qt ?_;refine pF rfl (fun K hK=>?_) (pF rfl (fun K hK=>?_) ll)
 .go_simp;refine hK.out _ _ QR (fun hHeld=>?_);refine Qm ?_;clear K hK;refine lk (rs:=[15]) QT Qt ?_;exact ZY
 .go_simp;refine hK.out _ _ QR (fun hHeld=>?_);refine Qm ?_;clear K hK;refine lk (rs:=[10]) QT Qt ?_;exact ZY
end
def yM p c b a lo hi n ε N m A M us w(h:tc w lo hi (.slice A n ε) M us)(b1:hi<=(w:Nat))(ac:bV p=true)(a5:1<=c)(a6:c<p)(bg:a<M.length)(av:eV p N m M)(b2:m<=1048576):az 222 (rL (Ah a b c) p A n ε) w (Chg lo hi (.slice A n ε) (Μ p (lu p c) M a) w):=by
 have⟨D,T⟩:=aq bg;have⟨f1,f2,f3⟩:=Ez ac a5 a6;have⟨p2,b7⟩:=cv ac;have a1:=zH (av.el D (aU T));have b3:D.length<9223372036854775807:=by have:=av.row D (aU T);omega
 have⟨G,Y⟩:=aR (lu p c);have⟨OI,bd⟩:=bJ (by unfold Μ;rw[getD_some T,Y]:Μ p (lu p c) M a=M.set a (kq p G D)) (fun w=>(by rw[Y];exact zcv p c w ac a5 a6:az 224 (bC p c) w fun e w'=>e=.returned (zI G)/\w=w'));rw[<-Y]at f2 f3;clear f1 Y av ac;have bn:n=M.length:=Xu;subst bn;go_enter func222,ntmps222
 go_upto_region 5 with(fail)
 have U:Below w w (w.alloc (.cells (Ah a b c) 267)):=(al _ _).alloc (ae _) _;have H:=h.ext U;obtain⟨g,ap,J,rfl,a0,ab,bh,br,bu,ad⟩:=H.μ.at T;have b0:=h.up g rfl;have ah:(w.alloc (.cells (Ah a b c) 267)).heap[w.heap.size]?=some (.cells (Ah a b c) 267 (0,0)):=aH _ _ rfl;have⟨be,a4⟩:=aR (w.alloc (.cells (Ah a b c) 267));rw[<-a4]at U H ab bh ah ad ⊢;have ao:=bB ah 1;have a2:=bB ah 3;simp only[dA,dm]at ao a2;have a9:=H.Í _ (aU a0);have⟨ba,bc,J2,bb,a3,Hu⟩:=ny H a0 ad U a9 (gF H.μ.η ad);clear a4 a0 ah U H h T ad a9;go_wp2_with ((go_at_call 224;refine(bd.o _).x ?_;rintro e w' ⟨rfl,rfl⟩))
 go_loopw [43] (fun i wr=>∃k:Nat,k<=D.length/\i=.int .i64 k/\wr.ownsRow lo 3 1 (.slice ap D J) D ((ma p G D k).map (Value.int .i64))/\be.grownBy wr (Value.slice ap D J).ownBlock)
  (fun i _=>D.length-(intOf i).toNat)
 case atStart=>exact⟨0,aW _,rfl,SD,⟨rfl,rfl,rfl,ae _,fun _ _ _=>rfl⟩⟩
 case round=>
  obtain⟨k,a7,rfl,I,F⟩:=hrel;by_cases a8:k<D.length
  .have⟨x,an⟩:=aq a8;obtain⟨O,rfl,bv,_⟩:=mr J2 Qu;have bz:=a3 O rfl;have b4:g≠O:=WV;have b8:af wr w 1 (zI a):=F.cell ao TQ;have b9:af wr g a (.slice (bH O) D J):=F.cell ab TQ;have bp:af wr O k (zI x):=by rw[I.C k Qu,bI,wG _ _ _ _ a8,an];rfl
   have bq:=I.g k;obtain⟨v1,v2⟩:=a1 x (aU an);have b5:0<=x*G:=rS v1 Qu;have b6:x*G<=1000000:=by have:=uB (Qu:x<=97) (Qu:G<=97) Qu Qu;omega
   have am:=I.j k (zI (x*G%p));rw[<-eW,wH _ _ _ _ _ an]at am;have⟨HS,HG⟩:=bJ am.1 (cx F am.2);have H:=gW (x*G) (Qu:0<p);have bo:¬p=0:=Qu;clear am an I F ao a2 ab a1;go_wp2_with fail
   go_region_held3 (fun w'=>af w' w 1 (zI a)/\af w' g a (.slice (bH O) D J))
    (first|(simp[*];done)|(refine⟨?_,?_⟩<;>(first|(refine(fu Rs).t ?_;assumption)|(refine(lQ Rs).t ?_;assumption)))) (fail)
   exact Yj
  .have bi:k=D.length:=Qu;subst bi;rw[wF p G D D (ae _)]at I;have HN:=zH (ba.K (r':=kq p G D) bc F (by unfold aE;rw[show(kq p G D).length=D by simp[kq]];exact I));have HE:=zH (show b_ lo hi w wr from(b_.gy bb).t (by
    cases Z:(Value.slice ap D J).ownBlock with
    |none=>rw[Z]at F;exact b_.gy ⟨F.os,F.tape,F.output,F.size,fun k a7=>F.block k a7 Qt⟩
    |some b=>rw[Z]at F;exact b_.EN F (J2.lt b Z).1 (a3 b Z)))
   clear I F ab ao a2 a1;exact WO
def y_ p c a b lo hi n ε N m A M us w(h:tc w lo hi (.slice A n ε) M us)(cr:hi<=(w:Nat))(cz:2<=p)(cA:p<=97)(cj:0<=c)(ck:c<p)(b3:a<M.length)(b5:b<M.length)(ci:a≠b)(am:eV p N m M)(ca:m<=1048576):az 222 (rL (wU a b c) p A n ε) w (Chg lo hi (.slice A n ε) (M.set a (dw p (-c) (M.getD a []) (M.getD b []))) w):=by
 have⟨G,T⟩:=aq b3;have⟨I,U⟩:=aq b5;have⟨OI,Y,ao,b0,b1⟩:=pD (by rw[getD_some T,getD_some U]:M.set a (dw p (-c) (M.getD a []) (M.getD b []))=M.set a (dw p (-c) G I)) (am.row G (aU T)) (am.row I (aU U)) (show ∀x∈G,0<=x/\x<=1000 from fun x ba=>by have:=am.el G (aU T) x ba;omega) (show ∀x∈I,0<=x/\x<=1000 from fun x ba=>by have:=am.el I (aU U) x ba;omega);have cb:n=M.length:=Xu;subst cb;clear am;go_enter func222,ntmps222
 go_upto_region 12 with(fail)
 have Z:Below w w (w.alloc (.cells (wU a b c) 267)):=(al _ _).alloc (ae _) _;have H:=h.ext Z;obtain⟨g,bb,ap,rfl,an,ac,b6,cn,co,J⟩:=H.μ.at T;obtain⟨ch,bc,av,b2,a0,ad,b7,_,_,ah⟩:=H.μ.at U;cases b2
 have cq:=h.up g rfl;have O:(w.alloc (.cells (wU a b c) 267)).heap[w.heap.size]?=some (.cells (wU a b c) 267 (0,0)):=aH _ _ rfl;have⟨a6,a9⟩:=aR (w.alloc (.cells (wU a b c) 267));rw[<-a9]at Z H ac b6 ad b7 O J ah ⊢;have a1:=bB O 1;have a2:=bB O 2;have a3:=bB O 3;simp only[dA,dm]at a1 a2 a3;have cB:IntKind.i64.wrap (-c)=-c:=Rt;have⟨a5,be,ce,cc,bd,bz,b4⟩:=ß H an a0 J Z (H.Í _ (aU an)) (gF H.μ.η J);have ct:g≠w.heap.size:=Qu;have ab:=ah.p;obtain⟨_,_,bg,ab,_⟩:=ab;simp only[ep]at bg;obtain⟨rfl,_,rfl⟩:=bg;rcases AH m with a8|a8
 .obtain rfl:G=[]:=iq (by rw[Y.o];exact a8);obtain rfl:I=[]:=iq (by rw[ao.o];exact a8);have a4:=zH (tj p (-c) bb bc ap av a6.drew);clear a9 an a0 O Z H h T U J ah ab;simp only[iN]at ac ad;go_region_held3 (fun w'=>af w' w 1 (zI a)/\af w' w 2 (zI b)/\af w' w 3 (zI c)/\af w' g a (.slice bb 0 ap)/\af w' g b (.slice bc 0 av))
   (first|exact⟨a1,a2,a3,ac,ad⟩)
   ((go_at_call 176;refine a4.x ?_;rintro e wr ⟨rfl,rfl⟩))
  go_wp2;go_end0
  refine⟨rfl,⟨us,?_⟩,(b_.gy bd).t (b_.gy (al _ _).drew)⟩;rw[OI.o,show dw p (-c) [] []=([]:aL) from rfl,qH (by
   obtain⟨r,h1,bn⟩:=a5.μ.nT be;have:=pW bn;obtain⟨_,_,e,_,_⟩:=bn.p;simp only[ep]at e;rw[h1,iq e.2.1.q])]
  exact a5.ext (al _ _).drew
 .obtain⟨D,rfl,b8,_⟩:=mr J (by have:=Y.o;omega);obtain⟨a7,rfl,cp,_⟩:=mr ah (by have:=ao.o;omega);have b9:=bz D rfl;have cu:a7≠D:=fun e=>by have:=H.μ.apart _ _ _ _ D an a0 rfl (by rw[<-e];rfl);omega
  have bi:g≠D:=by
   rcases b4.o with h1|h1
   .cases h1
   .exact Wg
  have a4:=zH (pL p (-c) lo D ap av (some ⟨a7,0,none⟩) G I a6.drew Qu Qu Qu Qu (AB J) (ab.ext (al _ _).drew) (fun b o e=>by simp only[dW,xg]at e;omega) (by rw[Y.o,ao.o]) (by rw[Y.o];exact ca) b0 b1);clear a9 an a0 O Z H h T U J ah ab;go_region_held3 (fun w'=>af w' w 1 (zI a)/\af w' w 2 (zI b)/\af w' w 3 (zI c)/\af w' g a (.slice (bH D) G ap)/\af w' g b (.slice (bH a7) I av))
   (first|exact bh|exact⟨a1,a2,a3,ac,ad⟩)
   ((go_at_call 176;refine a4.x ?_;rintro e wr ⟨rfl,bo,F⟩;have bp:=qX F (a:=⟨w,1,none⟩) a1 (Qu:w.heap.size≠D);have bq:=qX F (a:=⟨w,2,none⟩) a2 (Qu:w.heap.size≠D);have br:=qX F (a:=⟨w,3,none⟩) a3 (Qu:w.heap.size≠D);have bu:=qX F (a:=⟨g,a,none⟩) ac bi;have bv:=qX F (a:=⟨g,b,none⟩) ad bi;have bh:=aQ bp (aQ bq (aQ br (aQ bu bv)))))
  have F:=cx (eG a6 (some D)) F;have HN:=zH (a5.K (r':=dw p (-c) G I) be F (by
   unfold aE;rw[show(dw p (-c) G I).length=G by simp[dw,Y.o,ao.o]];exact bo))
  have HE:=zH (show b_ lo hi w wr from(b_.gy bd).t (b_.EN F b8 b9));clear bo F bh bp bq br bu bv;exact WO
def zm3(D F G h:Nat)(v1 v2:aG)(M X:aP)(w:aa)(e:Ending)(w':aa):Prop:=
 e=.returned (.tuple #[])/\Κ w' D F v1 M/\Κ w' G h v2 X/\b_ D h w w'
def zhB p k a b c I G H h U n2 T F O ac J A1 D(M X M' ab:aP)am w(hp:af w O 0 (zI p))(hr:af w ac 0 (.slice A1 U T))(ha:af w J 0 (.slice D n2 F))(hbp:O<I∨G<=O)(hba:J<I∨G<=J)(ad:tc w H h (.slice D n2 F) X am)(h12:G<=H)(a0:H<=h)(av:I<=G)(ap:h<=(w:Nat))(ao:¬k=0∨(k=0/\¬b=a))(Y:∀W,ag w W->az 222 (rL (pP k a b c) p A1 U T) W (Chg I G (.slice A1 U T) M' W))(Z:∀W,h<=W.heap.size->tc W H h (.slice D n2 F) X am->az 222 (rL (pP k a b c) p D n2 F) W (Chg H h (.slice D n2 F) ab W)):az 221 (wV (pP k a b c) (bH O) (bH ac) (bH J)) w (zm3 I G H h (.slice A1 U T) (.slice D n2 F) M' ab w):=by
 have⟨H1,H2⟩:=bJ Y Z;clear Y Z;have HH2:=zH ad;have a1:=ju hp;have a2:=ju hr;clear ad;have ah:Below w w (w.alloc (.cells (pP k a b c) 267)):=(al _ _).alloc (ae _) _;have⟨HB,HQ⟩:=bJ ah (show(w.alloc (.cells (pP k a b c) 267)).heap[w.heap.size]?=some (.cells (pP k a b c) 267 (0,0)) from aH _ _ rfl);clear ah;rcases ao with an|⟨rfl,an⟩
 ·
  exact ZO
 ·
  exact ZO
structure EA(p:Int)(lo1 hi1 lo2 hi2 N cap1 cap2 bp br ba:Nat)(A1 A2:ax)(w:aa):Prop where
 hp:af w bp 0 (zI p)
 hr:af w br 0 (.slice A1 N cap1)
 ha:af w ba 0 (.slice A2 N cap2)
 bp1:hi2<=bp
 br1:hi2<=br
 ba1:hi2<=ba
 h12:hi1<=lo2
 hl1:lo1<=hi1
 hl2:lo2<=hi2
 h2w:hi2<=(w:Nat)
 f:bV p=true
structure AO(p:Int)(lo1 hi1 lo2 hi2 N n n2 cap1 cap2:Nat)(A1 A2:ax)(M X:aP)(w wr:aa):Prop where
 h1:Κ wr lo1 hi1 (.slice A1 N cap1) M
 h2:Κ wr lo2 hi2 (.slice A2 N cap2) X
 s1:eV p N n M
 s2:eV p N n2 X
 wi:b_ lo1 hi2 w wr
section
variable{p:Int}{lo1 hi1 lo2 hi2 N n n2 cap1 cap2 bp br ba:Nat}{A1 A2:ax}{M X:aP}{w wr:aa}
def RTo(p:Int)(lo1 hi1 lo2 hi2 N n n2 cap1 cap2:Nat)(A1 A2:ax)(M X:aP)(w:aa)(e:Ending)(w':aa):Prop:=
 e=.returned (.tuple #[])/\AO p lo1 hi1 lo2 hi2 N n n2 cap1 cap2 A1 A2 M X w w'
def EA.size(B:EA p lo1 hi1 lo2 hi2 N cap1 cap2 bp br ba A1 A2 w)(S:AO p lo1 hi1 lo2 hi2 N n n2 cap1 cap2 A1 A2 M X w wr):hi2<=(wr:Nat):=by have:=S.wi.size;have:=B.h2w;omega
def EA.cells(B:EA p lo1 hi1 lo2 hi2 N cap1 cap2 bp br ba A1 A2 w)(S:AO p lo1 hi1 lo2 hi2 N n n2 cap1 cap2 A1 A2 M X w wr):af wr bp 0 (zI p)/\af wr br 0 (.slice A1 N cap1)/\af wr ba 0 (.slice A2 N cap2):=⟨S.wi.cell B.hp (au B.bp1),S.wi.cell B.hr (au B.br1),S.wi.cell B.ha (au B.ba1)⟩
def AO.go{k a b c}{h}(B:EA p lo1 hi1 lo2 hi2 N cap1 cap2 bp br ba A1 A2 w)(S:AO p lo1 hi1 lo2 hi2 N n n2 cap1 cap2 A1 A2 M X w wr)(Y:¬k=0∨(k=0/\¬b=a))(t1:eV p N n M')(t2:eV p N n2 h)(G:∀us W,hi1<=W.heap.size->tc W lo1 hi1 (.slice A1 N cap1) M us->az 222 (rL (pP k a b c) p A1 N cap1) W (Chg lo1 hi1 (.slice A1 N cap1) M' W))(H:∀us W,hi2<=W.heap.size->tc W lo2 hi2 (.slice A2 N cap2) X us->az 222 (rL (pP k a b c) p A2 N cap2) W (Chg lo2 hi2 (.slice A2 N cap2) h W)):az 221 (wV (pP k a b c) (bH bp) (bH br) (bH ba)) wr (RTo p lo1 hi1 lo2 hi2 N n n2 cap1 cap2 A1 A2 M' h w):=by obtain⟨ah,O⟩:=S.h1;obtain⟨F,T⟩:=S.h2;obtain⟨c1,c2,I⟩:=B.cells S;have Z:=B.size S;have:=B.h12;have:=B.hl1;have:=B.hl2;have:=B.bp1;have:=B.ba1;refine(zhB p k a b c lo1 hi1 lo2 hi2 N N cap1 cap2 bp br ba A1 A2 M X M' h F wr c1 c2 I (au Qu) (au Qu) T B.h12 B.hl2 B.hl1 Z Y (fun W D=>G ah W (by have:=D.size;omega) (O.ext D)) (fun W D J=>H F W D J)).x ?_;rintro e w' ⟨U,ab,ac,ad⟩;exact⟨U,ab,ac,t1,t2,S.wi.t ad⟩
def AO.sw{a}(B:EA p lo1 hi1 lo2 hi2 N cap1 cap2 bp br ba A1 A2 w)(S:AO p lo1 hi1 lo2 hi2 N n n2 cap1 cap2 A1 A2 M X w wr)(ha:a<N)(h:b<N)(G:a≠b):az 221 (wV (Ag a b) (bH bp) (bH br) (bH ba)) wr (RTo p lo1 hi1 lo2 hi2 N n n2 cap1 cap2 A1 A2 (Bm M a b) (Bm X a b) w):=AO.go B S (au ⟨rfl,Qu⟩) (wu S.s1 ha h) (wu S.s2 ha h)
  (fun us W F D=>Ci p 0 a b lo1 hi1 N cap1 A1 M us W D F SQ (by rw[S.s1.1];exact h) G)
  (fun us W F D=>Ci p 0 a b lo2 hi2 N cap2 A2 X us W D F SP (by rw[S.s2.1];exact h) G)
def AO.dv{a}{c}(B:EA p lo1 hi1 lo2 hi2 N cap1 cap2 bp br ba A1 A2 w)(S:AO p lo1 hi1 lo2 hi2 N n n2 cap1 cap2 A1 A2 M X w wr)(ha:a<N)(G:1<=c)(H:c<p)(I:n<=1048576)(J:n2<=1048576):az 221 #[.agg #[.int .i64 1,a,(),c],.pointer (bH bp),.pointer (bH br),.pointer (bH ba)] wr (RTo p lo1 hi1 lo2 hi2 N n n2 cap1 cap2 A1 A2 (Μ p (lu p c) M a) (Μ p (lu p c) X a) w):=by
 have F:=(cv B.f).1;exact AO.go B S (ay Qw) (wv F S.s1 ha) (wv F S.s2 ha)
  (fun us W D h=>yM p c 0 a lo1 hi1 N cap1 N n A1 M us W h D B.f G H SQ S.s1 I)
  (fun us W D h=>yM p c 0 a lo2 hi2 N cap2 N n2 A2 X us W h D B.f G H SP S.s2 J)
def AO.sb{a}{c}(B:EA p lo1 hi1 lo2 hi2 N cap1 cap2 bp br ba A1 A2 w)(S:AO p lo1 hi1 lo2 hi2 N n n2 cap1 cap2 A1 A2 M X w wr)(ha:a<N)(D:b<N)(H:a≠b)(I:0<=c)(J:c<p)(O:n<=1048576)(T:n2<=1048576):az 221 (wV (wU a b c) (bH bp) (bH br) (bH ba)) wr (RTo p lo1 hi1 lo2 hi2 N n n2 cap1 cap2 A1 A2 (M.set a (dw p (-c) (M.getD a []) (M.getD b []))) (X.set a (dw p (-c) (X.getD a []) (X.getD b []))) w):=by
 have h:=cv B.f;exact AO.go B S (ay Qw) (CJ h.1 S.s1 ha D).1 (CJ h.1 S.s2 ha D).1
  (fun us W G F=>y_ p c a b lo1 hi1 N cap1 N n A1 M us W F G h.1 h.2 I J SQ (by rw[S.s1.1];exact D) H S.s1 O)
  (fun us W G F=>y_ p c a b lo2 hi2 N cap2 N n2 A2 X us W F G h.1 h.2 I J SP (by rw[S.s2.1];exact D) H S.s2 T)
def AO.sw0{a:Nat}(B:EA p lo1 hi1 lo2 hi2 N cap1 cap2 bp br ba A1 A2 w)(S:AO p lo1 hi1 lo2 hi2 N n n2 cap1 cap2 A1 A2 M X w wr):az 221 (wV (Ag a a) (bH bp) (bH br) (bH ba)) wr (RTo p lo1 hi1 lo2 hi2 N n n2 cap1 cap2 A1 A2 M X w):=by
 have h:Below wr wr (wr.alloc (.cells (Ag a a) 267)):=(al _ _).alloc (ae _) _;have D:Hd (RTo p lo1 hi1 lo2 hi2 N n n2 cap1 cap2 A1 A2 M X w (.returned (.tuple #[])) (wr.alloc (.cells (Ag a a) 267))):=
  zH ⟨rfl,S.h1.ext h,S.h2.ext h,S.s1,S.s2,S.wi.t (b_.gy h)⟩
 clear S B h;go_enter func221,ntmps221
 go_wp2;go_end0
 exact D
def AO.ex{a}(B:EA p lo1 hi1 lo2 hi2 N cap1 cap2 bp br ba A1 A2 w)(S:AO p lo1 hi1 lo2 hi2 N n n2 cap1 cap2 A1 A2 M X w wr)(H:a<N)(I:b<N):az 221 (wV (Ag a b) (bH bp) (bH br) (bH ba)) wr (RTo p lo1 hi1 lo2 hi2 N n n2 cap1 cap2 A1 A2 (Bm M a b) (Bm X a b) w):=by
 by_cases F:a=b
 .subst F;have G:∀{h:aP},h.length=N->Bm h a a=h:=fun {h} J=>by unfold Bm;have⟨x,D⟩:=aq (Qu:a<h.length);rw[getD_some D,qH D,qH D]
  rw[G S.s1.1,G S.s2.1];exact AO.sw0 B S
 .exact AO.sw B S H I F
def AO.at1(S:AO p lo1 hi1 lo2 hi2 N n n2 cap1 cap2 A1 A2 M X w wr)(hi:i<N)(Y:d<n):∃g h c,A1=some ⟨g,0,none⟩/\af wr g i (.slice (bH h) n c)/\af wr h d (zI (eM M i d)):=by obtain⟨us,F⟩:=S.h1;have⟨r,hr⟩:=aq (by rw[S.s1.1];exact hi:i<M.length);have J:=S.s1.row r (aU hr);have⟨x,hx⟩:=aq (Qu:d<r.length);have I:eM M i d=x:=U4;obtain⟨g,T,c,rfl,O,G,_⟩:=F.μ.at hr;obtain⟨h,U,D,H,_⟩:=F.μ.vY hr hx;rw[O]at D;simp only[dW,ep]at D;obtain⟨rfl,_,rfl⟩:=D;rw[J]at G;rw[I];exact⟨g,h,c,rfl,G,H⟩
end
section
variable{p:Int}
def Ô(n:Nat)(R:aP):Nat->List Int
 |0=>List.replicate n (-1)
 |k+1=>(Ô n R k).set (nw R k) k
def Ě n R:∀k,(Ô n R k).length=n
 |0=>by simp[Ô]
 |k+1=>by rw[Ô,iW];exact Ě n R k
def zfI{n}{R}{j}:∀{k:Nat} {x:Int},(Ô n R k)[j]?=some x->(0<=x↔∃i,i<k/\nw R i=j)/\-1<=x/\x < (k:Int)+1
 |0,x,h=>by
  rw[Ô,fI]at h;split at h
  .cases h
   exact⟨⟨fun h=>Qu,fun⟨i,h,_⟩=>Qu⟩,Qu,Qu⟩
  .cases h
 |k+1,x,h=>by
  rw[Ô,pV]at h;by_cases e:nw R k=j
  .rw[ak e]at h;split at h
   .cases h
    exact⟨⟨fun _=>⟨k,Qu,e⟩,fun _=>Qu⟩,Qu,Qu⟩
   .cases h
  .rw[aj e]at h;have⟨G,H,I⟩:=zfI h;exact⟨G.t ⟨fun⟨i,hi,D⟩=>⟨i,Qu,D⟩,fun⟨i,hi,D⟩=>⟨i,by
    have:i≠k:=fun F=>e (by rw[<-F];exact D)
    omega,D⟩⟩,H,Qu⟩
def Ì(p:Int)(n:Nat)(R:aP)(j:Nat):Nat->List Int
 |0=>kg n j
 |k+1=>(Ì p n R j k).set (nw R k) ((p-eM R k j)%p)
def CD p n R j:∀k,(Ì p n R j k).length=n
 |0=>kh n j
 |k+1=>by rw[Ì,iW];exact CD p n R j k
def ő{p}{n j c}{R}(D:c<n)(F:j<n):∀{k:Nat},(∀i,i<k->nw R i≠c)->(Ì p n R j k)[c]?=some (if c=j then 1 else 0)
 |0,_=>by
  unfold Ì kg;rw[pV];by_cases e:j=c
  .rw[ak e,ak (by simpa using F),ak e.q]
  .rw[aj e,aj (k_ e),fI,ak D]
 |k+1,h=>by rw[Ì,pV,aj (h k Qu)];exact ő D F fun i hi=>h i Qu
def Ŝ{p}{n j r}{R}(h:mi p n r (eM R) (nw R)):∀{k i:Nat},k<=r->i<k->(Ì p n R j k)[nw R i]?=some ((p-eM R i j)%p)
 |0,i,_,hi=>Qu
 |k+1,i,F,hi=>by
  rw[Ì,pV];by_cases e:i=k
  .subst e;rw[ak rfl,ak (by rw[CD];exact h.ln i Qu)]
  .rw[aj (fun D=>e (h.inj Qu Qu D).q)];exact Ŝ h Qu Qu
def zcy{a}:(p-a)%p=-a%p:=by rw[show p-a=-a+p*1 by omega,ĥ]
def zli{R}(O:2<=p)(J:R.length=r)(h:mi p n r (eM R) (nw R))(I:j<n)(H:mK (nw R) r j):Ì p n R j r=j7 p n R j:=by
 apply gk;intro c;by_cases D:c<n
 .unfold j7;rw[bI,iy D,J];by_cases F:∃i,i<r/\nw R i=c
  .obtain⟨i,hi,rfl⟩:=F;rw[Ŝ h (ae _) hi,ox,tP h hi (H i hi),zcy]
  .have G:∀i,i<r->nw R i≠c:=fun i hi e=>F ⟨i,hi,e⟩
   rw[ő D I G,ox,kt G];split
   .rw[nq Qu Qu]
   .rw[Int.zero_emod]
 .rw[eP (by rw[CD];omega),eP (by simp[j7];omega)]
def Ö(n:Nat)(R:aP)(k:Nat):List Nat:=(List.range k).filter fun j=>(List.range R).all fun i=>decide (nw R i≠j)
def zka n R:Ö n R n=xM n R:=rfl
def Ō n R k:(Ö n R k).length<=k:=aZ (C4 _ _) Qt
def zkb{R}(h:mK (nw R) R k):Ö n R (k+1)=Ö n R k++[k]:=by
 unfold Ö;rw[nk,C5];congr 1
 rw[List.filter_cons_of_pos]
 .rfl
 .rw[eD];intro i hi;rw[fj]at hi;simpa using h i hi
def zlj{R}(h:∃i,i<R.length/\nw R i=k):Ö n R (k+1)=Ö n R k:=by unfold Ö;rw[nk,C5];obtain⟨i,hi,D⟩:=h;rw[List.filter_cons_of_neg,List.filter_nil,lZ];rw[eD];intro h;have:=h i (fj.2 hi);simp[D]at this
end
end Go.Proofs.YtpieilkmmiopfaaGreatDoor
