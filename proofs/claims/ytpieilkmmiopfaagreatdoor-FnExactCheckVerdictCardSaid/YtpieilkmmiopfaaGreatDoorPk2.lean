/- Parts of the walks. Conditions: as stated with each. -/
import Derived.Test.YtpieilkmmiopfaaGreatDoorPk1
namespace Go.Proofs.YtpieilkmmiopfaaGreatDoor
open Go.RowKit Tryz
set_option linter.all false
set_option maxHeartbeats 2000000
set_option maxRecDepth 100000
variable{A:ax}{B B' b i j k n:Nat}{E t:dL}{P:jk}{Q:gZ}{T u v:aG}{W w w':aa}{a:Act}{cs:gg}{o:h_}{ops:iI}{r' xs:aL}{rest:List Oper}{row:Option Nat}{rows:aP}{us:cL}
def kX:(prog.info? 26).map (fun i=>(i.zero,i.size,i.bytes))=some (some (.slice none 0 0),1,24):=QT
structure bL(w:aa)(B:Nat)(v:aG)(rows:aP)(us:cL):Prop where
 η:w.ownsRow B 26 1 v rows.length us
 ν:∀(k:Nat) (u:aG) (r:aL),us[k]?=some u->rows[k]?=some r->aE w B u r
 apart:∀(i j:Nat) (u u':aG) (b:Nat),us[i]?=some u->us[j]?=some u'->u.ownBlock=some b->u'.ownBlock=some b->i=j
def aY(w:aa)(B:Nat)(v:aG)(rows:aP):Prop:=∃us,bL w B v rows us
def bL.ι(h:bL w B v rows us):us.length=rows:=by simpa using h.η.1
def bL.F(h:bL w B v rows us){r}(D:rows[k]?=some r):∃u,us[k]?=some u/\aE w B u r:=by
 have:k<us.length:=by rw[h.ι];exact(bG.1 D).1
 have⟨u,F⟩:=aq this;exact⟨u,F,h.ν k u r F D⟩
def bL.nT(h:bL w B v rows us)(F:us[k]?=some u):∃r,rows[k]?=some r/\aE w B u r:=by
 have:k<rows.length:=by rw[<-h.ι];exact(bG.1 F).1
 have⟨r,D⟩:=aq this;exact⟨r,D,h.ν k u r F D⟩
def aE.lt(h:aE w B v xs):∀k,v.ownBlock=some k->B<=k/\k < (w:Nat):=bS h
def fq(F:w.ownsRow B 26 1 v n us)(D:aE w B' u xs):u.ownBlock=none∨u.ownBlock≠v.ownBlock:=by
 rcases D.2 with⟨rfl,_⟩|⟨g,ε,I,rfl,_,h,_⟩
 .exact ay rfl
 .right;rcases F.2 with⟨rfl,_⟩|⟨O,H,J,rfl,_,G,_⟩
  .simp[Value.ownBlock]
  .intro e;simp only[Value.ownBlock,dW]at e;rw[e,G]at h;simp at h
def aE.kept(h:aE w B u xs)(D:w.grownBy w' row)(F:u.ownBlock=none∨u.ownBlock≠row):aE w' B u xs:=jA h D F
def bL.ext{w w'}{B}{v}{rows}{us}(D:bL w B v rows us)(h:ag w w'):bL w' B v rows us:=⟨jA D.η (row:=none) ⟨h.os,h.tape,h.output,h.size,fun k F _=>h.block k F⟩ TC,fun k u r H G=>(D.ν k u r H G).ext h,D.apart⟩
def aY.ext(h:aY w B v rows)(D:ag w w'):aY w' B v rows:=by obtain⟨us,h⟩:=h;exact⟨us,h.ext D⟩
def aY.p(h:aY w B v rows):∃A ε,v=.slice A rows ε/\bt w A rows/\rows.length<=ε/\ε<=maxLen:=by
 obtain⟨us,h⟩:=h;have G:=fun g=>oz h.η (g:=g)
 rcases h.η.2 with⟨rfl,hn⟩|⟨g,ε,T,rfl,U,Y,hn,I,Z⟩
 .exact WH
 .refine⟨_,ε,rfl,au ⟨g,0,rfl,fun k r H=>?_⟩,hn,I⟩;obtain⟨u,O,J⟩:=h.F H;obtain⟨D,F,rfl,hi,_⟩:=J.p;have:=G g rfl k _ O;rw[dF]at this;exact⟨D,F,this,hi⟩
def aE.y(D:aE w B v xs)(J:∀k,B<=k->w'.heap[k]?=w.heap[k]?):aE w' B v xs:=⟨D.1,D.2.E id fun⟨g,ε,I,F,h,G,H⟩=>⟨g,ε,I,F,h,by rw[J g h];exact G,H⟩⟩
def aY.y{w w'}{B}{v}{rows}(h:aY w B v rows)(F:∀k,B<=k->w'.heap[k]?=w.heap[k]?):aY w' B v rows:=by obtain⟨us,h⟩:=h;exact⟨us,⟨h.η.1,h.η.2.E id fun⟨g,ε,J,G,D,H,I⟩=>⟨g,ε,J,G,D,by rw[F g D];exact H,I⟩⟩,fun k u r T O=>(h.ν k u r T O).y F,h.apart⟩
def aE.x(h:aE w B v xs)(I:B'<=B):aE w B' v xs:=⟨h.1,h.2.E id fun⟨g,ε,G,D,H,F⟩=>⟨g,ε,G,D,Qu,F⟩⟩
def aY.x{w}{B B'}{v}{rows}(h:aY w B v rows)(H:B'<=B):aY w B' v rows:=by obtain⟨us,h⟩:=h;exact⟨us,⟨h.η.1,h.η.2.E id fun⟨g,ε,G,D,O,F⟩=>⟨g,ε,G,D,Qu,F⟩⟩,fun k u r J I=>(h.ν k u r J I).x H,h.apart⟩
def aY.setCell(h:aY w B v rows){a}(D:a.block<B)u:aY (w.setCell a u) B v rows:=h.y fun k F=>a_ _ _ _ _ Qu
def aE.setCell(h:aE w B v xs){a}(D:a.block<B)u:aE (w.setCell a u) B v xs:=h.y fun k F=>a_ _ _ _ _ Qu
def m7(I:o.guard=none)s x(J:o.op=.call {callee:=.builtin .append,args:=#[s,x],argTypes:=#[55,55]})B h W v u rows r(FT:aY h B v rows)(F:ag h W)(hu:aE W h u r)(ah:rows.length+1<=1073741824)(H:B<=(h:Nat))(U:a.eval s=v)(Y:a.eval x=.slice (bH W) 1 1)(G:∀D w',aY w' B D (rows++[r])->Below B h w'->wpList prog ops Q rest (a.put o.dst D) w'):wpList prog ops Q (o::rest) a (W.alloc (.cells #[u] 26)):=by
 have⟨ad,hi,Z,ab,ac⟩:=dp kX;obtain⟨us,FT⟩:=FT;have hW:=FT.ext F;have O:=nm hW.η (.cells #[u] 26);have am:=F.size;refine C6 _ I s x 55 J B 26 ad (.slice none 0 0) 1 24 iA hi Z ab ac rfl Qw v _ _ U O ⟨W,0,none⟩ 1 1 [u] Y rfl ?_ ?_ ?_ ?_ ?_ ?_
 .exact X9
 .exact Xo
 .unfold maxLen;omega
 .omega
 .simp;omega
 .intro D w' T Gx _;refine Pc fun hg=>?_
  refine G D w' ⟨us++[u],?_,?_,?_⟩ (F.x H |>.t ((al _ _).grown hg Qu fun k hk=>(bS hW.η k hk).1))
  .simpa using T
  .exact Zt
  .exact ZL
def bL.set{G}{g ε}{r}(an:n=rows.length)(h:bL G B (.slice (bH g) n ε) rows us)(U:ag G W)(O:aE W G u r)(ah:B<=(G:Nat))(hk:k<n):bL (W.setCell ⟨g,k,none⟩ u) B (.slice (bH g) n ε) (rows.set k r) (us.set k u)/\Below B G (W.setCell ⟨g,k,none⟩ u)/\(∃v0,af W g k v0)/\W.frozen? ⟨g,k,none⟩=false:=by
 subst an;have D:=h.ext U;have J:=D.η.j k u;have am:=bS D.η g rfl;refine⟨⟨by simpa using J.1,?_,?_⟩,(U.x ah).t ((al _ _).setCell am.1 u),?_,D.η.g k⟩
 .intro j F r' I H;by_cases Y:k=j
  .subst Y;rw[gl Sq]at I;rw[gl hk]at H;cases I;cases H
   have Z:=aE.kept O J.2 (fq D.η O);exact⟨Z.1,Z.2.E id fun⟨g,ε,ad,T,ab,ac⟩=>⟨g,ε,ad,T,Qu,ac⟩⟩
  .rw[gI Y]at I H;exact aE.kept (D.ν j F r' I H) J.2 (fq D.η (D.ν j F r' I H))
 .have Î:∀(i:Nat) (F:aG) (b:Nat),us[i]?=some F->F.ownBlock=some b->u.ownBlock=some b->False:=fun i F b h1 h2 h3=>by obtain⟨r',_,ao⟩:=h.nT h1;have T:=(ao.lt b h2).2;have ab:=(O.lt b h3).1;omega
  intro i j u1 u2 b h1 h2 h3 h4;by_cases ci:k=i<;>by_cases cj:k=j
  .omega
  .subst ci;rw[gl Sq]at h1;rw[gI cj]at h2;cases h1
   exact(Î j u2 b h2 h4 h3).elim
  .subst cj;rw[gl Sq]at h2;rw[gI ci]at h1;cases h2
   exact(Î i u1 b h1 h3 h4).elim
  .exact Xb
 .have⟨u0,ap⟩:=aq (Sq:k<us.length);exact⟨u0,by rw[D.η.C k Qu];exact ap⟩
def aY.empty(D:w.ownsRow B 26 1 v 0 []):aY w B v []:=⟨[],D,fun k u r h=>by simp at h,fun i j u F b h=>by simp at h⟩
def yg A ε rows w(H:bt w A rows)(ah:rows.length<=1048576)(U:∀r∈rows,r.length<=1048576):az 145 (aV A rows ε) w fun e w'=>∃u,e=.returned u/\aY w' w u rows/\ag w w':=by
 have⟨ap,hi,an,ao,FU⟩:=dp kX;go_enter func145,ntmps145
 go_wp2_with ((at_make;refine wpList_make_own _ rfl _ _ 55 rfl w.heap.size 26 ap (.slice none 0 0) 1 iA hi an ao .i64 .i64 rows.length rows.length rfl rfl rfl RF SL (ae _) ?_;intro av D O))
 have I:=cy O;have G:=zH (aY.empty D);clear D O;go_loopw [3,11] (fun u i wr=>∃k:Nat,k<=rows.length/\i=.int .i64 k/\aY wr w u (rows.take k)/\ag w wr)
  (fun _ i _=>rows.length-(intOf i).toNat)
 case atStart=>exact⟨0,aW _,rfl,G,I⟩
 case round=>
  obtain⟨k,a5,rfl,D,FW⟩:=hrel;have I5:=zH D;clear D G I;by_cases T:k<rows.length
  .have⟨r,F⟩:=aq T;obtain⟨a2,o,rfl,J⟩:=(H.ext FW).θ T;obtain⟨a0,a3,a4,ad⟩:=J k r F;have⟨Z,HT⟩:=bJ (show r.length<=1099511627776 by have:=U r (aU F);omega) (by rw[du,F];rfl:rows.take (k+1)=rows.take k++[r]);have am:=FW.size;have ab:=zH (QW:(rows.take k).length+1<=1073741824);have a6:rows.length<9223372036854775807:=Qu;clear F J H U ah;go_wp2_with (first|(go_at_call 71;refine(qg _ _ _ _ ad Z).x ?_;rintro e w' ⟨u2,rfl,Y,ac⟩;obtain⟨a1,c2,rfl,_⟩:=Y.p)|(at_builtin;refine m7 rfl _ _ rfl w wr _ _ _ _ _ I5 ac Y ab.o am rfl rfl ?_;intro a7 av Ij Ik))
   exact YA
  .exact Xp
def zg_ n:(madeCells (Value.slice none 0 0).cells (n*1)).toList=List.replicate n (Value.slice none 0 0):=YR
def bL.made(h:w.ownsRow B 26 1 v n (madeCells (Value.slice none 0 0).cells (n*1)).toList):bL w B v (List.replicate n []) (List.replicate n (.slice none 0 0)):=by
 rw[zg_]at h;refine⟨Q_,?_,?_⟩
 .exact YG
 .exact Yq
def mQ v D A ε rows w(ab:bt w A rows)(I:rows.length<=1048576)(ac:∀r∈rows,r.length<=1048576):az 100 (cY (aA v D A rows ε)) w fun e w'=>∃u,e=.returned (.agg (en v D u))/\aY w' w u rows/\ag w w':=by
 have U:=zH I;clear I;go_enter func100,ntmps100
 go_wp2;go_region_held3 (fun w'=>af w' w 0 (zI v)/\af w' w 1 (zI D)/\af w' w 2 (.slice A rows ε)) (first|go_keep|exact⟨ar h Qt,ar h Qt,ar h Qt⟩)
  ((go_at_call 145;refine(yg _ _ _ _ (ab.ext ?_) U ac).x ?_;exact(((al _ _).alloc (ae _) _).alloc Qt _).drew;rintro e w' ⟨u2,rfl,F,h⟩;obtain⟨G,c2,rfl,_⟩:=F.p;have Y:=ar h (p:=⟨(w:Nat)+1,0,none⟩) (v:=()) Qt;have c1:=ar h (p:=⟨(w:Nat)+1,1,none⟩) (v:=()) Qt;have Z:=ar h (p:=⟨(w:Nat)+1,2,none⟩) (v:=dE) Qt;have f0:=i_ h (p:=⟨(w:Nat)+1,0,none⟩) Qt Qt;have f1:=i_ h (p:=⟨(w:Nat)+1,1,none⟩) Qt Qt;have f2:=i_ h (p:=⟨(w:Nat)+1,2,none⟩) Qt Qt))
 simp only[World.size_drew,dV]at F h;have J:=((F.setCell (a:=⟨(w:Nat)+1,0,none⟩) Qt (zI v)).setCell (a:=⟨(w:Nat)+1,1,none⟩) Qt (zI D)).setCell (a:=⟨(w:Nat)+1,2,none⟩) Qt (.slice G rows c2);have H:=(((((((al w w).alloc (ae _) _).alloc Qt _).drew).t (h.x Qu)).setCell (p:=⟨(w:Nat)+1,0,none⟩) Qt (zI v)).setCell (p:=⟨(w:Nat)+1,1,none⟩) Qt (zI D)).setCell (p:=⟨(w:Nat)+1,2,none⟩) Qt (.slice G rows c2);have⟨O,T⟩:=bJ J H;clear F J H h;go_wp2;refine aI (v:=.agg (aA v D G rows c2)) (by simp[results,results100,go_sem,Y,c1,Z]) rfl ⟨_,rfl,O.x Qu,T.o⟩
def zeq k a b c A ε xs w(T:aO w A xs)(U:xs.length<=1048576):az 52 (cY (jP k a b c A xs ε)) w fun e w'=>∃u,e=.returned (.agg #[k,a,b,c,u])/\aE w' w u xs/\ag w w':=by
 have O:=zH (Qu:xs.length<=1099511627776);clear U;go_enter func52,ntmps52
 go_wp2_with fail
 refine(DH _ _ _ _ (T.ext (((al _ _).alloc Qt _ |>.alloc Qt _).alloc Rs _)) O).x ?_;rintro e w' ⟨u2,rfl,D,h⟩;obtain⟨H,c2,rfl,_⟩:=D.p;have⟨⟨Y,Z,ab,ac,ad⟩,_,_,_,_,ah⟩:=zkD h (b:=(w:Nat)+1+1) (aH _ _ Qt);have⟨⟨am,an,ao,ap,av⟩,a0,a1,a2,a3,a4⟩:=zkD h (b:=(w:Nat)+1) ((bO _ _ Qt).t (aH _ _ Qt));simp only[dV]at D;have G:=h.x (B':=w.heap.size) Rs;have F:=(((al w w).alloc Qt _ |>.alloc Qt _).alloc Rs _).t G;have⟨I,J⟩:=bJ D F;clear D F G h;go_wp2;refine aI (v:=.agg (jP k a b c H xs c2)) (by simp[results,results52,go_sem, *]) rfl ⟨_,rfl,?_,?_⟩
 .exact((((((I.setCell Rs _).setCell Rs _).setCell Rs _).setCell Rs _).setCell Rs _).setCell Rs _).x Qu
 .exact(((((J.o.setCell Rs _).setCell Rs _).setCell Rs _).setCell Rs _).setCell Rs _).setCell Rs _
def rD(w:aa)n:Below w w (w.drewN n):=by
 induction n with
 |zero=>exact al _ _
 |succ n ih=>exact ih.t ⟨rfl,rfl,rfl,ae _,fun _ _=>rfl⟩
def Þ(left r:Int)(n:Nat):Prop:=r<0∨(0<=r/\r<=left/\(n:Int)<=left)
def tQ A n ε(left:Int)w(h:n<=maxLen)(F:0<=left)(G:left<=1048576):az 23 #[.slice A n ε,left] w fun e w'=>∃r,e=.returned (zI r)/\Þ left r n/\w=w':=by
 unfold maxLen at h;by_cases D:left-n<0
 .go_enter func23,ntmps23
  go_wp2;go_ret
  exact⟨_,rfl,ay Qw,rfl⟩
 .go_enter func23,ntmps23
  go_wp2;go_ret
  exact⟨_,rfl,au Qu,rfl⟩
def zfy k a b c A n ε left w(J:n<=maxLen)(H:0<=left)(I:left<=1048576):az 48 (jy (rJ k a b c A n ε) left) w fun e w'=>∃r,e=.returned (zI r)/\Þ left r n/\ag w w':=by
 have D:=(al w w).alloc Qt (.cells (rJ k a b c A n ε) 91);have h:=zH D;clear D;go_enter func48,ntmps48
 go_wp2_with ((go_at_call 23;refine(tQ _ _ _ _ _ J H I).x ?_;rintro e w' ⟨O,rfl,F,rfl⟩;have G:=zH F;clear F))
 .go_ret
  exact⟨_,rfl,ay Qw,h⟩
 .go_ret
  exact⟨_,rfl,G,h⟩
def zd5{D:Type}{xs ys:List D}{x y}(G:xs[k]?=some x)(h:ys[k]?=some y)(F:x≠y):xs≠ys:=by intro e;subst e;rw[G]at h;cases h;exact F rfl
def m_{h:Type}{xs ys:List h}{x}(D:xs.take k=ys.take k)(F:xs[k]?=some x)(G:ys[k]?=some x):xs.take (k+1)=ys.take (k+1):=by rw[du,du,D,F,G]
def qK{G:Type}{xs ys:List G}(h:xs.take k=ys.take k)(D:xs.length<=k)(F:ys.length<=k):xs=ys:=by rwa[cZ D,cZ F]at h
def tR A G ε ad xs ys w(J:aO w A xs)(O:aO w G ys)(ah:xs.length<=maxLen)(am:ys.length<=maxLen):az 33 (mv A xs ε G ys ad) w (dt w (decide (xs=ys))):=by
 unfold maxLen at ah am;by_cases hn:xs.length=ys
 .refine N7 fun hb Hn=>?_;clear hn
  go_enter func33,ntmps33
  go_wp2;go_loopw [5] (fun i wr=>∃k:Nat,k<=xs.length/\i=.int .i64 k/\xs.take k=ys.take k/\ag w wr) (fun i _=>xs.length-(intOf i).toNat)
  case atStart=>exact⟨0,aW _,rfl,Qt,al _ _⟩
  case round=>
   obtain⟨k,ap,rfl,T,FW⟩:=hrel;have Gi:=zH T;clear T;by_cases Z:k<xs.length
   .have ab:k<ys.length:=Sh;have⟨x,D⟩:=aq Z;have⟨y,F⟩:=aq ab;obtain⟨b,o,rfl,U⟩:=J.θ Z;obtain⟨ac,an,rfl,Y⟩:=O.θ ab;have c1:∀W:κ wr,af W.W b (o+k) (zI x):=fun W=>W.cell (ar FW (U k x D))
    have c2:∀W:κ wr,af W.W ac (an+k) (zI y):=fun W=>W.cell (ar FW (Y k y F))
    have⟨H,I⟩:=bJ D F;clear D F U Y J O;by_cases h:x=y
    .subst h;go_wp2;refine bU QT QT ?_
     repeat (go_big_quiet_step (fail))
     refine Py fun W=>?_
     go_roundw
     case rel=>exact⟨k+1,Qu,Qx,m_ Gi H I,aJ FW W.ok⟩
     case measure=>simp[intOf];omega
    .have ao:(x !=y)=true:=by simp[h]
     go_wp2;refine bU QT QT ?_
     repeat (go_big_quiet_step (fail))
     refine Py fun W=>?_
     go_ret
     exact⟨aN (fR (zd5 H I h)).q,aJ FW W.ok⟩
   .exact XI
 .have hb:((xs:Int)!=(ys:Int))=true:=QW;go_enter func33,ntmps33
  exact WY
def zd_ k a b c A D ε F xs w(G:aO w A xs)(H:aO w D xs)(J:xs.length<=maxLen):az 57 (iV (jP k a b c A xs ε) (jP k a b c D xs F)) w (dt w true):=by
 have h:=((al w w).alloc Qt (.cells (jP k a b c A xs ε) 97)).alloc Qt (.cells (jP k a b c D xs F) 97);have T:=zH h;have Y:=G.ext h;have Z:=H.ext h;clear h G H;have O:=zH (fT (rfl:xs=xs));go_enter func57,ntmps57
 go_wp2_with ((go_at_call 33;refine(Calls.bl (tR _ _ _ _ _ _ _ Y Z J J) O).x ?_;rintro e w' ⟨rfl,I⟩;have U:=zH I;clear I))
 go_ret
 exact⟨rfl,T.o.t (U.x Rs)⟩
section
variable{K:pt}
def fN(h:cL)o(D:cL)(F:o+D.length<=h):(splice h o D).length=h:=length_splice h o D F
def zeQ(h:cL)o v(D:cL)(H:o+1+D.length<=h):splice (h.set o v) (o+1) D=splice h o (v::D):=by
 unfold splice;have F:(h.set o v).take (o+1)=h.take o++[v]:=by rw[du,List.take_set_of_le (ae _),gl Qu];rfl
 have G:(h.set o v).drop (o+1+D.length)=h.drop (o+(v::D).length):=by rw[List.drop_set_of_lt Qu];simp[ow,uI 1]
 rw[F,G];simp
def dY g E:∀(h:cL) (o:Nat) (w:aa) (D:gg),bA w g D E->o+h.length<=D.size->(w.setCells g o h).heap[g]?=some (.cells (splice D.toList o h).toArray E (0,0))/\w.grownBy (w.setCells g o h) (some g)
 |[],o,w,D,F,_=>by refine⟨?_,⟨rfl,rfl,rfl,ae _,fun _ _ _=>rfl⟩⟩;simp only[World.setCells,splice,rP,iN,jf,zcd];simpa using F
 |v::h,o,w,D,F,T=>by
  simp only[jT]at T;have Y:=(bk.1 F).1;have I:(w.setCell ⟨g,o,none⟩ v).heap[g]?=some (.cells (D.setIfInBounds o v) E (0,0)):=by
   have:=(bk.1 F).2
   show(w.heap.modify g _)[g]?=_
   rw[Array.getElem?_modify,ak rfl,F];simp
  have⟨U,G⟩:=dY g E h (o+1) _ _ I QW;refine⟨?_,?_⟩
  .show((w.setCell ⟨g,o,none⟩ v).setCells g (o+1) h).heap[g]?=_
   rw[U,Array.toList_setIfInBounds,zeQ _ _ _ _ QW]
  .refine⟨G.os,G.tape,G.output,by have:=G.size;rw[World.size_setCell]at this;exact this,fun k J H=>?_⟩;have O:k < (w.setCell ⟨g,o,none⟩ v:Nat):=by rw[World.size_setCell];exact J
   exact(G.block k O H).t (a_ _ _ _ _ (by intro e;exact H Qv))
def cx{a b c:aa}(h:a.grownBy b row)(k:b.grownBy c row):a.grownBy c row:=⟨k.os.t h.os,k.tape.t h.tape,k.output.t h.output,aZ h.size k.size,fun i hi D=>(k.block i (gm hi h.size) D).t (h.block i hi D)⟩
def eG(w:aa)row:w.grownBy w.drew row:=⟨rfl,rfl,rfl,ae _,fun _ _ _=>rfl⟩
def bB{g}{h}(D:bA w g h E)j:w.cell? ⟨g,j,none⟩=h.toList[j]?:=by simp[World.cell?,D]
def aK{g}{h}(D:bA w g h E)j:w.frozen? ⟨g,j,none⟩=false:=by simp[World.frozen?,D]
def BW(h:cL)o D(F:o<=h.length):(splice h o D).take o=h.take o:=by unfold splice;rw[oG QW,nt];simp
def jJ(h:cL)o D(F:o<=h.length):(splice h o D).take (o+D.length)=h.take o++D:=by unfold splice;rw[<-fJ,oG QW];rw[cZ QW]
def zdb(D us h J:cL)n k m(I:D.take n=us)(Y:n<=D.length)(O:k<n)(H:h=us.drop (k+1))(U:m+1=n)(T:h.length=n-(k+1)):(splice (splice D k h) m J).take (n-1)=us.eraseIdx k:=by have F:n-1=m:=Qu;have G:m=k+h.length:=Qu;rw[F,BW _ _ _ (by rw[fN _ _ _ Qu];omega),G,jJ _ _ _ Qu,H,C_,<-I,nt,iw Qu]
def mU w(G:o.guard=none)d s t h(H:o.op=.call {callee:=.builtin .copy,args:=#[d,s],argTypes:=#[t,h]})v u(F:a.eval d=v)(J:a.eval s=u)(I:(Builtin.copy_ #[t,h] o.type #[v,u]).run P w=.ok T w')(D:wpList P ops Q rest (a.put o.dst T) w'):wpList P ops Q (o::rest) a w:=by
 refine l7 G fun K hK=>?_
 unfold Oper.wp execOp;simp only[H,resolve,invoke,builtin,Sem.run_bind,Sem.run_pure,Dc,List.map_toArray,se,rU,F,J,I];exact hK _ _ D
def pI{E}(G:o.guard=none)d x h D(H:o.op=Op.call {callee:=Callee.builtin Builtin.copy,args:=#[d,x],argTypes:=#[h,D]})v u(F:a.eval d=v)(J:a.eval x=u)(I:(Builtin.copy_ #[h,D] o.type #[v,u]).run P w=.ok T w')(hK:K (a.put o.dst T) w'):if Region.wanted o (yielded ops a.tmps)=true then Oper.wp P o a w K Q else E:=by rw[ak (by simp[Region.wanted,G]:Region.wanted o (yielded ops a.tmps)=true)];unfold Oper.wp execOp;simp only[H,resolve,invoke,builtin,Sem.run_bind,Sem.run_pure,Dc,List.map_toArray,se,rU,F,J,I];exact hK
def cT{h:Type}(us:List h)(k:Nat)(x:h):List h:=us.take k++x::us.drop k
def zdc(h us ds:cL)n k x(D:h.take n=us)(U:n+1<=h.length)(O:k<n)(H4:ds=us.drop k):(splice (splice h (k+1) ds) k [x]).take (n+1)=cT us k x:=by
 have T:us.length=n:=by rw[<-D];simp;omega
 have J:ds.length=n-k:=SS;have I:us.take k=h.take k:=by rw[<-D,nt,iw Qu]
 have F:(splice h (k+1) ds).take k=h.take k:=by have:=oy (List.take k) (BW h (k+1) ds Qu);rwa[nt,nt,iw Qu]at this
 have G:(splice h (k+1) ds).drop (k + [x].length)=ds++h.drop (k+1+ds.length):=by unfold splice;rw[List.drop_append_of_le_length QW];simp
 have H:splice (splice h (k+1) ds) k [x]=(h.take k++x::ds)++h.drop (k+1+ds.length):=by
  show(splice h (k+1) ds).take k++([x]++(splice h (k+1) ds).drop (k + [x].length))=_
  rw[F,G];simp
 rw[H,oG QW,cZ QW,cT,I,H4]
def zaz(row us ds:cL)n k x(J:us.length=n)(O:n+1<=row.length)(I:k<n)(H4:ds=us.drop k)(G:row.take k=us.take k):(splice (splice row k [x]) (k+1) ds).take (n+1)=cT us k x:=by have H:ds.length=n-k:=SS;have h:=jJ row k [x] Qu;have D:=jJ (splice row k [x]) (k+1) ds (by rw[fN _ _ _ QW];omega);have F:k+1+ds.length=n+1:=Qu;rw[F]at D;rw[D];simp only[jT,iN,jU]at h;rw[h,G,cT,H4];simp
def zeR{g}{h}(D:bA w g h E):w.cell? ⟨g,0,none⟩=h.toList[0]?/\w.cell? ⟨g,1,none⟩=h.toList[1]?:=⟨bB D 0,bB D 1⟩
def cC{g}{h}(D:bA w g h E):w.cell? ⟨g,0,none⟩=h.toList[0]?/\w.cell? ⟨g,1,none⟩=h.toList[1]?/\w.cell? ⟨g,2,none⟩=h.toList[2]?:=⟨bB D 0,bB D 1,bB D 2⟩
def ye{g}{h}(D:bA w g h E):w.cell? ⟨g,0,none⟩=h.toList[0]?/\w.cell? ⟨g,1,none⟩=h.toList[1]?/\w.cell? ⟨g,2,none⟩=h.toList[2]?/\w.cell? ⟨g,3,none⟩=h.toList[3]?:=⟨bB D 0,bB D 1,bB D 2,bB D 3⟩
def cd{g}{D}(h:bA w g D E):w.frozen? ⟨g,0,none⟩=false/\w.frozen? ⟨g,1,none⟩=false/\w.frozen? ⟨g,2,none⟩=false:=⟨aK h 0,aK h 1,aK h 2⟩
end
def Dt B g n ε(i:Int)us(w:aa)(Y:w.ownsRow B 3 1 (.slice (bH g) n ε) n us)(h1:∀u∈us,u.oneCell'=true)(hi:0<=i)(ac:i<n)(a5:n<=1048576):az 272 #[.slice (bH g) n ε,i,.int .i64 (i+1)] w fun e w'=>e=.returned (.slice (bH g) (n-1) ε)/\w'.ownsRow B 3 1 (.slice (bH g) (n-1) ε) (n-1) (us.eraseIdx i.toNat)/\w.grownBy w' (some g):=by
 obtain⟨k,rfl⟩:=iz hi;have⟨ao,ab,a9,an,ba⟩:=dp gD;obtain⟨D,ad⟩:=Y;rcases ad with⟨am,_⟩|⟨av,ap,F9,ah,Z,G,a6,F,G_,G9⟩
 .cases am
 cases ah
 simp only[fk]at D G_ G9;have I:k<n:=Qu;have⟨j,H⟩:=aR (k+1);rw[show((k:Int)+1)=(j:Int) by omega];refine Ou fun Gk=>?_
 have I9:bA w.drew g F9 3:=G;refine Ps fun Iq Ip Gb A hA I6 s1 s2 s3 W1 I7=>?_
 have⟨b1,h⟩:=dY g 3 Iq (0+k*1) w.drew F9 I9 RN;rw[<-I7]at b1 h;have I8:(splice F9.toList (0+k*1) Iq).length=ε:=Vf;have a0:∀ty,(Builtin.clear_ #[26] ty #[.slice (some ⟨g,k+(n-j),none⟩) (n-(k+(n-j))) (ε-(k+(n-j)))]).run prog W1=.ok (.tuple #[]) (W1.setCells g (k+(n-j)) (List.replicate (n-(k+(n-j))) (zI 0))):=
  fun ty=>Lib.run_clear_slice (P:=prog) W1 26 3 ty (zI 0) dR (fun _=>QT) rfl rfl g (k+(n-j)) _ _ Qu
   (fun t ht=>Vy) (fun t ht=>aK b1 _)
 have⟨c1,c2⟩:=dY g 3 (List.replicate (n-(k+(n-j))) (zI 0)) (k+(n-j)) W1 _ b1 Ug;have T:=zH (show(W1.setCells g (k+(n-j)) (List.replicate (n-(k+(n-j))) (zI 0))).ownsRow B 3 1 (.slice (bH g) (n-1) ε) (n-1) (us.eraseIdx k) by
  refine⟨by simp[pX,D,I],au ⟨g,ε,_,rfl,Z,c1,Qu,F,?_,?_⟩⟩
  .exact Xm
  .skip
   simp only[fk,jU];exact zdb F9.toList us Iq _ n k (k+(n-j)) G9 QW I (by rw[Ip,H]) Qu RN)
 have⟨O,U⟩:=bJ (cx (eG w (some g)) (cx h c2)) I7;have a4:k<j:=Qu;have a2:j<=n:=Qu;have a1:j<=ε:=Qu;have a3:k<=ε:=Qu;have a7:k+(n-j)<ε:=Qu;have a8:k+(n-j)<=n:=Qu;have J:k+(n-j)+1=n:=Qu;have HX:=zH J;unfold maxLen at F;clear D G_ G9 G I9 h1 hi Gk Ip Gb I7 b1 h I8 c1 c2 ac H J;go_enter func272,ntmps272
 go_wp2_with fail
 go_region_law (refine xf rfl (.tmp 22) (.tmp 25) 26 rfl 3 ao 1 dR ab an g 0 k ε Tw A (n-j) (ε-j) Iq Tw s1.o I6.o s2.o Qu s3.o ?_;rw[<-U.o])
 go_wp2;go_ret
 refine⟨?_,?_,O⟩
 .exact WA
 .exact T.o
def vl B g n ε(i:Int)us(w:aa)(Y:w.ownsRow B 26 1 (.slice (bH g) n ε) n us)(h1:∀u∈us,u.oneCell'=true)(hi:0<=i)(ac:i<n)(a5:n<=1048576):az 257 #[.slice (bH g) n ε,i,.int .i64 (i+1)] w fun e w'=>e=.returned (.slice (bH g) (n-1) ε)/\w'.ownsRow B 26 1 (.slice (bH g) (n-1) ε) (n-1) (us.eraseIdx i.toNat)/\w.grownBy w' (some g):=by
 obtain⟨k,rfl⟩:=iz hi;have⟨ao,ab,a9,an,ba⟩:=dp kX;obtain⟨D,ad⟩:=Y;rcases ad with⟨am,_⟩|⟨av,ap,F9,ah,Z,G,a6,F,G_,G9⟩
 .cases am
 cases ah
 simp only[fk]at D G_ G9;have I:k<n:=Qu;have⟨j,H⟩:=aR (k+1);rw[show((k:Int)+1)=(j:Int) by omega];refine Ou fun Gk=>?_
 have I9:bA w.drew g F9 26:=G;refine Ps fun Iq Ip Gb A hA I6 s1 s2 s3 W1 I7=>?_
 have⟨b1,h⟩:=dY g 26 Iq (0+k*1) w.drew F9 I9 RN;rw[<-I7]at b1 h;have I8:(splice F9.toList (0+k*1) Iq).length=ε:=Vf;have a0:∀ty,(Builtin.clear_ #[55] ty #[.slice (some ⟨g,k+(n-j),none⟩) (n-(k+(n-j))) (ε-(k+(n-j)))]).run prog W1=.ok (.tuple #[]) (W1.setCells g (k+(n-j)) (List.replicate (n-(k+(n-j))) (.slice none 0 0))):=
  fun ty=>Lib.run_clear_slice (P:=prog) W1 55 26 ty (.slice none 0 0) iA (fun _=>QT) rfl rfl g (k+(n-j)) _ _ Qu
   (fun t ht=>Vy) (fun t ht=>aK b1 _)
 have⟨c1,c2⟩:=dY g 26 (List.replicate (n-(k+(n-j))) (.slice none 0 0)) (k+(n-j)) W1 _ b1 Ug;have T:=zH (show(W1.setCells g (k+(n-j)) (List.replicate (n-(k+(n-j))) (.slice none 0 0))).ownsRow B 26 1 (.slice (bH g) (n-1) ε) (n-1) (us.eraseIdx k) by
  refine⟨by simp[pX,D,I],au ⟨g,ε,_,rfl,Z,c1,Qu,F,?_,?_⟩⟩
  .exact Xm
  .skip
   simp only[fk,jU];exact zdb F9.toList us Iq _ n k (k+(n-j)) G9 QW I (by rw[Ip,H]) Qu RN)
 have⟨O,U⟩:=bJ (cx (eG w (some g)) (cx h c2)) I7;have a4:k<j:=Qu;have a2:j<=n:=Qu;have a1:j<=ε:=Qu;have a3:k<=ε:=Qu;have a7:k+(n-j)<ε:=Qu;have a8:k+(n-j)<=n:=Qu;have J:k+(n-j)+1=n:=Qu;have HX:=zH J;unfold maxLen at F;clear D G_ G9 G I9 h1 hi Gk Ip Gb I7 b1 h I8 c1 c2 ac H J;go_enter func257,ntmps257
 go_wp2_with fail
 go_region_law (refine xf rfl (.tmp 22) (.tmp 25) 55 rfl 26 ao 1 iA ab an g 0 k ε Tw A (n-j) (ε-j) Iq Tw s1.o I6.o s2.o Qu s3.o ?_;rw[<-U.o])
 go_wp2;go_ret
 refine⟨?_,?_,O⟩
 .exact WA
 .exact T.o
def xA B g n ε h(i:Int)us x(w:aa)(ab:w.ownsRow B 3 1 (.slice (bH g) n ε) n us)(J:∀u∈us,u.oneCell'=true)(Ja:x.oneCell'=true)(hv:bA w h #[x] 3)(F0:h≠g)(hi:0<=i)(am:i<n)(a7:n+1<=ε)(a5:n<=1048576):az 277 #[.slice (bH g) n ε,i,.slice (bH h) 1 1] w fun e w'=>e=.returned (.slice (bH g) (n+1) ε)/\w'.ownsRow B 3 1 (.slice (bH g) (n+1) ε) (n+1) (cT us i.toNat x)/\w.grownBy w' (some g):=by
 obtain⟨k,rfl⟩:=iz hi;have⟨a9,Hw,a2,G4,a8⟩:=dp gD;have U:(prog.info? 3).map (·.size)=some 1:=So;obtain⟨I_,ap⟩:=ab;rcases ap with⟨a1,_⟩|⟨a4,a3,F9,av,ac,H,a6,ad,G_,G9⟩
 .cases a1
 cases av
 simp only[fk]at I_ G_ G9;unfold maxLen at ad;have an:k<n:=Qu;refine Ou fun Gk=>?_
 have I9:bA w.drew g F9 3:=H;have a0:bA w.drew h #[x] 3:=hv;have ao:∀lb G,(callFunc 278 #[.slice (bH h) 1 1,.slice (some ⟨g,k+1,none⟩) lb G]).run prog w=.ok (.value (.bool false)) w:=fun lb G=>by
  rw[run_callFunc_extern func278 QT QT QT (e:=Extern.SlicesOverlaps.overlaps #[26,26] #[4]) QT,
   Lib.run_overlaps_apart w 26 4 3 dR 1 Tryz.sizeOf3 ⟨h,0,none⟩ ⟨g,k+1,none⟩ 1 1 lb G F0 3 3 1 ε (by simp[World.shape?,hv]) (by simp[World.shape?,H,G_]) Qu (aK hv _) (aK hv _)]
  rfl
 have⟨ds,H4⟩:=aR (us.drop k);have Jb:ds.length=n-k:=SS;have T:∀ty D I,(Builtin.copy_ #[26,26] ty #[.slice (some ⟨g,k+1,none⟩) (n-k) D,.slice (some ⟨g,k,none⟩) (n+1-k) I]).run prog w.drew=.ok (goInt ds) (w.drew.setCells g (k+1) ds):=fun ty D I=>
  sh w.drew _ _ ty 3 g (k+1) (n-k) D ⟨g,k,none⟩ (n+1-k) I ds dR U UU
   (fun j v hj=>VM)
   (fun j hj=>Ut) (fun j hj=>aK I9 _) (fun v hv=>J v (mx Sn))
 have⟨F,O⟩:=aR (w.drew.setCells g (k+1) ds);have⟨b1,b2⟩:=dY g 3 ds (k+1) w.drew F9 I9 (by rw[Jb];omega);rw[<-O]at b1 b2 T;have I8:(splice F9.toList (k+1) ds).length=ε:=Ve;have Y:bA F h #[x] 3:=(b2.block h (bk.1 hv).1 RC).t hv;have ah:∀ty D,(Builtin.copy_ #[26,26] ty #[.slice (some ⟨g,k,none⟩) (n+1-k) D,.slice (bH h) 1 1]).run prog F=.ok (goInt [x]) (F.setCells g k [x]):=fun ty D=>
  sh F _ _ ty 3 g k (n+1-k) D ⟨h,0,none⟩ 1 1 [x] dR U UQ
   (fun j v hj=>by
    match j,hj with
    |0,hj=>simp at hj;subst hj;rw[dF,bB Y];rfl
    |j+1,hj=>simp at hj)
   (fun j hj=>VF) (fun j hj=>aK b1 _) (fun v hv=>T3)
 have⟨c1,c2⟩:=dY g 3 [x] k F _ b1 Ug;have Z:=zH (show(F.setCells g k [x]).ownsRow B 3 1 (.slice (bH g) (n+1) ε) (n+1) (cT us k x) by
  refine⟨SN,au ⟨g,ε,_,rfl,ac,c1,Qu,SL,?_,?_⟩⟩
  .exact Xm
  .simp only[fk];exact zdc F9.toList us ds n k x G9 QW an H4)
 refine OJ fun Hz Jc Gq FR Hv Gg Hj IG=>?_;clear J hv hi am a2 H I_ G_ G9 Gk I9 a0 H4 Jb O b1 b2 I8 Y c1 c2
 go_enter func277,ntmps277
 go_wp2_with (simp only[ao])
 go_region_law (refine pI rfl (.tmp 73) (.tmp 76) 26 26 rfl _ _ Tw Tw (T _ _ _) ?_)
 go_wp2_with (with_reducible refine mU _ rfl (.tmp 80) (.tmp 81) 26 26 rfl _ _ rfl rfl (ah _ _) ?_)
 go_ret
 exact⟨rfl,Z,Hz⟩
def zM B n F v us x(w:aa)(D:w.ownsRow B 3 1 v n us)(a2:x.oneCell'=true)(H:bA w F #[x] 3)(a1:n<=1048576)(O:B<=(w:Nat)):az 277 #[v,n,.slice (bH F) 1 1] w fun e w'=>∃g ε,e=.returned (.slice (bH g) (n+1) ε)/\w'.ownsRow B 3 1 (.slice (bH g) (n+1) ε) (n+1) (cT us n x)/\w.grownBy w' v.ownBlock/\(v.ownBlock=some g∨(w:Nat)<=g):=by
 have⟨an,Y,ad,ah,am⟩:=dp gD;have G:us.length=n:=by simpa using D.1
 have Z:cT us n x=us++[x]:=by simp[cT,<-G]
 have HI:=zH Z;clear Z;have ab:Hd (∀j u,([x]:cL)[j]?=some u->w.cell? ((⟨F,0,none⟩:dM).add j)=some u):=fun j u h=>by
  match j,h with
  |0,h=>simp at h;subst h;rw[dF,bB H];rfl
  |j+1,h=>simp at h
 have J:Hd (∀u∈([x]:cL),u.oneCell'=true):=fun u ac=>by simp at ac;subst ac;exact a2
 have I:=zH D;rcases D.2 with⟨rfl,rfl⟩|⟨g,ε,a4,rfl,_,_,a5,av,_⟩
 .clear D G H;go_enter func277,ntmps277
  go_wp2_with (at_builtin;refine Dj _ rfl (.tmp 23) (.tmp 24) 26 rfl B 3 an (zI 0) 1 8 dR Y ad ah am rfl Qw _ 0 us rfl I.o ⟨F,0,none⟩ 1 1 [x] rfl rfl ab.o J.o Qw Qw Qw O w.heap.size rfl ?_;intro g ε a3 FT Io Ix a0)
  exact XF
 .unfold maxLen at av;have T:(n+1)<=maxLen:=SL;have U:(n+1)*8<=140737488355328:=Qu;have⟨ao,ap⟩:=bJ T U;clear D G H T U a1;go_enter func277,ntmps277
  go_wp2_with (at_builtin;refine Dj _ rfl (.tmp 23) (.tmp 24) 26 rfl B 3 an (zI 0) 1 8 dR Y ad ah am rfl Qw _ n us rfl I.o ⟨F,0,none⟩ 1 1 [x] rfl rfl ab.o J.o Qw ao.o ap.o O w rfl ?_;intro g ε a3 FT Io Ix a0)
  all_goals (go_ret;exact⟨g,ε,rfl,by rw[HI.o];exact FT,Io,Ix.E id fun e=>Qu⟩)
def yy B g n ε I(i:Int)us x(w:aa)(h:w.ownsRow B 3 1 (.slice (bH g) n ε) n us)(T:∀u∈us,u.oneCell'=true)(Ja:x.oneCell'=true)(hv:bA w I #[x] 3)(hi:0<=i)(a4:i<n)(a8:ε<n+1)(bi:n<=1048576)(av:B<=(w:Nat)):az 277 #[.slice (bH g) n ε,i,.slice (bH I) 1 1] w fun e w'=>∃G,e=.returned (.slice (bH w) (n+1) G)/\w'.ownsRow B 3 1 (.slice (bH w) (n+1) G) (n+1) (cT us i.toNat x)/\w.grownBy w' none:=by
 obtain⟨k,rfl⟩:=iz hi;have⟨ao,Hw,an,G4,FU⟩:=dp gD;have ah:(prog.info? 3).map (·.size)=some 1:=So;obtain⟨I_,a7⟩:=h;rcases a7 with⟨bc,_⟩|⟨be,bd,F9,ba,bg,J,bn,a1,ab,G9⟩
 .cases bc
 cases ba
 simp only[fk]at I_ ab G9;unfold maxLen at a1;have a6:k<n:=Qu;obtain rfl:n=ε:=Qu;have a3:g < (w:Nat):=(bk.1 J).1;have bb:I < (w:Nat):=(bk.1 hv).1;refine Ou fun Gk=>?_
 have ad:(Builtin.firstCells ao.size k (.slice (bH g) k n)).run prog w.drew=.ok (us.take k).toArray w.drew:=by rw[G4];exact zci w.drew 1 k ⟨g,0,none⟩ k n (us.take k) QW (fun j v hj=>by have a5:=(bG.1 hj).1;simp at a5;rw[dF,bB (show bA w.drew g F9 3 from J),jU,Gk _ Qu,<-hj,iM,ak Qu])
 have⟨G,hG⟩:=aR (grownCap w (n+1) n 3);have a0:n+1<=G:=by rw[hG];exact grownCap_ge w _ _ _
 have bh:G<=9223372036854775807:=by have:=grownCap_le_maxLen w (n+1) n 3 SL;rw[<-hG]at this;unfold maxLen at this;omega
 obtain⟨F,NF⟩:∃F:gg,F=(us.take k).toArray++Builtin.zeroCells (Value.cells (zI 0)) (n+1-k)++Builtin.zeroCells (Value.cells (zI 0)) (G-(n+1)):=⟨_,rfl⟩;have NS:F.size=G:=Vu;have U:F.toList.take k=us.take k:=XB;have⟨D,I7⟩:=aR (w.drew.alloc (.cells F 3));have a9:∀ty,(Builtin.append_ #[26,3] ty #[.slice (bH g) k n,.int .i64 ((n:Int)+1-(k:Int))]).run prog w=.ok (.slice (bH w) (n+1) G) D:=fun ty=>by have h:=zcj (P:=prog) w 26 3 ty 3 ao _ .i64 .i64 dR fL Hw an (some ⟨g,0,none⟩) k n (us.take k) ad (n+1-k) Qu Qu Qu Qu RF VU;exact YO
 have FR:bA D w F 3:=by rw[I7];exact aH _ _ rfl
 have NC:∀q,q < (w:Nat)->D.heap[q]?=w.heap[q]?:=fun q hq=>by rw[I7];exact bO w.drew _ hq
 have Ic:w.grownBy D none:=Vv;have am:bA D I #[x] 3:=(NC I bb).t hv;have Z:∀ty H,(Builtin.copy_ #[26,26] ty #[.slice (some ⟨w,k,none⟩) (n+1-k) H,.slice (bH I) 1 1]).run prog D=.ok (goInt [x]) (D.setCells w k [x]):=fun ty H=>
  sh D _ _ ty 3 w k (n+1-k) H ⟨I,0,none⟩ 1 1 [x] dR ah UQ
   (fun j v hj=>by
    match j,hj with
    |0,hj=>simp at hj;subst hj;rw[dF,bB am];rfl
    |j+1,hj=>simp at hj)
   (fun j hj=>U_) (fun j hj=>aK FR _) (fun v hv=>T3)
 have⟨W2,Y⟩:=aR (D.setCells w k [x]);have⟨c1,c2⟩:=dY w 3 [x] k D _ FR QW;rw[<-Y]at c1 c2 Z;have⟨ds,H4⟩:=aR (us.drop k);have Jb:ds.length=n-k:=SS;have Ig:(splice F.toList k [x]).length=G:=U2;have ac:bA W2 g F9 3:=(c2.block g (by have:=Ic.size;omega) QW).t ((NC g a3).t J);have NM:W2.drew.heap[w.heap.size]?=_:=c1;have NX:W2.drew.heap[g]?=_:=ac;have a2:∀ty H O,(Builtin.copy_ #[26,26] ty #[.slice (some ⟨w,k+1,none⟩) (n-k) H,.slice (some ⟨g,k,none⟩) (n-k) O]).run prog W2.drew=.ok (goInt ds) (W2.drew.setCells w (k+1) ds):=fun ty H O=>
  sh W2.drew _ _ ty 3 w (k+1) (n-k) H ⟨g,k,none⟩ (n-k) O ds dR ah UU
   (fun j v hj=>VN)
   (fun j hj=>VE) (fun j hj=>aK NM _) (fun v hv=>T v (mx Sn))
 have⟨d1,d2⟩:=dY w 3 ds (k+1) W2.drew _ NM T_;have ap:=zH (show(W2.drew.setCells w (k+1) ds).ownsRow B 3 1 (.slice (bH w) (n+1) G) (n+1) (cT us k x) by
  refine⟨SN,au ⟨w,G,_,rfl,av,d1,a0,SL,?_,?_⟩⟩
  .exact Xh
  .simp only[fk];exact zaz F.toList us ds n k x I_ QW a6 H4 U)
 refine PK fun Hz NR Jc Gq NT Hv NY NJ NU Hj=>?_;clear T hv hi a4 an J I_ G9 a8 ab Gk ad hG NF NS U I7 FR NC Ic am Y c1 c2 H4 Jb Ig ac NM NX d1 d2
 go_enter func277,ntmps277
 go_wp2_with (first
  |(at_builtin;refine Lib.wpList_append_run _ rfl (.tmp 34) (.tmp 39) _ _ rfl _ _ rfl rfl _ _ (a9 _) ?_)
  |(with_reducible refine mU _ rfl (.tmp 43) (.tmp 44) 26 26 rfl _ _ rfl rfl (Z _ _) ?_))
 go_region_law (refine pI rfl (.tmp 50) (.tmp 53) 26 26 rfl _ _ Tw Tw (a2 _ _ _) ?_)
 go_wp2;go_ret
 exact⟨G,rfl,ap,Hz⟩
def EU B n h(i:Int)v us x(w:aa)(D:w.ownsRow B 3 1 v n us)(J:∀u∈us,u.oneCell'=true)(I:x.oneCell'=true)(H:bA w h #[x] 3)(Y:v.ownBlock≠some h)(hi:0<=i)(ab:i<=n)(F:n<=1048576)(O:B<=(w:Nat)):az 277 #[v,i,.slice (bH h) 1 1] w fun e w'=>∃g ε,e=.returned (.slice (bH g) (n+1) ε)/\w'.ownsRow B 3 1 (.slice (bH g) (n+1) ε) (n+1) (cT us i.toNat x)/\w.grownBy w' v.ownBlock/\(v.ownBlock=some g∨(w:Nat)<=g):=by
 by_cases U:i=n
 .subst U;rw[Da];exact zM B n h v us x w D I H F O
 .have T:i<n:=Qu;obtain⟨g,ε,rfl,_,_⟩:=D.form Qu;by_cases Z:n+1<=ε
  .refine(xA B g n ε h i us x w D J I H (by intro e;subst e;exact Y rfl) hi T Z F).x ?_;exact WB
  .refine(yy B g n ε h i us x w D J I H hi T Qu F O).x ?_;exact YF
def xB B g n ε h(i:Int)us x(w:aa)(ab:w.ownsRow B 26 1 (.slice (bH g) n ε) n us)(J:∀u∈us,u.oneCell'=true)(Ja:x.oneCell'=true)(hv:bA w h #[x] 26)(F0:h≠g)(hi:0<=i)(am:i<n)(a7:n+1<=ε)(a5:n<=1048576):az 261 #[.slice (bH g) n ε,i,.slice (bH h) 1 1] w fun e w'=>e=.returned (.slice (bH g) (n+1) ε)/\w'.ownsRow B 26 1 (.slice (bH g) (n+1) ε) (n+1) (cT us i.toNat x)/\w.grownBy w' (some g):=by
 obtain⟨k,rfl⟩:=iz hi;have⟨a9,Hw,a2,G4,a8⟩:=dp kX;have U:(prog.info? 26).map (·.size)=some 1:=So;obtain⟨I_,ap⟩:=ab;rcases ap with⟨a1,_⟩|⟨a4,a3,F9,av,ac,H,a6,ad,G_,G9⟩
 .cases a1
 cases av
 simp only[fk]at I_ G_ G9;unfold maxLen at ad;have an:k<n:=Qu;refine Ou fun Gk=>?_
 have I9:bA w.drew g F9 26:=H;have a0:bA w.drew h #[x] 26:=hv;have ao:∀lb G,(callFunc 262 #[.slice (bH h) 1 1,.slice (some ⟨g,k+1,none⟩) lb G]).run prog w=.ok (.value (.bool false)) w:=fun lb G=>by
  rw[run_callFunc_extern func262 QT QT QT (e:=Extern.SlicesOverlaps.overlaps #[55,55] #[4]) QT,
   Lib.run_overlaps_apart w 55 4 26 iA 1 Tryz.sizeOf26 ⟨h,0,none⟩ ⟨g,k+1,none⟩ 1 1 lb G F0 26 26 1 ε (by simp[World.shape?,hv]) (by simp[World.shape?,H,G_]) Qu (aK hv _) (aK hv _)]
  rfl
 have⟨ds,H4⟩:=aR (us.drop k);have Jb:ds.length=n-k:=SS;have T:∀ty D I,(Builtin.copy_ #[55,55] ty #[.slice (some ⟨g,k+1,none⟩) (n-k) D,.slice (some ⟨g,k,none⟩) (n+1-k) I]).run prog w.drew=.ok (goInt ds) (w.drew.setCells g (k+1) ds):=fun ty D I=>
  sh w.drew _ _ ty 26 g (k+1) (n-k) D ⟨g,k,none⟩ (n+1-k) I ds iA U UU
   (fun j v hj=>VM)
   (fun j hj=>Ut) (fun j hj=>aK I9 _) (fun v hv=>J v (mx Sn))
 have⟨F,O⟩:=aR (w.drew.setCells g (k+1) ds);have⟨b1,b2⟩:=dY g 26 ds (k+1) w.drew F9 I9 (by rw[Jb];omega);rw[<-O]at b1 b2 T;have I8:(splice F9.toList (k+1) ds).length=ε:=Ve;have Y:bA F h #[x] 26:=(b2.block h (bk.1 hv).1 RC).t hv;have ah:∀ty D,(Builtin.copy_ #[55,55] ty #[.slice (some ⟨g,k,none⟩) (n+1-k) D,.slice (bH h) 1 1]).run prog F=.ok (goInt [x]) (F.setCells g k [x]):=fun ty D=>
  sh F _ _ ty 26 g k (n+1-k) D ⟨h,0,none⟩ 1 1 [x] iA U UQ
   (fun j v hj=>by
    match j,hj with
    |0,hj=>simp at hj;subst hj;rw[dF,bB Y];rfl
    |j+1,hj=>simp at hj)
   (fun j hj=>VF) (fun j hj=>aK b1 _) (fun v hv=>T3)
 have⟨c1,c2⟩:=dY g 26 [x] k F _ b1 Ug;have Z:=zH (show(F.setCells g k [x]).ownsRow B 26 1 (.slice (bH g) (n+1) ε) (n+1) (cT us k x) by
  refine⟨SN,au ⟨g,ε,_,rfl,ac,c1,Qu,SL,?_,?_⟩⟩
  .exact Xm
  .simp only[fk];exact zdc F9.toList us ds n k x G9 QW an H4)
 refine OJ fun Hz Jc Gq FR Hv Gg Hj IG=>?_;clear J hv hi am a2 H I_ G_ G9 Gk I9 a0 H4 Jb O b1 b2 I8 Y c1 c2
 go_enter func261,ntmps261
 go_wp2_with (simp only[ao])
 go_region_law (refine pI rfl (.tmp 73) (.tmp 76) 55 55 rfl _ _ Tw Tw (T _ _ _) ?_)
 go_wp2_with (with_reducible refine mU _ rfl (.tmp 80) (.tmp 81) 55 55 rfl _ _ rfl rfl (ah _ _) ?_)
 go_ret
 exact⟨rfl,Z,Hz⟩
def zN B n F v us x(w:aa)(D:w.ownsRow B 26 1 v n us)(a2:x.oneCell'=true)(H:bA w F #[x] 26)(a1:n<=1048576)(O:B<=(w:Nat)):az 261 #[v,n,.slice (bH F) 1 1] w fun e w'=>∃g ε,e=.returned (.slice (bH g) (n+1) ε)/\w'.ownsRow B 26 1 (.slice (bH g) (n+1) ε) (n+1) (cT us n x)/\w.grownBy w' v.ownBlock/\(v.ownBlock=some g∨(w:Nat)<=g):=by
 have⟨an,Y,ad,ah,am⟩:=dp kX;have G:us.length=n:=by simpa using D.1
 have Z:cT us n x=us++[x]:=by simp[cT,<-G]
 have HI:=zH Z;clear Z;have ab:Hd (∀j u,([x]:cL)[j]?=some u->w.cell? ((⟨F,0,none⟩:dM).add j)=some u):=fun j u h=>by
  match j,h with
  |0,h=>simp at h;subst h;rw[dF,bB H];rfl
  |j+1,h=>simp at h
 have J:Hd (∀u∈([x]:cL),u.oneCell'=true):=fun u ac=>by simp at ac;subst ac;exact a2
 have I:=zH D;rcases D.2 with⟨rfl,rfl⟩|⟨g,ε,a4,rfl,_,_,a5,av,_⟩
 .clear D G H;go_enter func261,ntmps261
  go_wp2_with (at_builtin;refine Dj _ rfl (.tmp 23) (.tmp 24) 55 rfl B 26 an (.slice none 0 0) 1 24 iA Y ad ah am rfl Qw _ 0 us rfl I.o ⟨F,0,none⟩ 1 1 [x] rfl rfl ab.o J.o Qw Qw Qw O w.heap.size rfl ?_;intro g ε a3 FT Io Ix a0)
  exact XF
 .unfold maxLen at av;have T:(n+1)<=maxLen:=SL;have U:(n+1)*24<=140737488355328:=Qu;have⟨ao,ap⟩:=bJ T U;clear D G H T U a1;go_enter func261,ntmps261
  go_wp2_with (at_builtin;refine Dj _ rfl (.tmp 23) (.tmp 24) 55 rfl B 26 an (.slice none 0 0) 1 24 iA Y ad ah am rfl Qw _ n us rfl I.o ⟨F,0,none⟩ 1 1 [x] rfl rfl ab.o J.o Qw ao.o ap.o O w rfl ?_;intro g ε a3 FT Io Ix a0)
  all_goals (go_ret;exact⟨g,ε,rfl,by rw[HI.o];exact FT,Io,Ix.E id fun e=>Qu⟩)
def yz B g n ε I(i:Int)us x(w:aa)(h:w.ownsRow B 26 1 (.slice (bH g) n ε) n us)(T:∀u∈us,u.oneCell'=true)(Ja:x.oneCell'=true)(hv:bA w I #[x] 26)(hi:0<=i)(a4:i<n)(a8:ε<n+1)(bi:n<=1048576)(av:B<=(w:Nat)):az 261 #[.slice (bH g) n ε,i,.slice (bH I) 1 1] w fun e w'=>∃G,e=.returned (.slice (bH w) (n+1) G)/\w'.ownsRow B 26 1 (.slice (bH w) (n+1) G) (n+1) (cT us i.toNat x)/\w.grownBy w' none:=by
 obtain⟨k,rfl⟩:=iz hi;have⟨ao,Hw,an,G4,FU⟩:=dp kX;have ah:(prog.info? 26).map (·.size)=some 1:=So;obtain⟨I_,a7⟩:=h;rcases a7 with⟨bc,_⟩|⟨be,bd,F9,ba,bg,J,bn,a1,ab,G9⟩
 .cases bc
 cases ba
 simp only[fk]at I_ ab G9;unfold maxLen at a1;have a6:k<n:=Qu;obtain rfl:n=ε:=Qu;have a3:g < (w:Nat):=(bk.1 J).1;have bb:I < (w:Nat):=(bk.1 hv).1;refine Ou fun Gk=>?_
 have ad:(Builtin.firstCells ao.size k (.slice (bH g) k n)).run prog w.drew=.ok (us.take k).toArray w.drew:=by rw[G4];exact zci w.drew 1 k ⟨g,0,none⟩ k n (us.take k) QW (fun j v hj=>by have a5:=(bG.1 hj).1;simp at a5;rw[dF,bB (show bA w.drew g F9 26 from J),jU,Gk _ Qu,<-hj,iM,ak Qu])
 have⟨G,hG⟩:=aR (grownCap w (n+1) n 26);have a0:n+1<=G:=by rw[hG];exact grownCap_ge w _ _ _
 have bh:G<=9223372036854775807:=by have:=grownCap_le_maxLen w (n+1) n 26 SL;rw[<-hG]at this;unfold maxLen at this;omega
 obtain⟨F,NF⟩:∃F:gg,F=(us.take k).toArray++Builtin.zeroCells (Value.cells (.slice none 0 0)) (n+1-k)++Builtin.zeroCells (Value.cells (.slice none 0 0)) (G-(n+1)):=⟨_,rfl⟩;have NS:F.size=G:=Vu;have U:F.toList.take k=us.take k:=XB;have⟨D,I7⟩:=aR (w.drew.alloc (.cells F 26));have a9:∀ty,(Builtin.append_ #[55,3] ty #[.slice (bH g) k n,.int .i64 ((n:Int)+1-(k:Int))]).run prog w=.ok (.slice (bH w) (n+1) G) D:=fun ty=>by have h:=zcj (P:=prog) w 55 3 ty 26 ao _ .i64 .i64 iA fL Hw an (some ⟨g,0,none⟩) k n (us.take k) ad (n+1-k) Qu Qu Qu Qu RF VU;exact YO
 have FR:bA D w F 26:=by rw[I7];exact aH _ _ rfl
 have NC:∀q,q < (w:Nat)->D.heap[q]?=w.heap[q]?:=fun q hq=>by rw[I7];exact bO w.drew _ hq
 have Ic:w.grownBy D none:=Vv;have am:bA D I #[x] 26:=(NC I bb).t hv;have Z:∀ty H,(Builtin.copy_ #[55,55] ty #[.slice (some ⟨w,k,none⟩) (n+1-k) H,.slice (bH I) 1 1]).run prog D=.ok (goInt [x]) (D.setCells w k [x]):=fun ty H=>
  sh D _ _ ty 26 w k (n+1-k) H ⟨I,0,none⟩ 1 1 [x] iA ah UQ
   (fun j v hj=>by
    match j,hj with
    |0,hj=>simp at hj;subst hj;rw[dF,bB am];rfl
    |j+1,hj=>simp at hj)
   (fun j hj=>U_) (fun j hj=>aK FR _) (fun v hv=>T3)
 have⟨W2,Y⟩:=aR (D.setCells w k [x]);have⟨c1,c2⟩:=dY w 26 [x] k D _ FR QW;rw[<-Y]at c1 c2 Z;have⟨ds,H4⟩:=aR (us.drop k);have Jb:ds.length=n-k:=SS;have Ig:(splice F.toList k [x]).length=G:=U2;have ac:bA W2 g F9 26:=(c2.block g (by have:=Ic.size;omega) QW).t ((NC g a3).t J);have NM:W2.drew.heap[w.heap.size]?=_:=c1;have NX:W2.drew.heap[g]?=_:=ac;have a2:∀ty H O,(Builtin.copy_ #[55,55] ty #[.slice (some ⟨w,k+1,none⟩) (n-k) H,.slice (some ⟨g,k,none⟩) (n-k) O]).run prog W2.drew=.ok (goInt ds) (W2.drew.setCells w (k+1) ds):=fun ty H O=>
  sh W2.drew _ _ ty 26 w (k+1) (n-k) H ⟨g,k,none⟩ (n-k) O ds iA ah UU
   (fun j v hj=>VN)
   (fun j hj=>VE) (fun j hj=>aK NM _) (fun v hv=>T v (mx Sn))
 have⟨d1,d2⟩:=dY w 26 ds (k+1) W2.drew _ NM T_;have ap:=zH (show(W2.drew.setCells w (k+1) ds).ownsRow B 26 1 (.slice (bH w) (n+1) G) (n+1) (cT us k x) by
  refine⟨SN,au ⟨w,G,_,rfl,av,d1,a0,SL,?_,?_⟩⟩
  .exact Xh
  .simp only[fk];exact zaz F.toList us ds n k x I_ QW a6 H4 U)
 refine PK fun Hz NR Jc Gq NT Hv NY NJ NU Hj=>?_;clear T hv hi a4 an J I_ G9 a8 ab Gk ad hG NF NS U I7 FR NC Ic am Y c1 c2 H4 Jb Ig ac NM NX d1 d2
 go_enter func261,ntmps261
 go_wp2_with (first
  |(at_builtin;refine Lib.wpList_append_run _ rfl (.tmp 34) (.tmp 39) _ _ rfl _ _ rfl rfl _ _ (a9 _) ?_)
  |(with_reducible refine mU _ rfl (.tmp 43) (.tmp 44) 55 55 rfl _ _ rfl rfl (Z _ _) ?_))
 go_region_law (refine pI rfl (.tmp 50) (.tmp 53) 55 55 rfl _ _ Tw Tw (a2 _ _ _) ?_)
 go_wp2;go_ret
 exact⟨G,rfl,ap,Hz⟩
def vM B n h(i:Int)v us x(w:aa)(D:w.ownsRow B 26 1 v n us)(J:∀u∈us,u.oneCell'=true)(I:x.oneCell'=true)(H:bA w h #[x] 26)(Y:v.ownBlock≠some h)(hi:0<=i)(ab:i<=n)(F:n<=1048576)(O:B<=(w:Nat)):az 261 #[v,i,.slice (bH h) 1 1] w fun e w'=>∃g ε,e=.returned (.slice (bH g) (n+1) ε)/\w'.ownsRow B 26 1 (.slice (bH g) (n+1) ε) (n+1) (cT us i.toNat x)/\w.grownBy w' v.ownBlock/\(v.ownBlock=some g∨(w:Nat)<=g):=by
 by_cases U:i=n
 .subst U;rw[Da];exact zN B n h v us x w D I H F O
 .have T:i<n:=Qu;obtain⟨g,ε,rfl,_,_⟩:=D.form Qu;by_cases Z:n+1<=ε
  .refine(xB B g n ε h i us x w D J I H (by intro e;subst e;exact Y rfl) hi T Z F).x ?_;exact WB
  .refine(yz B g n ε h i us x w D J I H hi T Qu F O).x ?_;exact YF
section
variable{p:Int}
def Ø{a}(H:a<0)(G:0<p):-p<a.tmod p/\a.tmod p<=0/\(a.tmod p<0->a%p=a.tmod p+p)/\(a.tmod p=0->a%p=0):=by
 have e:a.tmod p=-((-a)%p):=by have:=Int.neg_tmod (-a) p;rw[Int.neg_neg]at this;rw[this,Int.tmod_eq_emod_of_nonneg Qu]
 have I:=gV (-a) (Qu:p≠0);have J:=gW (-a) G;refine⟨Qu,Qu,fun O=>?_,fun D=>?_⟩
 .have F:a%p=(a.tmod p+p)%p:=by
   have:=Int.tmod_add_mul_tdiv a p;have h:a=a.tmod p+p*a.tdiv p:=this.q;conv=>lhs;rw[h]
   simp
  rw[F,nq Qu Qu]
 .have h:a=a.tmod p+p*a.tdiv p:=(Int.tmod_add_mul_tdiv a p).q;rw[h,D];simp
def CL p a w(ac:1<=p)(ad:p<=1000)(Y:-9000000000000000000<=a)(Z:a<=9000000000000000000):az 127 (bC p a) w fun e w'=>e=.returned (zI (a%p))/\w=w':=by
 by_cases T:0<=a
 .have U:=gV a (Qu:p≠0);go_enter func127,ntmps127
  exact We
 .have⟨J,O,D,F⟩:=Ø (Qu:a<0) (Qu:0<p);have⟨m,h⟩:=aR (a.tmod p);rw[<-h]at J O D F;have⟨G,H⟩:=bJ D F;clear D F;have ab:a.tmod p=m:=h.q;clear h;by_cases I:m<0
  .go_enter func127,ntmps127
   go_wp2;go_ret
   exact⟨by rw[G.o I];rfl,rfl⟩
  .obtain rfl:m=0:=Qu;go_enter func127,ntmps127
   go_wp2;go_ret
   exact⟨by rw[show a%p=0 from by simpa using H.o];rfl,rfl⟩
def zlJ{b y}(D:-1000000<=b)(F:b<=1000000)(h:0<=y)(I:y<=1000):-1000000000<=b*y/\b*y<=1000000000:=by have G:=zb_ D h;have H:=zb_ F h;omega
def zjj(D:ag W w')(h:bA W b cs t)j:w'.cell? ⟨b,j,none⟩=cs.toList[j]?:=bB ((D.block b (bk.1 h).1).t h) j
def zlK(D:ag W w')(h:bA W b cs t)j:w'.frozen? ⟨b,j,none⟩=false:=aK ((D.block b (bk.1 h).1).t h) j
def dg(D:ag W w')(h:bA W b cs t):bA w' b cs t:=(D.block b (bk.1 h).1).t h
def cD(w:aa)h D F:(((w.alloc h).alloc D).alloc F).heap[w.heap.size]?=some h/\(((w.alloc h).alloc D).alloc F).heap[(w:Nat)+1]?=some D/\(((w.alloc h).alloc D).alloc F).heap[(w:Nat)+1+1]?=some F:=⟨(bO _ _ Rs).t ((bO _ _ Qt).t (aH _ _ rfl)),(bO _ _ Qt).t (aH _ _ Qt),aH _ _ Qt⟩
def ζ(w:aa)h D F:Below w w (((w.alloc h).alloc D).alloc F):=((al _ _).alloc Qt _ |>.alloc Qt _).alloc Rs _
def cE{a p}(h:p.block≠a.block):(w.setCell a u).cell? p=w.cell? p:=l6 (w:=w) (a_ _ _ _ _ h)
def lQ{a p}(h:p.block≠a.block):(w.setCell a u).drew.cell? p=w.cell? p:=cE h
def fu{a p}(h:p.block≠a.block):(w.drew.setCell a u).cell? p=w.cell? p:=cE h
def l_(p b:Int)(xs ys:aL)(k:Nat):List Int:=(List.zipWith (fun x y=>(x+b*y)%p) xs ys).take k++xs.drop k
def dw(p b:Int)(xs ys:aL):List Int:=List.zipWith (fun x y=>(x+b*y)%p) xs ys
def tG p b xs ys:l_ p b xs ys 0=xs:=by simp[l_]
def wB p b(xs ys:aL)(h:xs.length=ys)k(D:ys.length<=k):l_ p b xs ys k=dw p b xs ys:=by unfold l_ dw;rw[cZ QW,jR Qu,lZ]
def wC p b(xs ys:aL)k(D:k<ys.length)(h:xs.length=ys):(l_ p b xs ys k)[k]?=xs[k]?:=by unfold l_;exact Wp
def wD p b xs ys k x y(hx:xs[k]?=some x)(h:ys[k]?=some y):(l_ p b xs ys k).set k ((x+b*y)%p)=l_ p b xs ys (k+1):=by
 have h1:=(bG.1 hx).1;have H:=(bG.1 h).1;have G:(List.zipWith (fun x y=>(x+b*y)%p) xs ys)[k]?=some ((x+b*y)%p):=by rw[zcg,hx,h]
 unfold l_;rw[om _ _ QW,du,G];have D:xs.drop k=x::xs.drop (k+1):=Wo;have F:k-((List.zipWith (fun x y=>(x+b*y)%p) xs ys).take k).length=0:=QW;rw[D,F,rO];simp
def zhz p b(xs ys:aL)k(h:xs.length=ys)(D:k<=xs.length):(l_ p b xs ys k).length=xs:=by unfold l_;simp;omega
def pL(p b:Int)B g ε ap I(xs ys:aL)w(a3:1<=p)(a4:p<=1000)(av:-1000000<=b)(a0:b<=1000000)(U:w.ownsRow B 3 1 (.slice (bH g) xs ε) xs (xs.map (Value.int .i64)))(Y:aO w I ys)(Z:∀b o,I=some ⟨b,o,none⟩->b≠g)(ac:xs.length=ys)(a2:xs.length<=1048576)(h:∀x∈xs,0<=x/\x<=1000)(D:∀y∈ys,0<=y/\y<=1000):az 176 #[p,.slice (bH g) xs ε,b,.slice I ys ap] w fun e w'=>e=.returned (.tuple #[])/\w'.ownsRow B 3 1 (.slice (bH g) xs ε) xs ((dw p b xs ys).map (Value.int .i64))/\w.grownBy w' (some g):=by
 have⟨ah,J,an,ao⟩:=gG U ac h D;have bb:ys.length<9223372036854775807:=Qu;clear U ac h D a2;go_enter func176,ntmps176
 go_wp2;go_loopw [12] (fun i wr=>∃k:Nat,k<=ys.length/\i=.int .i64 k/\wr.ownsRow B 3 1 (.slice (bH g) xs ε) xs ((l_ p b xs ys k).map (Value.int .i64))/\w.grownBy wr (some g))
  (fun i _=>ys.length-(intOf i).toNat)
 case atStart=>exact⟨0,aW _,rfl,by rw[tG];exact ah,⟨rfl,rfl,rfl,ae _,fun _ _ _=>rfl⟩⟩
 case round=>
  obtain⟨k,ba,rfl,F,G⟩:=hrel;by_cases O:k<ys.length
  .have a1:k<xs.length:=by have:=J.o;omega
   have⟨x,h⟩:=aq a1;have⟨y,D⟩:=aq O;obtain⟨T,o,rfl,ab⟩:=Y.θ O;have a8:af wr T (o+k) (zI y):=G.cell (ab _ _ D) (by have:=Z T o rfl;simpa using this);have a7:af wr g k (zI x):=by rw[F.C k Qu,bI,wC _ _ _ _ _ O J.o,h];rfl
   have a9:=F.g k;obtain⟨be,bg⟩:=an x (aU h);obtain⟨a5,a6⟩:=ao y (aU D);have⟨bc,bd⟩:=zlJ av a0 a5 a6;have H:=F.j k (zI ((x+b*y)%p));rw[<-eW,wD _ _ _ _ _ _ _ h D]at H;have⟨am,ad⟩:=bJ H.1 (cx G H.2);clear H h D ab F G Y Z;go_wp2_with (go_at_call 127;refine(CL _ _ _ a3 a4 Qu Qu).x ?_;rintro e w' ⟨rfl,rfl⟩)
   go_roundw
   case rel=>exact⟨k+1,Qu,Qx,am,ad⟩
   case measure=>simp[intOf];omega
  .go_wp2;go_end0
   rw[wB _ _ _ _ J.o _ Qu]at F;exact⟨rfl,F,G⟩
end
section
variable{J:Nat}
def zk7{D:Region.Mode}{S:j4}{F:h_}{h:pv}(hi:ops.toList[i]?=some F)(U:Region.noSelect ops=true)(O:Region.free D ops h i=true)(T:(Region.ready D ops h).contains i=true)(Y:YieldsIf P ops S F v a)(I:S w)(G:wpAnyH P D ops (fun e a w=>Q e a w) S J (h.setIfInBounds i true) (a.put F.dst v) w)(H:∀c a w,Q (.panic c) (a.put F.dst v) w->Q (.panic c) a w:=by exact fun _ _ _ G=>G):wpAnyH P D ops Q S (J+1) h a w:=wpAnyH_take (by rw[<-sf];exact hi) U O T H Y I G
def ef{D:Region.Mode}{S:j4}(i:Nat){F:h_}{h:pv}(hi:ops.toList[i]?=some F)(Y:YieldsIf P ops S F v a)(G:wpAnyH P D ops (fun e a w=>Q e a w) S J (h.setIfInBounds i true) (a.put F.dst v) w)(U:Region.noSelect ops=true:=by kernel_rfl)(O:Region.free D ops h i=true:=by kernel_rfl)(T:(Region.ready D ops h).contains i=true:=by kernel_rfl)(I:S w:=by assumption)(H:∀c a w,Q (.panic c) (a.put F.dst v) w->Q (.panic c) a w:=by exact fun _ _ _ G=>G):wpAnyH P D ops Q S (J+1) h a w:=zk7 hi U O T Y I G H
def eZ{G:Region.Mode}{S:j4}(i:Nat){D:h_}{F:pv}{H:Act}(h:wpAnyH P G ops (fun e a w=>Q e a w) S J (F.setIfInBounds i true) H w)(hi:ops.toList[i]?=some D:=by rfl)(Y:Region.wanted D (yielded ops a.tmps)=true:=by rfl)(ac:∀w,S w->(execOp a.eval D).run P w=.ok (.value v) w:=by intro w h;(try dsimp only at h);go_simp;(try with_reducible rfl))(ab:Region.noSelect ops=true:=by kernel_rfl)(U:Region.free G ops F i=true:=by kernel_rfl)(Z:(Region.ready G ops F).contains i=true:=by kernel_rfl)(O:S w:=by assumption)(I:∀c a w,Q (.panic c) (a.put D.dst v) w->Q (.panic c) a w:=by exact fun _ _ _ h=>h)(T:a.put D.dst v=H:=by simp only[Act.put,zA];rfl):wpAnyH P G ops Q S (J+1) F a w:=by subst T;exact zk7 hi ab U Z (ay ⟨Y,ac⟩) O h I
def pF{F}{S}{D}{rs}(ho:ops.toList[i]?=some o)(G:∀h:pt,Shut (∀a w,S w->(S w->wpAnyH P F ops Q S J (D.setIfInBounds i true) a w)->h a w)->if Region.wanted o (yielded ops a.tmps)=true then Oper.wp P o a w h Q else h (a.put o.dst undef) w)(H:AllReadyH P F ops Q S J D a w rs):AllReadyH P F ops Q S J D a w (i::rs):=AllReadyH.cons Sk G H
end
def sw(i j k:Nat):Nat:=if k=j then i else if k=i then j else k
def zlE{l}(h:sw i j k=sw i j l):k=l:=by unfold sw at h;split at h<;>split at h<;>(try split at h)<;>(try split at h)<;>omega
def Ej{G:Type}{l:List G}{x y}(hi:l[i]?=some x)(F:l[j]?=some y)k:((l.set i y).set j x)[k]?=l[sw i j k]?:=by
 have hi':=(bG.1 hi).1;have H:=(bG.1 F).1;unfold sw;by_cases h:k=j
 .subst h;rw[ak rfl,gl (by simpa using H),hi]
 .rw[aj h,gI (k_ h)];by_cases D:k=i
  .subst D;rw[ak rfl,gl hi',F]
  .rw[aj D,gI (k_ D)]
def bL.x{w}{B B'}{v}{rows}{us}(h:bL w B v rows us)(H:B'<=B):bL w B' v rows us:=⟨⟨h.η.1,h.η.2.E id fun⟨g,ε,G,D,O,F⟩=>⟨g,ε,G,D,Qu,F⟩⟩,fun k u r J I=>(h.ν k u r J I).x H,h.apart⟩
def bL.J{g ε}{F}{Z ab}(ah:n=rows.length)(D:bL w B (.slice (bH g) n ε) rows us)(hi:us[i]?=some T)(J:us[j]?=some F)(am:rows[i]?=some Z)(an:rows[j]?=some ab):bL ((w.setCell ⟨g,i,none⟩ F).setCell ⟨g,j,none⟩ T) B (.slice (bH g) n ε) ((rows.set i ab).set j Z) ((us.set i F).set j T):=by
 subst ah;have G:=D.η.j i F;have H:=G.1.j j T;refine⟨by simpa using H.1,fun k u r h U=>?_,fun k l u ao b h Y ac ad=>?_⟩
 .rw[Ej hi J]at h;rw[Ej am an]at U;have O:=D.ν _ u r h U;have I:=fq D.η O;exact aE.kept (aE.kept O G.2 I) H.2 I
 .rw[Ej hi J]at h Y;exact zlE (D.apart _ _ u ao b h Y ac ad)
section
variable{J:Nat}
def gF(F:w.ownsRow B 26 1 v n us)(D:aE w B' u xs):v.ownBlock=none∨v.ownBlock≠u.ownBlock:=by
 rcases fq F D with h|h
 .rw[h];cases v.ownBlock<;>simp
 .exact au (k_ h)
def bL.mod(D:bL w B v rows us)(J:us[k]?=some u)(ab:w.grownBy w' u.ownBlock)(ah:aE w' B T r')(ac:∀b,T.ownBlock=some b->u.ownBlock=some b∨(w:Nat)<=b):w'.ownsRow B 26 1 v rows.length us/\(∀(j:Nat) (x:aG) (r:aL),(us.set k T)[j]?=some x->(rows.set k r')[j]?=some r->aE w' B x r)/\(∀(i j:Nat) (x y:aG) (b:Nat),(us.set k T)[i]?=some x->(us.set k T)[j]?=some y->x.ownBlock=some b->y.ownBlock=some b->i=j):=by
 obtain⟨an,am,ad⟩:=D.nT J;have O:=(bG.1 J).1;have Α:∀(i:Nat) (x:aG) (b:Nat),i≠k->us[i]?=some x->x.ownBlock=some b->T.ownBlock=some b->False:=fun i x b hi h F I=>by
  obtain⟨ao,_,Y⟩:=D.nT h;rcases ac b I with Z|Z
  .exact hi (D.apart i k x u b h J F Z)
  .have:=(Y.lt b F).2;omega
 refine⟨jA D.η ab (gF D.η ad),fun j x r h U=>?_,fun i j x y b h H F I=>?_⟩
 .by_cases G:k=j
  .subst G;rw[gl O]at h;rw[gl (by rw[<-D.ι];exact O)]at U;cases h;cases U;exact ah
  .rw[gI G]at h U;have Y:=D.ν j x r h U;refine Y.kept ab ?_;rcases F:x.ownBlock with _|b
   .exact ay rfl
   .refine au fun e=>G (D.apart k j u x b J h e.q F)
 .by_cases hi:k=i<;>by_cases G:k=j
  .omega
  .subst hi;rw[gl O]at h;rw[gI G]at H;cases h
   exact(Α j y b (k_ G) H I F).elim
  .subst G;rw[gl O]at H;rw[gI hi]at h;cases H
   exact(Α i x b (k_ hi) h F I).elim
  .rw[gI hi]at h;rw[gI G]at H;exact D.apart i j x y b h H F I
def qH{F:Type}{l:List F}{x}(h:l[k]?=some x):l.set k x=l:=by
 apply gk;intro j;by_cases D:k=j
 .subst D;rw[gl (bG.1 h).1,h]
 .rw[gI D]
def bL.K(H:bL w B v rows us)(F:us[k]?=some u)(J:w.grownBy w' u.ownBlock)(O:aE w' B u r'):bL w' B v (rows.set k r') us:=by
 obtain⟨G,h,D⟩:=H.mod F J O fun b I=>ay I
 rw[qH F]at h D;exact⟨by simpa using G,h,D⟩
def bL.put{g ε}(Z:n=rows.length)(J:bL w B (.slice (bH g) n ε) rows us)(Y:us[k]?=some u)(U:w.grownBy w' u.ownBlock)(ab:aE w' B T r')(O:∀b,T.ownBlock=some b->u.ownBlock=some b∨(w:Nat)<=b):bL (w'.setCell ⟨g,k,none⟩ T) B (.slice (bH g) n ε) (rows.set k r') (us.set k T):=by subst Z;obtain⟨h,D,I⟩:=J.mod Y U ab O;have G:=h.j k T;exact⟨by simpa using G.1,fun j x r H F=>(D j x r H F).kept G.2 (fq h (D j x r H F)),I⟩
def wN{h:Type}(l:List h)k j:(l.eraseIdx k)[j]?=l[if j<k then j else j+1]?:=by rw[List.getElem?_eraseIdx];split<;>rfl
def bL.γ{g ε}(D:bL w B (.slice (bH g) n ε) rows us)(U:k<rows.length)(H:w'.ownsRow B 26 1 (.slice (bH g) (rows.length-1) J) (rows.length-1) (us.eraseIdx k))(T:w.grownBy w' (some g)):bL w' B (.slice (bH g) (rows.length-1) J) (rows.eraseIdx k) (us.eraseIdx k):=by
 refine⟨by rw[Ay U];exact H,fun j x r h F=>?_,fun i j x y b h G I O=>?_⟩
 .rw[wN]at h F;exact(D.ν _ x r h F).kept T (fq D.η (D.ν _ x r h F))
 .rw[wN]at h G;have:=D.apart _ _ x y b h G I O;split at this<;>split at this<;>omega
def kQ{h:Type}(l:List h)k x(D:k<=l.length):(l.take k++x::l.drop k).length=l+1:=Rs
def BF{G:Type}(l:List G)k j x(D:k<=l.length):(l.take k++x::l.drop k)[j]?=if j<k then l[j]? else if j=k then some x else l[j-1]?:=by
 by_cases h:j<k
 .rw[ak h,dU Rs,List.getElem?_take_of_lt h]
 .rw[aj h,fi Rs];by_cases F:j=k
  .subst F;rw[ak rfl];simp[iw D]
  .rw[aj F];obtain⟨m,rfl⟩:∃m,j=k+1+m:=⟨j-(k+1),Qu⟩;have H:k+1+m-(l.take k).length=m+1:=by simp[iw D];omega
   have I:k+1+m-1=k+m:=Qu;rw[H,I,dm,fQ]
def bL.insert{H}{r}(h:bL H B v rows us)(hb:ag H w)(J:aE w H u r)(U:B<=(H:Nat))(hk:k<=rows.length)(Y:w'.ownsRow B 26 1 T (rows.length+1) (cT us k u))(Io:w.grownBy w' v.ownBlock):bL w' B T (rows.take k++r::rows.drop k) (cT us k u):=by
 have hW:=h.ext hb;have O:k<=us.length:=Sq;have Î:∀(i:Nat) (x:aG) (b:Nat),us[i]?=some x->x.ownBlock=some b->u.ownBlock=some b->False:=fun i x b hx hb hb'=>by obtain⟨rx,_,Z⟩:=h.nT hx;have:=(Z.lt b hb).2;have:=(J.lt b hb').1;omega
 refine⟨by rw[kQ _ _ _ hk];exact Y,fun j x rx hx hr=>?_,fun i j x y b hx hy hb hb'=>?_⟩
 .rw[cT,BF _ _ _ _ O]at hx;rw[BF _ _ _ _ hk]at hr;by_cases F:j<k
  .rw[ak F]at hx hr;exact Xj
  .rw[aj F]at hx hr;by_cases G:j=k
   .rw[ak G]at hx hr;cases hx;cases hr
    exact(J.kept Io (fq hW.η J)).x U
   .rw[aj G]at hx hr;exact Xj
 .rw[cT,BF _ _ _ _ O]at hx hy;by_cases F:i<k<;>by_cases G:j<k
  .rw[ak F]at hx;rw[ak G]at hy;exact h.apart _ _ x y b hx hy hb hb'
  .rw[ak F]at hx;rw[aj G]at hy;by_cases D:j=k
   .rw[ak D]at hy;cases hy;exact(Î i x b hx hb hb').elim
   .rw[aj D]at hy;exact Wl
  .rw[aj F]at hx;rw[ak G]at hy;by_cases D:i=k
   .rw[ak D]at hx;cases hx;exact(Î j y b hy hb' hb).elim
   .rw[aj D]at hx;exact Wl
  .rw[aj F]at hx;rw[aj G]at hy;by_cases D:i=k<;>by_cases I:j=k
   .omega
   .rw[ak D]at hx;rw[aj I]at hy;cases hx;exact(Î _ y b hy hb' hb).elim
   .rw[aj D]at hx;rw[ak I]at hy;cases hy;exact(Î _ x b hx hb hb').elim
   .rw[aj D]at hx;rw[aj I]at hy;exact Wl
def mh{ε}(h:bL w B (.slice A n ε) rows us)(G:0<rows.length):∃g,A=some ⟨g,0,none⟩/\B<=g/\g < (w:Nat):=by obtain⟨g,H,e,D,F⟩:=h.η.form G;simp only[ep]at e;exact⟨g,e.1,D,F⟩
def mr{ε}(h:aE w B (.slice A n ε) xs)(G:0<xs.length):∃g,A=some ⟨g,0,none⟩/\B<=g/\g < (w:Nat):=by have⟨g,H,e,D,F⟩:=pW h G;simp only[ep]at e;exact⟨g,e.1,D,F⟩
end
end Go.Proofs.YtpieilkmmiopfaaGreatDoor
