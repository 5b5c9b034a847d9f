/- Parts of the walks and laws (OwnS, ToS, Scan1). Conditions: as stated with each. -/
import Derived.Test.YtpieilkmmiopfaaGreatDoorPk8
namespace Go.Proofs.YtpieilkmmiopfaaGreatDoor
open Go.RowKit Tryz
set_option linter.all false
set_option maxHeartbeats 2000000
set_option maxRecDepth 100000
variable{B B' H k n s:Nat}{R u:ax}{Rk:du}{S S':List Tm}{l:bO}{us:bU}{w:aa}
theorem DG:(prog.info? 97).map (fun i=>(i.zero,i.size,i.bytes))=some (some (.agg yU),5,56):=RP
theorem jj{w:aa}{B n':Nat}{v:ax}{D:du}{xs N:bU}(J:Rk≠D)(F:w.ownsRow B Rk s v n xs)(G:w.ownsRow B' D H R n' N):v.ownBlock=none∨v.ownBlock≠R.ownBlock:=by
 rcases F.2 with⟨rfl,_⟩|⟨g,cap,T,rfl,_,I,_⟩
 .exact au rfl
 .right;rcases G.2 with⟨rfl,_⟩|⟨V,O,U,rfl,_,h,_⟩
  .simp[Value.ownBlock]
  .intro e;simp only[Value.ownBlock,dZ]at e;subst e;rw[I]at h;simp at h;exact J h.2
def eZ(x:ft)(u:ax):List Value:=[.int .i64 x.k,.int .i64 x.a,.int .i64 x.b,.int .i64 x.c,u]
def gW:List ft->List Value->List Value
 |x::xs,u::us=>eZ x u++gW xs us
 |_,_=>[]
theorem xN:∀{xs:List ft} {us:bU},us.length=xs.length->(gW xs us).length=xs.length*5
 |[],us,_=>by simp[gW]
 |x::xs,[],h=>RM
 |x::xs,u::us,h=>by have:=xN (xs:=xs) (us:=us) R9;simp[gW,eZ,this];omega
theorem nq{j:Nat}(F:j<5):∀{xs:List ft} {us:bU} {k:Nat} {x:ft} {u:ax},xs[k]?=some x->us[k]?=some u->(gW xs us)[k*5+j]?=(eZ x u)[j]?
 |[],us,k,x,u,h,_=>RM
 |x::xs,[],k,_,_,_,h=>RM
 |x::xs,u::us,0,y,t,h,D=>by simp at h D;subst h D;rw[gW,df (by simp[eZ];omega)];simp
 |x::xs,u::us,k+1,y,t,h,D=>by simp only[cP]at h D;have:=nq F h D;rw[gW,ef (by simp[eZ];omega)];rw[<-this];congr 1;simp[eZ];omega
theorem Bb:∀{xs:List ft} {us:bU} (x:ft) (u:ax),us.length=xs.length->gW (xs++[x]) (us++[u])=gW xs us++eZ x u
 |[],us,x,u,h=>WQ
 |x::xs,[],_,_,h=>RM
 |x::xs,u::us,y,t,h=>by have:=Bb (xs:=xs) (us:=us) y t R9;simp[gW,this]
theorem pC:∀{xs:List ft} {us:bU} {k:Nat} (x:ft) (u:ax),us.length=xs.length->k<xs.length->(((((gW xs us).set (k*5) (.int .i64 x.k)).set (k*5+1) (.int .i64 x.a)).set (k*5+2) (.int .i64 x.b)).set (k*5+3) (.int .i64 x.c)).set (k*5+4) u=gW (xs.set k x) (us.set k u)
 |[],us,k,x,u,_,hk=>by simp at hk
 |x::xs,[],_,_,_,h,_=>RM
 |y::xs,t::us,0,x,u,h,hk=>by simp[gW,eZ]
 |y::xs,t::us,k+1,x,u,h,hk=>by
  have:=pC (xs:=xs) (us:=us) (k:=k) x u R9 Sh;simp only[gW,eZ,sy,qs,sH];rw[<-this];have e:∀j,(k+1)*5+j=(k*5+j)+5:=fun j=>Rr
  have D:(k+1)*5=k*5+5:=Rr;simp only[e,D,sH]
structure cE(w:aa)(B:Nat)(v:ax)(xs:List ft)(us:bU):Prop where
 len:us.length=xs.length
 outer:w.ownsRow B 97 5 v xs.length (gW xs us)
 each:∀(k:Nat) (u:ax) (x:ft),us[k]?=some u->xs[k]?=some x->aD w B u x.row
 apart:∀(i j:Nat) (u u':ax) (b:Nat),us[i]?=some u->us[j]?=some u'->u.ownBlock=some b->u'.ownBlock=some b->i=j
def cK(w:aa)(B:Nat)(v:ax)(xs:List ft):Prop:=∃us,cE w B v xs us
section
variable{w w':aa}{B:Nat}{v:ax}{xs:List ft}{us:bU}
theorem cE.get(h:cE w B v xs us){x:ft}(hx:xs[k]?=some x):∃u,us[k]?=some u/\aD w B u x.row:=Yh
theorem cE.kC(h:cE w B v xs us)(D:us[k]?=some u):∃x,xs[k]?=some x/\aD w B u x.row:=by
 have:k<xs.length:=by rw[<-h.len];exact(bG.1 D).1
 obtain⟨x,F⟩:=aB this;exact⟨x,F,h.each k u x D F⟩
theorem cK.view(h:cK w B v xs):∃A cap,v=.slice A xs.length cap/\fL w A xs/\xs.length<=cap/\cap<=maxLen:=by
 obtain⟨us,h⟩:=h;have J:=fun g=>lL h.outer (g:=g)
 rcases h.outer.2 with⟨rfl,hn⟩|⟨g,cap,U,rfl,V,Y,hn,N,Z⟩
 .exact WO
 .refine⟨_,cap,rfl,an ⟨g,0,rfl,fun k x H=>?_⟩,hn,N⟩;obtain⟨u,R,O⟩:=h.get H;obtain⟨F,G,rfl,hi,_⟩:=O.view;have D:∀(j:Nat) (y:ax),j<5->(eZ x (.slice F x.row.length G))[j]?=some y->ae w g (0+k*5+j) y:=fun j y I T=>by have:=J g rfl (k*5+j) y (by rw[nq I H R];exact T);rwa[dj,<-oO]at this
  exact⟨F,G,⟨D 0 _ Rs rfl,D 1 _ Rs rfl,D 2 _ Rs rfl,D 3 _ Rs rfl,D 4 _ Rs rfl⟩,hi⟩
theorem cE.ext(D:cE w B v xs us)(h:ag w w'):cE w' B v xs us:=⟨D.len,ik D.outer (row:=none) ⟨h.os,h.tape,h.output,h.size,fun k F _=>h.block k F⟩ Uj,fun k u r H G=>(D.each k u r H G).ext h,D.apart⟩
theorem cK.ext(h:cK w B v xs)(hb:ag w w'):cK w' B v xs:=Wq
theorem cE.same(h:cE w B v xs us)(hs:∀k,B<=k->w'.heap[k]?=w.heap[k]?):cE w' B v xs us:=⟨h.len,⟨h.outer.1,h.outer.2.imp id fun⟨g,cap,G,D,a2,a3,F⟩=>⟨g,cap,G,D,a2,TP,F⟩⟩,fun k u r I H=>(h.each k u r I H).same hs,h.apart⟩
theorem cK.same(h:cK w B v xs)(D:∀k,B<=k->w'.heap[k]?=w.heap[k]?):cK w' B v xs:=by obtain⟨us,h⟩:=h;exact⟨us,h.same D⟩
theorem cE.mono{B':Nat}(h:cE w B v xs us)(H:B'<=B):cE w B' v xs us:=⟨h.len,⟨h.outer.1,h.outer.2.imp id fun⟨g,cap,G,D,N,F⟩=>⟨g,cap,G,D,Rr,F⟩⟩,fun k u r J I=>(h.each k u r J I).mono H,h.apart⟩
theorem cK.mono(h:cK w B v xs)(D:B'<=B):cK w B' v xs:=by obtain⟨us,h⟩:=h;exact⟨us,h.mono D⟩
theorem cK.setCell(h:cK w B v xs){a:dk}(D:a.block<B)(u:ax):cK (w.setCell a u) B v xs:=h.same fun k F=>aZ _ _ _ _ Rr
theorem cK.nil(w:aa)(B:Nat):cK w B (.slice none 0 0) []:=⟨[],rfl,qv _ _ _ _,fun k u r hu=>RN,fun i j u h b hu=>RN⟩
theorem cK.lit(W:aa)(B:Nat)(h:B<=W.heap.size):cK (W.alloc (.cells #[] 97)) B (.slice (some ⟨W.heap.size,0,none⟩) 0 0) []:=⟨[],rfl,wF W #[] 0 h Rs rfl,fun k u r hu=>RN,fun i j u D b hu=>RN⟩
theorem cE.lt(h:cE w B v xs us):∀k,v.ownBlock=some k->B<=k/\k<w.heap.size:=bL h.outer
theorem cE.snoc{x:ft}(h:cE w B v xs us)(Y:aD w B u x.row)(U:∀b,u.ownBlock=some b->∀I∈us,I.ownBlock≠some b)(ad:w'.ownsRow B 97 5 R (xs.length+1) (gW xs us++eZ x u))(V:w.grownBy w' v.ownBlock):cE w' B R (xs++[x]) (us++[u]):=by
 refine⟨RX,by rw[Bb _ _ h.len];simpa using ad,?_,?_⟩
 .intro k I Z G H;by_cases hk:k<us.length
  .rw[df hk]at G;rw[df TQ]at H;exact aD.kept (h.each k I Z G H) V (jj Rs (h.each k I Z G H) h.outer)
  .have ac:k=us.length:=by have:=(bG.1 G).1;simp at this;omega
   subst ac;simp at G;rw[h.len]at H;simp at H;subst G H;exact aD.kept Y V (jj Rs Y h.outer)
 .intro i j u1 u2 b D F J N;have hi:=(bG.1 D).1;have ab:=(bG.1 F).1;simp only[bx,jc,il]at hi ab;by_cases O:i<us.length <;>by_cases T:j<us.length
  .rw[df O]at D;rw[df T]at F;exact h.apart i j u1 u2 b D F J N
  .rw[df O]at D;obtain rfl:j=us.length:=Rr;simp at F;subst F;exact absurd J (U b N u1 (aY D))
  .rw[df T]at F;obtain rfl:i=us.length:=Rr;simp at D;subst D;exact absurd N (U b J u2 (aY F))
  .omega
theorem cE.put{g cap:Nat}{x:ft}(R:n=xs.length)(h:cE w B (.slice (some ⟨g,0,none⟩) n cap) xs us)(hk:k<n)(G:aD w B u x.row)(D:∀b,u.ownBlock=some b->∀u'∈us,u'.ownBlock≠some b):cE (((((w.setCell ⟨g,k*5,none⟩ (.int .i64 x.k)).setCell ⟨g,k*5+1,none⟩ (.int .i64 x.a)).setCell ⟨g,k*5+2,none⟩ (.int .i64 x.b)).setCell ⟨g,k*5+3,none⟩ (.int .i64 x.c)).setCell ⟨g,k*5+4,none⟩ u) B (.slice (some ⟨g,0,none⟩) n cap) (xs.set k x) (us.set k u)/\w.grownBy (((((w.setCell ⟨g,k*5,none⟩ (.int .i64 x.k)).setCell ⟨g,k*5+1,none⟩ (.int .i64 x.a)).setCell ⟨g,k*5+2,none⟩ (.int .i64 x.b)).setCell ⟨g,k*5+3,none⟩ (.int .i64 x.c)).setCell ⟨g,k*5+4,none⟩ u) (some g):=by
 subst R;have H:=h.outer.stored (k*5) (.int .i64 x.k);have I:=H.1.stored (k*5+1) (.int .i64 x.a);have J:=I.1.stored (k*5+2) (.int .i64 x.b);have N:=J.1.stored (k*5+3) (.int .i64 x.c);have O:=N.1.stored (k*5+4) u;have hg:=bN (bN (bN (bN H.2 I.2) J.2) N.2) O.2;refine⟨⟨RX,?_,?_,?_⟩,hg⟩
 .have:=O.1;rw[pC x u h.len hk]at this;simpa using this
 .intro j u' x' FF JM;by_cases F:k=j
  .subst F;rw[fB Tl]at FF;rw[fB hk]at JM;cases FF;cases JM
   exact aD.kept G hg (jj Rs G h.outer)
  .rw[eF F]at FF JM;exact XP
 .intro i j u1 u2 b h1 h2 h3 h4;by_cases ci:k=i <;>by_cases cj:k=j
  .omega
  .subst ci;rw[fB Tl]at h1;rw[eF cj]at h2;cases h1
   exact absurd h4 (D b h3 u2 (aY h2))
  .subst cj;rw[fB Tl]at h2;rw[eF ci]at h1;cases h2
   exact absurd h3 (D b h4 u1 (aY h1))
  .exact Xh
theorem cE.fresh{r:aH}(D:cE w B v xs us)(I:aD w' w.heap.size u r):∀b,u.ownBlock=some b->∀h∈us,h.ownBlock≠some b:=fun b F h J e=>by obtain⟨k,G⟩:=fk.1 J;obtain⟨x,_,H⟩:=D.kC G;have N:=(H.lt b e).2;have O:=(I.lt b F).1;omega
end
def za5:ft:=⟨0,0,0,0,[]⟩
theorem zcb(n:Nat):(madeCells (Value.agg #[.int .i64 0,.int .i64 0,.int .i64 0,.int .i64 0,.slice none 0 0]).cells (n*5)).toList=gW (List.replicate n za5) (List.replicate n (.slice none 0 0)):=by
 apply gS;intro i;by_cases hi:i<n*5
 .have D:i / 5<n:=Rr;have:=nq (j:=i%5) Rr (xs:=List.replicate n za5) (us:=List.replicate n (.slice none 0 0)) (k:=i / 5) (x:=za5) (u:=bW) (by simp[D]) (by simp[D]);rw[show i / 5*5+i%5=i by omega]at this;rw[this];have F:i%5=0∨i%5=1∨i%5=2∨i%5=3∨i%5=4:=Rr;rcases F with h|h|h|h|h <;>simp[madeCells,Value.cells,hi,h,eZ,za5]
 .rw[gT (by simp[madeCells];omega),gT (by rw[xN Rq];simp;omega)]
theorem cE.made{w:aa}{B:Nat}{v:ax}(h:w.ownsRow B 97 5 v n (madeCells (Value.agg #[.int .i64 0,.int .i64 0,.int .i64 0,.int .i64 0,.slice none 0 0]).cells (n*5)).toList):cE w B v (List.replicate n za5) (List.replicate n (.slice none 0 0)):=by
 rw[zcb]at h;refine⟨Rq,R9,?_,?_⟩
 .exact YG
 .exact Yt
theorem cE.cells{g cap:Nat}{xs:List ft}(N:n=xs.length)(F:cE w B (.slice (some ⟨g,0,none⟩) n cap) xs us)(J:k<n):∃x u,xs[k]?=some x/\us[k]?=some u/\aD w B u x.row/\(ae w g (k*5) (.int .i64 x.k)/\ae w g (k*5+1) (.int .i64 x.a)/\ae w g (k*5+2) (.int .i64 x.b)/\ae w g (k*5+3) (.int .i64 x.c)/\ae w g (k*5+4) u)/\(w.frozen? ⟨g,k*5,none⟩=false/\w.frozen? ⟨g,k*5+1,none⟩=false/\w.frozen? ⟨g,k*5+2,none⟩=false/\w.frozen? ⟨g,k*5+3,none⟩=false/\w.frozen? ⟨g,k*5+4,none⟩=false):=by
 subst N;obtain⟨x,G⟩:=aB J;obtain⟨u,H,O⟩:=F.get G;have D:∀j,j<5->w.cell? ⟨g,k*5+j,none⟩=(eZ x u)[j]?:=fun j I=>by rw[F.outer.cellAt _ Rr,nq I G H]
 have h:=F.outer.frozenAt;exact⟨x,u,G,H,O,⟨D 0 Rs,D 1 Rs,D 2 Rs,D 3 Rs,D 4 Rs⟩,⟨h _,h _,h _,h _,h _⟩⟩
theorem zav(A:aq)(cap:Nat)(xs:List ft)(w:aa)(Y:fL w A xs)(bb:xs.length<=1048576)(am:∀r∈xs,r.row.length<=1048576):aw 27 (aO A xs cap) w fun e w'=>∃u,e=.returned u/\cK w' w.heap.size u xs/\ag w w':=by
 obtain⟨bg,hi,bc,bd,EK⟩:=de DG;go_enter func27,ntmps27
 go_wp2_with ((at_make;refine jb _ rfl _ _ 37 rfl w.heap.size 97 bg (.agg yU) 5 wP hi bc bd .i64 .i64 xs.length xs.length xs.length rfl rfl rfl rfl SA TD (af _) ?_;intro bz D ac))
 have Z:=cD ac;have U:=zH (cE.made D);clear D ac;go_loopw [4] (fun i wr=>∃k:Nat,k<=xs.length/\i=.int .i64 k/\(∃us,cE wr w.heap.size (.slice (some ⟨w.heap.size,0,none⟩) xs.length xs.length) (fS xs za5 k) us)/\ag w wr)
  (fun i _=>xs.length-(intOf i).toNat)
 case atStart=>exact⟨0,aX _,rfl,⟨_,by rw[iW];exact U.o⟩,Z⟩
 case round=>
  obtain⟨k,bu,rfl,⟨us,D⟩,h⟩:=hrel;have I:=zH D;clear D U Z;by_cases F:k<xs.length
  .obtain⟨r,G⟩:=aB F;obtain⟨bp,o,rfl,ab⟩:=(Y.ext h).here F;obtain⟨bi,bq,⟨a7,c1,c2,a8,a9⟩,ad⟩:=ab k r G;obtain⟨a3,a5,T⟩:=dO (show r.row.length<=1048576 by have:=am r (aY G);omega) (jK xs za5 r k G) (by simp[fS];omega:xs.length=(fS xs za5 k).length);have ao:=h.size;have bv:xs.length<9223372036854775807:=Rr;obtain⟨a2,ap⟩:=bD ad h;clear G ab Y am bb ad h;go_wp2_with ((go_at_call 52;refine(zbf _ _ _ _ _ _ _ _ a2.o a3.o).mono ?_;rintro e b0 ⟨u2,rfl,H,J⟩;have O:=zH J;have R:=zH (I.o.ext J);have a0:=zH (I.o.fresh H);have a6:=zH H;obtain⟨b2,b1,_,_,_,⟨d0,d1,d2,d3,d4⟩,⟨f0,f1,f2,f3,f4⟩⟩:=R.o.cells T.o F;obtain⟨bo,br,rfl,_⟩:=H.view;clear H J))
   have N:=R.o.put (x:=r) T.o F (a6.o.mono ao) a0.o;obtain⟨a4,a1⟩:=bD N.1 N.2;clear N d0 d1 d2 d3 d4 f0 f1 f2 f3 f4 a7 c1 c2 a8 a9;go_roundw
   case rel=>exact⟨k+1,Rr,Rt,⟨_,by rw[<-a5.o];exact a4.o⟩,(ap.o.trans (O.o.mono ao)).trans (oT (aj w.heap.size _) a1.o (by have:=O.o.size;omega) (fun b ba=>by cases ba;exact af _))⟩
   case measure=>simp[intOf];omega
  .go_wp2;go_ret
   have V:=I.o;rw[jJ _ _ _ Rr]at V;exact⟨_,rfl,⟨_,V⟩,h⟩
theorem Dk(A H:aq)(cap ap:Nat)(xs:List ft)(w:aa)(O:fL w A xs)(R:fL w H xs)(a9:xs.length<=1048576)(Z:∀r∈xs,r.row.length<=1048576):aw 32 (lH A xs cap H xs ap) w (dM w true):=by
 have a7:((xs.length:Int)!=(xs.length:Int))=false:=Rq;go_enter func32,ntmps32
 go_wp2;go_loopw [5] (fun i wr=>∃k:Nat,k<=xs.length/\i=.int .i64 k/\ag w wr) (fun i _=>xs.length-(intOf i).toNat)
 case atStart=>exact⟨0,aX _,rfl,aj _ _⟩
 case round=>
  obtain⟨k,a8,rfl,EL⟩:=hrel;by_cases G:k<xs.length
  .obtain⟨x,F⟩:=aB G;obtain⟨b,o,rfl,T⟩:=(O.ext EL).here G;obtain⟨h,D,rfl,U⟩:=(R.ext EL).here G;obtain⟨ab,a0,⟨I,c1,c2,J,N⟩,V⟩:=T k x F;obtain⟨ac,a1,⟨d0,d1,d2,d3,d4⟩,Y⟩:=U k x F;have a2:∀W:Ext wr,ae W.W b (o+k*5) (.int .i64 x.k):=fun W=>W.cell I
   have a3:∀W:Ext wr,ae W.W b (o+k*5+1) (.int .i64 x.a):=fun W=>W.cell c1
   have a4:∀W:Ext wr,ae W.W b (o+k*5+2) (.int .i64 x.b):=fun W=>W.cell c2
   have a5:∀W:Ext wr,ae W.W b (o+k*5+3) (.int .i64 x.c):=fun W=>W.cell J
   have a6:∀W:Ext wr,ae W.W b (o+k*5+4) (.slice ab x.row.length a0):=fun W=>W.cell N
   have f0:∀W:Ext wr,ae W.W h (D+k*5) (.int .i64 x.k):=fun W=>W.cell d0
   have f1:∀W:Ext wr,ae W.W h (D+k*5+1) (.int .i64 x.a):=fun W=>W.cell d1
   have f2:∀W:Ext wr,ae W.W h (D+k*5+2) (.int .i64 x.b):=fun W=>W.cell d2
   have f3:∀W:Ext wr,ae W.W h (D+k*5+3) (.int .i64 x.c):=fun W=>W.cell d3
   have f4:∀W:Ext wr,ae W.W h (D+k*5+4) (.slice ac x.row.length a1):=fun W=>W.cell d4
   obtain⟨ad,am,ao⟩:=dO (fun W:Ext wr=>V.ext W.ok) (fun W:Ext wr=>Y.ext W.ok) (show x.row.length<=maxLen by have:=Z x (aY F);unfold maxLen;omega);clear F T U O R Z V Y I c1 c2 J N d0 d1 d2 d3 d4;go_wp2;refine bK RP RP ?_
   repeat (go_big_quiet_step ((go_at_call 57;exact Calls.eA (za6 _ _ _ _ _ _ _ _ _ _ (ad.o _) (am.o _) ao.o))))
   exact YI
  .go_wp2;go_ret
   exact⟨rfl,EL⟩
structure qV where
 f:List Nat
 i:List Nat
 o:List Nat
def qV.add(s:qV)(a b c:Nat):qV:=⟨s.f++[a],s.i++[b],s.o++[c]⟩
def j7(s:qV)(n:Nd):Option qV:=
 if dh n=true then some (s.add s.f.length (nW n) (qJ n))
 else if BD n=true/\n.v=0/\n.e=true/\2<=s.f.length/\1<=s.f.getD (s.f.length-1) 0 then
  match fG n.k (s.i.getD (s.f.getD (s.f.length-1) 0-1) 0,s.o.getD (s.f.getD (s.f.length-1) 0-1) 0) (s.i.getD (s.f.length-1) 0,s.o.getD (s.f.length-1) 0)with
  |some c=>some (s.add (s.f.getD (s.f.getD (s.f.length-1) 0-1) 0) c.1 c.2)
  |none=>none
 else none
def kL:List Nd->qV->Option qV
 |[],s=>some s
 |n::L,s=>match j7 s n with
  |some h=>kL L h
  |none=>none
def rq(s:qV):Nat->List Tm->Prop
 |k,[]=>k=0
 |k,t::S=>∃c,t.ty=some c/\1<=k/\k<=s.f.length/\s.f.getD (k-1) 0+t.flat.length=k/\s.i.getD (k-1) 0=c.1/\s.o.getD (k-1) 0=c.2/\rq s (s.f.getD (k-1) 0) S
structure uJ(s:qV)(S:List Tm):Prop where
 li:s.i.length=s.f.length
 lo:s.o.length=s.f.length
 ch:rq s s.f.length S
theorem uK{a:Nat}(h:k<l.length):(l++[a]).getD k 0=l.getD k 0:=by rw[bP,df h,bP]
theorem zT{a:Nat}:(l++[a]).getD l.length 0=a:=by rw[bP,ef (af _),oK];rfl
theorem Tm.nB(t:Tm):1<=t.flat.length:=by
 cases t with
 |lf n=>simp[Tm.flat]
 |op k a b=>simp[Tm.flat];omega
theorem rq.add{s:qV}{a b c:Nat}(T:s.i.length=s.f.length)(lo:s.o.length=s.f.length):∀{S:List Tm} {k:Nat},k<=s.f.length->rq s k S->rq (s.add a b c) k S
 |[],k,_,G=>G
 |t::S,k,V,⟨d,H,I,U,J,N,O,R⟩=>by have h:(s.add a b c).f.getD (k-1) 0=s.f.getD (k-1) 0:=uK Rr;have D:(s.add a b c).i.getD (k-1) 0=s.i.getD (k-1) 0:=uK Rr;have F:(s.add a b c).o.getD (k-1) 0=s.o.getD (k-1) 0:=uK Rr;refine⟨d,H,I,by show k<=(s.f++[a]).length;rw[bx];omega,by rw[h];exact J,by rw[D];exact N,by rw[F];exact O,?_⟩;rw[h];exact rq.add T lo Rr R
theorem zeX{s:qV}{t:Tm}{c:fQ}{a:Nat}(h:uJ s S)(I:t.ty=some c)(H:a+t.flat.length=s.f.length+1)(G:rq s a S'):uJ (s.add a c.1 c.2) (t::S'):=by
 have J:=t.nB;have F:(s.add a c.1 c.2).f.length=s.f.length+1:=by show(s.f++[a]).length=_;simp
 have D:(s.add a c.1 c.2).f.getD s.f.length 0=a:=zT;refine⟨by show(s.i++[c.1]).length=(s.f++[a]).length;simp[h.li],by show(s.o++[c.2]).length=(s.f++[a]).length;simp[h.lo],?_⟩;rw[F];refine⟨c,I,Rr,by rw[F];exact af _,?_,?_,?_,?_⟩ <;>rw[Nat.add_sub_cancel]
 .rw[D];exact H
 .show(s.i++[c.1]).getD s.f.length 0=c.1
  rw[<-h.li];exact zT
 .show(s.o++[c.2]).getD s.f.length 0=c.2
  rw[<-h.lo];exact zT
 .rw[D];exact rq.add h.li h.lo Rr G
theorem Db{n:Nd}(D:BD n=true):dh n=false:=by
 unfold BD at D;simp only[iG,bX]at D;cases h:dh n with
 |false=>rfl
 |true=>
  exfalso;unfold dh at h;rw[bE]at h;have h:=h.2;rw[av Rr,av Rr]at h;simp only[bE,bX]at h;omega
theorem zU{s:qV}(n:Nd)(H:uJ s S):(∃U S',j7 s n=some U/\stepT S n=some S'/\uJ U S')∨(j7 s n=none/\stepT S n=none):=by
 by_cases F:BD n=true
 .have h:=Db F;unfold j7 stepT;rw[h,av Rs,ay F];by_cases G:n.v=0/\n.e=true
  .rw[ay G];have I:=H.ch
   match S,I with
   |[],I=>
    right;have:s.f.length=0:=I;exact⟨av (fun D=>Rr),rfl⟩
   |[t],⟨d,N,ad,am,ao,O,R,ap⟩=>
    right;have:s.f.getD (s.f.length-1) 0=0:=ap;exact⟨av (fun D=>Rr),rfl⟩
   |b::a::a6,⟨d,N,ad,am,ao,O,R,J,V,Y,a7,a8,Z,ab,ac⟩=>
    have a9:=b.nB;rw[ay ⟨F,G.1,G.2,Rr,Y⟩,O,R,Z,ab];dsimp only;have T:(Tm.op n.k a b).ty=fG n.k J d:=by unfold Tm.ty;rw[V,N]
    rw[T];obtain⟨a2,a3⟩:=d;obtain⟨a4,a5⟩:=J;cases a1:fG n.k (a4,a5) (a2,a3)with
    |none=>right;exact⟨rfl,rfl⟩
    |some c=>
     left;refine⟨_,_,rfl,rfl,?_⟩;refine zeX H (T.trans a1) ?_ ac;have a0:(Tm.op n.k a b).flat=a.flat++b.flat++[⟨n.k,0,true⟩]:=rfl;rw[a0,bx,bx,zk];omega
  .rw[av G,av (fun D=>G ⟨D.2.1,D.2.2.1⟩)];right;exact⟨rfl,rfl⟩
 .unfold j7 stepT;rw[av F];by_cases h:dh n=true
  .rw[ay h,ay h];left;exact⟨_,_,rfl,rfl,zeX (c:=(nW n,qJ n)) H (by unfold Tm.ty;rw[ay h]) (by simp[Tm.flat]) H.ch⟩
  .rw[av h,av h,av (fun D=>F D.1)];right;exact⟨rfl,rfl⟩
theorem zV:∀(L:List Nd) {s:qV} {S:List Tm},uJ s S->(∃G S',kL L s=some G/\eI L S=some S'/\uJ G S')∨(kL L s=none/\eI L S=none)
 |[],s,S,F=>au ⟨s,S,rfl,rfl,F⟩
 |n::L,s,S,F=>by
  unfold kL eI;rcases zU n F with⟨G,S',h,D,H⟩|⟨h,D⟩
  .rw[h,D];exact zV L H
  .rw[h,D];exact an ⟨rfl,rfl⟩
theorem zdq{L:List Nd}(am:L≠[]):(∃s,kL L ⟨[],[],[]⟩=some s/\s.f.getD (L.length-1) 0=0)↔∃t,zht L t:=by
 have ad:uJ ⟨[],[],[]⟩ []:=⟨rfl,rfl,rfl⟩;rcases zV L ad with⟨s,S,H,h,I⟩|⟨H,h⟩
 .have ab:=pU h;simp only[rM,qs]at ab;have ao:∀{S:List Tm} {k:Nat},rq s k S->(rM S).length=k:=by
   intro S;induction S with
   |nil=>intro k G;have:k=0:=G;rw[this];rfl
   |cons t S ih=>
    rintro k ⟨d,O,R,T,U,V,Y,F⟩;unfold rM;rw[bx,ih F];omega
  have G:=ao I.ch;rw[ab]at G;constructor
  .rintro⟨a3,D,Z⟩;rw[H]at D;simp only[dZ]at D;subst D;have J:=I.ch
   match S,J with
   |[],J=>
    have:s.f.length=0:=J;exact absurd (vZ.1 (G.trans this)) am
   |t::ac,⟨d,O,R,T,U,V,Y,F⟩=>
    rw[G]at Z;rw[Z]at F
    match ac,F with
    |[],_=>exact⟨t,py.2 h⟩
    |a4::ap,⟨a0,a1,a2,_⟩=>omega
  .rintro⟨t,N⟩;have:=(py.1 N).symm.trans h;simp only[dZ]at this;subst this;obtain⟨d,O,R,T,U,V,Y,F⟩:=I.ch;have:s.f.getD (s.f.length-1) 0=0:=F;exact⟨s,H,by rw[G];exact this⟩
 .constructor
  .rintro⟨s,D,_⟩;rw[H]at D;cases D
  .rintro⟨t,N⟩;rw[py.1 N]at h;cases h
end Go.Proofs.YtpieilkmmiopfaaGreatDoor
