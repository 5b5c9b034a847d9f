/- Parts of the walks and laws (MarkS, Vd2). Conditions: as stated with each. -/
import Derived.Test.YtpieilkmmiopfaaGreatDoorPk33
import Derived.Test.YtpieilkmmiopfaaGreatDoorPk36
namespace Go.Proofs.YtpieilkmmiopfaaGreatDoor
open Go.RowKit Tryz
set_option linter.all false
set_option maxHeartbeats 4000000
set_option maxRecDepth 100000
variable{A:aq}{B c k n:Nat}{u:ax}
structure xP(w:aa)(lo hi:Nat)(v:ax)(xs:List ft)(us:bU):Prop where
 own:cE w lo v xs us
 up:∀b,v.ownBlock=some b->b<hi
 ups:∀u∈us,∀b,u.ownBlock=some b->b<hi
def pL(w:aa)(lo hi:Nat)(v:ax)(xs:List ft):Prop:=∃us,xP w lo hi v xs us
section
variable{w w':aa}{lo hi lo' hi':Nat}{v:ax}{xs:List ft}{us:bU}
theorem pL.of(h:cK w B v xs):pL w B w.heap.size v xs:=by obtain⟨us,h⟩:=h;refine⟨us,h,fun b hb=>(h.lt b hb).2,fun u hu b hb=>?_⟩;exact Xo
theorem xP.ext(h:xP w lo hi v xs us)(D:ag w w'):xP w' lo hi v xs us:=⟨h.own.ext D,h.up,h.ups⟩
theorem pL.ext(h:pL w lo hi v xs)(D:ag w w'):pL w' lo hi v xs:=by obtain⟨us,h⟩:=h;exact⟨us,h.ext D⟩
theorem xP.within(h:xP w lo hi v xs us)(hw:bn lo' hi' w w')(hd:hi<=lo'∨hi'<=lo):xP w' lo hi v xs us:=by refine⟨⟨h.own.len,⟨h.own.outer.1,h.own.outer.2.imp id fun⟨g,cap,H,a1,F,D,G⟩=>⟨g,cap,H,a1,F,(hw.block g (aT.1 D).1 Vf).trans D,G⟩⟩,fun k u r hu hr=>?_,h.own.apart⟩,h.up,h.ups⟩;exact WR
theorem pL.within(h:pL w lo hi v xs)(F:bn lo' hi' w w')(D:hi<=lo'∨hi'<=lo):pL w' lo hi v xs:=by obtain⟨us,h⟩:=h;exact⟨us,h.within F D⟩
theorem pL.own(h:pL w lo hi v xs):cK w lo v xs:=by obtain⟨us,h⟩:=h;exact⟨us,h.own⟩
theorem zeS(h:cK w B (.slice A n c) xs):fL w A xs:=XQ
end
theorem nh.le2{l r:Int}{xs:List ft}(h:nh l r xs)(D:l<=1048576):r<=1048576:=by rcases h with h|h <;>omega
def w_(k:Int)(x:ft):ft:=⟨k,k+1,k+1+1,k+1+1+1,pQ (k+1+1+1+1) x.row.length⟩
def jh:List ft->Int
 |[]=>0
 |x::xs=>4+(x.row.length:Int)+jh xs
def qS(k:Int):List ft->List ft
 |[]=>[]
 |x::xs=>w_ k x::qS (k+(4+(x.row.length:Int))) xs
theorem zde(l:List ft)(r:ft):jh (l++[r])=jh l+(4+(r.row.length:Int)):=by
 induction l with
 |nil=>simp[jh]
 |cons a l ih=>simp[jh,ih];omega
theorem lX(l:List ft):0<=jh l:=by
 induction l with
 |nil=>simp[jh]
 |cons a l ih=>simp[jh];omega
theorem zco(l:List ft)(h:∀r∈l,r.row.length<=1048576):jh l<=(l.length:Int)*1048580:=by
 induction l with
 |nil=>simp[jh]
 |cons a l ih=>
  have F:=ih fun r D=>h r (by simp[D])
  have G:=h a Rq;simp[jh];omega
theorem po(k:Int)(l:List ft):(qS k l).length=l.length:=by
 induction l generalizing k with
 |nil=>rfl
 |cons a l ih=>simp[qS,ih]
theorem zdf(k:Int)(l:List ft)(r:ft):qS k (l++[r])=qS k l++[w_ (k+jh l) r]:=by
 induction l generalizing k with
 |nil=>simp[qS,jh]
 |cons a l ih=>simp[qS,ih,jh,Int.add_assoc]
theorem zeT(k:Int)(l:List ft)(j:Nat)(r:ft)(h:l[j]?=some r):(qS k l)[j]?=some (w_ (k+jh (l.take j)) r):=by
 induction l generalizing k j with
 |nil=>simp at h
 |cons a l ih=>
  cases j with
  |zero=>simp at h;subst h;simp[qS,jh]
  |succ j=>
   simp only[cP]at h;simp only[qS,cP,qt,jh];rw[ih _ _ h,Int.add_assoc]
def lv(k:Int)(l:List ft)(j:Nat):List ft:=qS k (l.take j)++l.drop j
theorem zL(k:Int)(l:List ft)(j:Nat)(h:j<=l.length):(lv k l j).length=l.length:=by simp[lv,po];omega
theorem zbm(k:Int)(l:List ft)(j:Nat)(h:j<l.length):(lv k l j)[j]?=l[j]?:=by unfold lv;rw[ef (by rw[po,cG];omega),po,eX];congr 1;simp;omega
theorem zbn(k:Int)(l:List ft)(j:Nat)(r:ft)(h:l[j]?=some r):(lv k l j).set j (w_ (k+jh (l.take j)) r)=lv k l (j+1):=by
 obtain⟨F,G⟩:=bG.1 h;unfold lv;have D:(qS k (l.take j)).length=j:=by rw[po];simp;omega
 rw[lI _ _ Rr,D,oK,mT F,oM,dH,h,Option.toList_some,zdf,fj];rfl
theorem zbo(k:Int)(l:List ft)(j:Nat)(h:j=l.length):lv k l j=qS k l:=by subst h;simp[lv]
theorem rk(l:List ft)(j:Nat)(r:ft)(h:l[j]?=some r):jh (l.take (j+1))=jh (l.take j)+(4+(r.row.length:Int)):=by rw[dH,h,Option.toList_some,zde]
theorem mI(l:List ft)(j:Nat)(H:l.length<=1048576)(h:∀r∈l,r.row.length<=1048576):jh (l.take j)<=1099515822080:=by
 have F:=zco (l.take j) fun r D=>h r (wG D)
 have G:(l.take j).length<=l.length:=Sr;omega
theorem cE.zil{w:aa}{g cap:Nat}{xs:List ft}{us:bU}{x y:ft}(U:n=xs.length)(h:cE w B (.slice (some ⟨g,0,none⟩) n cap) xs us)(D:xs[k]?=some x)(H:us[k]?=some u)(V:y.row=x.row):cE ((((w.setCell ⟨g,k*5,none⟩ (.int .i64 y.k)).setCell ⟨g,k*5+1,none⟩ (.int .i64 y.a)).setCell ⟨g,k*5+2,none⟩ (.int .i64 y.b)).setCell ⟨g,k*5+3,none⟩ (.int .i64 y.c)) B (.slice (some ⟨g,0,none⟩) n cap) (xs.set k y) us/\w.grownBy ((((w.setCell ⟨g,k*5,none⟩ (.int .i64 y.k)).setCell ⟨g,k*5+1,none⟩ (.int .i64 y.a)).setCell ⟨g,k*5+2,none⟩ (.int .i64 y.b)).setCell ⟨g,k*5+3,none⟩ (.int .i64 y.c)) (some g):=by
 subst U;have G:=(bG.1 D).1;have I:=h.outer.stored (k*5) (.int .i64 y.k);have J:=I.1.stored (k*5+1) (.int .i64 y.a);have N:=J.1.stored (k*5+2) (.int .i64 y.b);have O:=N.1.stored (k*5+3) (.int .i64 y.c);have hg:=bN (bN (bN I.2 J.2) N.2) O.2;refine⟨⟨RX,?_,?_,h.apart⟩,hg⟩
 .have:=O.1;have e:=pC (xs:=xs) (us:=us) (k:=k) y u h.len G;rw[kb H]at e;have T:((((gW xs us).set (k*5) (.int .i64 y.k)).set (k*5+1) (.int .i64 y.a)).set (k*5+2) (.int .i64 y.b)).set (k*5+3) (.int .i64 y.c)=gW (xs.set k y) us:=by rw[<-e];refine(kb ?_).symm;have R:=nq (j:=4) Rs D H;rw[eF Rr,eF Rr,eF Rr,eF Rr,R];rfl
  rw[T]at this;simpa using this
 .intro j u' x' FF JM;by_cases F:k=j
  .subst F;rw[fB G]at JM;cases JM
   have:=h.each k u' x FF D;rw[<-V]at this;exact aD.kept this hg (jj Rs this h.outer)
  .rw[eF F]at JM;exact XP
theorem cE.inner{w w':aa}{v:ax}{xs:List ft}{us:bU}{x y:ft}(h:cE w B v xs us)(N:xs[k]?=some x)(D:us[k]?=some u)(T:w.grownBy w' u.ownBlock)(ab:aD w' B u y.row)(ac:y.k=x.k/\y.a=x.a/\y.b=x.b/\y.c=x.c):cE w' B v (xs.set k y) us:=by
 have J:=(bG.1 N).1;have V:=h.each k u x D N;have Y:v.ownBlock=none∨v.ownBlock≠u.ownBlock:=by
  rcases jj Rs V h.outer with H|H
  .rw[H];cases v.ownBlock <;>simp
  .exact an (lK H)
 refine⟨RX,?_,fun j O r G F=>?_,h.apart⟩
 .have e:=pC (xs:=xs) (us:=us) (k:=k) y u h.len J;rw[kb D]at e;have R:=pC (xs:=xs) (us:=us) (k:=k) x u h.len J;rw[kb D,kb N]at R;obtain⟨ad,am,ao,ap⟩:=ac;rw[ad,am,ao,ap,R]at e;rw[<-e];simpa using ik h.outer T Y
 .by_cases I:k=j
  .subst I;rw[fB J]at F;cases F
   rw[D]at G;cases G
   exact ab
  .rw[eF I]at F;have Z:=h.each j O r G F;refine Z.kept T ?_;rcases U:O.ownBlock with _|b
   .exact au rfl
   .refine an fun e=>I (h.apart k j u O b D G e.symm U)
theorem Bm(k:Int)(lo hi:Nat)(A:aq)(cap:Nat)(xs:List ft)(w:aa)(Z:pL w lo hi (.slice A xs.length cap) xs)(b6:xs.length<=1048576)(ao:∀r∈xs,r.row.length<=1048576)(ch:0<=k)(ci:k<=1125899906842624):aw 43 (oI A xs cap k) w fun e w'=>e=.returned (.int .i64 (k+jh xs))/\pL w' lo hi (.slice A xs.length cap) (qS k xs)/\bn lo hi w w':=by
 by_cases ab:xs.length=0
 .have ca:xs=[]:=fC ab;subst ca;have bz:=zH Z;clear Z ab ao;go_enter func43,ntmps43
  go_wp2;go_loopw [1,5] (fun q i wr=>i=.int .i64 0/\q=.int .i64 k/\wr=w) (fun _ _ _=>0)
  case atStart=>exact⟨rfl,rfl,rfl⟩
  case round=>
   obtain⟨rfl,rfl,rfl⟩:=hrel;go_wp2;go_ret
   exact⟨iB (by simp[jh]),bz.o,bn.refl _ _ _⟩
 .obtain⟨us,a3⟩:=Z;obtain⟨g,cc,bv,ce,ad⟩:=kn a3.own.outer Rr;simp only[dW]at bv;obtain⟨rfl,-,rfl⟩:=bv;obtain⟨bc,a7⟩:=bD a3 ao;clear a3 ao ab;go_enter func43,ntmps43
  go_wp2;go_loopw [1,5] (fun q i wr=>∃j:Nat,j<=xs.length/\i=.int .i64 j/\q=.int .i64 (k+jh (xs.take j))/\xP wr lo hi (.slice (some ⟨g,0,none⟩) xs.length cap) (lv k xs j) us/\bn lo hi w wr)
   (fun _ i _=>xs.length-(intOf i).toNat)
  case atStart=>exact⟨0,aX _,rfl,by simp[jh],by simpa[lv,qS]using bc.o,bn.refl _ _ _⟩
  case round=>
   obtain⟨j,bi,rfl,rfl,D,O⟩:=hrel;have b7:=lX (xs.take j);have b8:=mI xs j b6 a7.o;obtain⟨q,a1⟩:=aM (k+jh (xs.take j));have cj:0<=q:=Rr;have ck:q<=1127000000000000:=Rr;have U:=zH a1;rw[<-a1];clear a1 b7 b8;by_cases ap:j<xs.length
   .obtain⟨r,N⟩:=aB ap;have H:=zbm k xs j ap;rw[N]at H;have am:=zL k xs j bi;obtain⟨h,u,a4,a2,bp,⟨d0,d1,d2,d3,d4⟩,⟨f0,f1,f2,f3,f4⟩⟩:=D.own.cells am.symm ap;obtain rfl:h=r:=by rw[H]at a4;exact(je a4).symm
    obtain⟨T,Y,rfl⟩:=zdD bp;have a0:=D.own.zil (y:=⟨q,q+1,q+1+1,q+1+1+1,h.row⟩) am.symm H a2 rfl;obtain⟨I,ba,b2,V,bb,J,F,cb⟩:=zH8 a0.1 a0.2 (a7.o h (aY N)) O N a2 D H;have bo:j < (lv k xs j).length:=Rr;have b0:=zH bo;clear bp O N a2 H D bc a0 a4 am bo;go_upto_region 12 with(fail)
    obtain⟨bd,ac⟩:=aM ((((wr.setCell ⟨g,j*5,none⟩ (.int .i64 q)).setCell ⟨g,j*5+1,none⟩ (.int .i64 (q+1))).setCell ⟨g,j*5+2,none⟩ (.int .i64 (q+1+1))).setCell ⟨g,j*5+3,none⟩ (.int .i64 (q+1+1+1)));rw[<-ac];rw[<-ac]at I ba;clear ac d0 d1 d2 d3 d4 f0 f1 f2 f3 f4;have R:((lv k xs j).set j ⟨q,q+1,q+1+1,q+1+1+1,h.row⟩)[j]?=some ⟨q,q+1,q+1+1,q+1+1+1,h.row⟩:=fB b0.o;have b3:=zH R;have br:aD bd lo (.slice T h.row.length Y) h.row:=I.o.each j _ ⟨q,q+1,q+1+1,q+1+1+1,h.row⟩ J.o R;have b4:ae bd g (j*5+4) (.slice T h.row.length Y):=by have bu:=I.o.outer;rw[iE,zL k xs j bi]at bu;rw[bu.cellAt _ Rr,nq Rs R J.o];rfl
    have a9:=zH br;clear br R;go_wp2_with (go_at_call 44;refine(uZ _ lo _ _ h.row _ a9.o b2.o Rr Rr).mono ?_;rintro e cn ⟨rfl,bq,ad⟩;have b1:=zH bq;have a5:=zH ad;clear bq ad b4)
    go_roundw
    case rel=>
     have b9:∀b,(Value.slice T h.row.length Y).ownBlock=some b->lo<=b/\b<hi:=fun b G=>⟨(a9.o.lt b G).1,F.o.ups _ (aY J.o) b G⟩
     have bg:=I.o.inner (y:=w_ q h) b3.o J.o a5.o b1.o ⟨rfl,rfl,rfl,rfl⟩;rw[List.set_set,U.o,zbn k xs j h bb.o]at bg;have b5:∀b,(Value.slice (some (⟨g,0,none⟩:dk)) xs.length cap).ownBlock=some b->lo<=b/\b<hi:=fun b G=>⟨(F.o.own.lt b G).1,F.o.up b G⟩
     exact⟨j+1,Rr,Rt,by rw[rk xs j h bb.o,<-Int.add_assoc,<-U.o];congr 1;omega,⟨bg,F.o.up,F.o.ups⟩,(V.o.trans (bn.As ba.o b5)).trans (bn.As a5.o b9)⟩
    case measure=>simp[intOf];omega
   .obtain⟨a6,a8,V⟩:=dO (Rr:j=xs.length) D O;clear D O;go_wp2;go_ret
    rw[zbo k xs j a6.o]at a8;exact⟨iB (by rw[U.o,a6.o,k_]),⟨us,a8.o⟩,V.o⟩
theorem Bn(k:Int)(A:aq)(cap:Nat)(xs:List ft)(w:aa)(J:fL w A (qS k xs))(ad:xs.length<=1048576)(O:∀r∈xs,r.row.length<=1048576)(a0:0<=k)(a1:k<=1125899906842624):aw 45 (oI A xs cap k) w fun e w'=>e=.returned (.int .i64 (k+jh xs))/\w=w':=by
 obtain⟨H,U⟩:=bD O J;clear J O;go_enter func45,ntmps45
 go_wp2;go_loop [1,5] (fun q i=>∃j:Nat,j<=xs.length/\i=.int .i64 j/\q=.int .i64 (k+jh (xs.take j))) (fun _ i=>xs.length-(intOf i).toNat)
 case atStart=>exact⟨0,aX _,rfl,by simp[jh]⟩
 case round=>
  obtain⟨j,ap,rfl,rfl⟩:=hrel;have am:=lX (xs.take j);have ao:=mI xs j ad H.o;obtain⟨q,h⟩:=aM (k+jh (xs.take j));have a2:0<=q:=Rr;have a3:q<=1127000000000000:=Rr;have I:=zH h;rw[<-h];clear am ao;by_cases R:j<xs.length
  .obtain⟨r,D⟩:=aB R;have F:=zeT k xs j r D;rw[<-h]at F;obtain⟨b,o,rfl,N⟩:=U.o.here (by rw[po];exact R:j < (qS k xs).length);obtain⟨T,ac,⟨d0,d1,d2,d3,d4⟩,G⟩:=N _ _ F;simp only[w_,nJ]at d0 d1 d2 d3 d4 G;obtain⟨ab,V,Z⟩:=dO (H.o r (aY D)) G D;clear N G D F h;go_wp2_with (go_at_call 46;refine(mN _ T ac r.row.length _ V.o ab.o Rr Rr).mono ?_;rintro e a4 ⟨rfl,rfl⟩)
   go_round
   case rel=>exact⟨j+1,Rr,Rt,by rw[rk xs j r Z.o,<-Int.add_assoc,<-I.o];congr 1;omega⟩
   case measure=>simp[intOf];omega
  .have Y:=zH (Rr:j=xs.length);clear h;go_wp2;go_ret
   exact⟨iB (by rw[I.o,Y.o,k_]),rfl⟩
theorem BG(x:ft)(A:aq)(cap:Nat)(w:aa)(J:aJ w A x.row)(N:x.row.length<=1048576):aw 72 (cy (fO x.k x.a x.b x.c A x.row.length cap)) w fun e w'=>∃h c2,e=.returned (.agg (fO x.k x.a x.b x.c h x.row.length c2))/\aD w' w.heap.size (.slice h x.row.length c2) x.row/\ag w w':=by
 have I:=zH (Rr:x.row.length<=1099511627776);clear N;go_enter func72,ntmps72
 go_wp2_with fail
 refine(ls _ _ _ _ (J.ext ((aj _ _).alloc Rq _ |>.alloc Rq _)) I.o).mono ?_;rintro e w' ⟨u2,rfl,F,D⟩;obtain⟨h,c2,rfl,_⟩:=F.view;obtain⟨⟨O,R,T,U,V⟩,Y,Z,ab,ac,ad⟩:=zdE D (b:=w.heap.size+1) (aC _ _ Rq);obtain⟨⟨am,ao,ap,a0,a1⟩,a2,a3,a4,a5,a6⟩:=zdE D (b:=w.heap.size) ((bJ _ _ Rq).trans (aC _ _ Rq));simp only[dt]at F;have H:=D.mono (B':=w.heap.size) Sp;have G:=((aj w.heap.size w).alloc Rq _ |>.alloc Rq _).trans H;obtain⟨H3,HB⟩:=bD F G;clear F G H D;go_wp2;refine aE (v:=.agg (fO x.k x.a x.b x.c h x.row.length c2)) (by simp[results,results72,go_sem, *]) rfl ⟨_,_,rfl,?_,?_⟩
 .exact Y8
 .exact Y6
theorem CF(xs:List ft)(ba:aq)(cb:Nat)(w:aa)(bb:fL w ba xs)(b8:xs.length<=3000)(bo:∀x∈xs,x.row.length<=1048576):aw 40 (aO ba xs cb) w fun e w'=>∃u,e=.returned u/\cK w' w.heap.size u xs/\ag w w':=by
 obtain⟨b5,b0⟩:=bD (fun h (a0:ag w h)=>bb.ext a0) bo;obtain⟨U,a1⟩:=aM xs.length;have R:=zH a1;rw[<-a1]at b8 ⊢;clear bb bo a1;go_enter func40,ntmps40
 go_wp2;go_loopw [3,8] (fun u i wr=>∃(k:Nat) (am:aq) (ao:Nat),k<=U/\i=.int .i64 k/\u=.slice am k ao/\cK wr w.heap.size u (xs.take k)/\ag w wr) (fun _ i _=>U-(intOf i).toNat)
 case atStart=>exact⟨0,none,0,aX _,rfl,rfl,cK.nil _ _,aj _ _⟩
 case round=>
  obtain⟨k,am,ao,ch,rfl,rfl,N,H⟩:=hrel;by_cases ci:k<U
  .obtain⟨x,T⟩:=aB (show k<xs.length by have:=R.o;omega);obtain⟨b,o,rfl,bg⟩:=(b5.o wr H).here (show k<xs.length by have:=R.o;omega);obtain⟨ad,ap,bp,bi⟩:=bg k x T;have ca:=bp;obtain⟨V,Y,Z,ab,ac⟩:=ca;have cj:=b0.o x (aY T);obtain⟨b4,EW⟩:=bD (show xs.take (k+1)=xs.take k++[x] from gY T) (show(xs.take k).length=k by rw[cG];have:=R.o;omega);obtain⟨J,F⟩:=bA wr (.cells (fO x.k x.a x.b x.c ad x.row.length ap) 97);obtain⟨a8,O,a7⟩:=dO (N.ext J) (H.trans (J.mono H.size)) (bi.ext J);clear bg bp T bi N H;go_upto_region 5 with(fail)
   generalize wr.alloc _=a5 at J F a8 O a7 ⊢;clear V Y Z ab ac J;have V:=aI F 0 rfl;have Y:=aI F 1 rfl;have Z:=aI F 2 rfl;have ab:=aI F 3 rfl;have ac:=aI F 4 rfl;have I:=aF V (aF Y (aF Z (aF ab ac)));have bz:=zH (fun h (a0:ag a5 h)=>jn ad ap x.row h (a7.o.ext a0) Rr);clear V Y Z ab ac F;refine cR (S:=fun h=>ae h wr.heap.size 0 (.int .i64 x.k)/\ae h wr.heap.size 1 (.int .i64 x.a)/\ae h wr.heap.size 2 (.int .i64 x.b)/\ae h wr.heap.size 3 (.int .i64 x.c)/\ae h wr.heap.size 4 (.slice ad x.row.length ap)) 14 RP I (fun hHeld=>?_);refine aP 0 ?_;simp only[Act.put,zA];refine aP 1 ?_;simp only[Act.put,zA];refine aP 2 ?_;simp only[Act.put,zA];refine aP 3 ?_;simp only[Act.put,zA];refine aP 4 ?_;simp only[Act.put,zA];refine aP 5 ?_;simp only[Act.put,zA];refine aP 6 ?_;simp only[Act.put,zA];refine aP 7 ?_;simp only[Act.put,zA];refine aP 8 ?_;simp only[Act.put,zA];refine aP 9 ?_;simp only[Act.put,zA];refine aP 10 ?_;simp only[Act.put,zA];refine cw 11 fun K hK=>?_
   go_simp;refine(bz.o _ (az _)).mono ?_;rintro e bq ⟨u2,rfl,a4,bc⟩;obtain⟨a6,c2,rfl,-,-,-⟩:=a4.view;obtain⟨D,a9⟩:=bD ((az a5).trans bc) (show aD bq a5.heap.size (.slice a6 x.row.length c2) x.row from a4);clear a4 bc;go_simp;refine hK.out _ _ (fun _=>iS D.o I) (fun hHeld=>?_);clear hK K hHeld;try simp only[Act.put,zA]
   refine cw 12 fun K hK=>?_
   go_simp;refine hK.out _ _ (fun _=>iS D.o I) (fun hHeld=>?_);clear hK K hHeld;try simp only[Act.put,zA]
   refine cw 13 fun K hK=>?_
   go_simp;refine hK.out _ _ (fun _=>iS (D.o.alloc D.o.size _) I) (fun hHeld=>?_);clear hK K hHeld;try simp only[Act.put,zA]
   refine cw 14 fun K hK=>?_
   obtain⟨us,a2⟩:=a8.o;obtain⟨b3,bv⟩:=bD (a2.ext D.o) (a2.fresh (a9.o));have b9:=O.o.size;have ck:=D.o.size;refine rX rfl (.tmp 12) (.tmp 25) rfl w.heap.size bq (.slice am k ao) (.slice a6 x.row.length c2) (xs.take k) us x b3.o (a9.o.mono b9) bv.o SQ Rr rfl rfl ?_;intro ce cc cn a3 b6 bd;rw[EW.o]at a3 ⊢;obtain⟨b2,bu⟩:=bD a3 bd;clear a3 b6 bd a2;refine hK.out _ _ (fun G=>absurd G Rs) (fun _=>?_);clear hK K;try simp only[Act.put,zA]
   refine cw 15 fun K hK=>?_
   go_simp;refine hK.out _ _ (fun G=>absurd G Rs) (fun _=>?_);clear hK K;try simp only[Act.put,zA]
   refine gN RP ?_ _;clear I;go_wp2;go_roundw
   case rel=>
    have G:=b2.o;rw[<-b4.o]at G;exact⟨k+1,_,_,Rr,Rt,rfl,⟨_,G⟩,((O.o.trans (D.o.mono O.o.size))).trans bu.o⟩
   case measure=>simp[intOf];omega
  .have b7:U=k:=Rr;subst b7;rw[cY (fD R.o.symm)]at N;obtain⟨b1,br⟩:=bD N H;clear N H;go_wp2;go_ret
   exact⟨_,rfl,b1.o,br.o⟩
def zdU(b:Bool)(xs:List ft)(J:Int)(w:aa)(e:Ending)(w':aa):Prop:=∃A c h G D H F I,e=.returned (.agg (vR b A xs c J h G D H F I))/\cK w' w.heap.size (.slice A xs.length c) xs/\ag w w'
theorem CG(b:Bool)(xs:List ft)(Y:Int)(bd a8 a9 ba:aq)(b6 bg bi bo:Nat)(w:aa)(db:fL w bd xs)(fo:xs.length<=3000)(dT:∀x∈xs,x.row.length<=1048576):aw 41 (cy (vR b bd xs b6 Y a8 bg a9 bi ba bo)) w (zdU b xs Y w):=by
 have bz:=((aj w.heap.size w).alloc (af _) (.cells (vR b bd xs b6 Y a8 bg a9 bi ba bo) 39)).alloc Rq (.cells dy 39);have ac:=(bJ (w.alloc (.cells (vR b bd xs b6 Y a8 bg a9 bi ba bo) 39)) (.cells dy 39) (k:=w.heap.size) Rq).trans (aC w _ rfl);have b3:=aC (w.alloc (.cells (vR b bd xs b6 Y a8 bg a9 bi ba bo) 39)) (.cells dy 39) (n:=w.heap.size+1) Rq;obtain⟨fb,es⟩:=bD (fun h (ci:ag w h)=>db.ext ci) dT;have b9:Hd (∀A c h,aw 71 #[.slice A 0 c] h fun e w'=>∃a4 c2,e=.returned (.slice a4 0 c2)/\ag h w'):=zH (fun A c h=>(ls A c [] h (au rfl) Rq).mono (by rintro e w' ⟨u,rfl,f6,D⟩;obtain⟨a4,c2,rfl,-⟩:=f6.view;exact⟨a4,c2,rfl,D⟩));obtain⟨b5,ck⟩:=aM xs.length;have bc:=zH ck;rw[<-ck]at fo bz ac b3 ⊢;clear db dT ck;go_enter func41,ntmps41
 go_upto_region 1 with(fail)
 generalize (w.alloc _).alloc _=W at bz ac b3 ⊢;have a0:=aI ac 0 rfl;have ao:=aI ac 1 rfl;have a1:=aI ac 2 rfl;have a2:=aI ac 3 rfl;have a3:=aI ac 4 rfl;have d5:=aI ac 5 rfl;obtain⟨bv,e3,c5⟩:=dO bz ac b3;have a5:=aF a0 (aF a1 (aF a2 (aF a3 d5)));clear bz ac b3 a0 ao a1 a2 a3 d5;go_cut [3] from 6 (fun b7 h=>∃G I T J U N V,b7=.pointer (some ⟨G,0,none⟩)/\aW h G #[.bool b,.slice none 0 0,.int .i64 Y,.slice I 0 T,.slice J 0 U,.slice N 0 V] 39/\W.heap.size<=G/\ag W h)
 case first=>
  go_region_held3 (fun h=>ae h w.heap.size 0 (.bool b)/\ae h w.heap.size 2 (.int .i64 Y)/\ae h w.heap.size 3 (.slice a8 0 bg)/\ae h w.heap.size 4 (.slice a9 0 bi)/\ae h w.heap.size 5 (.slice ba 0 bo))
   (((with_reducible refine iS (w:=W) ?_ a5);first|with_reducible exact aj _ _|with_reducible exact az _|with_reducible exact ak _ _|with_reducible exact(ak _ _).drew|with_reducible exact O.o|with_reducible exact F.o|with_reducible exact R.o|with_reducible exact O.o.alloc O.o.size _|with_reducible exact F.o.alloc F.o.size _|with_reducible exact R.o.alloc R.o.size _|with_reducible exact dp R.o (af _) _ _ _ _ _ _|with_reducible exact dp R.o O.o.size _ _ _ _ _ _|with_reducible exact dp R.o F.o.size _ _ _ _ _ _))
   ((first|(go_at_call 71;(with_reducible refine(b9.o _ _ _).mono ?_);rintro e cO ⟨N,V,rfl,D⟩;have R:Hd (ag W cO):=(by first|with_reducible exact zH (F.o.trans (D.mono F.o.size))|with_reducible exact zH ((F.o.alloc F.o.size _).trans (D.mono (F.o.alloc F.o.size _).size))|fail);(first|((with_reducible have H:=ah (ah (ah (ja W _) e4.o) c6.o) D);obtain⟨⟨cr,ct,cu,cz,cA,cB⟩,f0,f1,f2,f3,f4,f5⟩:=bB H;have HZ:=zH H;clear H)|((with_reducible have H:=ah (ah (aC cF _ rfl) c6.o) D);obtain⟨⟨cr,ct,cu,cz,cA,cB⟩,f0,f1,f2,f3,f4,f5⟩:=bB H;have HZ:=zH H;clear H)|((with_reducible have H:=ah (aC cI _ rfl) D);obtain⟨⟨cr,ct,cu,cz,cA,cB⟩,f0,f1,f2,f3,f4,f5⟩:=bB H;have HZ:=zH H;clear H)|skip);clear D)|(go_at_call 71;(with_reducible refine(b9.o _ _ _).mono ?_);rintro e cI ⟨J,U,rfl,D⟩;have F:Hd (ag W cI):=(by first|with_reducible exact zH (O.o.trans (D.mono O.o.size))|with_reducible exact zH ((O.o.alloc O.o.size _).trans (D.mono (O.o.alloc O.o.size _).size))|fail);have c6:=zH D;clear D)|(go_at_call 71;(with_reducible refine(b9.o _ _ _).mono ?_);rintro e cF ⟨I,T,rfl,D⟩;have O:Hd (ag W cF):=(by first|with_reducible exact zH ((az _).trans (D.mono (az _).size))|with_reducible exact zH ((ak _ _).drew.trans (D.mono (ak _ _).drew.size))|fail);have e4:=zH D;clear D)))
  all_goals
   go_wp2_with fail
   go_meet
   first
    |with_reducible exact⟨cO.heap.size,I,T,J,U,N,V,rfl,aC cO _ rfl,R.o.size,R.o.alloc R.o.size _⟩
    |with_reducible exact⟨cI.heap.size,I,T,J,U,N,V,rfl,dR HZ.o,F.o.size,dp R.o F.o.size _ _ _ _ _ _⟩
    |with_reducible exact⟨cF.heap.size,I,T,J,U,N,V,rfl,dR HZ.o,O.o.size,dp R.o O.o.size _ _ _ _ _ _⟩
    |with_reducible exact⟨W.heap.size,I,T,J,U,N,V,rfl,dR HZ.o,af _,dp R.o (af _) _ _ _ _ _ _⟩
 case rest=>
  obtain⟨G,I,T,J,U,N,V,rfl,H,dc,b1⟩:=hcut;obtain⟨ad,HZ,Fb,e5⟩:=fU b1 dc (show w.heap.size+2<=W.heap.size from(aT.1 c5.o).1) (ah c5.o b1);have c9:=zH (aT.1 H).1;have ao:=aI (ah e3.o b1) 1 rfl;clear b1 dc a5;go_wp2;go_loopw [23] (fun i wr=>∃k:Nat,k<=b5/\i=.int .i64 k/\(∃Z ab,aW wr G #[.bool b,.slice Z k ab,.int .i64 Y,.slice I 0 T,.slice J 0 U,.slice N 0 V] 39/\cK wr wc.heap.size (.slice Z k ab) (xs.take k))/\bn G (G+1) wc wr) (fun i _=>b5-(intOf i).toNat)
  case atStart=>exact⟨0,aX _,rfl,⟨none,0,H,cK.nil _ _⟩,bn.refl _ _ _⟩
  case round=>
   obtain⟨k,gb,rfl,⟨Z,ab,br,bq⟩,a7⟩:=hrel;clear H ao;have cj:ag w wr:=(bv.o.trans (ad.o.mono bv.o.size)).trans (a7.below UN (bv.o.trans (ad.o.mono bv.o.size)).size);have d1:=a7.size;by_cases gc:k<b5
   .obtain⟨x,b4⟩:=aB (show k<xs.length by have:=bc.o;omega);obtain⟨gi,gn,rfl,dq⟩:=(fb.o wr cj).here (show k<xs.length by have:=bc.o;omega);obtain⟨b8,cc,f7,dr⟩:=dq k x b4;obtain⟨a0,ao,a1,a2,a3⟩:=f7;have fs:=es.o x (aY b4);obtain⟨e7,EW⟩:=bD (show xs.take (k+1)=xs.take k++[x] from gY b4) (show(xs.take k).length=k by rw[cG];have:=bc.o;omega);obtain⟨bp,ap⟩:=bA wr (.cells (fO x.k x.a x.b x.c b8 x.row.length cc) 97);obtain⟨c4,fa,e1,fl⟩:=fU (dr.ext bp) a7 bq br;have gf:=(aT.1 br).1;have gg:G≠wr.heap.size:=Rr;clear dq b4 dr bq a7 br cj;go_upto_region 5 with(fail)
    generalize wr.alloc _=c0 at bp ap c4 ⊢;obtain⟨bu,ek⟩:=bD bp (fun h (ci:ag c0 h)=>BG x b8 cc h (c4.o.ext ci) fs);clear a0 ao a1 a2 a3;have a0:=aI ap 0 rfl;have ao:=aI ap 1 rfl;have a1:=aI ap 2 rfl;have a2:=aI ap 3 rfl;have a3:=aI ap 4 rfl;have cq:=ah fl.o bp;have fd:=zH cq;have d2:=aI cq 1 rfl;have a5:=aF d2 (aF a0 (aF ao (aF a1 (aF a2 a3))));clear a0 ao a1 a2 a3 bp ap cq d2;refine cR (S:=fun h=>ae h G 1 (.slice Z k ab)/\ae h wr.heap.size 0 (.int .i64 x.k)/\ae h wr.heap.size 1 (.int .i64 x.a)/\ae h wr.heap.size 2 (.int .i64 x.b)/\ae h wr.heap.size 3 (.int .i64 x.c)/\ae h wr.heap.size 4 (.slice b8 x.row.length cc)) 7 RP a5 (fun hHeld=>?_);refine aP 0 ?_;simp only[Act.put,zA];refine aP 1 ?_;simp only[Act.put,zA];refine aP 2 ?_;simp only[Act.put,zA];refine cw 3 fun K hK=>?_
    go_simp;refine(ek.o _ (az _)).mono ?_;rintro e d3 ⟨a4,c2,rfl,d0,dl⟩;have ca:=zH ((az c0).trans dl);obtain⟨F,c7⟩:=bD (bu.o.trans (ca.o.mono bu.o.size)) (show aD d3 c0.heap.size (.slice a4 x.row.length c2) x.row from d0);clear d0 dl;have am:=mx ca.o a5;go_simp;refine hK.out _ _ (fun _=>am) (fun hHeld=>?_);clear hK K hHeld;try simp only[Act.put,zA]
    refine cw 4 fun K hK=>?_
    go_simp;refine hK.out _ _ (fun _=>mx (ak _ _) am) (fun hHeld=>?_);clear hK K hHeld;try simp only[Act.put,zA]
    refine cw 5 fun K hK=>?_
    obtain⟨us,b2⟩:=e1.o;obtain⟨e2,eo⟩:=bD (b2.ext F.o) (b2.fresh (c7.o.mono bu.o.size));have bb:=zH (show some wr.heap.size≠(Value.slice Z k ab).ownBlock from fun e=>by have:=(b2.lt _ e.symm).2;omega)
    have fx:=F.o.size;have fz:=bu.o.size;refine rX rfl (.tmp 28) (.tmp 31) rfl wc.heap.size d3 (.slice Z k ab) (.slice a4 x.row.length c2) (xs.take k) us x e2.o (c7.o.mono (aR d1 fz)) eo.o SQ (aR d1 fx) rfl rfl ?_;intro ch ce d4 cn a6 b0;rw[EW.o]at cn ⊢;obtain⟨ev,f8,c8,e8⟩:=fU cn b0 ((b0.block G c9.o).trans (ah fd.o ca.o)) (show bn G (G+1) wc d4 from(fa.o.trans (bn.eu F.o)).low b0);obtain⟨⟨eg,c3,z2,b7,ei,ej⟩,d6,d7,d8,d9,ea,eb⟩:=bB c8.o;have cb:=aF c3 (aF (jd a6 am.2.1 bb.o) (aF (jd a6 am.2.2.1 bb.o) (aF (jd a6 am.2.2.2.1 bb.o) (aF (jd a6 am.2.2.2.2.1 bb.o) (jd a6 am.2.2.2.2.2 bb.o)))));clear cn a6 b0 b2;refine hK.out _ _ (fun _=>cb) (fun hHeld=>?_);clear hK K hHeld;try simp only[Act.put,zA]
    refine cw 6 fun K hK=>?_
    go_simp;refine hK.out _ _ (fun _=>cb) (fun hHeld=>?_);clear hK K hHeld;try simp only[Act.put,zA]
    refine cw 7 fun K hK=>?_
    go_simp;refine hK.out _ _ (fun fn=>absurd fn Rs) (fun _=>?_);clear hK K;try simp only[Act.put,zA]
    refine gN RP ?_ _;have cp:=bm d4 G 1 _ _ (.slice (some ⟨ch,0,none⟩) (k+1) ce) c8.o;simp only[zA]at cp;obtain⟨e6,ey,e9⟩:=dO cp (cK.setCell (a:=⟨G,1,none⟩) ⟨_,ev.o⟩ (by have:=c9.o;exact this) (.slice (some ⟨ch,0,none⟩) (k+1) ce)) (e8.o.nC (p:=⟨G,1,none⟩) (v:=.slice (some ⟨ch,0,none⟩) (k+1) ce) (af _) (gq _));clear cp a5 am cb eg c3 z2 b7 ei ej d6 d7 d8 d9 ea eb;go_wp2;go_roundw
    case rel=>exact⟨k+1,Rr,Rt,⟨_,_,e6.o,by rw[e7.o];exact ey.o⟩,e9.o⟩
    case measure=>simp[intOf];omega
   .obtain rfl:k=b5:=Rr;obtain⟨⟨eg,c3,z2,b7,ei,ej⟩,-⟩:=bB br;have co:=iY e5.o a7 (au UN);obtain⟨⟨cr,ct,cu,cz,cA,cB⟩,f0,f1,f2,f3,f4,f5⟩:=bB co;have ga:=HZ.o;have f9:=Fb.o;rw[cY (fD bc.o.symm)]at bq;have y:=dR (v0:=.bool b) (v1:=.slice Z k ab) (v2:=.int .i64 Y) (v3:=.slice I 0 T) (v4:=.slice J 0 U) (v5:=.slice N 0 V) co;obtain⟨⟨d6,d7,d8,d9,ea,eb⟩,-⟩:=bB y;have em:=zH (dp cj (b:=w.heap.size+1) Rr (.bool b) (.slice Z k ab) (.int .i64 Y) (.slice I 0 T) (.slice J 0 U) (.slice N 0 V));have e0:=zH (show cK (Dc wr (w.heap.size+1) (.bool b) (.slice Z k ab) (.int .i64 Y) (.slice I 0 T) (.slice J 0 U) (.slice N 0 V)) w.heap.size (.slice Z k ab) xs from
     cK.mono (B:=wc.heap.size) ((((((bq.setCell (by show w.heap.size+1<_;have:=ad.o.size;omega) _).setCell (by show w.heap.size+1<_;have:=ad.o.size;omega) _).setCell (by show w.heap.size+1<_;have:=ad.o.size;omega) _).setCell (by show w.heap.size+1<_;have:=ad.o.size;omega) _).setCell (by show w.heap.size+1<_;have:=ad.o.size;omega) _).setCell (by show w.heap.size+1<_;have:=ad.o.size;omega) _) (by have:=ad.o.size;omega))
    clear bq br co y a7;have gd:G≠w.heap.size+1:=Rr;go_wp2;refine aE (v:=.agg #[.bool b,.slice Z k ab,Y,.slice I 0 T,.slice J 0 U,.slice N 0 V]) (by simp[results,results41,go_sem, *]) rfl ?_;unfold zdU;rw[<-bc.o];exact⟨_,_,_,_,_,_,_,_,rfl,e0.o,em.o⟩
end Go.Proofs.YtpieilkmmiopfaaGreatDoor
