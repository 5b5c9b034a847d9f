/- Parts of the walks. Conditions: as stated with each. -/
import Derived.Test.YtdpgblncijojiaaGreatDoorPk30
namespace Go.Proofs.YtdpgblncijojiaaGreatDoor
open Go.RowKit Tryz
set_option linter.all false
set_option maxHeartbeats 16000000
set_option maxRecDepth 100000
variable{B b c i j k m n r x:Nat}{E w w' wr:aa}{H R RR U u v v1 v2 v3 v4 y z2:au}{RK p:Int}{T t:dG}{X:List cS}{l:bX}{q:Sy×List cS}{s:Sy}{us:bG}
def pj(l:bX):List Int:=l.map fun x:Nat=>(x:Int)
def ta(n k:Nat):List Nat:=(List.range n).map fun i=>if i<k then i else 0
def zbK(n:Nat):pj (ta n 0)=List.replicate n 0:=by
 unfold pj ta;apply fu;intro k;simp only[cp,ie];by_cases h:k<n
 .rw[lu h,ay h];simp
 .rw[fQ Sk,al h];rfl
def zea(n:Nat):ta n n=List.range n:=by
 unfold ta;apply fu;intro k;simp only[cp];by_cases h:k<n
 .rw[lu h];simp[h]
 .rw[fQ Sk];rfl
def zeb(h:k<n):(pj (ta n k)).set k (k:Int)=pj (ta n (k+1)):=by
 unfold pj ta;apply fu;intro i;rw[x_];simp only[bt,g_,cp];by_cases E:i<n
 .rw[lu E];by_cases z:k=i
  .subst z;simp[h]
  .rw[al z];simp only[sd];congr 2
   by_cases D:i<k
   .rw[ay D,ay RU]
   .rw[al D,al RU]
 .rw[al RU,fQ Sk];rfl
def swap_perm{y:Nat}(h:l.Perm (List.range n))(hi:l[i]?=some x)(E:l[j]?=some y):((l.set i y).set j x).Perm (List.range n):=by obtain⟨z,rfl⟩:=bA.1 hi;obtain⟨D,rfl⟩:=bA.1 E;exact(List.set_set_perm z D).trans h
def zaj(h:(pj l)[k]?=some RK):∃x:Nat,l[k]?=some x/\RK=x:=by unfold pj at h;rw[cp]at h;obtain⟨x,z,D⟩:=pV.1 h;exact⟨x,z,D.symm⟩
def zak(l:bX)(k x:Nat):(pj l).set k (x:Int)=pj (l.set k x):=by unfold pj;rw[h_]
def zal(C:Code)(b m:Nat)(w:aa)(n:Nat)(I:cH C b m w)(b8:m<=274877906944)(b9:n<=1024):aw 159 (lO (aY b) n) w (kM C b (m+4096) (fun w' v=>∃(l:bX) (g:Nat),l.Perm (List.range n)/\v=.slice (aY g) n n/\xA w n g (pj l) w') w):=by
 obtain⟨b1,hi,bz,b0,Es⟩:=cU fI;obtain⟨H,bd⟩:=bS I.lt I;have a6:IntKind.i64.wrap ((n:Int)-1)=(n:Int)-1:=SQ;clear I;go_enter func159,ntmps159
 go_wp2_with ((at_make;refine jg _ rfl _ _ 27 rfl w.heap.size 3 b1 (zI 0) 1 dS hi bz b0 .i64 .i64 n n n rfl rfl rfl rfl SW TS (ag _) ?_;intro b2 O a3))
 rw[ig,<-zbK]at O;obtain⟨R,ab⟩:=bS (show xA w n w (pj (ta n 0)) b2 from⟨O,by simp[pj,ta]⟩) (cd a3);clear O a3;go_loopw [14] (fun i wr=>∃k:Nat,k<=n/\i=.int .i64 k/\Hd (xA w n w (pj (ta n k)) wr)/\Hd (ai w wr)) (fun i _=>n-(intOf i).toNat)
 case atStart=>exact⟨0,bf _,rfl,R,ab⟩
 case round=>
  obtain⟨k,b7,rfl,D,E⟩:=hrel;clear R ab;by_cases a4:k<n
  .obtain⟨b6,y,-,b5⟩:=D.o.at a4;clear a6;go_wp2;go_roundw
   case rel=>exact⟨k+1,RU,RW,zH (by rw[<-zeb a4];exact D.o.put k k),zH (E.o.setCell (p:=⟨w,k,none⟩) (ag _) _)⟩
   case measure=>simp[intOf];omega
  .obtain rfl:n=k:=RU;obtain⟨ac,am,U⟩:=d_ (bd.ext E.o) (show w.grownBy wr (some b) from aN E.o) (show xA w n w (pj (List.range n)) wr by have:=D.o;rwa[zea]at this);clear D E;obtain⟨a9,rfl⟩:∃a9,a9=wr:=⟨wr,rfl⟩;go_wp2;go_loopw [7] (fun i wr=>∃(z:Int) (l:bX),-1<=z/\z<n/\i=.int .i64 z/\Hd (l.Perm (List.range n))/\Hd (xA w n w (pj l) wr)/\Hd (cH C b (m+(n-z).toNat*2) wr)/\Hd (w.grownBy wr (some b))) (fun i _=>(intOf i).toNat)
   case atStart=>exact⟨(n:Int)-1,List.range n,RU,RU,rfl,zH (List.Perm.refl _),U,zH (ac.mono RU),am⟩
   case round=>
    obtain⟨z,l,bv,ce,rfl,ap,Y,ad,ao⟩:=hrel;clear U ac am;by_cases b4:0<z
    .obtain⟨j,rfl⟩:∃j:Nat,z=j:=⟨z.toNat,RU⟩;have bp:j<n:=RU;have cb:IntKind.i64.wrap ((j:Int)+1)=(j:Int)+1:=SQ;have cc:IntKind.i64.wrap ((j:Int)-1)=(j:Int)-1:=SQ;have HM:=zH (RU:m+((n:Int)-j).toNat*2<=549755813000);have bm:=zH (dg C b _ wr ((j:Int)+1) ad To);clear bv a6;go_upto_region 11 with(go_at_call 88;(with_reducible refine bm.o.mono ?_);rintro e b3 ⟨v,rfl,⟨r,rfl,br,-⟩,a2,J⟩;have a5:r<n:=RU;have F:=Y.o.drawn J H.o;obtain⟨f1,ch,a0,c1⟩:=F.at bp;obtain⟨f2,ci,a1,c2⟩:=F.at a5;have Z:=zH F;have be:=zH a2;have bi:=zH (ao.trans J);clear a2 J F br)
     obtain⟨ba,a7,rfl⟩:=zaj a0;obtain⟨Q,a8,rfl⟩:=zaj a1;obtain⟨f3,cj,-,c3⟩:=(Z.o.put j (Q:Int)).at a5;obtain⟨bo,bb⟩:=bS (swap_perm ap a7 a8) (by rw[<-zak,<-zak];exact(Z.o.put j (Q:Int)).put r (ba:Int):xA w n w (pj ((l.set j Q).set r ba)) _);clear a0 a1 a7 a8;go_wp2;go_roundw
     case rel=>exact⟨(j:Int)-1,_,RU,RU,TL,bo,bb,zH ((be.nR fun q ca=>(bw _ _ _ _ (by show q≠w.heap.size;have:=H.o;omega)).trans (bw _ _ _ _ (by show q≠w.heap.size;have:=H.o;omega))).mono RU),zH (je bi (((aj w b3).setCell (p:=⟨w,j,none⟩) (ag _) _).setCell (p:=⟨w,r,none⟩) (ag _) _))⟩
     case measure=>simp[intOf];omega
    .go_wp2;go_ret
     refine⟨_,rfl,?_,ad.mono RU,ao⟩;exact⟨l,ap,w,rfl,Y.o⟩
def jU.ep{w w':aa}{B B' s n:Nat}{T:dG}{u v:au}{ys:List Sy}{us xs:bG}(h:jU w B u ys us)(E:26≠T)(F:27≠T)(H:3≠T)(D:w.ownsRow B' T s v n xs)(z:w.grownBy w' v.ownBlock):jU w' B u ys us:=⟨h.len,hJ h.outer z (iI E h.outer D),fun k O r J I=>(h.each k O r J I).ep F H D z⟩
def jU.at3{g cap:Nat}{ys:List Sy}{y:Sy}(D:n=ys.length)(h:jU w B (.slice (aY g) n cap) ys us)(hy:ys[k]?=some y):∃A c,(ah w g (k*3) (zI y.v)/\ah w g (k*3+1) (zI y.h)/\ah w g (k*3+2) (.slice A y.rows c))/\aX w A y.rows:=by
 subst D;have H:=(bA.1 hy).1;obtain⟨u,hu,E⟩:=h.get hy;obtain⟨A,c,rfl,F,_⟩:=E.view;have z:∀j,j<3->w.cell? ⟨g,k*3+j,none⟩=(fW y (.slice A y.rows c))[j]?:=fun j h5=>Wo
 exact⟨A,c,⟨z 0 RX,z 1 RX,z 2 RX⟩,F⟩
def BW(p:Int)(s:Sy)(xs:List cS):List cS:=if gP p s xs=true then(qJ p s xs xs).reverse else[]
def nM{xs:List cS}:gP p s xs=true↔s.Ok p/\xs.length<=3000/\bO p s xs=xs.length:=by unfold gP;rw[bC,mw,cK,and_assoc]
def zil(p:Int)(s:Sy)(xs:List cS):(BW p s xs).length<=1048576/\∀r∈BW p s xs,r.row.length<=1048576:=by
 unfold BW;split
 .rename_i h;obtain⟨z,E,F⟩:=nM.1 h;refine⟨by rw[List.length_reverse,oY];omega,fun r D=>?_⟩;have:=zdf z RU r (List.mem_reverse.1 D);omega
 .simp
def zbL(p:Int)(s:Sy)(A:an)(cap:Nat)(xs:List cS)(U:an)(ao:Nat)(w:aa)(ab:dm w)(ac:aX w A s.rows)(be:s.rows.length<=1048576)(a2:∀r∈s.rows,r.length<=1048576)(H:eD w U xs)(bi:xs.length<=1048576)(a3:∀x∈xs,x.row.length<=1048576):aw 20 (jv p (ae s.v s.h A s.rows cap) U xs ao) w (iC (BW p s xs) (gP p s xs) w):=by
 have J:=zH ((aj w w).alloc (ag _) (.cells (ae s.v s.h A s.rows cap) 26));have O:=zH (og p s A cap xs _ U ao (ab.ext J.o) (ac.ext J.o) be a2 bi);have a5:(w.alloc (.cells (ae s.v s.h A s.rows cap) 26)).heap[w.heap.size]?=some (.cells (ae s.v s.h A s.rows cap) 26 (0,0)):=az _ _ rfl;obtain⟨ap,a9,ba,bd,a8⟩:=lv a5 ab ac H a3;clear ab ac H a2 a3 a5;cases I:sC p s xs.length with
 |false=>
  have Fe:=zH I;rw[I]at O;clear I;have z:gP p s xs=false:=Us;have E:BW p s xs=[]:=by unfold BW;rw[z,al RX]
  rw[z,E];clear z E;go_enter func20,ntmps20
  go_wp2_with (go_at_call 47;refine O.mono ?_;rintro e a7 ⟨rfl,D⟩;have F:=zH (af J.o D);clear D)
  exact ax (v:=.tuple lN) U7 rfl (iC.mk rfl (cB.nil _ _) F.o)
 |true=>
  have Fe:=zH I;rw[I]at O;clear I;obtain⟨a4,bm⟩:=mw.1 Fe;have a0:=zH (fun(W:aa) (ad:ai w W)=>z_ p s A cap xs W U ao (a9.ext ad) (ba.ext ad) (bd.ext ad) a4 bm a8);clear a4;have a1:=fj p xs s;by_cases am:bO p s xs<xs.length
  .have Z:=zH (show ∀W e w',ze2 p s xs W e w'->e=.returned (.tuple lN)/\ai W w' from fun W e w' h=>⟨h.1 am,h.2.2⟩);have z:gP p s xs=false:=U_;have E:BW p s xs=[]:=by unfold BW;rw[z,al RX]
   rw[z,E];clear am a1 z E;go_enter func20,ntmps20
   go_wp2_with (first|(go_at_call 47;refine O.mono ?_;rintro e a7 ⟨rfl,D⟩;have F:=zH (af J.o D);obtain⟨d0,d1,d2⟩:=aq (ak ap D);clear D)|(go_at_call 51;refine(a0.o _ F.o).mono ?_;rintro e bo R;obtain⟨rfl,Q⟩:=Z.o _ _ _ R;have Y:=zH (af F Q);clear Q R d0 d1 d2))
   exact ax (v:=.tuple lN) U7 rfl (iC.mk rfl (cB.nil _ _) Y.o)
  .have z:gP p s xs=true:=Wf;obtain⟨X,H⟩:=aO ((qJ p s xs xs).reverse);have E:BW p s xs=X:=by unfold BW;rw[ay z,H]
   have Z:=zH (show ∀W e w',ze2 p s xs W e w'->∃(A:an) (n c:Nat),e=.returned (.tuple (pO A n c))/\cB w' W.heap.size (.slice A n c) X/\ai W w' from fun W e w' h=>by obtain⟨A2,c2,z,E⟩:=h.2.1 RU;rw[H];exact⟨_,_,_,z,E,h.2.2⟩)
   rw[z,E];clear am a1 z E H;go_enter func20,ntmps20
   go_wp2_with (first|(go_at_call 47;refine O.mono ?_;rintro e a7 ⟨rfl,D⟩;have F:=zH (af J.o D);have bp:=zH D.size;obtain⟨d0,d1,d2⟩:=aq (ak ap D);clear D)|(go_at_call 51;refine(a0.o _ F.o).mono ?_;rintro e bo R;obtain⟨A2,n2,c2,rfl,a6,Q⟩:=Z.o _ _ _ R;have Y:=zH (af F Q);have bb:=zH (a6.mono (B':=w.heap.size) F.size);clear Q R d0 d1 d2 a6))
   exact ax (v:=.tuple (pO A2 n2 c2)) U7 rfl (iC.mk rfl bb.o Y.o)
def jn(T:dG)(w wr:aa)(b:Nat)(p:Int)(s:Sy)(X:List cS):Prop:=
 (w:Nat)<=b/\ai w wr/\∃A c z D us,aU wr b (BY p s A c z X D) T/\Kept w wr (b+1) A c s.rows/\
  bq wr (b+1) (.slice z X D) X us
def zeh(h:aU w b #[H,R,z2,U,RR] t):(((w.setCell ⟨b,1,none⟩ v1).setCell ⟨b,2,none⟩ v2).setCell ⟨b,3,none⟩ v3).heap[b]?=some (.cells #[H,v1,v2,v3,RR] t (0,0)):=by have z:=bs w b 1 _ _ v1 h;have D:=bs _ b 2 _ _ v2 z;have E:=bs _ b 3 _ _ v3 D;simpa using E
def zhb(h:aU w b #[H,R,z2,U,RR] t):(w.setCell ⟨b,4,none⟩ v4).heap[b]?=some (.cells #[H,R,z2,U,v4] t (0,0)):=by have z:=bs w b 4 _ _ v4 h;simpa using z
def lM{x:au}(h:aU w b #[x,y,H,u,v] t):w.frozen? ⟨b,0,none⟩=false/\w.frozen? ⟨b,1,none⟩=false/\w.frozen? ⟨b,2,none⟩=false/\w.frozen? ⟨b,3,none⟩=false/\w.frozen? ⟨b,4,none⟩=false:=by obtain⟨_,z,D,E,F,I⟩:=jk (aj _ _) h;exact⟨z,D,E,F,I⟩
def zao(h:Below b w w')(v0 v1 v2:au):Below b w (((w'.setCell ⟨b,1,none⟩ v0).setCell ⟨b,2,none⟩ v1).setCell ⟨b,3,none⟩ v2):=((h.setCell (ag _) _).setCell (ag _) _).setCell (ag _) _
def BX(w wr:aa)(b:Nat)(p:Int)(s:Sy)(X:List cS)(r c:Nat)(h:jn 119 w wr b p s X)(I:s.Ok p)(a2:r<=s.rows.length)(ba:(c:Int)<s.v+s.h):aw 100 #[.pointer (aY b),r,c] wr fun e w'=>e=.returned (zI (dU s c r:Nat))/\wr=w':=by
 obtain⟨_,R,A,a8,a4,a7,us,z,am,_⟩:=h;have a0:=zH (am.rows R);have ao:=I.small;have bi:s.rows.length<=160:=ao.n;have ap:=zH (show ∀q∈s.rows,c<q.length from fun q z=>by have:=Sys.len I q z;omega);obtain⟨br,bv,bz,b0,b1⟩:=bH z;clear z am R I ao;go_enter func100,ntmps100
 go_wp2;go_loop [1] (fun i=>∃j:Nat,r<=j/\j<=s.rows.length/\i=.int .i64 j/\Hd (∀k,r<=k->k<j->gS s k c=0)) (fun i=>s.rows.length-(intOf i).toNat)
 case atStart=>exact⟨r,ag _,a2,rfl,zH (fun k Q a1=>RU)⟩
 case round=>
  obtain⟨j,ac,ad,rfl,F⟩:=hrel;by_cases H:j<s.rows.length
  .obtain⟨q,z⟩:=aB H;have Z:=ap q (a_ z);obtain⟨x,J⟩:=aB Z;obtain⟨a6,o,rfl,U⟩:=a0.here H;obtain⟨a3,a9,bd,ab⟩:=U j q z;obtain⟨a5,bp,rfl,Y⟩:=ab.here Z;have be:=Y c x J;have O:=zH (zbP z J);have bb:(c:Int) < (q:Int):=RU;clear z J U ab Y;by_cases D:x=0
   .subst D;go_wp2;go_round
    case rel=>exact⟨j+1,RU,RU,RW,zH (fun k Q a1=>by
     rcases qi k j with h|h
     .exact F k Q h
     .rw[show k=j by omega];exact O)⟩
    case measure=>simp[intOf];omega
   .have bm:(x !=0)=true:=by simp[D]
    have bo:(x==0)=false:=by simp[D]
    have E:=zH (AE ac ad F (fun _=>by rw[O.o];exact D));go_wp2;go_ret
    exact⟨mO (by rw[E.o]),rfl⟩
  .have E:=zH (AE ac ad F (fun h=>absurd h H));go_wp2;go_ret
   exact⟨mO (by rw[E.o]),rfl⟩
def nN(w wr:aa)(z:Nat)(p:Int)(s:Sy)(X:List cS)(k a b c:Int)(h:jn 119 w wr z p s X)(b8:s.Ok p)(b7:eI p s ⟨k,a,b,c,[]⟩=true)(c4:X.length<=1000000):aw 101 #[.pointer (aY z),.agg (vl k a b c)] wr fun e w'=>e=.returned (.tuple #[])/\jn 119 w w' z p (cE p s ⟨k,a,b,c,[]⟩) (X++[⟨k,a,b,c,[]⟩])/\Below z wr w':=by
 obtain⟨ce,b2,A,b0,a0,a3,us,be,b6,b9⟩:=h;have a9:=zH (fun(A cap W cR)=>CL p s ⟨k,a,b,c,[]⟩ A cap W none 0 cR (aF rfl) b8 b7);simp only[ix]at a9;obtain⟨ap,cb⟩:=aO (cE p s ⟨k,a,b,c,[]⟩);rw[<-cb]at a9 ⊢;have c5:z < (wr:Nat):=(aM.1 be).1;obtain⟨cu,cn,Hm,bo⟩:=fU be b6 b9 b2;clear be b6 b9 b2 b8 b7 cb;go_enter func101,ntmps101
 go_wp2;obtain⟨a2,Fu⟩:=aO (wr.alloc (.cells (vl k a b c) 29));rw[<-Fu];have a4:ai wr a2:=VX;have bi:aU a2 wr (vl k a b c) 29:=UA;obtain⟨a8,cO,a6,co⟩:=fU a4 bi (ak cu a4) ((cn.ext a4).rows (af bo a4));obtain⟨Q,R,U,Y,J⟩:=bH a6;obtain⟨D,E,F,H,I⟩:=bH bi;clear a4 bi Fu;refine bJ (S:=fun W=>ah W z 0 (zI p)/\ah W z 1 (zI s.v)/\ah W z 2 (zI s.h)/\ah W z 3 (.slice A s.rows b0)/\ah W wr 0 (zI k)/\ah W wr 1 (zI a)/\ah W wr 2 (zI b)/\ah W wr 3 (zI c)/\ah W wr 4 (.slice none 0 0)) 13 Si ⟨Q,R,U,Y,D,E,F,H,I⟩ (fun hHeld=>?_);refine aC 0 ?_;refine aC 1 ?_;refine aC 2 ?_;refine aC 3 ?_;refine aC 4 ?_;refine aC 5 ?_;refine aC 6 ?_;refine aC 7 ?_;refine aC 8 ?_;refine aC 9 ?_;refine bM 10 fun K hK=>?_
 go_simp;refine(a9.o _ _ _ (co.ext (aj _ _).drew)).mono ?_;rintro e bm ⟨A2,c2,rfl,cc,b1⟩;obtain⟨Z,cF,a1⟩:=d_ ((aj a2 a2).drew.trans b1) cc (fun w' (h:ai a2 w')=>(⟨av h Q,av h R,av h U,av h Y,av h D,av h E,av h F,av h H,av h I⟩:ah w' z 0 (zI p)/\ah w' z 1 (zI s.v)/\ah w' z 2 (zI s.h)/\ah w' z 3 (.slice A s.rows b0)/\ah w' wr 0 (zI k)/\ah w' wr 1 (zI a)/\ah w' wr 2 (zI b)/\ah w' wr 3 (zI c)/\ah w' wr 4 (.slice none 0 0)));clear cc b1 D E F H I Q R U Y J;go_simp;refine hK.out _ _ (fun _=>a1.o _ Z.o) (fun hHeld=>?_);clear hK K;try simp only[Act.put,zA]
 have hHeld:=hHeld RX;refine aC 11 ?_;refine aC 12 ?_;obtain⟨Q,R,U,Y,J⟩:=bH (ak a6 Z.o);obtain⟨f0,f1,f2,f3,f4⟩:=lM (ak a6 Z.o);refine bM 13 fun K hK=>?_
 go_simp;refine hK.out _ _ (fun h=>absurd h RX) (fun _=>?_);clear hK K hHeld a1 Q R U Y J f0 f1 f2 f3 f4;try simp only[Act.put,zA]
 refine eC Si ?_ _;obtain⟨O,ao⟩:=aO (((bm.setCell ⟨z,1,none⟩ (zI ap.v)).setCell ⟨z,2,none⟩ (zI ap.h)).setCell ⟨z,3,none⟩ (.slice A2 ap.rows c2));rw[<-ao];have c6:=a8.size;have c7:=Z.o.size;have ab:∀j,j≠z->O.heap[j]?=bm.heap[j]?:=fun j bd=>by rw[ao,cm _ _ _ _ SJ,cm _ _ _ _ SJ,cm _ _ _ _ SJ]
 obtain⟨bv,cz⟩:=bS (by rw[ao];exact zeh (ak a6 Z.o):aU O z (BY p ap A2 c2 a0 X a3) 119) (by rw[ao];simp:(O:Nat)=bm);have ba:aU O wr (vl k a b c) 29:=(ab _ RU).trans (ak cO Z.o);have b4:Below z wr O:=by have:=(cC a8 Z.o).mono (B':=z) RU;rw[ao];exact zao this _ _ _
 obtain⟨cj,ct,cI⟩:=d_ b4 (((Hm.ext (cC a8 Z.o))).same (fun j bd=>ab j RU)) ((cF.mono (B':=z+1) Sk).same (fun j bd=>ab j RU));obtain⟨Q,R,U,Y,J⟩:=bH bv;obtain⟨D,E,F,H,I⟩:=bH ba;have bz:=zH ba;clear ab ba b4 ao;go_wp2;refine bJ (S:=fun W=>ah W z 4 (.slice a0 X a3)/\ah W wr 0 (zI k)/\ah W wr 1 (zI a)/\ah W wr 2 (zI b)/\ah W wr 3 (zI c)/\ah W wr 4 (.slice none 0 0)) 10 Si ⟨J,D,E,F,H,I⟩ (fun hHeld=>?_);refine aC 0 ?_;refine aC 1 ?_;refine aC 2 ?_;refine aC 3 ?_;refine aC 4 ?_;refine aC 5 ?_;refine bM 6 fun K hK=>?_
 have a1:=zH (fun w' (h:ai O w')=>(⟨av h J,av h D,av h E,av h F,av h H,av h I⟩:ah w' z 4 (.slice a0 X a3)/\ah w' wr 0 (zI k)/\ah w' wr 1 (zI a)/\ah w' wr 2 (zI b)/\ah w' wr 3 (zI c)/\ah w' wr 4 (.slice none 0 0)));go_simp;refine hK.out _ _ (fun _=>a1.o _ ((aj _ _).drew.alloc (ag _) _)) (fun hHeld=>?_);clear hK K Q R U Y J D E F H I;try simp only[Act.put,zA]
 have hHeld:=hHeld RX;refine bM 7 fun K hK=>?_
 have br:=zH (ct.ext (aj _ _).drew);refine zN rfl (.tmp 21) (.tmp 23) rfl (z+1) O.drew (.slice a0 X a3) (.slice none 0 0) X us ⟨k,a,b,c,[]⟩ br.o (ar.nil _ _) (fun b c0=>by cases c0) RU (by have:=cz.o;simp;omega) rfl rfl ?_;intro am ad ac ca bb a5;have a7:aU ac z (BY p ap A2 c2 a0 X a3) 119:=(a5.block z RU).trans bv;have ch:aU ac wr (vl k a b c) 29:=(bb.block wr (by have:=(aM.1 bz).1;exact this) (fun e=>VN)).trans bz;obtain⟨cr,ck,ci,cy⟩:=fU ca bb a5 a7;obtain⟨Q,R,U,Y,J⟩:=bH a7;obtain⟨f0,f1,f2,f3,f4⟩:=lM a7;obtain⟨D,E,F,H,I⟩:=bH ch;clear ca bb a5 a7 ch;refine hK.out _ _ (fun _=>⟨J,D,E,F,H,I⟩) (fun hHeld=>?_);clear hK K D E F H I;try simp only[Act.put,zA]
 have hHeld:=hHeld RX;refine aC 8 ?_;refine aC 9 ?_;refine bM 10 fun K hK=>?_
 go_simp;refine hK.out _ _ (fun h=>absurd h RX) (fun _=>?_);clear hK K hHeld a1 Q R U Y J f0 f1 f2 f3 f4;try simp only[Act.put,zA]
 refine eC Si ?_ _;have b5:jn 119 w (ac.setCell ⟨z,4,none⟩ (.slice (aY am) (X.length+1) ad)) z p ap (X++[⟨k,a,b,c,[]⟩])/\Below z wr (ac.setCell ⟨z,4,none⟩ (.slice (aY am) (X.length+1) ad)):=by
  have a5:Below z wr ac:=cj.trans ((show Below z O O.drew from⟨rfl,rfl,rfl,ag _,fun _ _=>rfl⟩).trans (ci.mono RU));have b3:=a5.setCell (p:=⟨z,4,none⟩) (ag _) (.slice (aY am) (X.length+1) ad);have ab:∀j,z+1<=j->(ac.setCell ⟨z,4,none⟩ (.slice (aY am) (X.length+1) ad)).heap[j]?=ac.heap[j]?:=fun j bd=>cm _ _ _ _ SJ
  refine⟨⟨ce,bo.trans (b3.mono ce),A2,c2,some ⟨am,0,none⟩,ad,us++[.slice none 0 0],?_,aA ?_,?_⟩,b3⟩
  .have:=zhb (v4:=.slice (aY am) (X.length+1) ad) cy;simpa using this
  .exact((cI.ext (aj _ _).drew).ep RX RX br.outer ck).same ab
  .have:=cr.same ab;simpa using this
 have bp:=zH b5;clear b5;go_wp2;go_end0
 exact⟨rfl,bp.1,bp.2⟩
def jn.ext(h:jn T w wr b p s X)(z:ai wr E):jn T w E b p s X:=by obtain⟨H,I,A,c,D,F,us,Q,J,O⟩:=h;exact⟨H,af I z,A,c,D,F,us,ak Q z,J.ext z,O.ext z⟩
def jn.lt(h:jn T w wr b p s X):b < (wr:Nat):=by obtain⟨F,H,A,c,D,E,us,z,I,J⟩:=h;exact(aM.1 z).1
def jn.cells(h:jn T w wr b p s X)(J:s.Ok p)(hi:i<s.rows.length)(a5:(c:Int)<s.v+s.h):∃H D o z F n2 c2,ah wr b 0 (zI p)/\ah wr b 1 (zI s.v)/\ah wr b 2 (zI s.h)/\ah wr b 3 (.slice (some ⟨D,o,none⟩) s.rows H)/\ah wr D (o+i) (.slice (some ⟨z,F,none⟩) n2 c2)/\c<n2/\n2<=1000/\ah wr z (F+c) (zI (gS s i c)):=by obtain⟨_,R,A,H,a3,a4,us,ad,ac,_⟩:=h;obtain⟨ao,ap,a0,a1,a7⟩:=bH ad;obtain⟨q,E⟩:=aB hi;have a6:=Sys.len J q (a_ E);have am:=J.small.len q (a_ E);have I:c<q.length:=RU;obtain⟨x,O⟩:=aB I;obtain⟨D,o,rfl,U⟩:=(ac.rows R).here hi;obtain⟨a2,Q,Z,ab⟩:=U i q E;obtain⟨z,F,rfl,Y⟩:=ab.here I;exact⟨H,D,o,z,F,q,Q,ao,ap,a0,a1,Z,I,am,by rw[zbP E O];exact Y c x O⟩
def xF(p:Int)(a c:Nat)(iv:Int)(q:Sy×List cS):∀i,(tc p a c iv i q).2.length<=q.2+i
 |0=>ag _
 |i+1=>by
  have:=xF p a c iv q i;unfold tc;split
  .simp[push];omega
  .omega
def zha{y:Int}(z:0<p):(p-y%p)%p=(-y)%p:=by rw[show p-y%p=-(y%p)+p by omega,Int.add_emod_right];have h:=Int.emod_add_mul_ediv y p;rw[show -y=-(y%p) + -(y / p)*p by rw[vw,kh (y / p) p];omega,Int.add_mul_emod_self_right]
def zio{x y:Int}(z:0<=x)(D:x<=97)(E:0<=y)(F:y<=97):0<=x*y/\x*y<=9409:=zb7 z D E F
def pk(w E:aa)(z:Nat)(p:Int)(s:Sy)(X:List cS)(a c:Nat)(h:jn 119 w E z p s X)(D:s.Ok p)(ab:a<s.rows.length)(Q:(c:Int)<s.v+s.h)(ch:gS s a c≠0)(d4:X.length<=900000):aw 102 #[.pointer (aY z),a,c] E fun e w'=>e=.returned (.tuple #[])/\jn 119 w w' z p (tc p a c (fD p (gS s a c)) s.rows (s,X)).1 (tc p a c (fD p (gS s a c)) s.rows (s,X)).2/\Below z E w':=by
 have ea:=D.small.n;have am:=Sys.p2 D;have ci:=Sys.p97 D;have ad:=tb D ab Q;obtain⟨F,ac⟩:=aO (gS s a c);rw[<-ac]at ad ch ⊢;have c9:0<=F:=ad.1;have da:1<=F:=RU;have cc:F<p:=ad.2;have cF:=zH (Sys.f D);obtain⟨bd,d1,d2⟩:=mf cF da cc;obtain⟨iv,ce⟩:=aO (fD p F);have b6:=zH (fun(W:aa)=>(vU p F _ am ci c9 cc:aw 103 (bP p F) W _));rw[<-ce]at b6 bd d1 d2 ⊢;have b1:=zH bd;obtain⟨b7,g,o,a5,be,n2,c2,a0,cr,ct,bi,bm,c8,dl,z2⟩:=h.cells D ab Q;rw[<-ac]at z2;obtain⟨bv,b0,cO⟩:=d_ ac h D;have d9:=h.lt;clear bd ac ce ad h D ch;have f0:∀W:Ext E,ah W.W z 0 (zI p):=fun W=>W.cell a0
 have f3:∀W:Ext E,ah W.W z 3 (.slice (some ⟨g,o,none⟩) s.rows b7):=fun W=>W.cell bi
 have c4:∀W:Ext E,ah W.W g (o+a) (.slice (some ⟨a5,be,none⟩) n2 c2):=fun W=>W.cell bm
 have c5:∀W:Ext E,ah W.W a5 (be+c) (zI F):=fun W=>W.cell z2
 have d6:(a:Int) < (s.rows:Int):=RU;have d8:(c:Int) < (n2:Int):=RU;have d5:(0:Int)<=(a:Int):=RU;have d7:(0:Int)<=(c:Int):=RU;clear a0 cr ct bi bm z2;go_enter func102,ntmps102
 go_wp2;refine bV Si Si ?_
 repeat (go_big_quiet_step ((go_at_call 103;exact Calls.cQ (b6.o _))))
 refine dF ?_;rintro _ ⟨W,rfl⟩;obtain⟨a1,a3⟩:=bS W.ok (b0.ext W.ok);have co:=f3 W;obtain⟨ek,ck⟩:=aO W.W;rw[<-ck]at a1 a3 co ⊢;clear f0 f3 c4 c5 ck b0;go_wp2;clear co;go_loopw [31] (fun i wr=>∃k:Nat,k<=s.rows.length/\i=.int .i64 k/\jn 119 w wr z p (tc p a c iv k (s,X)).1 (tc p a c iv k (s,X)).2/\Below z E wr)
  (fun i _=>s.rows.length-(intOf i).toNat)
 case atStart=>exact⟨0,bf _,rfl,a3,a1.mono RU⟩
 case round=>
  obtain⟨k,db,rfl,ao,b9⟩:=hrel;clear a3 a1;have H:=xp (p:=p) (a:=a) (c:=c) (iv:=iv) (X:=X) cO ab Q (by rw[<-bv.o];exact b1) k db;have a8:=xF p a c iv (s,X) k;obtain⟨t,ba⟩:=aO ((tc p a c iv k (s,X)).1);obtain⟨O,a7⟩:=aO ((tc p a c iv k (s,X)).2);rw[<-ba]at ao H;rw[<-a7]at ao a8;have c6:O.length<=1000000:=by dsimp only at a8;omega
  obtain⟨b4,b5,cz,U,J,a2⟩:=mA ba a7 H b9 ao H.ok;have dT:t.rows.length=s.rows:=H.n;have eb:t.rows.length<=s.rows:=RU;have eg:s.rows.length<=t.rows:=RU;have cb:(c:Int)<t.v+t.h:=by rw[H.v,H.h];exact Q
  have br:=zH cb;clear a8 ba a7 H b9 ao dT cb;by_cases dc:k<s.rows.length
  .obtain⟨b7,g,o,a5,be,n2,c2,a0,cr,ct,bi,bm,c8,dl,z2⟩:=J.o.cells a2 (RU:k<t.rows.length) br;have cn:=tb a2 (RU:k<t.rows.length) br;have ap:=CX (p:=p) (a:=a) (c:=c) (iv:=iv) am ab Q (by rw[<-bv.o];exact b1) cz dc;obtain⟨x,bb⟩:=aO (gS t k c);have ca:tc p a c iv (k+1) (s,X)=if k≠a/\x≠0 then push p (t,O) ⟨3,a,k,(-(x*iv))%p,[]⟩ else(t,O):=by rw[bb,b4.o,b5.o];rfl
   unfold zcN at ap;rw[<-bb]at z2 cn ap;obtain⟨ei,ej⟩:=cn;obtain⟨Y,b3⟩:=bS ca ap;clear bb ca ap;by_cases R:k=a
   .have c7:((k:Int)!=(a:Int))=false:=by simp[R]
    have Z:=zH R;clear R;go_wp2;go_roundw
    case rel=>exact⟨k+1,RU,RW,by rw[Y.o,al (by simp[Z.o])];exact J.o,U.o⟩
    case measure=>simp[intOf];omega
   .have c7:((k:Int)!=(a:Int))=true:=Sk;have Z:=zH R;clear R;by_cases I:x=0
    .have d0:(x !=0)=false:=by simp[I]
     have a4:=zH I;clear I;go_wp2;go_roundw
     case rel=>exact⟨k+1,RU,RW,by rw[Y.o,al (by simp[a4.o])];exact J.o,U.o⟩
     case measure=>simp[intOf];omega
    .have d0:(x !=0)=true:=by simp[I]
     obtain⟨b2,a4⟩:=bS ((b3.1 ⟨Z.o,I⟩).1) I;obtain⟨bo,a6⟩:=aO ((-(x*iv))%p);rw[<-a6]at Y b2;clear I b3;have cu:=zH (fun W=>rH p x iv W RU RU RU RU RU RU);have a9:=yr (p:=p) (x:=x*iv) am;have bp:=zH (fun W=>vT p ((x*iv)%p) W am ci a9.1 a9.2);have bz:(p-x*iv%p)%p=bo:=by rw[a6];exact zha RU
     rw[bz]at bp;have c0:=zH (fun W (h:jn 119 w W z p t O)=>nN w W z p t O 3 a k bo h a2 b2 c6);clear a6 bz a9;go_upto_region 6 with(fail)
     refine bJ (S:=fun W=>ah W z 0 (zI p)) 16 Si a0 (fun hHeld=>?_);refine aC 0 ?_;refine aC 1 ?_;refine aC 2 ?_;refine aC 3 ?_;refine aC 4 ?_;refine aC 5 ?_;refine aC 6 ?_;refine aC 7 ?_;refine aC 8 ?_;refine aC 9 ?_;refine aC 10 ?_;refine aC 11 ?_;refine aC 12 ?_;refine bM 13 fun K hK=>?_
     go_simp;refine(cu.o _).mono ?_;rintro e d3 ⟨rfl,rfl⟩;go_simp;refine hK.out _ _ (fun _=>hHeld) (fun hHeld=>?_);clear hK K;try simp only[Act.put,zA]
     have hHeld:=hHeld RX;refine bM 14 fun K hK=>?_
     go_simp;refine(bp.o _).mono ?_;rintro e d3 ⟨rfl,rfl⟩;go_simp;refine hK.out _ _ (fun _=>hHeld) (fun hHeld=>?_);clear hK K;try simp only[Act.put,zA]
     have hHeld:=hHeld RX;refine aC 15 ?_;refine bM 16 fun K hK=>?_
     go_simp;refine(c0.o _ (J.o.ext (aj _ _).drew)).mono ?_;rintro e em ⟨rfl,cj,b8⟩;obtain⟨cR,cy⟩:=bS cj ((show Below z wr wr.drew from⟨rfl,rfl,rfl,ag _,fun _ _=>rfl⟩).trans b8);clear cj b8;go_simp;refine hK.out _ _ (fun h=>absurd h RX) (fun _=>?_);clear hK K hHeld;try simp only[Act.put,zA]
     refine eC Si ?_ _;go_wp2;go_roundw
     case rel=>exact⟨k+1,RU,RW,by rw[Y.o,ay ⟨Z.o,a4⟩];exact cR,U.o.trans cy⟩
     case measure=>simp[intOf];omega
  .have cI:=zH (RU:k=s.rows.length);go_wp2;go_end0
   exact⟨rfl,by rw[<-cI.o,<-b4.o,<-b5.o];exact J.o,U.o⟩
def r1N(p:Int)(b:Nat)(q:Sy×List cS):Sy×List cS:=push p q ⟨8,0,b,0,[]⟩
def r1C(p:Int)(b:Nat)(q:Sy×List cS):Sy×List cS:=tc p (dU q.1 (q.1.v+b).toNat 0) (q.1.v+b).toNat (fD p (gS q.1 (dU q.1 (q.1.v+b).toNat 0) (q.1.v+b).toNat)) q.1.rows q
def r1S(p:Int)(b:Nat)(q:Sy×List cS):Sy×List cS:=push p (r1C p b q) ⟨6,dU q.1 (q.1.v+b).toNat 0,b,0,[]⟩
def AZ(h:dU q.1 (q.1.v+b).toNat 0=q.1.rows.length):kX p (b+1) q=kX p b (r1N p b q):=by
 show kX p b (if _ then _ else _)=_
 rw[ay h];rfl
def A_(h:dU q.1 (q.1.v+b).toNat 0≠q.1.rows.length):kX p (b+1) q=kX p b (r1S p b q):=by
 show kX p b (if _ then _ else _)=_
 rw[al h];rfl
def ziI(h:Int):dO 8 h=h-1:=Sa
def ziJ(h:Int):dO 6 h=h-1:=Sa
def DG(E:q.1.Ok p)(D:(b:Int)+1=q.1.h)(h:dU q.1 (q.1.v+b).toNat 0=q.1.rows.length):eI p q.1 ⟨8,0,b,0,[]⟩=true/\(r1N p b q).1.Ok p/\(r1N p b q).1.v=q.1.v/\(r1N p b q).1.h=b/\(r1N p b q).2.length=q.2+1:=by obtain⟨_,_,f3,_⟩:=gy q.1 (q.1.v+b).toNat 0 (bf _);have z:eI p q.1 ⟨8,0,b,0,[]⟩=true:=ok8 D (fun j F=>f3 j (bf _) RU);exact⟨z,gG E z,rfl,by show dO 8 q.1.h=b;rw[ziI];omega,by simp[r1N,push]⟩
def DH{a:Nat}(z:q.1.Ok p)(J:(b:Int)+1=q.1.h)(D:dU q.1 (q.1.v+b).toNat 0=a)(h:a<q.1.rows.length):gS q.1 a (q.1.v+b).toNat≠0/\(r1C p b q).1.Ok p/\eI p (r1C p b q).1 ⟨6,a,b,0,[]⟩=true/\(r1S p b q).1.Ok p/\(r1S p b q).1.v=q.1.v/\(r1S p b q).1.h=b/\(r1C p b q).2.length<=q.2+q.1.rows/\(r1S p b q).2.length<=q.2+q.1.rows+1:=by
 obtain⟨_,_,_,f4⟩:=gy q.1 (q.1.v+b).toNat 0 (bf _);rw[D]at f4;have Y:=Sys.v0 z;have E:((q.1.v+b).toNat:Int)<q.1.v+q.1.h:=RU;have H:=f4 h;have O:=tb z h E;obtain⟨U,_,_⟩:=mf (Sys.f z) (RU:1<=gS q.1 a (q.1.v+b).toNat) O.2;have k:Clr p a (q.1.v+b).toNat q.1 (r1C p b q).1 q.1.rows:=by unfold r1C;rw[D];exact xp (X:=q.2) z h E U q.1.rows (ag _)
 have R:(r1C p b q).2.length<=q.2+q.1.rows:=xF _ _ _ _ _ _;have I:eI p (r1C p b q).1 ⟨6,a,b,0,[]⟩=true:=ok6 (by rw[k.h];exact J) (by rw[k.n];exact h) (fun j F Q=>by rw[k.v];exact k.zero j (by rw[k.n]at F;exact F) Q) (by rw[k.v,kW k.row];exact H);unfold r1S;rw[D];refine⟨H,k.ok,I,gG k.ok I,k.v,?_,R,by simp[push];omega⟩
 show dO 6 (r1C p b q).1.h=b
 rw[ziJ,k.h];omega
def Ba(h:dU q.1 c r=q.1.rows.length):lB p (m+1) c (r,q)=lB p m (c+1) (r,q):=by
 show lB p m (c+1) (if _ then _ else _)=_
 rw[ay h]
def Bb(h:dU q.1 c r≠q.1.rows.length):lB p (m+1) c (r,q)=lB p m (c+1) (r+1,mG p c r (mg p c r (kt p c r q))):=by
 show lB p m (c+1) (if _ then _ else _)=_
 rw[al h]
def zdc(p:Int)(c r:Nat)(q:Sy×List cS):(kt p c r q).2.length<=q.2+1:=by unfold kt;split <;>simp[push]
def zdd(p:Int)(c r:Nat)(q:Sy×List cS):(mg p c r q).2.length<=q.2+1:=by unfold mg;split <;>simp[push]
def zde(p:Int)(c r:Nat)(q:Sy×List cS):(mG p c r q).2.length<=q.2+q.1.rows:=xF _ _ _ _ _ _
def zcc(h:r<=i):tP p r (i+1) q=tP p r i (push p q ⟨4,i,0,0,[]⟩):=by
 show(if r<=i then _ else _)=_
 rw[ay h]
def DI(h:n<=r):tP p r n q=q:=by
 cases n with
 |zero=>rfl
 |succ i=>
  show(if r<=i then _ else _)=_
  rw[al RU]
def Ch(p:Int)(s:Sy)(A:an)(cap:Nat)(w:aa)(ej:aX w A s.rows)(a6:s.Ok p):aw 62 #[p,.agg (ae s.v s.h A s.rows cap)] w fun e w'=>∃u,e=.returned u/\cB w' w u (CY p s).2/\ai w w':=by
 have g9:=Sys.h0 a6;have ha:=Sys.h100 a6;have hs:=a6.small;obtain⟨b5,dl,b0⟩:=d_ a6 (show(w.alloc (.cells (ae s.v s.h A s.rows cap) 26)).heap[w.heap.size]?=some (.cells (ae s.v s.h A s.rows cap) 26 (0,0)) from az _ _ rfl) ((aj w w).alloc (ag _) (.cells (ae s.v s.h A s.rows cap) 26));have d2:=zH (iF s.v s.h A cap s.rows _ (ej.ext b0) Tt (fun r hr=>Uy));clear ej a6 hs;go_enter func62,ntmps62
 go_upto_region 2 with(go_at_call 76;refine d2.mono ?_;rintro e w1 ⟨u,rfl,c5,ek⟩;obtain⟨A1,c1,rfl,_⟩:=c5.view;have d5:=zH c5;have be:=zH ek;clear c5 ek)
 obtain⟨F,br⟩:=aO (w1.alloc (.cells #[p,s.v,s.h,.slice A1 s.rows c1,fe] 119));rw[<-br];obtain⟨bb,bo⟩:=aO w1.heap.size;rw[<-bo];have bm:ai w1 F:=by rw[br];exact(aj _ _).alloc (ag _) _
 have am:aU F bb #[.int .i64 p,.int .i64 s.v,.int .i64 s.h,.slice A1 s.rows c1,.slice none 0 0] 119:=by rw[br,bo];exact az _ _ rfl
 have ho:(w:Nat)+1<=bb:=by have:=be.size;rw[bo];simpa using this
 have fb:=af (af b0 be) bm
 -- the copy lies below the reducer's block: keep it as rows that are there from the start
 have d0:=zH (show jn 119 w1 F bb p s [] from⟨RU,bm,A1,c1,none,0,[],am,aF (xq d5),by
  obtain⟨us,U⟩:=cB.nil F (bb+1);have:us=[]:=eS (by have:=U.len;simpa using this);subst this;exact U⟩)
 have ct:aU F w (ae s.v s.h A s.rows cap) 26:=ak (ak dl be) bm;obtain⟨b1,fs,dc⟩:=d_ (fun(W:aa) (co:Below bb F W)=>(co.block w RU).trans ct) (fun(W:aa) (co:Below bb F W)=>fb.trans (co.mono (B':=w.heap.size) RU)) (aj bb F);obtain⟨v0,v1,v2⟩:=aq ct;clear bm am fb ct br d2 dl b0 d5 be bo;go_wp2;clear v0 v1 v2;go_loopw [6] (fun i wr=>∃(j:Int) (q:Sy×List cS),i=.int .i64 j/\-1<=j/\j<=99/\Hd (q.1.h=j+1)/\Hd (q.1.v=s.v)/\Hd (q.1.Ok p)/\Hd (kX p (j+1).toNat q=kX p s.h.toNat (s,[]))/\Hd ((q.2:Int)<=(99-j)*161)/\Hd (jn 119 w1 wr bb p q.1 q.2)/\Below bb F wr)
  (fun i _=>(intOf i+1).toNat)
 case atStart=>exact⟨_,(s,[]),rfl,RU,RU,zH (by show s.h=_;omega),zH rfl,zH b5.o,zH (by rw[show s.h-1+1=s.h by omega]),zH Sk,zH d0.o,dc⟩
 case round=>
  obtain⟨j,q,rfl,es,ev,a1,a3,Q,I6,GN,Jb,Y⟩:=hrel;have D:=zH Y;clear Y d0 dc;by_cases cR:0<=j
  .obtain⟨b,gf⟩:∃b:Nat,(b:Int)=j:=⟨j.toNat,RU⟩;subst gf;have g3:=Q.o.small.n;have hl:0<=q.1.v:=Sys.v0 Q.o;have hm:q.1.v<=24:=Sys.v24 Q.o;have cu:((q.1.v+(b:Int)).toNat:Int)=q.1.v+b:=RU;have ab:((q.1.v+(b:Int)).toNat:Int)<q.1.v+q.1.h:=by have:=a1.o;omega
   have en:=gy q.1 (q.1.v+(b:Int)).toNat 0 (bf _);have E:=BX w1 wr bb p q.1 q.2 0 (q.1.v+(b:Int)).toNat Jb Q.o (bf _) ab;rw[cu,show((0:Nat):Int)=0 from rfl]at E;obtain⟨fz,f0⟩:=bS cu ab;obtain⟨ch,g,o,ce,c9,c7⟩:∃ch g o ce c9:Nat,True:=⟨0,0,0,0,0,trivial⟩;have gs:q.2.length<=100000:=Ty;have Z:∃A c,ah wr bb 1 (zI q.1.v)/\ah wr bb 3 (.slice A q.1.rows c):=by obtain⟨_,_,A,c,A8,c8,us,hq,_⟩:=Jb.o;obtain⟨_,y1,_,y3,_⟩:=bH hq;exact⟨A,c,y1,y3⟩
   obtain⟨db,d7,y1,y3⟩:=Z;clear cu ab c7;obtain⟨v0,v1,v2⟩:=aq (b1 wr D.o);rw[<-a3.o]at v0;by_cases H:dU q.1 (q.1.v+(b:Int)).toNat 0=q.1.rows.length
   .obtain⟨a8,a9,ba,bd,bz⟩:=DG Q.o (by have:=a1.o;omega) H;obtain⟨a4,Fq⟩:=bS (nN w1 wr bb p q.1 q.2 8 0 b 0 Jb Q.o a8 RU) (AZ (p:=p) H);rw[H]at E;obtain⟨R,b7,b8,b9,gb⟩:=lv E a9 ba bd bz;clear E a8 a9 ba bd bz H en;go_wp2_with (first|(go_at_call 100;refine R.o.mono ?_;rintro e w2 ⟨rfl,rfl⟩)|(go_at_call 101;refine a4.mono ?_;rintro e w3 ⟨rfl,O,J⟩;have a2:=zH O;have a0:=zH J;clear O J))
    go_roundw
    case rel=>exact⟨_,r1N p b q,rfl,RU,RU,zH (by rw[b9.o];omega),zH (b8.trans a3),zH b7.o,zH WV,zH (by have:=GN.o;have:=gb.o;omega),zH a2.o,D.o.trans a0⟩
    case measure=>simp[intOf] <;>omega
   .obtain⟨a,I⟩:∃a,dU q.1 (q.1.v+(b:Int)).toNat 0=a:=⟨_,rfl⟩;have cr:a<q.1.rows.length:=RU;obtain⟨fi,t1,a8,a9,ba,bd,bz,fl⟩:=DH Q.o (show(b:Int)+1=q.1.h by have:=a1.o;omega) I cr;have IS:=pk w1 wr bb p q.1 q.2 a (q.1.v+(b:Int)).toNat Jb Q.o cr f0 fi RU;have e9:tc p a (q.1.v+(b:Int)).toNat (fD p (gS q.1 a (q.1.v+(b:Int)).toNat)) q.1.rows (q.1,q.2)=r1C p b q:=by unfold r1C;rw[I]
    rw[e9,fz.o]at IS;obtain⟨IV,gd,Fq⟩:=d_ IS (fun W h=>nN w1 W bb p (r1C p b q).1 (r1C p b q).2 6 a b 0 h t1 a8 RU) (A_ (p:=p) H);rw[I]at E;obtain⟨R,f7,b7,b8,b9,gc⟩:=mA E (by unfold r1S;rw[I]:r1S p b q=push p (r1C p b q) ⟨6,a,b,0,[]⟩) a9 ba bd fl;have hg:((a:Int)==(q.1.rows:Int))=false:=Sk;have hh:(a==q.1.rows.length)=false:=Sk;clear E IS fi t1 a8 a9 ba bd bz fl H I e9 en;go_wp2_with (first|(go_at_call 100;refine R.o.mono ?_;rintro e w2 ⟨rfl,rfl⟩)|(go_at_call 102;refine IV.mono ?_;rintro e w3 ⟨rfl,O,J⟩;have a2:=zH O;have a0:=zH J;clear O J y1 y3 v0 v1 v2)|(go_at_call 101;refine(gd.o _ a2.o).mono ?_;rintro e w4 ⟨rfl,IY,FJ⟩;have ga:=zH IY;have fo:=zH FJ;clear IY FJ))
    go_roundw
    case rel=>exact⟨_,r1S p b q,rfl,RU,RU,zH (by rw[b9.o];omega),zH (b8.trans a3),zH b7.o,zH WV,zH (by have:=GN.o;have:=gc.o;omega),zH (by rw[f7.o];exact ga),(D.o.trans a0).trans fo⟩
    case measure=>simp[intOf] <;>omega
  .have eA:j=-1:=RU;have d3:=zH (show q=kX p s.h.toNat (s,[]) by have:=I6.o;rw[eA]at this;exact this)
   have d1:=zH (show q.1.h=0 by have:=a1.o;omega);have gn:q.2.length<=16100:=Ty;obtain⟨V,cn⟩:∃V:Nat,(V:Int)=s.v:=⟨s.v.toNat,by have:=Sys.v0 b5;omega⟩;obtain⟨ca,cb⟩:=bS (show(V:Int)=q.1.v from cn.trans a3.symm) cn;have g7:V<=24:=by have:=Sys.v24 b5;omega
   have eb:Inv2 p V 0 0 q.1:=⟨Q.o,d1,ca.symm,bf _,fun d cz=>RU⟩;have b2:=zH eb;have Z:ah wr bb 1 (zI V):=by obtain⟨_,_,A,c,A8,c8,us,hq,_⟩:=Jb.o;obtain⟨_,y1,_⟩:=bH hq;rw[ca.o];exact y1
   obtain⟨da,e7⟩:=aO q;rw[<-e7]at d3 b2 gn Jb;clear e7 a1 I6 GN Q ca a3 eA cn eb es ev d1;clear Z;go_wp2;clear cR;go_loopw [8,9] (fun u5 u50 wr=>∃(r c:Nat) (q:Sy×List cS),u5=.int .i64 r/\u50=.int .i64 c/\c<=V/\r<=160/\Hd (Inv2 p V c r q.1)/\Hd (lB p (V-c) c (r,q)=lB p V 0 (0,da))/\Hd (q.2.length<=16100+c*162)/\Hd (jn 119 w1 wr bb p q.1 q.2)/\Below bb F wr)
    (fun _ u50 _=>V-(intOf u50).toNat)
   case atStart=>exact⟨0,0,da,rfl,rfl,bf _,bf _,b2,zH (by rw[Nat.sub_zero]),zH RU,Jb,D.o⟩
   case round=>
    rename_i ht _ _ _ _;clear Jb D b2;obtain⟨r,c,q,rfl,rfl,g8,g4,z,I6,GN,Jb,Y⟩:=hrel;have D:=zH Y;clear Y;by_cases cR:c<V
    .have g3:=z.ok.small.n;have ao:=z.hr;have ab:(c:Int)<q.1.v+q.1.h:=by rw[z.o.hv,z.o.hh];omega
     have E:=BX w1 wr bb p q.1 q.2 r c Jb z.ok ao ab;have gs:q.2.length<=100000:=Ty;have Z:∃A c,ah wr bb 3 (.slice A q.1.rows c):=Yk;obtain⟨db,d7,y3⟩:=Z;obtain⟨v0,v1,v2⟩:=aq (b1 wr D.o);rw[<-cb.o]at v0;by_cases H:dU q.1 c r=q.1.rows.length
     .have FO:=zH (Ba (p:=p) (m:=V-(c+1)) H);rw[H]at E;have R:=zH E;have ea:Inv2 p V (c+1) r q.1:=⟨z.ok,z.hh,z.hv,ao,fun d cz j bp cO=>by
       by_cases gm:d=c
       .subst gm;exact(gy q.1 d r ao).2.2.1 j bp RU
       .exact z.z d RU j bp cO⟩
      have f3:=zH ea;clear E ea H ab;go_wp2_with (go_at_call 100;refine R.o.mono ?_;rintro e w2 ⟨rfl,rfl⟩)
      go_roundw
      case rel=>exact⟨r,c+1,q,rfl,RW,RU,g4,f3,zH (by rw[<-I6.o,show V-c=(V-(c+1))+1 by omega,FO.o]),zH Ty,Jb,D.o⟩
      case measure=>simp[intOf] <;>omega
     .obtain⟨a,I⟩:∃a,dU q.1 c r=a:=⟨_,rfl⟩;have eo:=gy q.1 c r ao;rw[I]at eo;have cr:a<q.1.rows.length:=RU;have FO:=zH (Bb (p:=p) (m:=V-(c+1)) H);have ci:=AF z (RU:(c:Int)<V) RU;rw[I]at ci;rw[I]at E;have R:=zH E;have e0:=zdc p c r q;obtain⟨qa,c0⟩:=aO (kt p c r q);have e5:qa=if a≠r then push p q ⟨1,r,a,0,[]⟩ else q:=by rw[c0];unfold kt;rw[I]
      rw[<-c0]at ci FO e0;obtain⟨e3,ac,ap,cF⟩:=ci;have cj:=AG ac (RU:(c:Int)<V) ap cF;have e1:=zdd p c r qa;obtain⟨qb,am⟩:=aO (mg p c r qa);obtain⟨x,a7⟩:=aO (gS qa.1 r c);have e6:qb=if x≠1 then push p qa ⟨2,r,0,fD p x,[]⟩ else qa:=by rw[am,a7];rfl
      rw[<-am]at cj FO e1;rw[<-a7]at cj;obtain⟨e4,ad,c4,cI⟩:=cj;have ei:=AH ad (RU:(c:Int)<V) c4 cI;have gA:=zde p c r qb;have hk:=ad.ok.small.n;obtain⟨Jd,IZ,I9,bi,I4,Ja,f6,I5,d4,Jc,d6⟩:=AD ac ad ei ap c4 cI e3 e4 e5 e6 a7;have cy:(c:Int)<qa.1.v+qa.1.h:=by rw[ac.hv,ac.hh];omega
      have em:(c:Int)<qb.1.v+qb.1.h:=by rw[ad.hv,ad.hh];omega
      have c6:=tb ac.ok ap cy;rw[<-a7]at c6 cF;obtain⟨dT,IQ⟩:=bS cy em;have hp:1<=x:=RU;have g6:x<p:=c6.2;have g1:=Sys.p2 z.ok;have g2:=Sys.p97 z.ok;have Je:=zH (fun(W:aa)=>(vU p x W g1 g2 RU g6:aw 103 (bP p x) W _));have gB:q.2.length+1+1+160<=30000:=Ty;have hc:qa.2.length<=30000:=RU;have hd:qb.2.length<=30000:=RU;have I8:=zH (RU:(mG p c r qb).2.length<=q.2+162);have hn:r+1<=160:=RU;clear E I H c0 am e5 e6 a7 ac ad ei ap c4 cI e3 e4 cy em ab eo cF c6 e0 e1 gA gB;have he:((a:Int)==(q.1.rows:Int))=false:=Sk;have hf:(a==q.1.rows.length)=false:=Sk;by_cases a5:a≠r
      .have gV:((a:Int)!=(r:Int))=true:=Sk;obtain⟨a4,b6⟩:=bS (nN w1 wr bb p q.1 q.2 1 r a 0 Jb z.ok (f6 a5) RU) (by rw[d4.o,ay a5]:qa=push p q ⟨1,r,a,0,[]⟩);clear a5;go_upto_region 18 with(first|(go_at_call 100;refine R.o.mono ?_;rintro e w2 ⟨rfl,rfl⟩)|(go_at_call 101;refine a4.mono ?_;rintro e w3 ⟨rfl,O,J⟩;have I7:=zH (by rw[b6.o];exact O:jn 119 w1 w3 bb p qa.1 qa.2);have IW:=zH (D.o.trans J);clear O J y3))
       obtain⟨ch,g,o,ce,c9,n2,c2,z0,z1,z2,z3,z4,gi,gL,z5⟩:=I7.cells Jd.ok bi dT;rw[<-d6.o]at z5;have ap:r<qa.1.rows.length:=bi.o;by_cases IU:x=1
       .have GO:(x !=1)=false:=by simp[IU]
        have I_:=zH (VC:qb=qa);have I2:=zH (by rw[I_.o];exact I7:jn 119 w1 w3 bb p qb.1 qb.2);clear IU;go_upto_region 21 with(fail)
        obtain⟨w4,IM⟩:=aO w3;have IX:=zH (by rw[IM];exact IW:Below bb F w4);exact ZP
       .exact Z2
      .have gV:((a:Int)!=(r:Int))=false:=Sk;have hj:(a !=r)=false:=Sk;have b6:=zH (by rw[d4.o,al a5]:qa=q);have I7:=zH (by rw[b6.o];exact Jb:jn 119 w1 wr bb p qa.1 qa.2);obtain⟨w3,bv⟩:=aO wr;have IW:=zH (by rw[bv];exact D.o:Below bb F w3);rw[<-bv]at I7;clear a5;go_upto_region 18 with(go_at_call 100;refine R.o.mono ?_;rintro e w2 ⟨rfl,rfl⟩)
       rw[<-bv];clear bv y3 v0 v1 v2;obtain⟨ch,g,o,ce,c9,n2,c2,z0,z1,z2,z3,z4,gi,gL,z5⟩:=I7.cells Jd.ok bi dT;rw[<-d6.o]at z5;have ap:r<qa.1.rows.length:=bi.o;by_cases IU:x=1
       .have GO:(x !=1)=false:=by simp[IU]
        have I_:=zH (VC:qb=qa);have I2:=zH (by rw[I_.o];exact I7:jn 119 w1 w3 bb p qb.1 qb.2);clear IU;go_upto_region 21 with(fail)
        obtain⟨w4,IM⟩:=aO w3;have IX:=zH (by rw[IM];exact IW:Below bb F w4);exact ZP
       .exact Z2
    .have I3:c=V:=RU;have cc:=zH (show(r,q)=lB p V 0 (0,da) by have:=I6.o;rw[I3,vA]at this;exact this)
     have eg:zgi p r q.1:=⟨z.ok,z.hh,z.hr,fun d cz j bp cO=>z.z d (by rw[z.o.hv]at cz;omega) j bp cO⟩;have b3:=zH eg;have gC:=z.ok.small.n;have ao:=z.hr;have gw:q.2.length<=30000:=Ty;have Z:∃A c,ah wr bb 3 (.slice A q.1.rows c):=Yk;obtain⟨db,d7,y3⟩:=Z;obtain⟨N,ck⟩:=aO q.1.rows.length;rw[<-ck]at y3 gC ao;have b4:=zH ck;obtain⟨fd,e8⟩:=aO q;rw[<-e8]at cc b3 b4 gw Jb;clear I3 ck e8 z I6 GN eg;obtain⟨v0,v1,v2⟩:=aq (b1 wr D.o);rw[<-cb.o]at v0;go_wp2;clear y3 v0 v1 v2;go_loopw [12] (fun u wr=>∃(j:Int) (q:Sy×List cS),u=.int .i64 j/\-1<=j/\j<=159/\(r:Int)<=j+1/\Hd ((q.1.rows:Int)=j+1)/\Hd (zgi p r q.1)/\Hd (tP p r (j+1).toNat q=tP p r N fd)/\Hd ((q.2:Int)<=40000-j)/\Hd (jn 119 w1 wr bb p q.1 q.2)/\Below bb F wr)
      (fun u _=>(intOf u+1).toNat)
     case atStart=>exact⟨_,fd,rfl,RU,RU,RU,zH (by rw[<-b4.o];omega),b3,zH (by rw[show((N:Int)-1+1).toNat=N by omega]),zH RU,Jb,D.o⟩
     case round=>
      clear Jb D b3;obtain⟨j,q,rfl,es,ev,hb,f4,z,I6,GN,Jb,Y⟩:=hrel;have D:=zH Y;clear Y;by_cases cR:(r:Int)<=j
      .obtain⟨i,hi⟩:∃i:Nat,(i:Int)=j:=⟨j.toNat,RU⟩;subst hi;have fa:r<=i:=RU;obtain⟨U,d8,d9⟩:=zcP z (show q.1.rows.length=i+1 by have:=f4.o;omega) fa;obtain⟨a4,f1,f2,f9⟩:=fU (nN w1 wr bb p q.1 q.2 4 i 0 0 Jb z.ok U Ty) d8 d9 (zcc (p:=p) (q:=q) fa);clear U d8 d9;go_wp2_with (go_at_call 101;refine a4.mono ?_;rintro e w3 ⟨rfl,O,J⟩;have a2:=zH O;have a0:=zH J;clear O J)
       go_roundw
       case rel=>exact⟨_,push p q ⟨4,i,0,0,[]⟩,rfl,RU,RU,RU,zH (by show((cE p q.1 ⟨4,i,0,0,[]⟩).rows:Int)=_;rw[f2.o];omega),f1,zH (by rw[<-I6.o,show((i:Int)-1+1).toNat=i by omega,show((i:Int)+1).toNat=i+1 by omega,f9.o]),zH (by have:=GN.o;simp[push];omega),a2,D.o.trans a0⟩
       case measure=>simp[intOf] <;>omega
      .have f8:=zH (show q=CY p s by have U:=I6.o;rw[DI RU]at U;rw[U];have c7:=cc.o;unfold CY;rw[<-d3.o,<-cb.o,show((V:Int)).toNat=V by omega,<-c7];dsimp only;rw[<-b4.o])
       clear I6 cc;have g5:∃A8 c8,ah wr bb 4 (.slice A8 q.2 c8)/\cB wr (bb+1) (.slice A8 q.2 c8) q.2:=by obtain⟨_,_,A,c,A8,c8,us,hq,_,g0⟩:=Jb.o;obtain⟨_,_,_,_,fn⟩:=bH hq;exact⟨A8,c8,fn,us,g0⟩
       obtain⟨A8,c8,fn,e2⟩:=g5;have f5:=zH e2;clear e2;go_wp2;go_ret
       exact⟨_,rfl,by rw[<-f8.o];exact f5.mono RU,fs wr D.o⟩
end Go.Proofs.YtdpgblncijojiaaGreatDoor
