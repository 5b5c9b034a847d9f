/- Parts of the walks and laws (Gr16, Rlw1, FB). Conditions: as stated with each. -/
import Derived.Test.YtpieilkmmiopfaaGreatDoorPk28
import Derived.Test.YtpieilkmmiopfaaGreatDoorPk29
namespace Go.Proofs.YtpieilkmmiopfaaGreatDoor
open Go.RowKit Tryz
set_option linter.all false
set_option maxHeartbeats 4000000
set_option maxRecDepth 100000
variable{H Rn b n:Nat}{M:aN}{cs:eU}{p:Int}{v:ax}{w:aa}{xs:aH}
def ntE(e:Ed):Bool:=!dlB e.k
def miK(k:Int):Int:=if 3<=k/\k<=8 then k+6 else if 9<=k/\k<=14 then k-6 else k
theorem rD(k:Int)(w:aa):aw 172 (bs k) w fun e w'=>e=.returned (.int .i64 (miK k))/\w=w':=by
 by_cases h1:3<=k/\k<=8
 .have e1:et k 3 8=true:=SE;have h:IntKind.i64.wrap (k+9)=k+9:=Sq;have D:IntKind.i64.wrap (k+9-3)=k+6:=Sq;rw[show miK k=k+6 by unfold miK;rw[ay h1]];clear h1;go_enter func172,ntmps172
  go_wp2_with (go_at_call 143;refine(Calls.cT (da _ _ _ _) e1).mono ?_;rintro e w' ⟨rfl,rfl⟩)
  go_ret
  exact⟨rfl,rfl⟩
 .have e1:et k 3 8=false:=SE;by_cases h2:9<=k/\k<=14
  .have e2:et k 9 14=true:=SE;have h:IntKind.i64.wrap (k-9)=k-9:=Sq;have D:IntKind.i64.wrap (k-9+3)=k-6:=Sq;rw[show miK k=k-6 by unfold miK;rw[av h1,ay h2]];exact Y0
  .have e2:et k 9 14=false:=SE;rw[show miK k=k by unfold miK;rw[av h1,av h2]];exact Y0
theorem kr(h:aW w b cs 3)(D:cs.toList=xs.map (Value.int .i64)):aJ w (some ⟨b,0,none⟩) xs:=(uN (xs:=xs) h D (af b) (gq b)).now
def ziq(rows:aN)(w:aa)(e:Ending)(w':aa):Prop:=∃A c,e=.returned (.slice A rows.length c)/\bk w' A rows/\ag w w'
theorem oz(k v:Int)(w:aa):aw 184 (bf k v) w (ziq (eO k v) w):=by
 by_cases h3:k=3
 .subst h3;have D:=((ak w (.cells DR 3)).alloc Rq (.cells #[.slice (some ⟨w.heap.size,0,none⟩) 3 3] 26));have F:=(bJ (w.alloc (.cells DR 3)) (.cells #[.slice (some ⟨w.heap.size,0,none⟩) 3 3] 26) (k:=w.heap.size) Rq).trans (aC w _ rfl);have G:=aC (w.alloc (.cells DR 3)) (.cells #[.slice (some ⟨w.heap.size,0,none⟩) 3 3] 26) (n:=w.heap.size+1) Rq;obtain⟨H,I,J⟩:=dO D F G;clear D F G;rw[show eO 3 v=[[1,1,1]] from rfl];go_enter func184,ntmps184
  go_wp2;go_ret
  exact⟨_,_,rfl,an ⟨_,0,rfl,fun j r h=>by
   match j,h with
   |0,h=>simp at h;subst h;exact⟨_,_,aI J.o 0 rfl,kr (xs:=[1,1,1]) I.o rfl⟩
   |j+1,h=>simp at h⟩,H.o⟩
 by_cases h4:k=4
 .subst h4;have D:=((ak w (.cells #[.int .i64 1] 3)).alloc Rq (.cells #[.slice (some ⟨w.heap.size,0,none⟩) 1 1] 26));have F:=(bJ (w.alloc (.cells #[.int .i64 1] 3)) (.cells #[.slice (some ⟨w.heap.size,0,none⟩) 1 1] 26) (k:=w.heap.size) Rq).trans (aC w _ rfl);have G:=aC (w.alloc (.cells #[.int .i64 1] 3)) (.cells #[.slice (some ⟨w.heap.size,0,none⟩) 1 1] 26) (n:=w.heap.size+1) Rq;obtain⟨H,I,J⟩:=dO D F G;clear D F G h3;rw[show eO 4 v=[[1]] from rfl];go_enter func184,ntmps184
  go_wp2;go_ret
  exact⟨_,_,rfl,an ⟨_,0,rfl,fun j r h=>by
   match j,h with
   |0,h=>simp at h;subst h;exact⟨_,_,aI J.o 0 rfl,kr (xs:=[1]) I.o rfl⟩
   |j+1,h=>simp at h⟩,H.o⟩
 by_cases h5:k=5
 .subst h5;have D:=below_alloc3 w (.cells #[.int .i64 1,(),.int .i64 1] 3) (.cells #[(),.int .i64 1,.int .i64 1] 3) (.cells #[.slice (some ⟨w.heap.size,0,none⟩) 3 3,.slice (some ⟨w.heap.size+1,0,none⟩) 3 3] 26);obtain⟨F,G,O⟩:=cm w (.cells #[.int .i64 1,(),.int .i64 1] 3) (.cells #[(),.int .i64 1,.int .i64 1] 3) (.cells #[.slice (some ⟨w.heap.size,0,none⟩) 3 3,.slice (some ⟨w.heap.size+1,0,none⟩) 3 3] 26);obtain⟨H,I,J,N⟩:=fU D F G O;clear D F G O h3 h4;rw[show eO 5 v=[[1,0,1],[0,1,1]] from rfl];go_enter func184,ntmps184
  go_wp2;go_ret
  exact⟨_,_,rfl,an ⟨_,0,rfl,fun j r h=>by
   match j,h with
   |0,h=>simp at h;subst h;exact⟨_,_,aI N.o 0 rfl,kr (xs:=[1,0,1]) I.o rfl⟩
   |1,h=>simp at h;subst h;exact⟨_,_,aI N.o 1 rfl,kr (xs:=[0,1,1]) J.o rfl⟩
   |j+2,h=>simp at h⟩,H.o⟩
 by_cases h7:k=7
 .subst h7;have D:=((ak w (.cells (qn v) 3)).alloc Rq (.cells #[.slice (some ⟨w.heap.size,0,none⟩) 2 2] 26));have F:=(bJ (w.alloc (.cells (qn v) 3)) (.cells #[.slice (some ⟨w.heap.size,0,none⟩) 2 2] 26) (k:=w.heap.size) Rq).trans (aC w _ rfl);have G:=aC (w.alloc (.cells (qn v) 3)) (.cells #[.slice (some ⟨w.heap.size,0,none⟩) 2 2] 26) (n:=w.heap.size+1) Rq;obtain⟨H,I,J⟩:=dO D F G;clear D F G h3 h4 h5;rw[show eO 7 v=[[1,v]] from rfl];go_enter func184,ntmps184
  go_wp2;go_ret
  exact⟨_,_,rfl,an ⟨_,0,rfl,fun j r h=>by
   match j,h with
   |0,h=>simp at h;subst h;exact⟨_,_,aI J.o 0 rfl,kr (xs:=[1,v]) I.o rfl⟩
   |j+1,h=>simp at h⟩,H.o⟩
 .have R:(k==3)=false:=Sg;have T:(k==4)=false:=Sf;have U:(k==5)=false:=Se;have V:(k==7)=false:=Si;rw[show eO k v=[] by unfold eO;rw[av h3,av h4,av h5,av h7]];clear h3 h4 h5 h7;go_enter func184,ntmps184
  go_wp2;go_ret
  exact⟨none,0,rfl,au rfl,aj _ _⟩
theorem nh.le{r:Int}{xs:List ft}(h:nh 1048576 r xs):r<=1048576:=by rcases h with h|h <;>omega

theorem zeW(D:cN p=true)(s:fI p H n M):fI p (H-(iq p n M (yg H)).1) H ((iq p n M (yg H)).2.2.drop (iq p n M (yg H)).1)/\(iq p n M (yg H)).1<=H:=by have h:=(di D).1;obtain⟨c,l,e,F,_,_⟩:=pP (n2:=H) D h s (yH h);exact⟨e.s2.drop F,F⟩
theorem zbH(p:Int)(M:aN)(A:aq)(cap D n:Nat)(w:aa)(a1:cN p=true)(b8:bk w A M)(s:fI p D n M)(F:D<=1048576)(ba:n<=1048576):aw 177 #[p,.slice A D cap,n] w (zfd (uo p n M) w):=by
 obtain⟨a4,ci⟩:=zeW a1 s;have a2:uo p n M=sI p D ((iq p n M (yg D)).2.2.drop (iq p n M (yg D)).1):=by unfold uo zcZ;rw[s.1]
 obtain⟨h,ao⟩:=aM (iq p n M (yg D));rw[<-ao]at a4 ci a2;obtain⟨b3,N,ab,bz⟩:=fU ao a2 a4 (show ∀r∈M,r.length<=1048576 from fun r cc=>by rw[s.row r cc];exact ba);have b7:=s.1;subst b7;obtain⟨b0,J⟩:=bD s a1;clear ao a2 a4 s a1;have p2:=(di J.o).1;go_enter func177,ntmps177
 go_wp2_with fail
 refine(tJ _ _ M _ b8 F bz.o).mono ?_;rintro e bi ⟨u,rfl,a3,ap⟩;obtain⟨A1,c1,rfl,_,cn,co⟩:=a3.view;obtain⟨b1,br⟩:=bD a3 ap;have bd:=ap.size;clear a3 ap;go_wp2_with fail
 refine(xF M.length _ F).mono ?_;rintro e bo ⟨u2,rfl,T,a0⟩;obtain⟨bp,c2,rfl,_,b9,cp⟩:=T.view;rw[Dv]at T b9 ⊢;obtain⟨b2,a5⟩:=bD T a0;have ch:=a0.size;clear T a0;go_wp2_with fail
 refine(tc p w.heap.size bi.heap.size bi.heap.size bo.heap.size M.length n M.length c1 c2 A1 bp M (yg M.length) bo J.o ((Has.of b1.o).ext a5.o) (Has.of b2.o) b0.o (yH p2) (af _) bd ch (af _) F ba F).mono ?_;rintro e G ⟨rfl,_,ad,bg⟩;rw[<-b3.o]at ad ⊢;obtain⟨HW,a6⟩:=bD (show ag w G from(br.o.trans (a5.o.mono bd)).trans (bg.below (af _) Rr)) ad.own;have ca:=Cx a6.o;have R:(h.2.2.drop h.1).length=M.length-h.1:=ab.o.1;have ce:((M.length:Int)-(h.1:Int))=((M.length-h.1:Nat):Int):=Rr;clear ad bg;rcases ca with⟨rfl,b6,rfl,bb⟩|⟨g,rfl,cb,_,_⟩
 .obtain⟨b4,Y,bv⟩:=dO (Rr:h.1=0) (show bk G none (h.2.2.drop h.1) from au (by rw[bb];simp)) R;rw[b4.o];clear R ce bb;have O:=rJ p (h.2.2.drop h.1) none 0 (M.length-h.1) M.length G J.o Y.o ab.o Rr F;obtain⟨b5,am⟩:=aM (sI p M.length (h.2.2.drop h.1));have a7:=zH am;rw[<-am]at O;rw[show M.length-h.1=0 by omega,b6]at O;have bu:=zH (show aw 214 #[p,bW,()] G (zfd b5 G) from O);clear O am;go_wp2_with fail
  refine bu.o.mono ?_;rintro e cj ⟨U,ac,rfl,I,H⟩;obtain⟨Z,V⟩:=bD I H;clear I H;go_wp2;go_ret
  exact⟨U,ac,by rw[N.o,<-a7.o];rfl,by rw[N.o,<-a7.o];exact Z.o.mono HW.o.size,HW.o.trans (V.o.mono T9)⟩
 .obtain⟨_,_,a8,bc,_⟩:=a6.o.view;simp only[dW]at a8;obtain⟨rfl,-,rfl⟩:=a8;obtain⟨U,ck,a9⟩:=zdH bc (Rr:h.2.2.length<=c2) h.1;have Y:=zH a9;have cq:h.1<=c2:=Rr;have bv:=zH R;clear bc a9 cb R;go_wp2_with fail
  with_reducible refine(rJ p (h.2.2.drop h.1) (some U) (c2-h.1) (M.length-h.1) M.length G J.o Y.o ab.o Rr F).mono ?_
  rintro e cj ⟨bq,ac,rfl,I,H⟩;obtain⟨Z,V⟩:=bD I H;clear I H;go_wp2;go_ret
  exact⟨bq,ac,by rw[N.o];rfl,by rw[N.o];exact Z.o.mono HW.o.size,HW.o.trans (V.o.mono T9)⟩
section
open Go.ChangeShapes Go.WideShapes Go.ChangeAt Go.Deep Go.Joins
theorem own:ownKnob prog.godebug=none:=RP
theorem laidOut:laidOutB prog=true:=RP
theorem lZ:prog.cellsOf 3=1:=RP
theorem Cg:prog.cellsOf 26=1:=RP
theorem Ch:prog.cellsOf 91=5:=RP
section
variable{H:Type}{enc:TypeId×Value->H}{W:aa}
theorem yK{x:DataW H×List MemPlace}(G:DataW.trod enc prog W 0 (fun _=>true) true Rn 26 [v]=some x):∃A xs cap,v=.slice A xs.length cap/\aJ W A xs/\xs.length<=maxLen:=by
 rcases open_ints dY gE lZ G with⟨Fp,_⟩|⟨a,len,cap,h,Fp,_,Z,ab,U,_,D,_⟩
 .obtain rfl:v=.slice none 0 0:=Sz;exact⟨none,[],0,rfl,au rfl,aX _⟩
 .obtain rfl:v=.slice (some a) len cap:=Sz;simp only[m8]at U;have R:(h.take len).length=len:=RS;refine⟨some a,h.take len,cap,by rw[R],?_,Rr⟩;by_cases I:len=0
  .subst I;exact au rfl
  .obtain⟨b,o,V⟩:=a;have J:=D 0 Rr;have T:V=none:=by simpa[Addr.add]using World.cell?_spot J
   subst T;refine an ⟨b,o,rfl,fun k y N=>?_⟩;obtain⟨Y,O⟩:=bG.1 N;have F:k<h.length:=Rr;have:=D k F;have e:h.getD k 0=y:=by rw[bP,dL F];rw[<-O];simp
   rw[e]at this;rwa[add_plain]at this
end
end
end Go.Proofs.YtpieilkmmiopfaaGreatDoor
