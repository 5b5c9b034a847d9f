/- Parts of the walks. Conditions: as stated with each. -/
import Derived.Test.YtdpgblncijojiaaGreatDoorPk11
namespace Go.Proofs.YtdpgblncijojiaaGreatDoor
open Go.RowKit Tryz
set_option linter.all false
set_option maxHeartbeats 2000000
variable{A:an}{B c j k n:Nat}{M:aE}{us:bG}{v:au}{w:aa}
def bh.at{cap:Nat}{rows:aE}{r:aG}(h:bh w B (.slice A n cap) rows us)(E:rows[k]?=some r):∃g z c,A=some ⟨g,0,none⟩/\us[k]?=some (.slice z r c)/\ah w g k (.slice z r c)/\w.frozen? ⟨g,k,none⟩=false/\B<=g/\g < (w:Nat)/\ar w B (.slice z r c) r:=by have O:=(bA.1 E).1;obtain⟨g,J,e,H,I⟩:=h.form RU;simp only[fO]at e;obtain⟨rfl,rfl,rfl⟩:=e;obtain⟨u,F,D⟩:=h.get E;obtain⟨z,c,rfl,_⟩:=D.view;exact⟨g,z,c,rfl,F,by rw[h.outer.cellAt _ RU,F],h.outer.frozenAt k,H,I,D⟩
def bh.gS{rows:aE}{r:aG}{x:Int}(h:bh w B v rows us)(R:rows[k]?=some r)(J:r[j]?=some x):∃z c,us[k]?=some (.slice (aY z) r c)/\ah w z j (zI x)/\w.frozen? ⟨z,j,none⟩=false/\B<=z/\z < (w:Nat)/\v.ownBlock≠some z/\∀y:Int,bh (w.setCell ⟨z,j,none⟩ (zI y)) B v (rows.set k (r.set j y)) us/\w.grownBy (w.setCell ⟨z,j,none⟩ (zI y)) (some z):=by
 have U:=(bA.1 J).1;obtain⟨u,I,H⟩:=h.get R;obtain⟨z,c,rfl,O,Q⟩:=kG H RU;have D:=H;unfold ar at D;refine⟨z,c,I,by rw[D.cellAt _ RU,cp,J];rfl,D.frozenAt j,O,Q,?_,fun y=>?_⟩
 .rcases fA h.outer H with F|F
  .rw[F];simp
  .exact F
 .have E:=D.stored j (zI y);rw[<-h_]at E;exact⟨h.inner I E.2 (by unfold ar;rw[fP];exact E.1),E.2⟩
def xE(M:aE)(n:Nat):(Bo M n).length=n:=by simp[Bo]
def zg7(h:j<n):(Bo M n)[j]?=some (fF M j):=by simp[Bo,h,fF]
def nq(M:aE)(c:Nat):(fF M c).length=M:=by simp[fF]
def zd6{r:aG}{x:Int}(z:M[k]?=some r)(D:r[c]?=some x):(fF M c)[k]?=some x:=by simp[fF,z,D]
def zz(rows:aE)(A:an)(cap n:Nat)(w:aa)(a2:aX w A rows)(c7:rows.length<=1048576)(da:n<=1048576)(a9:∀r∈rows,n<=r.length):aw 110 #[.slice A rows cap,n] w fun e w'=>∃u,e=.returned u/\aJ w' w u (Bo rows n)/\ai w w':=by
 obtain⟨ch,hi,cc,ce,Es⟩:=cU i_;obtain⟨ao,bp⟩:=bS a2 a9;clear a2 a9;go_enter func110,ntmps110
 go_wp2_with ((at_make;refine jg _ rfl _ _ 24 rfl w.heap.size 27 ch (.slice none 0 0) 1 gx hi cc ce .i64 .i64 n n n rfl rfl rfl rfl SW TS (ag _) ?_;intro d1 D a7))
 obtain⟨ac,am⟩:=bS (cd a7) (bh.made D);clear D a7;go_loopw [13] (fun i wr=>∃k:Nat,k<=n/\i=.int .i64 k/\(∃us,bh wr w (.slice (aY w) n n) (fh (Bo rows n) [] k) us)/\ai w wr)
  (fun i _=>n-(intOf i).toNat)
 case atStart=>exact⟨0,bf _,rfl,⟨_,by rw[jT,xE];exact am⟩,ac⟩
 case round=>
  obtain⟨k,c5,rfl,⟨us,D⟩,R⟩:=hrel;have ap:=zH D;clear D am ac;by_cases U:k<n
  .have cb:=R.size;have ad:=zH (by simp[fh,xE];omega:n=(fh (Bo rows n) [] k).length);go_wp2_with ((go_at_call 114;refine(rP rows _ RU).mono ?_;rintro e w' ⟨u2,rfl,J,a3⟩;obtain⟨A2,c2,rfl,_⟩:=J.view;rw[kj]at J ⊢;obtain⟨bi,bm,⟨v0,cj⟩,ck⟩:=bh.set ad ap a3 J cb U;have a0:=zH bi;have a1:=zH bm;clear bi bm J))
   go_loopw [24] (fun i W=>∃m:Nat,m<=rows.length/\i=.int .i64 m/\(∃us,bh W w (.slice (aY w) n n) ((fh (Bo rows n) [] k).set k (fh (fF rows k) 0 m)) us)/\ai w W)
    (fun i _=>rows.length-(intOf i).toNat)
   case atStart=>exact⟨0,bf _,rfl,⟨_,by rw[jT,nq];exact a0⟩,R.trans a1⟩
   case round=>
    obtain⟨m,c8,rfl,⟨us2,z⟩,H⟩:=hrel;clear cj ck a0 a1 a3;by_cases I:m<rows.length
    .obtain⟨r,E⟩:=aB I;obtain⟨cy,o,rfl,a4⟩:=(ao.ext H).here I;obtain⟨co,cz,b6,a8⟩:=a4 m r E;have dl:=bp r (a_ E);obtain⟨x,O⟩:=aB (RU:k<r.length);obtain⟨Q,ci,rfl,a5⟩:=a8.here (RU:k<r.length);have cR:=a5 _ _ O;have cI:Q < (w:Nat):=by
      obtain⟨ct,dT,b0,b3⟩:=ao.here I;obtain⟨A3,cF,b7,ca⟩:=b3 m r E;cases b0
      have:=(av H b7).symm.trans b6;simp only[dX,fO]at this;obtain⟨rfl,_,_⟩:=this;obtain⟨cu,d0,b1,b4⟩:=ca.here (RU:k<r.length);cases b1
      exact iN w _ (b4 _ _ O)
     have Y:((fh (Bo rows n) [] k).set k (fh (fF rows k) 0 m))[k]?=some (fh (fF rows k) 0 m):=eu (by rw[<-ad.o];exact U);have a6:(fh (fF rows k) (0:Int) m)[m]?=some 0:=nK _ _ _ (by rw[nq];exact I);obtain⟨g,cr,bz,b2,be,b5,_⟩:=z.at Y;cases b2
     obtain⟨F,c,Z,cO,c0,b8,c4,b9,bd⟩:=z.gS Y a6;rw[be]at Z;simp only[dX,fO]at Z;obtain⟨rfl,_,rfl⟩:=Z;obtain⟨ab,cn⟩:=bd x;rw[List.set_set,kO _ _ _ _ (zd6 E O)]at ab;obtain⟨br,bv⟩:=bS ab (H.setCell (p:=⟨F,m,none⟩) b8 (zI x));have db:w.heap.size≠F:=fun e=>b9 (by rw[<-e];rfl)
     have dc:Q≠F:=RU;have c6:k<r.length:=RU;have bb:(fh (fF rows k) (0:Int) m).length=rows:=by simp[fh,nq];omega
     rw[bb]at b5;clear E a4 a8 O a5 Y a6 be bd ab cn z bb;go_wp2_with fail
     go_region_held3 (fun w'=>ah w' w k (.slice (aY F) rows bz)/\ah w' Q (ci+k) (zI x))
      (first|(simp[*];done)|(refine⟨?_,?_⟩<;>(first|(refine(eF SJ).trans ?_;assumption)|(refine(jZ SJ).trans ?_;assumption)))) (fail)
     go_wp2;go_roundw
     case rel=>exact⟨m+1,RU,RW,⟨_,br.ext (aj _ _).drew⟩,bv.drew⟩
     case measure=>simp[intOf];omega
    .have c9:m=rows.length:=RU;have ba:(fh (Bo rows n) [] k).set k (fh (fF rows k) 0 m)=fh (Bo rows n) [] (k+1):=by rw[kN (fF rows k) (0:Int) m (by rw[nq];omega)];exact kO _ _ _ _ (zg7 U)
     rw[ba]at z;have bo:=zH z;clear ba z;go_wp2;go_roundw
     case rel=>exact⟨k+1,RU,RW,⟨_,bo⟩,H⟩
     case measure=>simp[intOf];omega
  .go_wp2;go_ret
   have h:=ap.o;rw[kN _ _ _ (by rw[xE];omega)]at h;exact⟨_,rfl,⟨_,h⟩,R⟩
end Go.Proofs.YtdpgblncijojiaaGreatDoor
