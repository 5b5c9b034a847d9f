/- Parts of the walks. Conditions: as stated with each. -/
import Derived.Test.YtdpgblncijojiaaGreatDoorPk48
import Derived.Test.YtdpgblncijojiaaGreatDoorPk50
namespace Go.Proofs.YtdpgblncijojiaaGreatDoor
open Go.RowKit Tryz
set_option linter.all false
set_option maxHeartbeats 16000000
set_option maxRecDepth 100000
section
variable{p:Int}{S T:Sy}{X:List cZ}{A B XA:aq}{c d xc:Nat}{w:aa}
def gPi(E:cU w)(F:aL w A S.rows)(H:aL w B T.rows)(z:S.rows.length<=1048576/\∀r∈S.rows,r.length<=1048576)(D:T.rows.length<=1048576/\∀r∈T.rows,r.length<=1048576):ax 23 #[p,lU S A c,lU T B d] w (zu (prX p S T) (tp p S T) w):=(zbW p S A c T B d w E F z.1 z.2 H D.1 D.2).mono fun _ _ h=>h.to
def gPs(E:aL w A S.rows)(F:aL w B T.rows)(z:S.rows.length<=1048576/\∀r∈S.rows,r.length<=1048576)(D:T.rows.length<=1048576/\∀r∈T.rows,r.length<=1048576):ax 24 #[p,lU S A c,lU T B d] w (zu (prX p S T) (tp p S T) w):=(zbX p S A c T B d w E z.1 z.2 F D.1 D.2).mono fun _ _ h=>h.to
def gSm(F:cU w)(H:aL w A S.rows)(I:aL w B T.rows)(h:tp p S T=true):ax 26 #[p,lU S A c,lU T B d] w fun e w'=>e=.returned (.tuple oW)/\aj w w':=by obtain⟨z,D,E⟩:=ym h;exact yB p S T A B c d w F H I z.oka z.okb D E
def gCk(z:cU w)(D:aL w A S.rows)(F:fF w XA X)(E:aL w B T.rows)(H:∀x∈X,x.row.length<=1048576)(h:By p S X T):ax 27 #[p,lU S A c,.slice XA X xc,lU T B d] w fun e w'=>e=.returned (.tuple oW)/\aj w w':=by have:=zbc p S A c X XA xc T B d w z D (uu h.oka).1 (uu h.oka).2 F (by have:=h.n;omega) H E (uu h.okb).1 (uu h.okb).2;rw[h.ck.1,h.ck.2]at this;exact this
def gRi(D:cU w)(E:aL w A S.rows)(z:S.rows.length<=1048576/\∀r∈S.rows,r.length<=1048576):ax 29 #[p,lU S A c] w (zu (Be p S) (oE p S) w):=(za0 p S A c w D E z.1 z.2).mono fun _ _ h=>h.to
def gRs(D:aL w A S.rows)(z:S.rows.length<=1048576/\∀r∈S.rows,r.length<=1048576):ax 30 #[p,lU S A c] w (zu (Be p S) (oE p S) w):=(za1 p S A c w D z.1 z.2).mono fun _ _ h=>h.to
end
def Bu(A1:aq)(cb c1:Nat)(A2:aq)(n2 c2:Nat)(w:aa)(d1:cU w)(dT:m_ w A1 cb)(d0:m_ w A2 n2)(d5:∀a,A1=some a->a.block < (w:Nat))(d6:∀a,A2=some a->a.block < (w:Nat)):ax 4 #[.slice A1 cb c1,.slice A2 n2 c2] w (fp w true):=by
 obtain⟨c6,ee,eg,eo,es⟩:=l_ d1 dT d0 d5 d6;clear d1 dT d0 d5 d6;go_enter func4,ntmps4
 go_upto_if 32 with(go_at_call 5;(with_reducible refine(zgR A1 A2 cb c1 n2 c2 w).mono ?_);rintro e gA ⟨y,rfl,d8,rfl⟩;have dc:=zH d8;clear d8;cases y)
 rotate_left
 .go_wp2;go_ret
  exact⟨rfl,ai _ _⟩
 have c4:=zH (dc trivial);clear dc;go_upto_region 4 with(go_at_call 22;(with_reducible refine(Br A1 cb c1 w ee.o eo.o c4.o.1).mono ?_);rintro e am ⟨p,S,A,c,F,a3,d,rfl,⟨b1,d7⟩,bv,d4,z⟩;have a6:=zH b1;have cn:=zH d7;have bp:=zH bv;have c0:=zH d4;have cO:=zH z;clear b1 d7 bv d4 z)
 have z:=((ai am am).alloc (ah _) (.cells (ae S.v S.h A S.rows c) 26)).alloc Rx (.cells (ae F.v F.h a3 F.rows d) 26);have b8:=(bZ (am.alloc (.cells (ae S.v S.h A S.rows c) 26)) (.cells (ae F.v F.h a3 F.rows d) 26) (k:=am.heap.size) Rx).trans (aD am _ rfl);have b9:=aD (am.alloc (.cells (ae S.v S.h A S.rows c) 26)) (.cells (ae F.v F.h a3 F.rows d) 26) (n:=(am:Nat)+1) Rx;generalize (am.alloc _).alloc _=ao at z b8 b9 ⊢;generalize (am:Nat)+1=gL at b9 ⊢;have b2:=z;generalize (am:Nat)=gK at b8 ⊢;obtain⟨a7,bo,E,B⟩:=fS b8 b9 (ai ao ao) (an cO b2);obtain⟨ad,R,bi⟩:=dD (c6.ext B) (bp.ext b2) (c0.ext b2);clear z b8 b9 b2 bp c0 cO;obtain⟨X,bz⟩:=aK (prX p S F);obtain⟨ok,ap⟩:=aK (tp p S F);obtain⟨c7,c8,br,db,b3⟩:=l_ (show ∀V,aj ao V->ax 23 #[p,lU S A c,lU F a3 d] V (zu X ok V) from fun V D=>by rw[bz,ap];exact gPi (ad.ext D) (R.o.ext D) (bi.ext D) a6 cn) (show ∀V,aj ao V->ax 24 #[p,lU S A c,lU F a3 d] V (zu X ok V) from fun V D=>by rw[bz,ap];exact gPs (R.o.ext D) (bi.ext D) a6 cn) (show X.length<=1048576/\∀r∈X,r.row.length<=1048576 by rw[bz];exact ziq p S F) bz ap;clear bz ap;obtain⟨Z,ab,ac⟩:=al (aA a7 E.o);obtain⟨a0,a1,a2⟩:=al (aA bo E.o);go_upto_region 5 with(go_at_call 23;(with_reducible refine(c7.o ao E.o).mono ?_);rintro e cu ⟨ce,cF,rfl,I,z⟩;have gf:=zH z;have b4:=zH I;clear I;replace E:=zH (an E.o z);replace B:=zH (an B z);clear z Z ab ac a0 a1 a2)
 have Q:=zH (ai cu cu);obtain⟨Z,ab,ac⟩:=al (aA a7 E.o);obtain⟨a0,a1,a2⟩:=al (aA bo E.o);go_upto_region 6 with(go_at_call 24;(with_reducible refine(c8.o cu E.o).mono ?_);rintro e fn ⟨d9,fz,rfl,I,z⟩;have gi:=zH z;have c9:=zH I;clear I;replace E:=zH (an E.o z);replace B:=zH (an B z);replace Q:=zH (an Q.o z);clear z Z ab ac a0 a1 a2)
 go_upto_if 61 with(go_at_call 25;(with_reducible refine(AO ce d9 cF fz X fn (b4.o.ext Q.o) c9.o br.o.1 br.o.2).mono ?_);rintro e fo ⟨rfl,z⟩;have gm:=zH z;replace E:=zH (an E.o z);replace B:=zH (an B z);replace Q:=zH (an Q.o z);clear z)
 go_upto_if 62 with fail
 go_cut [5,6,7,8,9,10,11,12,13,14,15,16,17,18,19] from 30 to 119 (fun _ _ _ _ _ _ _ _ _ _ _ _ _ _ _ V=>aj w V)
 case first=>
  cases ok
  .go_wp2_with fail
   go_meet
   exact B
  have a4:tp p S F=true:=b3.symm;have a5:=ym a4;rw[<-db.o]at a5;obtain⟨en,bm,cR⟩:=dD a4 a5.1 a5.1.back;clear a4 a5;obtain⟨e5,cj⟩:=bL (show ∀V,aj ao V->ax 26 #[p,lU S A c,lU F a3 d] V (fun e w'=>e=.returned (.tuple oW)/\aj V w') from fun V D=>gSm (ad.ext D) (R.o.ext D) (bi.ext D) en) (show ∀V O d2,aj ao V->fF V O X->ax 27 #[p,lU S A c,.slice O X d2,lU F a3 d] V (fun e w'=>e=.returned (.tuple oW)/\aj V w') from fun V O d2 D ba=>gCk (ad.ext D) (R.o.ext D) ba (bi.ext D) br.2 bm);obtain⟨Y,ca⟩:=aK (unX p S X);obtain⟨e8,e6⟩:=bL (show ∀r∈Y,r.row.length<=1048576 by rw[ca];exact(ziJ p S X).2) (show ∀V O d2,aj ao V->fF V O X->ax 20 #[p,lU S A c,.slice O X d2] V (zu Y true V) from fun V O d2 D ba=>by have:=dUn (p:=p) (c:=c) (xc:=d2) (ad.ext D) (R.o.ext D) ba a6 br;rw[bm.o.ok,<-ca]at this;exact this);rw[<-ca]at cR;clear ca;have em:=zH (show ∀V O d2,aj ao V->fF V O Y->ax 27 #[p,lU F a3 d,.slice O Y d2,lU S A c] V (fun e w'=>e=.returned (.tuple oW)/\aj V w') from fun V O d2 D ba=>gCk (ad.ext D) (bi.ext D) ba (R.o.ext D) e8 cR);obtain⟨Z,ab,ac⟩:=al (aA a7 E.o);obtain⟨a0,a1,a2⟩:=al (aA bo E.o);go_upto_region 10 with(go_at_call 26;(with_reducible refine(e5.o fo E.o).mono ?_);rintro e fs ⟨rfl,z⟩;have gn:=zH z;replace E:=zH (an E.o z);replace B:=zH (an B z);replace Q:=zH (an Q.o z);clear z Z ab ac a0 a1 a2)
  obtain⟨Z,ab,ac⟩:=al (aA a7 E.o);obtain⟨a0,a1,a2⟩:=al (aA bo E.o);go_upto_region 11 with(go_at_call 27;(with_reducible refine(cj.o fs ce cF E.o (b4.o.ext Q.o)).mono ?_);rintro e fa ⟨rfl,z⟩;have f7:=zH z;replace E:=zH (an E.o z);replace B:=zH (an B z);replace Q:=zH (an Q.o z);clear z Z ab ac a0 a1 a2)
  obtain⟨Z,ab,ac⟩:=al (aA a7 E.o);go_upto_region 12 with(go_at_call 20;(with_reducible refine(e6.o fa ce cF E.o (b4.o.ext Q.o)).mono ?_);rintro e fb ⟨ea,f0,rfl,I,z⟩;have f8:=zH z;have e0:=zH I;clear I;replace E:=zH (an E.o z);replace B:=zH (an B z);replace Q:=zH (an Q.o z);clear z Z ab ac)
  obtain⟨Z,ab,ac⟩:=al (aA a7 E.o);obtain⟨a0,a1,a2⟩:=al (aA bo E.o);go_wp2_with (go_at_call 27;(with_reducible refine(em.o fb ea f0 E.o e0.o).mono ?_);rintro e gs ⟨rfl,z⟩;have ci:=zH (an B z);clear z Z ab ac a0 a1 a2)
  go_meet
  exact ci
 case rest=>
  have B:=zH hcut;clear hcut b3 db E Q c7 c8 br a7 bo ad R bi a6 cn b4 c9;obtain⟨V,rfl⟩:∃V,V=wc:=⟨wc,rfl⟩;obtain⟨ei,ev⟩:=bL (show m_ V A2 n2 from fun k a4=>by obtain⟨a,o,x,e,U,f3⟩:=eg k a4;exact⟨a,o,x,e,U,ag B f3⟩) (show ∀a,A2=some a->a.block < (V:Nat) from fun a e=>gz (es a e) B.size);go_upto_region 16 with(go_at_call 28;(with_reducible refine(AA A2 n2 c2 V ei.o ev.o c4.o.2).mono ?_);rintro e b6 ⟨q,J,A3,c3,rfl,b1,bv,z⟩;have f9:=zH z;have a6:=zH b1;have bp:=zH bv;clear b1 bv;replace B:=zH (an B z);clear z)
  have U:=aD b6 (.cells (ae J.v J.h A3 J.rows c3) 26) rfl;have z:=aE b6 (.cells (ae J.v J.h A3 J.rows c3) 26)
  replace B:=zH (an B z)
  generalize b6.alloc _=a8 at U z B ⊢;generalize (b6:Nat)=gB at U ⊢;obtain⟨b5,H,c5⟩:=dD U (ai a8 a8) z;clear U z;obtain⟨ad,R⟩:=bL (c6.ext B) (bp.ext c5);clear bp c5;obtain⟨a9,b0⟩:=aK (Be q J);obtain⟨ok,ap⟩:=aK (oE q J);obtain⟨e3,e4,co,e9,b3⟩:=l_ (show ∀V,aj a8 V->ax 29 #[q,lU J A3 c3] V (zu a9 ok V) from fun V D=>by rw[b0,ap];exact gRi (ad.ext D) (R.o.ext D) a6) (show ∀V,aj a8 V->ax 30 #[q,lU J A3 c3] V (zu a9 ok V) from fun V D=>by rw[b0,ap];exact gRs (R.o.ext D) a6) (show a9.length<=1048576/\∀r∈a9,r.row.length<=1048576 by rw[b0];exact ziK q J) b0 ap;clear b0 ap;obtain⟨bb,bd,be⟩:=al (aA b5 H.o);go_upto_region 17 with(go_at_call 29;(with_reducible refine(e3.o a8 H.o).mono ?_);rintro e ct ⟨cK,dl,rfl,I,z⟩;have ga:=zH z;have da:=zH I;clear I;replace B:=zH (an B z);replace H:=zH (an H.o z);clear z bb bd be)
  have T:=zH (ai ct ct);obtain⟨bb,bd,be⟩:=al (aA b5 H.o);go_upto_region 18 with(go_at_call 30;(with_reducible refine(e4.o ct H.o).mono ?_);rintro e fd ⟨eb,f1,rfl,I,z⟩;have gb:=zH z;have e1:=zH I;clear I;replace B:=zH (an B z);replace H:=zH (an H.o z);replace T:=zH (an T z);clear z bb bd be)
  go_upto_if 144 with(go_at_call 25;(with_reducible refine(AO cK eb dl f1 a9 fd (da.o.ext T.o) e1.o co.o.1 co.o.2).mono ?_);rintro e fl ⟨rfl,z⟩;have gc:=zH z;replace B:=zH (an B z);replace H:=zH (an H.o z);replace T:=zH (an T z);clear z)
  cases ok
  .go_wp2;go_ret
   exact⟨rfl,B⟩
  have a4:oE q J=true:=b3.symm;have a5:=DA a4;rw[<-e9.o]at a5;have bm:=zH a5;clear a4 a5;obtain⟨F,cI⟩:=aK (gW q J);rw[<-cI]at bm;have ek:=zH (show ∀V,aj a8 V->ax 31 #[q,lU J A3 c3] V (zjh F V) from fun V D=>by rw[cI];exact tF q J A3 c3 V (ad.ext D) (R.o.ext D) bm.oka);clear cI;have cj:=zH (show ∀V O d2 ch d3,aj a8 V->fF V O a9->aL V ch F.rows->ax 27 #[q,lU J A3 c3,.slice O a9 d2,lU F ch d3] V (fun e w'=>e=.returned (.tuple oW)/\aj V w') from fun V O d2 ch d3 D ba f2=>gCk (ad.ext D) (R.o.ext D) ba f2 co.2 bm);obtain⟨bb,bd,be⟩:=al (aA b5 H.o);go_upto_region 22 with(go_at_call 31;(with_reducible refine(ek.o fl H.o).mono ?_);rintro e b7 ⟨cc,cz,rfl,I,z⟩;have gd:=zH z;have e2:=zH I;clear I;replace B:=zH (an B z);replace H:=zH (an H.o z);replace T:=zH (an T z);clear z bb bd be)
  have U:=aD b7 (.cells (ae F.v F.h cc F.rows cz) 26) rfl;have z:=aE b7 (.cells (ae F.v F.h cc F.rows cz) 26)
  replace B:=zH (an B z);replace H:=zH (an H.o z);replace T:=zH (an T z)
  generalize b7.alloc _=cr at U z B H T ⊢;generalize (b7:Nat)=gC at U ⊢;obtain⟨e7,ej,eA⟩:=dD U (ai cr cr) z;clear U z;obtain⟨bb,bd,be⟩:=al (aA b5 H.o);obtain⟨f4,f5,f6⟩:=al (aA e7 ej);go_wp2_with (go_at_call 27;(with_reducible refine(cj.o cr cK dl cc cz H.o (da.o.ext T.o) (e2.o.ext eA.o)).mono ?_);rintro e gw ⟨rfl,z⟩;have ci:=zH (an B z);clear z bb bd be f4 f5 f6)
  go_ret
  exact⟨rfl,ci⟩
end Go.Proofs.YtdpgblncijojiaaGreatDoor
