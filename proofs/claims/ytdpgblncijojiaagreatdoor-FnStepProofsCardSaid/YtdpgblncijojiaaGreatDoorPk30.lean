/- Parts of the walks. Conditions: as stated with each. -/
import Derived.Test.YtdpgblncijojiaaGreatDoorPk22
import Derived.Test.YtdpgblncijojiaaGreatDoorPk29
namespace Go.Proofs.YtdpgblncijojiaaGreatDoor
open Go.RowKit Tryz
set_option linter.all false
set_option maxHeartbeats 4000000
set_option maxRecDepth 20000
def zfV(p v h a b c:Int)(A:aq)(cap:Nat)(rows:aC)(w:aa)(z:aq)(n B:Nat):ax 90 (dI p (ae v h A rows cap) (km a b c z n B)) w fun e w'=>∃u,e=.returned (.agg #[.int .i64 1,a,b,(),u])/\au w' w u []/\aj w w':=by
 go_enter func90,nA
 go_wp2;refine az (v:=.agg #[.int .i64 1,a,b,(),fA]) Uh rfl ⟨_,rfl,au.nil _ _,?_⟩;exact below_alloc3 w _ _ _
def zfW(p v h a b c:Int)(A:aq)(cap:Nat)(rows:aC)(w:aa)(z:aq)(n B:Nat):ax 90 (dI p (ae v h A rows cap) (kn a b c z n B)) w fun e w'=>∃u,e=.returned (.agg #[.int .i64 5,a,(),(),u])/\au w' w u []/\aj w w':=by
 go_enter func90,nA
 go_wp2;refine az (v:=.agg #[.int .i64 5,a,(),(),fA]) Uh rfl ⟨_,rfl,au.nil _ _,?_⟩;exact below_alloc3 w _ _ _
def zhd(p v h a b c:Int)(A:aq)(cap:Nat)(rows:aC)(w:aa)(z:aq)(n B:Nat):ax 90 (dI p (ae v h A rows cap) (ko a b c z n B)) w fun e w'=>∃u,e=.returned (.agg #[.int .i64 4,a,(),(),u])/\au w' w u []/\aj w w':=by
 go_enter func90,nA
 go_wp2;refine az (v:=.agg #[.int .i64 4,a,(),(),fA]) Uh rfl ⟨_,rfl,au.nil _ _,?_⟩;exact below_alloc3 w _ _ _
def zef(p v h a b c:Int)(A:aq)(cap:Nat)(rows:aC)(w:aa)(z:aq)(n B:Nat):ax 90 (dI p (ae v h A rows cap) (kp a b c z n B)) w fun e w'=>∃u,e=.returned (.agg #[.int .i64 6,a,b,(),u])/\au w' w u []/\aj w w':=by
 go_enter func90,nA
 go_wp2;refine az (v:=.agg #[.int .i64 6,a,b,(),fA]) Uh rfl ⟨_,rfl,au.nil _ _,?_⟩;exact below_alloc3 w _ _ _
def zbS(p v h a b c:Int)(A:aq)(cap:Nat)(rows:aC)(w:aa)(z:aq)(n B:Nat):ax 90 (ew p (ae v h A rows cap) (ki a b c z n B)) w fun e w'=>∃u,e=.returned (.agg #[.int .i64 9,(),b,(),u])/\au w' w u []/\aj w w':=by
 go_enter func90,nA
 go_wp2;refine az (v:=.agg #[.int .i64 9,(),b,(),fA]) Uh rfl ⟨_,rfl,au.nil _ _,?_⟩;exact below_alloc3 w _ _ _
def zbT(p v h a b c:Int)(A:aq)(cap:Nat)(rows:aC)(w:aa)(z:aq)(n B:Nat):ax 90 (dI p (ae v h A rows cap) (kq a b c z n B)) w fun e w'=>∃u,e=.returned (.agg #[.int .i64 8,(),b,(),u])/\au w' w u []/\aj w w':=by
 go_enter func90,nA
 go_wp2;refine az (v:=.agg #[.int .i64 8,(),b,(),fA]) Uh rfl ⟨_,rfl,au.nil _ _,?_⟩;exact below_alloc3 w _ _ _
def zeg(p v h a b c:Int)(A:aq)(cap:Nat)(rows:aC)(w:aa)(z:aq)(n H:Nat)(E:2<=p)(F:p<=97)(B:0<=c)(D:c<p):ax 90 (dI p (ae v h A rows cap) (kr a b c z n H)) w fun e w'=>∃u,e=.returned (.agg #[.int .i64 2,a,(),.int .i64 (ec p c),u])/\au w' w u []/\aj w w':=by
 go_enter func90,nA
 go_wp2;go_region_held3 (fun W=>af W ((w:Nat)+1) 0 (zI 2)/\af W ((w:Nat)+1) 1 (zI a)/\af W ((w:Nat)+1) 3 (zI c)) (go_keep)
  ((go_at_call 103;refine(so p c _ E F B D).mono ?_;rintro e w' ⟨rfl,rfl⟩))
 go_wp2;refine az (v:=.agg #[.int .i64 2,a,(),.int .i64 (ec p c),fA]) Uh rfl ⟨_,rfl,au.nil _ _,?_⟩;exact(below_alloc3 w _ _ _).drew
def zhe(p v h a b c:Int)(A:aq)(cap:Nat)(rows:aC)(w:aa)(z:aq)(n H:Nat)(E:2<=p)(F:p<=97)(B:0<=c)(D:c<p):ax 90 (dI p (ae v h A rows cap) (kj a b c z n H)) w fun e w'=>∃u,e=.returned (.agg #[.int .i64 3,a,b,.int .i64 ((p-c)%p),u])/\au w' w u []/\aj w w':=by
 go_enter func90,nA
 go_wp2;go_region_held3 (fun W=>af W ((w:Nat)+1) 0 (zI 3)/\af W ((w:Nat)+1) 1 (zI a)/\af W ((w:Nat)+1) 2 (zI b)/\af W ((w:Nat)+1) 3 (zI c)) (go_keep)
  ((go_at_call 119;refine(sl p c _ E F B D).mono ?_;rintro e w' ⟨rfl,rfl⟩))
 go_wp2;refine az (v:=.agg #[.int .i64 3,a,b,.int .i64 ((p-c)%p),fA]) Uh rfl ⟨_,rfl,au.nil _ _,?_⟩;exact(below_alloc3 w _ _ _).drew
def zeh(p v h a b c:Int)(A:aq)(cap:Nat)(rows:aC)(w:aa)(H:aq)(n O:Nat)(ac:aL w A rows)(bd:0<=a)(be:a<rows.length)(a0:∀r∈rows,r.length<=1048576):ax 90 (ew p (ae v h A rows cap) (iT a b c H n O)) w fun e w'=>∃u,e=.returned (.agg #[.int .i64 7,a,b,(),u])/\au w' w u (rows.getD a.toNat [])/\aj w w':=by
 obtain⟨r,hr⟩:=aw (Ry:a.toNat<rows.length);obtain⟨z,o,rfl,ao⟩:=ac.here (Ry:a.toNat<rows.length);obtain⟨Z,ab,Q,ap⟩:=ao _ r hr;obtain⟨HG,Fu⟩:=bL (To:rows.getD a.toNat []=r) (a0 r (aR hr));have E:=below_alloc3 w (.cells (ae v h (some ⟨z,o,none⟩) rows cap) 26) (.cells (iT a b c H n O) 29) (.cells dH 29);have am:z < (w:Nat):=iK _ _ Q;obtain⟨T,J,U⟩:=cv w (.cells (ae v h (some ⟨z,o,none⟩) rows cap) 26) (.cells (iT a b c H n O) 29) (.cells dH 29);obtain⟨F,EY⟩:=aK (((w.alloc (.cells (ae v h (some ⟨z,o,none⟩) rows cap) 26)).alloc (.cells (iT a b c H n O) 29)).alloc (.cells dH 29));rw[<-EY]at E T J U;have D:=zH (show ∀W,aj F W->af W ((w:Nat)+1) 1 (zI a)/\af W ((w:Nat)+1) 2 (zI b)/\af W w 2 (.slice (some ⟨z,o,none⟩) rows cap)/\af W z (o+a.toNat) (.slice Z r ab) from
  fun W I=>⟨aV (cp I J) 1,aV (cp I J) 2,aV (cp I T) 2,ag (an E I) Q⟩)
 obtain⟨a4,a2,a8,a3,a7⟩:=l_ (ap.ext E) E U am EY;have a1:(F:Nat)=w+3:=Sc;have a5:=zH a1;clear ac ao Q ap hr a0 E T J U am a1 EY;go_enter func90,nA
 go_wp2;rw[<-a7.o];go_region_held3 (fun W=>af W ((w:Nat)+1) 1 (zI a)/\af W ((w:Nat)+1) 2 (zI b)/\af W w 2 (.slice (some ⟨z,o,none⟩) rows cap)/\af W z (o+a.toNat) (.slice Z r ab)) (first|exact D.o _ (ai _ _).drew|exact D.o _ B.o|exact⟨(lg Sn).trans (D.o _ B.o).1,(lg Sn).trans (D.o _ B.o).2.1,(lg Sn).trans (D.o _ B.o).2.2.1,(lg (by have:=a3.o;simp<;>omega)).trans (D.o _ B.o).2.2.2⟩)
  ((go_at_call 80;refine(ig _ _ _ _ (a4.ext ?_) Tq).mono ?_;exact(ai _ _).drew;rintro e bm ⟨u,rfl,R,ad⟩;obtain⟨A2,c2,rfl,_⟩:=R.view;have B:=zH ((ai F F).drew.trans ad);have a6:=zH R;clear R ad;obtain⟨⟨a9,c1,ba,c3,bb⟩,f0,f1,f2,f3,f4⟩:=m6 B a8))
 have bi:=a5.o;have HO:=a6.o;simp only[World.size_drew]at HO;go_wp2;refine az (v:=.agg #[.int .i64 7,a,b,(),.slice A2 r c2]) (by simp[results,nB,go_sem, *]) rfl ⟨_,rfl,?_,?_⟩
 .exact Y7
 .exact gN (an a2 B) Ry _ _ _ _ _
def zbU(p v h k a b c:Int)(A:aq)(cap:Nat)(rows:aC)(w:aa)(B:aq)(row:aH)(D:Nat)(U:aL w A rows)(s:Sys p v h rows)(Z:jO p v h rows k a b c row=true):ax 90 (ew p (ae v h A rows cap) (dk k a b c B row D)) w fun e w'=>∃u,e=.returned (.agg (kV (uK true k) (uA true k a) (uB true k b) (uC true p k c) u))/\au w' w u (uR true rows k a)/\aj w w':=by
 have z:=Z;unfold jO at z;rw[bn]at z
 replace z:=z.2
 by_cases E:k=1
 .subst E;simp[bh]at z;rw[show uK true 1=1 by simp[uK],show uA true 1 a=a by simp[uA],show uB true 1 b=b by simp[uB],show uC true p 1 c=0 by simp[uC],show uR true rows 1 a=[] by simp[uR]];exact zfV p v h a b c A cap rows w B row D
 by_cases F:k=2
 .subst F;simp[bh]at z;rw[show uK true 2=2 by simp[uK],show uA true 2 a=a by simp[uA],show uB true 2 b=0 by simp[uB],show uC true p 2 c=(ec p c) by simp[uC],show uR true rows 2 a=[] by simp[uR]];exact zeg p v h a b c A cap rows w B row D s.p2 s.p97 Ry Ry
 by_cases H:k=3
 .subst H;simp[bh]at z;rw[show uK true 3=3 by simp[uK],show uA true 3 a=a by simp[uA],show uB true 3 b=b by simp[uB],show uC true p 3 c=((p-c)%p) by simp[uC],show uR true rows 3 a=[] by simp[uR]];exact zhe p v h a b c A cap rows w B row D s.p2 s.p97 Ry Ry
 by_cases I:k=4
 .subst I;simp[bh]at z;rw[show uK true 4=5 by simp[uK],show uA true 4 a=a by simp[uA],show uB true 4 b=0 by simp[uB],show uC true p 4 c=0 by simp[uC],show uR true rows 4 a=[] by simp[uR]];exact zfW p v h a b c A cap rows w B row D
 by_cases J:k=5
 .subst J;simp[bh]at z;rw[show uK true 5=4 by simp[uK],show uA true 5 a=a by simp[uA],show uB true 5 b=0 by simp[uB],show uC true p 5 c=0 by simp[uC],show uR true rows 5 a=[] by simp[uR]];exact zhd p v h a b c A cap rows w B row D
 by_cases O:k=6
 .subst O;simp[bh]at z;rw[show uK true 6=7 by simp[uK],show uA true 6 a=a by simp[uA],show uB true 6 b=b by simp[uB],show uC true p 6 c=0 by simp[uC],show uR true rows 6 a=(rows.getD a.toNat []) by simp[uR]];exact zeh p v h a b c A cap rows w B row D U Ry Ry (fun r hr=>Wp)
 by_cases Q:k=7
 .subst Q;simp[bh]at z;rw[show uK true 7=6 by simp[uK],show uA true 7 a=a by simp[uA],show uB true 7 b=b by simp[uB],show uC true p 7 c=0 by simp[uC],show uR true rows 7 a=[] by simp[uR]];exact zef p v h a b c A cap rows w B row D
 by_cases R:k=8
 .subst R;simp[bh]at z;rw[show uK true 8=9 by simp[uK],show uA true 8 a=0 by simp[uA],show uB true 8 b=b by simp[uB],show uC true p 8 c=0 by simp[uC],show uR true rows 8 a=[] by simp[uR]];exact zbS p v h a b c A cap rows w B row D
 by_cases T:k=9
 .subst T;simp[bh]at z;rw[show uK true 9=8 by simp[uK],show uA true 9 a=0 by simp[uA],show uB true 9 b=b by simp[uB],show uC true p 9 c=0 by simp[uC],show uR true rows 9 a=[] by simp[uR]];exact zbT p v h a b c A cap rows w B row D
 simp[*]at z
end Go.Proofs.YtdpgblncijojiaaGreatDoor
