/- Parts of the walks and laws (Ln2, Hl4, Rlw8). Conditions: as stated with each. -/
import Derived.Test.YtpieilkmmiopfaaGreatDoorPk40
namespace Go.Proofs.YtpieilkmmiopfaaGreatDoor
open Go.RowKit Tryz
set_option linter.all false
set_option maxHeartbeats 4000000
set_option maxRecDepth 100000
variable{B hi hi' lo lo' n s:Nat}{L:List er}{Rk:du}{v:ax}{w w':aa}
theorem Eu(x:er)(w:aa):aw 56 (iD (oy x) (oy x)) w (dM w true):=by
 have h:=zH (((aj w.heap.size w).alloc Rq (.cells (oy x) 95)).alloc Rq (.cells (oy x) 95));obtain⟨k,v,s⟩:=x;dsimp only at h ⊢;go_enter func56,ntmps56
 go_wp2;go_ret
 exact⟨rfl,h.o⟩
theorem C5(A G:aq)(cap N:Nat)(L:List er)(w:aa)(I:bF 3 iR w A L)(J:bF 3 iR w G L)(Z:L.length<=1048576):aw 31 (lH A L cap G L N) w (dM w true):=by
 have V:((L.length:Int)!=(L.length:Int))=false:=Rq;go_enter func31,ntmps31
 go_wp2;go_loopw [5] (fun i wr=>∃k:Nat,k<=L.length/\i=.int .i64 k/\ag w wr) (fun i _=>L.length-(intOf i).toNat)
 case atStart=>exact⟨0,aX _,rfl,aj _ _⟩
 case round=>
  obtain⟨k,Y,rfl,EL⟩:=hrel;by_cases O:k<L.length
  .obtain⟨x,D⟩:=aB O;obtain⟨b,o,rfl,H,c1,c2⟩:=f_ (bw I EL) D;obtain⟨h,F,rfl,d0,d1,d2⟩:=f_ (bw J EL) D;have R:∀W:Ext wr,ae W.W b (o+k*3) (.int .i64 x.k):=fun W=>W.cell H
   have T:∀W:Ext wr,ae W.W b (o+k*3+1) (.int .i64 x.v):=fun W=>W.cell c1
   have U:∀W:Ext wr,ae W.W b (o+k*3+2) (.string x.s):=fun W=>W.cell c2
   have f0:∀W:Ext wr,ae W.W h (F+k*3) (.int .i64 x.k):=fun W=>W.cell d0
   have f1:∀W:Ext wr,ae W.W h (F+k*3+1) (.int .i64 x.v):=fun W=>W.cell d1
   have f2:∀W:Ext wr,ae W.W h (F+k*3+2) (.string x.s):=fun W=>W.cell d2
   clear D I J H c1 c2 d0 d1 d2;go_wp2;refine bK RP RP ?_
   repeat (go_big_quiet_step ((go_at_call 56;exact Calls.eA (Eu _ _))))
   exact YI
  .go_wp2;go_ret
   exact⟨rfl,EL⟩
theorem re(A D:aq)(cap F:Nat)(L:List er)(w:aa)(G:bF 3 iR w A L)(H:bF 3 iR w D L)(T:L.length<=1048576):aw 12 (iD (aO A L cap) (aO D L F)) w (dM w true):=by
 have h:=((aj w.heap.size w).alloc Rq (.cells (aO A L cap) 35)).alloc Rq (.cells (aO D L F) 35);have J:=zH h;have O:=bw G h;have R:=bw H h;clear h G H;go_enter func12,ntmps12
 go_wp2_with ((go_at_call 31;refine(C5 _ _ _ _ _ _ O R T).mono ?_;rintro e w' ⟨rfl,I⟩;have N:=zH I;clear I))
 go_ret
 exact⟨rfl,J.o.trans (N.o.mono Sp)⟩
theorem Ev{xs:bU}(D:w.ownsRow B Rk s v n xs)(h:ag w w'):w'.ownsRow B Rk s v n xs:=ik D (row:=none) ⟨h.os,h.tape,h.output,h.size,fun k F _=>h.block k F⟩ Uj
def c1(n:Int):ByteArray:=ByteArray.empty.push (UInt8.ofNat n.toNat)
theorem zcn(n:Int):(c1 n).size=1:=rfl
theorem zhY(W:aa)(n:Int):(convert 143 9 (.slice (some ⟨W.heap.size,0,none⟩) 1 1)).run prog (W.alloc (.cells #[.int .u8 n] 5))=.ok (.string (c1 n)) (W.alloc (.cells #[.int .u8 n] 5)):=by
 rw[run_convert_bytes_string _ _ _ 5 _ _ _ underlying143 underlying5 underlying9];have D:=run_loadCells_list (P:=prog) (W.alloc (.cells #[.int .u8 n] 5)) ⟨W.heap.size,0,none⟩ [.int .u8 n] (fun j v h=>by
  match j,h with
  |0,h=>simp at h;subst h;simp[Addr.add]
  |j+1,h=>simp at h)
 exact run_bytesToString (P:=prog) (W.alloc (.cells #[.int .u8 n] 5)) ⟨W.heap.size,0,none⟩ 1 1 [n] D
theorem C6(k:Int)(w:aa)(H:0<=k)(R:k<=1152921504606846976):aw 73 (bs k) w fun e w'=>∃s:ByteArray,e=.returned (.string s)/\ag w w':=by
 by_cases I:k<=0
 .go_enter func73,ntmps73
  go_wp2;go_ret
  exact⟨_,rfl,aj _ _⟩
 .go_enter func73,ntmps73
  go_wp2;go_loopw [0,3] (fun q o wr=>∃(j:Int) (s:ByteArray),q=.int .i64 j/\o=.string s/\0<=j/\(s.size:Int)+j<=k/\ag w wr) (fun q _ _=>(intOf q).toNat)
  case atStart=>exact⟨k,_,rfl,rfl,H,by show(0:Int)+k<=k;omega,aj _ _⟩
  case round=>
   obtain⟨j,s,rfl,rfl,N,O,h⟩:=hrel;by_cases T:0<j
   .have J:=fun n=>zhY wr n
    have D:∀n,¬((c1 n).size+s.size>9223372036854775807):=fun n=>by rw[zcn];omega
    have G:∀n,¬(9223372036854775807 < (c1 n).size+s.size):=D;go_wp2;go_roundw
    case rel=>exact⟨j / 10,_,rfl,rfl,Rr,by rw[ByteArray.size_append,zcn];omega,h.alloc h.size _⟩
    case measure=>simp[intOf];omega
   .have F:(ByteArray.mk #[109]).size=1:=rfl;have D:¬((ByteArray.mk #[109]).size+s.size>9223372036854775807):=by rw[F];omega
    have G:¬(9223372036854775807 < (ByteArray.mk #[109]).size+s.size):=D;clear F;go_wp2;go_ret
    exact⟨⟨_,rfl⟩,h⟩
structure sJ(w:aa)(lo hi:Nat)(v:ax)(L:List er):Prop where
 own:dz w lo v L
 up:∀b,v.ownBlock=some b->b<hi
theorem sJ.of(h:dz w B v L):sJ w B w.heap.size v L:=⟨h,fun b D=>(bL h b D).2⟩
theorem sJ.ext(h:sJ w lo hi v L)(D:ag w w'):sJ w' lo hi v L:=⟨h.own.ext D,h.up⟩
theorem sJ.within(h:sJ w lo hi v L)(I:bn lo' hi' w w')(J:hi<=lo'∨hi'<=lo):sJ w' lo hi v L:=⟨⟨h.own.1,h.own.2.imp id fun⟨g,cap,H,a1,F,D,G⟩=>⟨g,cap,H,a1,F,(I.block g (aT.1 D).1 Vf).trans D,G⟩⟩,h.up⟩
theorem Bl(k:Int)(lo hi:Nat)(A:aq)(cap:Nat)(L:List er)(w:aa)(G:sJ w lo hi (.slice A L.length cap) L)(ba:L.length<=1048576)(bi:0<=k)(bo:k<=1125899906842624):aw 42 (oI A L cap k) w fun e w'=>e=.returned (.int .i64 (k+3*L.length))/\bn lo hi w w':=by
 by_cases F:L.length=0
 .have bc:L=[]:=fC F;subst bc;clear G F;go_enter func42,ntmps42
  go_wp2;go_loopw [1,5] (fun q i wr=>i=.int .i64 0/\q=.int .i64 k/\wr=w) (fun _ _ _=>0)
  case atStart=>exact⟨rfl,rfl,rfl⟩
  case round=>
   obtain⟨rfl,rfl,rfl⟩:=hrel;go_wp2;go_ret
   exact⟨iB Rq,bn.refl _ _ _⟩
 .obtain⟨g,bd,a2,a0,a9⟩:=kn G.own Rr;simp only[dW]at a2;obtain⟨rfl,-,rfl⟩:=a2;obtain⟨J,ab,ac⟩:=dO G.own (G.up g rfl) a0;clear G F a0 a9;obtain⟨n,U⟩:=aM L.length;rw[<-U]at ba ⊢;have am:=zH (show w.ownsRow lo 95 3 (.slice (some ⟨g,0,none⟩) n cap) n (L.map yM).flatten by have:=J.o;unfold dz at this;rw[<-U]at this;exact this);clear J U;have J:=am;clear am;go_enter func42,ntmps42
  go_wp2;go_loopw [1,5] (fun q i wr=>∃j:Nat,j<=n/\i=.int .i64 j/\q=.int .i64 (k+3*j)/\(∃I,wr.ownsRow lo 95 3 (.slice (some ⟨g,0,none⟩) n cap) n I)/\bn lo hi w wr)
   (fun _ i _=>n-(intOf i).toNat)
  case atStart=>exact⟨0,aX _,rfl,Rq,⟨_,J.o⟩,bn.refl _ _ _⟩
  case round=>
   obtain⟨j,bg,rfl,rfl,⟨I,h⟩,O⟩:=hrel;obtain⟨q,V⟩:=aM (k+3*(j:Int));have bq:0<=q:=Rr;have br:q<=1127000000000000:=Rr;have ad:=zH V;rw[<-V];clear V;by_cases bp:j<n
   .have bb:=h.1;obtain⟨v0,F⟩:=aB (Rr:j*3<I.length);obtain⟨v1,ao⟩:=aB (Rr:j*3+1<I.length);have d0:=(h.cellAt (j*3) Rr).trans F;have d1:=(h.cellAt (j*3+1) Rr).trans ao;have f0:=h.frozenAt (j*3);have f1:=h.frozenAt (j*3+1);have Y:=h.stored (j*3) (.int .i64 q);have Z:=Y.1.stored (j*3+1) (.int .i64 (q+1));have T:=bN Y.2 Z.2;have N:=Z.1;have R:=zH O;clear Y Z O h F ao bb;go_upto_region 8 with(fail)
    generalize (wr.setCell ⟨g,j*3,none⟩ _).setCell ⟨g,j*3+1,none⟩ _=a8 at N T ⊢;generalize (I.set (j*3) (.int .i64 q)).set (j*3+1) (.int .i64 (q+1))=us at N;obtain⟨a6,a7⟩:=bD N (R.o.trans (bn.As T fun b D=>by cases D;exact⟨ac.o,ab.o⟩));clear N T d0 d1 f0 f1;go_wp2_with (go_at_call 73;(with_reducible refine(C6 (q+1+1) a8 Rr Rr).mono ?_);rintro e bu ⟨s,rfl,D⟩;have a3:=zH D;have H:=Ev a6.o D;have a5:=zH H;obtain⟨v2,ap⟩:=aB (show j*3+2<us.length from(by have:=H.1;omega));have d2:=(H.cellAt (j*3+2) Rr).trans ap;have f2:=H.frozenAt (j*3+2);clear D H ap)
    have a1:=a5.o.stored (j*3+2) (.string s);go_roundw
    case rel=>exact⟨j+1,Rr,Rt,by congr 1;rw[ad.o];omega,⟨_,a1.1⟩,(a7.o.trans (bn.eu a3.o)).trans (bn.As a1.2 fun b D=>by cases D;exact⟨ac.o,ab.o⟩)⟩
    case measure=>simp[intOf];omega
   .obtain⟨a4,R⟩:=bD (Rr:j=n) O;clear h O;go_wp2;go_ret
    exact⟨iB (by rw[ad.o,a4.o]),R.o⟩
theorem pI(k:Int)(lo hi:Nat)(A:aq)(cap:Nat)(L:List er)(w:aa)(D:sJ w lo hi (.slice A L.length cap) L)(O:L.length<=1048576)(J:0<=k)(N:k<=1125899906842624):aw 18 (gD (aO A L cap) k) w fun e w'=>e=.returned (.int .i64 (k+3*L.length))/\bn lo hi w w':=by
 have h:=ak w (.cells (aO A L cap) 35);obtain⟨I,G⟩:=bD (D.ext h) h;clear D h;go_enter func18,ntmps18
 go_wp2_with (go_at_call 42;(with_reducible refine(Bl k lo hi A cap L _ I.o O J N).mono ?_);rintro e R ⟨rfl,F⟩;have H:=zH F;clear F)
 go_ret
 exact⟨rfl,(bn.eu G.o).trans H.o⟩
def xK(t:Tm)(w:aa)(e:Ending)(w':aa):Prop:=
 (t.np=false/\e=.returned (.tuple (cJ bQ))/\ag w w')∨
 (t.np=true/\∃A1 c1 h c2 D G,e=.returned (.tuple (fA (fw t.gr.w A1 t.gr.es.length c1 h t.gr.i.length c2 D t.gr.o.length G)))/\Fr w' w.heap.size w'.heap.size (fun F=>j6 F A1 h D t.gr)/\ag w w')
theorem zaZ(x:er)(A:aq)(cap:Nat)(w:aa)(V:dh x.nd=true)(am:bF 3 iR w A [x]):aw 75 #[.agg #[.slice A 1 cap]] w (xK (.lf x.nd) w):=by
 obtain⟨F,I,H⟩:=x;have a7:=zH (show(Tm.lf (er.nd ⟨F,I,H⟩)).np=true from pg V);have bo:F<15:=yR V;obtain⟨ba,a1⟩:=bD (show ∀G,ag w G->aw 104 #[.agg #[.slice A 1 cap]] G (fun e w'=>e=.returned (.int .i64 F)/\ag G w') from fun G bb=>Cn [⟨F,I,H⟩] ⟨F,I,H⟩ A cap G (bw am bb) rfl Rq) (fun G=>zbk F I H G V);obtain⟨h,ad⟩:=aM (eY ⟨F,I,H.toList.isEmpty⟩);rw[<-ad]at a1;have a0:=zH (show(Tm.lf (er.nd ⟨F,I,H⟩)).gr=h from ad.symm);have U:=((aj w.heap.size w).alloc (af _) (.cells #[.slice A 1 cap] 35)).alloc Rq (.cells bQ 54);have ao:=(bJ (w.alloc (.cells #[.slice A 1 cap] 35)) (.cells bQ 54) (k:=w.heap.size) Rq).trans (aC w _ rfl);have Y:=aC (w.alloc (.cells #[.slice A 1 cap] 35)) (.cells bQ 54) (n:=w.heap.size+1) Rq;obtain⟨b,o,rfl,ac,c1,c2⟩:=f_ (bw am U) (k:=0) rfl;simp only[Nat.zero_mul,iM]at ac c1 c2;clear am V ad;go_enter func75,ntmps75
 go_upto_region 1 with(fail)
 generalize (w.alloc _).alloc _=W at U ao Y ac c1 c2 ⊢;have bc:=aI ao 0 rfl;obtain⟨ab,a8,a3⟩:=dO U Y (show w.heap.size+1<W.heap.size from(aT.1 Y).1);clear U ao Y;go_wp2_with (first|(go_at_call 104;(with_reducible refine(ba.o _ ab.o).mono ?_);rintro e bv ⟨rfl,D⟩;have d0:=al D ac;have d1:=al D c1;have d2:=al D c2;have b0:=al D bc;have a9:=zH (ah a8.o D);have ap:=zH (ab.o.trans (D.mono ab.o.size));have a2:=zH D.size;clear D)|(go_at_call 105;(with_reducible refine(a1.o _).mono ?_);rintro e bz ⟨A1,O,J,R,N,T,rfl,a4,D⟩;have Z:=ah a9.o D;obtain⟨bp,bq,br,bu⟩:=aA Z;obtain⟨f0,f1,f2,f3⟩:=bZ Z;have y:=cd (v0:=.int .i64 (h.w:Nat)) (v1:=.slice A1 h.es.length O) (v2:=.slice J h.i.length R) (v3:=.slice N h.o.length T) Z;obtain⟨bd,bg,z2,bi⟩:=aA y;unfold dC at bd bg z2 bi;have a6:=zH (a4.dC (b:=w.heap.size+1) (v0:=.int .i64 (h.w:Nat)) (v1:=.slice A1 h.es.length O) (v2:=.slice J h.i.length R) (v3:=.slice N h.o.length T) (dI a3.o a2.o));have a5:=zH (bI (ap.o.trans (D.mono ap.o.size)) (b:=w.heap.size+1) Rr (.int .i64 (h.w:Nat)) (.slice A1 h.es.length O) (.slice J h.i.length R) (.slice N h.o.length T));clear Z y a4 D))
 refine aE (v:=.tuple (fA (bl h A1 O J R N T))) (by simp[results,qC,go_sem, *]) rfl (an ⟨a7.o,A1,O,J,R,N,T,by rw[a0.o],?_,a5.o⟩);rw[a0.o];exact a6.o.to (by have:=a3.o;have:=a2.o;omega) (fD dV.symm)
theorem xK.one{t:Tm}{e:Ending}(h:xK t w e w'):∃(F:Gr) (I:aq) (U:Nat) (J:aq) (V:Nat) (N:aq) (Y:Nat),e=.returned (.tuple #[.agg (bl F I U J V N Y),.bool t.np])/\(t.np=true->F=t.gr)/\Fr w' w.heap.size w'.heap.size (fun T=>j6 T I J N F)/\ag w w':=by
 rcases h with⟨D,G,H⟩|⟨D,A1,c1,O,c2,R,Z,G,H,ab⟩
 .refine⟨⟨0,[],[],[]⟩,none,0,none,0,none,0,by rw[D];exact G,fun h=>(by rw[D]at h;cases h),Fr.all fun _=>⟨au rfl,au rfl,au rfl⟩,H⟩
 .exact⟨t.gr,A1,c1,O,c2,R,Z,by rw[D];exact G,fun _=>rfl,H,ab⟩
theorem zcN(g:Gr)(A1 D F:aq)(c1 c2 G:Nat)(w:aa)(H:j6 w A1 D F g)(I:g.G1)(N:mL g)(J:gM g=false):aw 107 (cy (bl g A1 c1 D c2 F G)) w fun e w'=>e=.returned (.tuple (cJ bQ))/\ag w w':=(zay g A1 D F c1 c2 G w H I N).mono fun e w' h=>⟨h.1.elim (fun h=>h.2) (fun h=>by rw[J]at h;cases h.1),h.2⟩
theorem za0(g:Gr)(A1 D F:aq)(c1 c2 G:Nat)(w:aa)(H:j6 w A1 D F g)(I:g.G1)(N:mL g)(J:gM g=true):aw 107 (cy (bl g A1 c1 D c2 F G)) w fun e w'=>e=.returned (.tuple (fA (bl g A1 c1 D c2 F G)))/\ag w w':=(zay g A1 D F c1 c2 G w H I N).mono fun e w' h=>⟨h.1.elim (fun h=>by rw[J]at h;cases h.1) (fun h=>h.2),h.2⟩
theorem zd9(k:Int)(a b:Tm)(c:fQ)(L:List er)(A:aq)(cap:Nat)(w:aa)(c7:(Tm.op k a b).ty=some c)(hL:b_ L=(Tm.op k a b).flat)(ek:L.length<=400)(d7:L.length<=cap)(c4:bF 3 iR w A L)(e2:∀(M:List er) (J:aq) (d:Nat) (D:aa),b_ M=a.flat->M.length<=400->M.length<=d->bF 3 iR D J M->aw 75 (cy (aO J M d)) D (xK a D))(e3:∀(M:List er) (J:aq) (d:Nat) (D:aa),b_ M=b.flat->M.length<=400->M.length<=d->bF 3 iR D J M->aw 75 (cy (aO J M d)) D (xK b D)):aw 75 (cy (aO A L cap)) w (xK (.op k a b) w):=by
 obtain⟨g5,g6,d6,d8,bd⟩:=Tm.nN c7;have ca:k=15∨k=16:=nM bd;have g0:L.length=a.flat.length+b.flat.length+1:=Xv;have e0:b_ (L.take a.flat.length)=a.flat:=by have:=mX (List.take a.flat.length) hL;unfold b_ at this ⊢;rw[List.map_take,this,Tm.nZ,fj,List.take_left]
 have eb:b_ ((L.drop a.flat.length).take b.flat.length)=b.flat:=by have:=mX (List.drop a.flat.length) hL;unfold b_ at this ⊢;rw[List.map_take,List.map_drop,<-List.map_drop,List.map_drop,this,Tm.nZ,fj,List.drop_left,List.take_left]
 obtain⟨x,c8⟩:=aB (Rr:L.length-1<L.length);have e1:x.k=k:=by
  have b6:(b_ L)[L.length-1]?=some x.nd:=by unfold b_;rw[cC,c8];rfl
  rw[hL,Tm.nZ,ef (by rw[bx];omega),bx,show L.length-1-(a.flat.length+b.flat.length)=0 by omega]at b6;have c3:(⟨k,0,true⟩:Nd)=x.nd:=je b6;exact(mX Nd.k c3).symm
 obtain⟨d5,b4⟩:=bD (fun D (c6:ag w D)=>(by have:=Cn L x A cap D (bw c4 c6) c8 Rr;rw[e1]at this;exact this:aw 104 (cy (aO A L cap)) D fun e w'=>e=.returned (.int .i64 k)/\ag D w')) (fun D (c6:ag w D)=>za2 k a b c L A cap D (bw c4 c6) hL c7 ek d7);have ei:(L.take a.flat.length).length=a.flat.length:=Sr;have ej:((L.drop a.flat.length).take b.flat.length).length=b.flat.length:=SR;obtain⟨d4,cu⟩:=bD (fun J d D (gL:a.flat.length<=d) (F:bF 3 iR D J (L.take a.flat.length))=>(by have:=e2 (L.take a.flat.length) J d D e0 Rr Rr F;rw[ei]at this;exact this:aw 75 #[.agg #[.slice J a.flat.length d]] D (xK a D))) (fun J d D (gL:b.flat.length<=d) (F:bF 3 iR D J ((L.drop a.flat.length).take b.flat.length))=>(by have:=e3 ((L.drop a.flat.length).take b.flat.length) J d D eb Rr Rr F;rw[ej]at this;exact this:aw 75 #[.agg #[.slice J b.flat.length d]] D (xK b D)));have f4:=zH (show a.np=true->b.np=true->k=15->a.gr.o.length=b.gr.i.length from fun _ _ e=>by have b6:=(Tm.vu d6).2.2;have c3:=(Tm.vu d8).2.1;unfold fG at bd;rw[ay e]at bd;split at bd;rw[b6,c3];assumption;cases bd)
 obtain⟨ct,fz⟩:=bD (Tm.zbr k a b) (Tm.Cb k a b);have b7:=((aj w.heap.size w).alloc (af _) (.cells (aO A L cap) 35)).alloc Rq (.cells bQ 54);have cb:=(bJ (w.alloc (.cells (aO A L cap) 35)) (.cells bQ 54) (k:=w.heap.size) Rq).trans (aC w _ rfl);have br:=aC (w.alloc (.cells (aO A L cap) 35)) (.cells bQ 54) (n:=w.heap.size+1) Rq;obtain⟨l,eg⟩:=aM L.length;obtain⟨ce,em⟩:=aM a.flat.length;obtain⟨dc,I⟩:=aM b.flat.length;rw[<-eg]at d5 b4 b7 cb br ⊢;rw[<-em]at b4 d4 cu;rw[<-I]at b4 cu;have g7:¬k<15:=Rr;have g8:(15:Int)<=k:=Rr;clear c7 hL ek d7 c4 e2 e3 d6 d8 bd g0 e0 eb c8 e1 ei ej eg em I;have f5:=zH ca;clear ca;go_enter func75,ntmps75
 go_upto_region 1 with(fail)
 generalize (w.alloc _).alloc _=W at b7 cb br ⊢;have e6:=aI cb 0 rfl;obtain⟨cp,gc,g4⟩:=dO b7 br (show w.heap.size+1<W.heap.size from(aT.1 br).1);clear b7 cb br;go_upto_region 5 with(first|(go_at_call 104;(with_reducible refine(d5.o _ cp.o).mono ?_);rintro e hh ⟨rfl,h⟩;have O:=al h e6;have gd:=zH (ah gc.o h);have cq:=zH (cp.o.trans (h.mono cp.o.size));have g2:=zH h.size;clear h)|(go_at_call 106;(with_reducible refine(b4.o _ cq.o).mono ?_);rintro e ap ⟨bg,bv,b3,cc,rfl,d9,ea,ev,ey,h⟩;have gf:=zH (ah gd.o h);have dq:=zH (cq.o.trans (h.mono cq.o.size));have g3:=zH h.size;have fa:=zH d9;have fb:=zH ea;have f6:=zH ev;have f8:=zH ey;clear h d9 ea ev ey))
 have G:Below ap.heap.size ap ((ap.alloc (.cells (cg bg ce bv) 35)).alloc (.cells (cg b3 dc cc) 35)):=((aj _ _).alloc (af _) _).alloc Rq _;have e7:=aI ((bJ (ap.alloc (.cells (cg bg ce bv) 35)) (.cells (cg b3 dc cc) 35) (k:=ap.heap.size) Rq).trans (aC ap (.cells (cg bg ce bv) 35) rfl)) 0 rfl;have dl:=aI (aC (ap.alloc (.cells (cg bg ce bv) 35)) (.cells (cg b3 dc cc) 35) (n:=ap.heap.size+1) Rq) 0 rfl;generalize (ap.alloc _).alloc _=hj at G e7 dl ⊢;obtain⟨gg,dr,f7,f9⟩:=fU (ah gf.o G) (dq.o.trans (G.mono dq.o.size)) (bw f6.o G) (bw f8.o G);clear G e6 O;go_upto_region 6 with((go_at_call 75;(with_reducible refine(d4.o bg bv _ fa.o f7.o).mono ?_);intro e e4 F;obtain⟨a8,ch,cz,ci,cA,cj,cB,c0,bp,bq,h⟩:=xK.one F;subst c0;have e8:=al h dl;have gi:=zH (ah gg.o h);have dT:=zH (dr.o.trans (h.mono dr.o.size));have ga:=zH (bw f9.o h);have fn:=zH bq.now;have fd:=zH bp;clear h bq bp F))
 obtain⟨G,c9⟩:=bA e4 (.cells (bl a8 ch cz ci cA cj cB) 54);generalize e4.alloc _=hk at G c9 ⊢;have g1:=al G e8;obtain⟨gw,gn,d0,gb,fo⟩:=mD c9 (ah gi.o G) (dT.o.trans (G.mono dT.o.size)) (bw ga.o G) (fn.o.ext G);clear G c9 e7 dl e8;go_upto_region 7 with((go_at_call 75;(with_reducible refine(cu.o b3 cc _ fb.o gb.o).mono ?_);intro e e5 F;obtain⟨a9,ck,cF,cn,cI,co,cO,c0,bp,bq,h⟩:=xK.one F;subst c0;have gs:=zH (ah gn.o h);have d1:=zH (d0.o.trans (h.mono d0.o.size));have gA:=zH (ah gw.o h);have fs:=zH (fo.o.ext h);have fx:=zH bq.now;have fl:=zH bp;clear h bq bp F))
 obtain⟨G,db⟩:=bA e5 (.cells (bl a9 ck cF cn cI co cO) 54);generalize e5.alloc _=a7 at G db ⊢;obtain⟨ad,ba,gB,d2,d3,gC⟩:=kE (ah gs.o G) (d1.o.trans (G.mono d1.o.size)) (ah gA.o G) (fs.o.ext G) (fx.o.ext G) db;clear G db g1;have b5:=zH (show ∀D,ag a7 D->aW D (w.heap.size+1) bQ 54/\ag w D from fun D F=>⟨ah ad.o F,ba.o.trans (F.mono ba.o.size)⟩);cases am:a.np
 .have Ly:=zH (by rw[ct.o,am];rfl:(Tm.op k a b).np=false);obtain⟨bz,b0,b1,b2⟩:=aA ad.o;obtain⟨f0,f1,f2,f3⟩:=bZ ad.o;have y:=cd (v0:=()) (v1:=bW) (v2:=bW) (v3:=bW) ad.o;obtain⟨O,Z,ab,ac⟩:=aA y;unfold dC at O Z ab ac;have HE:=zH (bI ba.o (b:=w.heap.size+1) Rr (.int .i64 0) (.slice none 0 0) (.slice none 0 0) (.slice none 0 0));clear y am;exact X6
 cases a5:b.np
 .have Ly:=zH (by rw[ct.o,am,a5];rfl:(Tm.op k a b).np=false);obtain⟨bz,b0,b1,b2⟩:=aA ad.o;obtain⟨f0,f1,f2,f3⟩:=bZ ad.o;have y:=cd (v0:=()) (v1:=bW) (v2:=bW) (v3:=bW) ad.o;obtain⟨O,Z,ab,ac⟩:=aA y;unfold dC at O Z ab ac;have HE:=zH (bI ba.o (b:=w.heap.size+1) Rr (.int .i64 0) (.slice none 0 0) (.slice none 0 0) (.slice none 0 0));clear y am a5;exact X6
 have b8:a8=a.gr:=fd.o am;have b9:a9=b.gr:=fl.o a5;have eo:a8.okB=true:=by rw[b8];exact Tm.zN am
 have es:a9.okB=true:=by rw[b9];exact Tm.zN a5
 have V:(Tm.op k a b).np=(Tm.op k a b).gr.okB:=by rw[ct.o,am,a5];rfl
 have R:=fz.o;rw[<-b8,<-b9]at R;obtain⟨e9,bb,bc⟩:=dO (show k=15->a8.o.length=a9.i.length from fun e=>by rw[b8,b9];exact f4.o am a5 e) eo es;have ca:=f5.o;obtain⟨g9,ha,hb,hc⟩:=aA gB.o;obtain⟨hd,he,hf,hg⟩:=aA gC.o;obtain⟨S,c5⟩:=aM ((Tm.op k a b).gr);rw[<-c5]at V R;have HS:=zH c5;clear c5 b8 b9 am a5 eo es;rcases ca with rfl|rfl
 .rw[ay rfl]at R;have a2:=zH (zdc a8 a9 ch ci cj ck cn co cz cA cB cF cI cO a7 bb.o bc.o (e9.o rfl) d2.o d3.o);have a6:S.G1:=by rw[R];exact zbA (Gr.mo bb.o) (Gr.mo bc.o)
  have bu:mL S:=by rw[R];exact zhq bb.o bc.o
  rw[<-R]at a2;rw[a6.okB]at V;obtain⟨bi,bo⟩:=bD a6 bu;clear R a6 bu;cases I:gM S
  .obtain⟨Ly,a1⟩:=bD (show(Tm.op _ a b).np=false from V.trans I) I;clear V I;go_wp2_with (first|(go_at_call 108;(with_reducible refine a2.o.mono ?_);intro e Y F;have a4:sL S a7 e Y:=uh.gr F;obtain⟨F1,l1,F2,l2,F3,l3,a3,N,h⟩:=a4;subst a3;have a0:=zH (zcN S F1 F2 F3 l1 l2 l3 Y N.now bi.o bo.o a1.o);have T:=zH h;clear F N h)|(go_at_call 107;(with_reducible refine a0.o.mono ?_);rintro e ao ⟨rfl,h⟩;obtain⟨H,U⟩:=b5.o ao (T.o.trans (h.mono T.o.size));obtain⟨bz,b0,b1,b2⟩:=aA H;obtain⟨f0,f1,f2,f3⟩:=bZ H;have y:=cd (v0:=()) (v1:=bW) (v2:=bW) (v3:=bW) H;obtain⟨O,Z,ab,ac⟩:=aA y;unfold dC at O Z ab ac;have HE:=zH (bI U (b:=w.heap.size+1) Rr (.int .i64 0) (.slice none 0 0) (.slice none 0 0) (.slice none 0 0));clear H U y h))
   exact XT
  .obtain⟨Ly,a1⟩:=bD (show(Tm.op _ a b).np=true from V.trans I) I;clear V I;go_wp2_with (first|(go_at_call 108;(with_reducible refine a2.o.mono ?_);intro e Y F;have a4:sL S a7 e Y:=uh.gr F;obtain⟨F1,l1,F2,l2,F3,l3,a3,N,h⟩:=a4;subst a3;have a0:=zH (za0 S F1 F2 F3 l1 l2 l3 Y N.now bi.o bo.o a1.o);have T:=zH h;have cr:=zH N;clear F N h)|(go_at_call 107;(with_reducible refine a0.o.mono ?_);rintro e ao ⟨rfl,h⟩;obtain⟨H,U⟩:=b5.o ao (T.o.trans (h.mono T.o.size));obtain⟨bz,b0,b1,b2⟩:=aA H;obtain⟨f0,f1,f2,f3⟩:=bZ H;have y:=cd (v0:=.int .i64 (S.w:Nat)) (v1:=.slice F1 S.es.length l1) (v2:=.slice F2 S.i.length l2) (v3:=.slice F3 S.o.length l3) H;obtain⟨O,Z,ab,ac⟩:=aA y;unfold dC at O Z ab ac;have HE:=zH (bI U (b:=w.heap.size+1) Rr (.int .i64 (S.w:Nat)) (.slice F1 S.es.length l1) (.slice F2 S.i.length l2) (.slice F3 S.o.length l3));have HF:=zH (((cr.o.ext h (af _)).dC (b:=w.heap.size+1) (v0:=.int .i64 (S.w:Nat)) (v1:=.slice F1 S.es.length l1) (v2:=.slice F2 S.i.length l2) (v3:=.slice F3 S.o.length l3) (aT.1 ad.o).1).to (lo':=w.heap.size) (hi':=(dC ao (w.heap.size+1) (.int .i64 (S.w:Nat)) (.slice F1 S.es.length l1) (.slice F2 S.i.length l2) (.slice F3 S.o.length l3)).heap.size) ba.o.size (by rw[dV];exact h.size));clear H U y h))
   exact YS
 .rw[av Rs]at R;have a2:=zH (zdt a8 a9 ch ci cj ck cn co cz cA cB cF cI cO a7 (mL.of bb.o) (mL.of bc.o) d2.o d3.o);have a6:S.G1:=by rw[R];exact zbB (Gr.mo bb.o) (Gr.mo bc.o)
  have bu:mL S:=by rw[R];exact zhr bb.o bc.o
  rw[<-R]at a2;rw[a6.okB]at V;obtain⟨bi,bo⟩:=bD a6 bu;clear R a6 bu;cases I:gM S
  .obtain⟨Ly,a1⟩:=bD (show(Tm.op _ a b).np=false from V.trans I) I;clear V I;go_wp2_with (first|(go_at_call 109;(with_reducible refine a2.o.mono ?_);intro e Y F;have a4:sL S a7 e Y:=F;obtain⟨F1,l1,F2,l2,F3,l3,a3,N,h⟩:=a4;subst a3;have a0:=zH (zcN S F1 F2 F3 l1 l2 l3 Y N.now bi.o bo.o a1.o);have T:=zH h;clear F N h)|(go_at_call 107;(with_reducible refine a0.o.mono ?_);rintro e ao ⟨rfl,h⟩;obtain⟨H,U⟩:=b5.o ao (T.o.trans (h.mono T.o.size));obtain⟨bz,b0,b1,b2⟩:=aA H;obtain⟨f0,f1,f2,f3⟩:=bZ H;have y:=cd (v0:=()) (v1:=bW) (v2:=bW) (v3:=bW) H;obtain⟨O,Z,ab,ac⟩:=aA y;unfold dC at O Z ab ac;have HE:=zH (bI U (b:=w.heap.size+1) Rr (.int .i64 0) (.slice none 0 0) (.slice none 0 0) (.slice none 0 0));clear H U y h))
   exact XT
  .obtain⟨Ly,a1⟩:=bD (show(Tm.op _ a b).np=true from V.trans I) I;clear V I;go_wp2_with (first|(go_at_call 109;(with_reducible refine a2.o.mono ?_);intro e Y F;have a4:sL S a7 e Y:=F;obtain⟨F1,l1,F2,l2,F3,l3,a3,N,h⟩:=a4;subst a3;have a0:=zH (za0 S F1 F2 F3 l1 l2 l3 Y N.now bi.o bo.o a1.o);have T:=zH h;have cr:=zH N;clear F N h)|(go_at_call 107;(with_reducible refine a0.o.mono ?_);rintro e ao ⟨rfl,h⟩;obtain⟨H,U⟩:=b5.o ao (T.o.trans (h.mono T.o.size));obtain⟨bz,b0,b1,b2⟩:=aA H;obtain⟨f0,f1,f2,f3⟩:=bZ H;have y:=cd (v0:=.int .i64 (S.w:Nat)) (v1:=.slice F1 S.es.length l1) (v2:=.slice F2 S.i.length l2) (v3:=.slice F3 S.o.length l3) H;obtain⟨O,Z,ab,ac⟩:=aA y;unfold dC at O Z ab ac;have HE:=zH (bI U (b:=w.heap.size+1) Rr (.int .i64 (S.w:Nat)) (.slice F1 S.es.length l1) (.slice F2 S.i.length l2) (.slice F3 S.o.length l3));have HF:=zH (((cr.o.ext h (af _)).dC (b:=w.heap.size+1) (v0:=.int .i64 (S.w:Nat)) (v1:=.slice F1 S.es.length l1) (v2:=.slice F2 S.i.length l2) (v3:=.slice F3 S.o.length l3) (aT.1 ad.o).1).to (lo':=w.heap.size) (hi':=(dC ao (w.heap.size+1) (.int .i64 (S.w:Nat)) (.slice F1 S.es.length l1) (.slice F2 S.i.length l2) (.slice F3 S.o.length l3)).heap.size) ba.o.size (by rw[dV];exact h.size));clear H U y h))
   exact YS
theorem uk:∀(t:Tm) (c:fQ) (L:List er) (A:aq) (cap:Nat) (w:aa),t.ty=some c->b_ L=t.flat->L.length<=400->L.length<=cap->bF 3 iR w A L->aw 75 (cy (aO A L cap)) w (xK t w)
 |.lf n,c,L,A,cap,w,D,h,U,R,O=>by
  have T:dh n=true:=by
   unfold Tm.ty at D;split at D
   .assumption
   .cases D
  match L,h with
  |[x],h=>
   have e:x.nd=n:=by simpa[b_,Tm.flat]using h
   rw[<-e]at T ⊢;exact zaZ x A cap w T O
  |[],h=>simp[b_,Tm.flat]at h
  |x::y::L,h=>simp[b_,Tm.flat]at h
 |.op k a b,c,L,A,cap,w,D,h,U,R,O=>by obtain⟨V,Y,Z,ab,-⟩:=Tm.nN D;exact zd9 k a b c L A cap w D h U R O (fun M F d G H I J N=>uk a V M F d G Z H I J N) (fun M F d G H I J N=>uk b Y M F d G ab H I J N)
theorem Bs(f:List Int->List Int)(M:aN)(D a5:Nat)(A:aq)(v0 v1:ax)(bp:ax)(w:aa)(a7:M.length=D)(cc:D<=1048576)(a8:dm w A M)(a2:∀(xs:aH) (T:aq) (d:Nat) (h:aa),xs∈M->ag w h->aJ h T xs->xs.length<=d->aw 215 #[.slice T xs.length d,bp] h fun e ac=>∃I N,e=.returned (.slice I (f xs).length N)/\(f xs).length<=N/\Fr ac h.heap.size ac.heap.size (fun W=>aJ W I (f xs))/\ag h ac):aw 173 #[.agg #[v0,v1,.slice A D a5],.func (.func 215) #[] #[bp]] w fun e w'=>∃a1 b3,e=.returned (.slice a1 D b3)/\Fr w' w.heap.size w'.heap.size (fun W=>dm W a1 (M.map f))/\ag w w':=by
 obtain⟨bv,HM,b2⟩:=dO a2 a7 (show ∀h,ag w h->dm h A M from fun h am=>a8.ext am);obtain⟨O,a0⟩:=bA w (.cells #[v0,v1,.slice A D a5] 67);clear a2 a8 a7;go_enter func173,ntmps173
 go_upto_region 1 with(fail)
 generalize w.alloc _=W at O a0 ⊢;have a4:=zH (aV.lit 26 1 xf W w.heap.size O.size);have V:=ak W (.cells #[] 26);have a3:=zH (O.trans (V.mono O.size));have bq:=aI (ah a0 V) 2 rfl;clear O a0;go_upto_region 2 with(fail)
 generalize W.alloc _=b9 at a4 a3 bq V ⊢;clear V;go_wp2;go_loopw [5,12] (fun u i wr=>∃k:Nat,k<=D/\i=.int .i64 k/\aV 26 1 xf wr w.heap.size u ((M.take k).map f)/\ag w wr) (fun _ i _=>D-(intOf i).toNat)
 case atStart=>exact⟨0,aX _,rfl,a4.o,a3.o⟩
 case round=>
  obtain⟨k,ce,rfl,F,H⟩:=hrel;clear bq;by_cases EH:k<D
  .obtain⟨xs,hx⟩:=aB (Tz:k<M.length);have b8:=b2.o wr H;rcases b8 with FH|⟨b,o,rfl,bb⟩
   .exact Wm
   obtain⟨T,d,b6,ba,a6⟩:=bb k xs hx;obtain⟨Y,E_,EW⟩:=dO (bv.o xs T d wr (aY hx) H a6 ba) (Ty:(M.take (k+1)).map f=(M.take k).map f++[f xs]) (Ue:((M.take k).map f).length=k);obtain⟨u0,U,rfl,-⟩:=F.view;rw[EW.o];obtain⟨Z,G⟩:=bD F H;obtain⟨n,bo⟩:=aM xs.length;rw[<-bo]at b6 Y;obtain⟨ad,bd⟩:=aM (f xs);rw[<-bd]at Y E_;clear F H bb hx a6 ba bo bd;have b1:=zH (show ∀g,(Value.slice u0 k U).ownBlock=some g->g<wr.heap.size from fun g e=>by obtain⟨cs,J⟩:=Z.o;rw[EW.o]at J;exact(bL J.outer g e).2)
   rw[EW.o]at Z;go_upto_region 6 with(first|(go_at_call 215;refine Y.o.mono ?_;rintro e R ⟨I,N,rfl,bg,bc,ao⟩;have ab:=zH ao;have bu:=zH bc;have bz:=zH bg;have b0:=zH (Z.o.ext ao);clear bc ao bg)|(at_builtin;refine cL uG rfl (.tmp 16) (.tmp 20) rfl w.heap.size (R.alloc (.cells (aO I ad N) 26)) (.slice u0 k U) ((M.take k).map f) ad [.slice I ad.length N] R.heap.size (b0.o.ext (ak _ _)) rfl TK ⟨wr.heap.size,R.heap.size,G.o.size,(ak _ _).size,fun g e=>au (b1.o g e),(bu.o.ext (ak _ _) (af _)).imp fun h am=>⟨I,N,rfl,bz.o,am⟩⟩ SQ (aR G.o.size (aR ab.o.size (ak _ _).size)) rfl rfl (aC R _ rfl) ?_;intro cb ca ch ap b7 b4 a9;rw[EW.o]at ap ⊢;have Fi:=zH ap;have Fj:=zH (((G.o.trans (ab.o.mono G.o.size)).trans ((ak R _).mono (aR G.o.size ab.o.size))).trans a9);clear ap b7 b4 a9))
   exact YC
  .obtain rfl:k=D:=Rr;rw[cY (by rw[HM.o];exact af _)]at F;obtain⟨u0,U,rfl,-⟩:=F.view;have bi:(M.map f).length=k:=by rw[bh,HM.o]
   rw[bi]at F ⊢;obtain⟨br,G⟩:=bD ((F.fr (fun _ _ _ _ b5 J=>J.ext b5) H.size).imp fun h J=>jR J) H;clear F H bi;go_wp2;go_ret
   exact⟨u0,U,rfl,br.o,G.o⟩
theorem DC(p:Int)(h:Rl)(D H:Nat)(A:aq)(w:aa)(a8:cN p=true)(a1:dm w A h.b)(a6:h.b.length=D)(ap:D<=1048576)(bg:h.l+h.r<=1048576)(bc:∀row∈h.b,row.length=h.l+h.r/\0<row.length)(bd:fI p D (h.r+h.l) (h.b.map fun row=>row.drop h.l++row.take h.l)):aw 183 (ig p (dF h.l h.r A D H)) w (kB (zaU p h) w):=by
 obtain⟨l,r,M⟩:=h;dsimp only at *;have ao:=((aj w.heap.size w).alloc (af _) (.cells (fy l r A D H) 67)).alloc Rq (.cells bj 67);have ab:=(bJ (w.alloc (.cells (fy l r A D H) 67)) (.cells bj 67) (k:=w.heap.size) Rq).trans (aC w _ rfl);have ac:=aC (w.alloc (.cells (fy l r A D H) 67)) (.cells bj 67) (n:=w.heap.size+1) Rq;have cj:∀(a5:Fn) (first cap:eU) (w:aa),(Instr.makeFunc a5 first cap).run prog w=.ok (.func a5 first cap) w:=fun _ _ _ _=>rfl
 obtain⟨Q,a0⟩:=aM (wZ p r l (M.map fun row=>row.drop l++row.take l));obtain⟨b3,ci⟩:=bD (show zaU p ⟨l,r,M⟩=Q from a0.symm) (fun W (a2:ag w W)=>a1.ext a2);have bv:=zH (fun(W G:aa) (a2:ag w W) (I:aW W w.heap.size (fy l r A D H) 67)=>Bs (fun row=>row.drop l++row.take l) M D H A (.int .i64 l) (.int .i64 r) (.pointer (some ⟨w.heap.size,0,none⟩)) W a6 ap (a1.ext a2) (fun xs J d G ca b8 b7 b9=>by
  have Z:=bc xs ca;have b6:(xs.drop l++xs.take l).length=xs.length:=by rw[bx,gp,cG];omega
  rw[b6];exact BC xs l r D H d w.heap.size A J G (ah I b8) b7 Z.1 Z.2 b9 bg))
 have a4:=zH (fun(W:aa) (T:aq) (am:Nat) (O:dm W T (M.map fun row=>row.drop l++row.take l))=>kF p r l D (M.map fun row=>row.drop l++row.take l) T am W a8 O.at bd ap Rr);rw[<-a0]at a4;rw[b3.o];clear a8 a1 a6 ap bg bc bd a0;go_enter func183,ntmps183
 go_upto_region 1 with(fail)
 generalize (w.alloc _).alloc _=W at ao ab ac ⊢;obtain⟨bi,bo,bp⟩:=aG ab;have N:=aF bi (aF bo bp);obtain⟨U,b2,b4,FD,F⟩:=mD ao ab ac (show w.heap.size+1<W.heap.size from(aT.1 ac).1) (Rr:w.heap.size≠w.heap.size+1);clear ao ab ac bi bo bp;go_region_held3 (fun G=>ae G w.heap.size 0 (.int .i64 (l:Nat))/\ae G w.heap.size 1 (.int .i64 (r:Nat))/\ae G w.heap.size 2 (.slice A D H))
  (first|with_reducible exact N|with_reducible exact kf (az _) N|with_reducible exact kf V.o N|with_reducible exact kf Y.o N|with_reducible exact kp3 F.o F.o F.o (kp3 F.o F.o F.o (kp3 F.o F.o F.o (kf Y.o N))))
  ((first|(go_at_call 173;with_reducible refine(bv.o _ W (U.o.trans ((az W).mono U.o.size)) (ah b2.o (az W))).mono ?_;rintro e ch ⟨T,am,rfl,a9,a7⟩;have V:=zH ((az W).trans (a7.mono (az W).size));have bz:=zH a9.now;clear a9 a7)|(go_at_call 179;with_reducible refine(a4.o ch T am bz.o).mono ?_;intro e ad O;unfold kB at O;obtain⟨J,d,Z,ba,R⟩:=O;subst Z;have Y:=zH (V.o.trans (R.mono V.o.size));have b0:=zH (Fr.to (lo':=W.heap.size) (hi':=ad.heap.size) ba V.o.size (af _));have I:=ah b4.o Y.o;obtain⟨cb,cc,ce⟩:=aG I;have f0:=aK I 0;have f1:=aK I 1;have f2:=aK I 2;have b5:=zH I;clear ba R I)))
 have bq:=bm ad (w.heap.size+1) 0 _ _ (.int .i64 (Q.l:Nat)) b5.o;have br:=bm _ (w.heap.size+1) 1 _ _ (.int .i64 (Q.r:Nat)) bq;have a3:=bm _ (w.heap.size+1) 2 _ _ (.slice J Q.b.length d) br;simp only[zA]at a3;obtain⟨u0,u1,u2⟩:=aG a3;have R:=U.o.trans (Y.o.mono U.o.size);have bb:Fr (((ad.setCell ⟨w.heap.size+1,0,none⟩ (.int .i64 (Q.l:Nat))).setCell ⟨w.heap.size+1,1,none⟩ (.int .i64 (Q.r:Nat))).setCell ⟨w.heap.size+1,2,none⟩ (.slice J Q.b.length d)) W.heap.size ad.heap.size (fun G=>dm G J Q.b):=b0.o.same fun q a _=>by have O:=FD.o;exact(aZ _ _ _ _ (by show q≠w.heap.size+1;omega)).trans ((aZ _ _ _ _ (by show q≠w.heap.size+1;omega)).trans (aZ _ _ _ _ (by show q≠w.heap.size+1;omega)))
 obtain⟨b1,bu⟩:=bD bb R;clear bq br a3 bb R cb cc ce f0 f1 f2 N;go_wp2;refine aE (v:=.agg (dF Q.l Q.r J Q.b.length d)) (by simp[results,results183,go_sem, *]) rfl ⟨J,d,rfl,?_,((bu.o.setCell (p:=⟨w.heap.size+1,0,none⟩) (by show w.heap.size<=w.heap.size+1;omega) _).setCell (p:=⟨w.heap.size+1,1,none⟩) (by show w.heap.size<=w.heap.size+1;omega) _).setCell (p:=⟨w.heap.size+1,2,none⟩) (by show w.heap.size<=w.heap.size+1;omega) _⟩;exact b1.o.to Ts Rq
end Go.Proofs.YtpieilkmmiopfaaGreatDoor
