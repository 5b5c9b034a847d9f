/- Parts of the walks. Conditions: as stated with each. -/
import Derived.Test.YtdpgblncijojiaaGreatDoorPk35
import Derived.Test.YtdpgblncijojiaaGreatDoorPk40
import Derived.Test.YtdpgblncijojiaaGreatDoorPk44
namespace Go.Proofs.YtdpgblncijojiaaGreatDoor
open Go.RowKit Tryz
set_option linter.all false
set_option maxHeartbeats 16000000
set_option maxRecDepth 100000
variable{A:aq}{D c j k n:Nat}{E w:aa}{us:bN}
def qW(n m:Nat):List (List Int):=List.replicate n (List.replicate m 0)
def zcs(n m:Nat)(w:aa)(cc:n<=1024)(cb:m<=1024):ax 139 (bI n m) w fun e w'=>∃g,e=.returned (.agg #[m,.slice (aX g) n n])/\aI w' ((w:Nat)+1) (.slice (aX g) n n) (qW n m)/\aj w w':=by
 obtain⟨b2,bo,bp,br,bv⟩:=cM fq;obtain⟨b1,hi,bz,b0,Ev⟩:=cM jf;have B:=aD w (.cells qu 154) rfl;have Z:=aE w (.cells qu 154);go_enter func139,ntmps139
 go_upto_region 1 with(fail)
 have O:(w.alloc (.cells qu 154):Nat)=w+1:=Rx;generalize w.alloc _=W at Z B O ⊢;obtain⟨a7,ba,bi⟩:=dD Z B O;clear Z B O;go_upto_region 2 with((at_make;refine iJ _ rfl _ _ 24 rfl W.heap.size 27 b1 (.slice none 0 0) 1 gE hi bz b0 .i64 .i64 n n n rfl rfl rfl rfl SB TB (ah _) ?_;intro F a6 a3;have ao:=zH (bT a3);have R:=zH (a_.made a6);clear a6 a3))
 have E:=aD F (.cells #[m,.slice (aX W) n n] 154) rfl;have ab:=aE F (.cells #[m,.slice (aX W) n n] 154);obtain⟨a1,T,Q⟩:=dD (show(W:Nat)<F from(b_ R.o.outer _ rfl).2) (R.o.ext ab) (bQ ao ab);generalize F.alloc _=b9 at E T Q ⊢;generalize (F:Nat)=am at E a1 ⊢;have a0:=zH E;obtain⟨ad,H,-,-⟩:=kT E;clear E ab R ao;go_wp2;clear ad H;go_loopw [14] (fun i wr=>∃k:Nat,k<=n/\i=.int .i64 k/\Hd (∃us,a_ wr W (.slice (aX W) n n) (eV (qW n m) [] k) us)/\Hd (aW wr am #[.int .i64 m,.slice (aX W) n n] 154)/\Hd (aj W wr)) (fun i _=>n-(intOf i).toNat)
 case atStart=>exact⟨0,aT _,rfl,zH ⟨_,by rw[jd,show(qW n m).length=n by simp[qW]];exact T⟩,a0,Q⟩
 case round=>
  obtain⟨k,ca,rfl,U,ap,I⟩:=hrel;clear T a0 Q;obtain⟨ad,H,-,-⟩:=kT ap;obtain⟨z,rfl⟩:∃z,z=wr:=⟨wr,rfl⟩;by_cases a5:k<n
  .obtain⟨us,D⟩:=U.o;have be:=zH D;clear D U;go_upto_region 5 with(fail)
   refine bk (S:=fun V=>af V am 1 (.slice (aX W) n n)) 6 RU H (fun hHeld=>?_);refine ay 0 ?_;refine ay 1 ?_;refine ay 2 ?_;refine ay 3 ?_;refine bu 4 fun K hK=>?_
   refine sF _ rfl (.tmp 20) (.tmp 20) 27 rfl z 3 b2 (zI 0) 1 dA bo bp br .i64 .i64 m m m rfl rfl rfl rfl (by rw[bv];omega) TB (ah _) ?_;intro b6 FV a2;rw[gl]at FV;obtain⟨J,bd⟩:=bL ((aF z).trans (bT a2)) (TO:au b6 z (.slice (aX z) m m) (List.replicate m 0));clear FV a2;rw[show(z.drew:Nat)=z from rfl];obtain⟨ac,b3,⟨v0,b4⟩,b5⟩:=a_.set (by simp[eV,qW];omega:n=(eV (qW n m) [] k).length) be J.o bd I.size a5;rw[j4 _ _ _ _ (by simp[qW,a5]:(qW n m)[k]?=some (List.replicate m 0))]at ac;obtain⟨bb,bm,a8⟩:=dD ac (aA ap J.o) ((bQ I J.o).setCell (p:=⟨W,k,none⟩) (ah _) (.slice (aX z) m m));clear ac b3;refine hK.out _ _ (fun _=>ag J.o H) (fun hHeld=>?_);clear hK K;try simp only[Act.put,zA]
   have hHeld:=hHeld RC;refine ay 5 ?_;refine bu 6 fun K hK=>?_
   go_simp;refine hK.out _ _ (fun h=>absurd h RC) (fun hHeld=>?_);clear hK K;try simp only[Act.put,zA]
   refine dS RU ?_ _;clear b4 b5 ad H;go_wp2;go_roundw
   case rel=>exact⟨k+1,Ry,RB,zH ⟨_,bb⟩,zH ((bx _ _ _ _ (by have:=a1.o;show am≠W.heap.size;omega)).trans bm),a8⟩
   case measure=>simp[intOf];omega
  .obtain rfl:k=n:=Ry;have B:=aA ba I;obtain⟨ce,ch,f0,f1⟩:=kT B;have y:=zS (v0:=.int .i64 m) (v1:=.slice (aX W) k k) B;obtain⟨b7,b8,-,-⟩:=kT y;unfold zgZ at b7 b8;have a9:=zH (((bQ a7 I).setCell (p:=⟨w,0,none⟩) (ah _) (zI m)).setCell (p:=⟨w,1,none⟩) (ah _) (.slice (aX W) k k));clear B y;go_wp2;refine az (v:=.agg #[m,.slice (aX W) k k]) (by simp[results,results139,go_sem, *]) rfl ?_;obtain⟨us,D⟩:=U.o;rw[j3 _ _ _ (by simp[qW])]at D;have O:=bi.o;have a4:(w:Nat)<W:=Ry;exact⟨W,rfl,aI.mono (aI.setCell (aI.setCell ⟨us,D⟩ (a:=⟨w,0,none⟩) a4 _) (a:=⟨w,1,none⟩) a4 _) Ry,a9⟩
def Eo(p:Int)(n cols B g:Nat)(V:aa):Prop:=∃rows,rows.length=n/\Dm p cols rows/\aI V B (.slice (aX g) n n) rows
section
variable{p:Int}{n cols B g b:Nat}{V V':aa}
def Eo.ext(h:Eo p n cols B g V)(H:aj V V'):Eo p n cols B g V':=by obtain⟨rows,D,E,F⟩:=h;exact⟨rows,D,E,F.ext H⟩
def Eo.drawn(h:Eo p n cols B g V)(I:V.grownBy V' (some b))(H:b<B):Eo p n cols B g V':=by obtain⟨rows,D,E,F⟩:=h;exact⟨rows,D,E,F.drawn I H⟩
def Eo.row(h:Eo p n cols B g V)(Q:k<n):∃A c,af V g k (.slice A cols c):=by
 obtain⟨rows,O,H,us,I⟩:=h;obtain⟨r,E⟩:=aw (Ry:k<rows.length);obtain⟨J,F,c,e,-,D,-⟩:=I.at E;cases e
 rw[(H r (aR E)).1]at D;exact⟨F,c,D⟩
def Eo.lo(h:Eo p n cols B g V)(J:0<n):B<=g:=by
 obtain⟨rows,H,I,us,D⟩:=h;obtain⟨F,cap,e,E,-⟩:=lR D.outer Ry;cases e
 exact E
def Eo.at(h:Eo p n cols B g V)(a8:k<n)(a0:j<cols):∃D c x,af V g k (.slice (aX D) cols c)/\af V D j (zI x)/\V.frozen? ⟨D,j,none⟩=false/\B<=D/\(0<=x/\(x<p∨x=0))/\(∃cur,aW V D cur 3)/\∀y:Int,(0<=y/\(y<p∨y=0))->Eo p n cols B g (V.setCell ⟨D,j,none⟩ (zI y))/\V.grownBy (V.setCell ⟨D,j,none⟩ (zI y)) (some D):=by
 obtain⟨rows,ac,J,us,O⟩:=h;obtain⟨r,H⟩:=aw (Ry:k<rows.length);have E:=J r (aR H);obtain⟨x,U⟩:=aw (by rw[E.1];exact a0:j<r.length);obtain⟨a6,a4,a5,e,a2,Q,-,-,-,a1⟩:=O.at H;obtain⟨D,c,T,am,ao,ad,-,-,R⟩:=O.fB H U;cases e
 rw[a2]at T;cases T
 rw[E.1]at Q;obtain⟨-,ab|⟨a7,cap,cur,Z,-,ap,-⟩⟩:=a1
 .cases ab.1
 cases Z
 refine⟨D,_,x,Q,am,ao,ad,E.2 x (aR U),⟨cur,ap⟩,fun y a3=>⟨⟨rows.set k (r.set j y),by rw[fx];exact ac,fun q F=>?_,⟨us,(R y).1⟩⟩,(R y).2⟩⟩;rcases wI F with F|rfl
 .exact J q F
 .refine⟨by rw[fx];exact E.1,fun z I=>?_⟩;rcases wI I with I|rfl
  .exact E.2 z I
  .exact a3
end
def Ep(p:Int)(n m:Nat):(qW n m).length=n/\Dm p m (qW n m):=⟨by simp[qW],fun r D=>by rw[(zh.1 D).2];exact⟨Rx,fun x E=>by rw[(zh.1 E).2];omega⟩⟩
structure MxI(C:Code)(b K z g:Nat)(p:Int)(n cols:Nat)(w V:aa):Prop where
 rows:Eo p n cols ((w:Nat)+1) g V
 box:aW V z (sY cols (aX g) n) 154
 res:aW V w qu 154
 cur:cy C b K V
 gr:w.grownBy V (some b)
section
variable{C:Code}{b K K' z g:Nat}{p:Int}{n cols:Nat}{w V V':aa}
def MxI.go(h:MxI C b K z g p n cols w V)(F:b < (w:Nat)/\(w:Nat)<z)(E:cy C b K' V')(D:V.grownBy V' (some b)):MxI C b K' z g p n cols w V':=⟨h.rows.drawn D Ry,bD h.box D Ry,bD h.res D F.1,E,h.gr.trans D⟩
def MxI.mono(h:MxI C b K z g p n cols w V)(D:K<=K'):MxI C b K' z g p n cols w V:=⟨h.rows,h.box,h.res,h.cur.mono D,h.gr⟩
def MxI.put(h:MxI C b K z g p n cols w V)(J:b < (w:Nat)/\(w:Nat)<z){cur:gq}{y:Int}(I:(w:Nat)+1<=D)(E:aW V D cur 3)(H:Eo p n cols ((w:Nat)+1) g (V.setCell ⟨D,j,none⟩ (zI y))):MxI C b K z g p n cols w (V.setCell ⟨D,j,none⟩ (zI y)):=by
 have F:z≠D:=fun e=>by subst e;rw[h.box]at E;simp at E
 exact⟨H,(bx _ _ _ _ (by show z≠D;exact F)).trans h.box,(bx _ _ _ _ (by show w.heap.size≠D;omega)).trans h.res,h.cur.iM (a:=⟨D,j,none⟩) (by show b<D;omega) _,bV h.gr (a:=⟨D,j,none⟩) (by show(w:Nat)<=D;omega) _⟩
end
def zby(C:Code)(b m:Nat)(w:aa)(p:Int)(n cols:Nat)(bo:cy C b m w)(en:m<=274877700000)(es:2<=p)(ev:p<=97)(eo:n<=64)(em:cols<=64):ax 117 (yU (aX b) p n cols) w (kQ C b (m+40000) (fun w' v=>∃g,v=.agg (sY cols (aX g) n)/\Eo p n cols ((w:Nat)+1) g w') w):=by
 have bz:=aD w (.cells qu 154) rfl;have I:=aE w (.cells qu 154);have b2:(w.alloc (.cells qu 154):Nat)=w+1:=Rx;obtain⟨b8,b9⟩:=bL bo.lt bo;clear bo;go_enter func117,ntmps117
 go_upto_region 1 with(fail)
 generalize w.alloc _=W at I bz b2 ⊢;obtain⟨cb,b7,ce⟩:=dD bz I b2;clear bz I b2;go_upto_region 2 with(go_at_call 139;(with_reducible refine(zcs n cols W Ry Ry).mono ?_);rintro e ab ⟨g,rfl,c0,ao⟩;have ca:=zH c0;have bi:=zH (aA cb ao);have bb:=zH (bQ b7 ao);clear c0 ao)
 have b4:=aD ab (.cells (sY cols (aX g) n) 154) rfl;have ap:=aE ab (.cells (sY cols (aX g) n) 154);obtain⟨H,a0⟩:=bL (show b < (w:Nat)/\(w:Nat)<ab from⟨b8,(aP.1 bi).1⟩) (show MxI C b m ab.heap.size g p n cols w (ab.alloc (.cells (sY cols (aX g) n) 154)) from⟨⟨_,(Ep p n cols).1,(Ep p n cols).2,(ca.mono (by have:=ce.o;omega)).ext ap⟩,b4,aA bi ap,(b9.ext bb).ext ap,(aN bb).trans (aN ap)⟩);generalize ab.alloc _=db at a0 b4 ap ⊢;generalize (ab:Nat)=z at a0 H ⊢;clear b4 ap ca bi bb cb b7 ce b9;go_upto_region 3 with(go_at_call 46;(with_reducible refine(gH C b m db 3 a0.o.cur Ry).mono ?_);rintro e ee ⟨v,rfl,⟨d5,rfl⟩,ct,cF⟩;have bd:=zH (a0.go H.o ct cF);clear ct cF)
 clear a0;obtain⟨U,J,-,-⟩:=kT bd.box;go_wp2;clear U J;go_loopw [23] (fun i wr=>∃k:Nat,k<=n/\i=.int .i64 k/\Hd (MxI C b (m+2+600*k) z g p n cols w wr)) (fun i _=>n-(intOf i).toNat)
 case atStart=>exact⟨0,aT _,rfl,bd⟩
 case round=>
  obtain⟨k,ek,rfl,HI⟩:=hrel;clear bd;obtain⟨U,J,-,-⟩:=kT HI.box;by_cases Z:k<n
  .obtain⟨ea,eg,T⟩:=HI.rows.row Z;obtain⟨F,a9⟩:=aK (m+2+600*k);have FH:=zH (Ry:F<=274877800000/\F=m+2+600*k);rw[<-a9]at HI;clear a9;obtain⟨c8,rfl⟩:∃c8,c8=wr:=⟨wr,rfl⟩;go_upto_block 2 with(fail)
   go_cut [12] from 32 to 51 (fun _ V=>MxI C b (F+4*cols) z g p n cols w V)
   case first=>
    go_wp2;clear U J T;go_loopw [32] (fun i V=>∃j:Nat,j<=cols/\i=.int .i64 j/\Hd (MxI C b (F+4*j) z g p n cols w V)) (fun i _=>cols-(intOf i).toNat)
    case atStart=>exact⟨0,aT _,rfl,HI⟩
    case round=>
     obtain⟨j,cO,rfl,D⟩:=hrel;by_cases a4:j<cols
     .have eb:=zH (show j<=cols from cO);go_upto_region 9 with(fail)
      obtain⟨E,rfl⟩:∃E,E=wr:=⟨wr,rfl⟩;go_cut [39] from 35 to 40 (fun d8 bm=>∃b6:Bool,d8=.bool b6/\MxI C b (F+4*j+2) z g p n cols w bm)
      case first=>
       cases d5
       .go_wp2_with (go_at_call 46;(with_reducible refine(gH C b (F+4*j) E 2 D.o.cur Ty).mono ?_);rintro e cj ⟨v,rfl,⟨y,rfl⟩,Q,R⟩;have c9:=zH (D.o.go H.o Q R);clear Q R)
        go_meet
        exact⟨y,rfl,c9⟩
       .go_wp2_with fail
        go_meet
        exact⟨true,rfl,D.o.mono Ry⟩
      case rest=>
       clear D;obtain⟨b6,rfl,cR⟩:=hcut;have D:=zH cR;clear cR;obtain⟨E,rfl⟩:∃E,E=wc:=⟨wc,rfl⟩;cases b6
       .go_wp2;go_roundw
        case rel=>exact⟨j+1,Ry,RB,zH (D.o.mono Ry)⟩
        case measure=>simp[intOf];omega
       .obtain⟨U,J,-,-⟩:=kT D.o.box;obtain⟨A1,c1,T⟩:=D.o.rows.row Z;go_upto_region 10 with(fail)
        obtain⟨dl,ei,e3,c4,-⟩:=D.o.rows.at Z a4;rw[T]at c4;cases c4
        have O:=aY J T;clear U J T;refine bk (S:=fun V=>af V z 1 (.slice (aX g) n n)/\af V g k (.slice (aX dl) cols c1)) 10 RU O (fun hHeld=>?_);refine ay 0 ?_;refine ay 1 ?_;refine ay 2 ?_;refine ay 3 ?_;refine ay 4 ?_;refine ay 5 ?_;refine ay 6 ?_;refine ay 7 ?_;refine bu 8 fun K hK=>?_
        go_simp
        (with_reducible refine(kJ C b (F+4*j+2) E.drew p (D.o.cur.ext (aF E)) Ty).mono ?_)
        rintro e c7 ⟨v,rfl,⟨r,rfl,b0,-⟩,cu,cI⟩;have cc:=zH ((aN (row:=some b) (aF E)).trans cI);have be:=zH (D.o.go H.o cu cc);obtain⟨co,cn,d6,a5,bp,br,I,b3,⟨cur,a2⟩,a6⟩:=be.rows.at Z a4;have b1:=gX (W:=c7) (p:=⟨g,k,none⟩) (cc.block g (iK _ _ O.2) (fun e=>by have e:=eE e;have:=(Eo.lo D.o.rows Ry);have:=H.o;omega)) O.2;rw[b1]at a5;cases a5
        obtain⟨-,ac,-,-⟩:=kT be.box;have ci:=aY ac b1;have a8:=zH (be.put H.o I a2 (a6 (r:Int) Ry).1);clear cu cI b0 I a2 a6 b3 ac b1;go_simp;refine hK.out _ _ (fun _=>ci) (fun hHeld=>?_);clear hK K;try simp only[Act.put,zA]
        have hHeld:=hHeld RC;refine ay 9 ?_;refine bu 10 fun K hK=>?_
        go_simp;refine hK.out _ _ (fun h=>absurd h RC) (fun hHeld=>?_);clear hK K;try simp only[Act.put,zA]
        refine dS RU ?_ _;clear O ci;go_wp2;go_roundw
        case rel=>exact⟨j+1,Ry,RB,zH (a8.mono Ry)⟩
        case measure=>simp[intOf];omega
     .obtain rfl:j=cols:=Ry;go_wp2;go_meet
      exact D.o
   case rest=>
    clear HI U J T;have HI:=zH hcut;clear hcut;obtain⟨E,rfl⟩:∃E,E=wc:=⟨wc,rfl⟩;go_upto_region 12 with(fail)
    go_cut [60] from 51 to 61 (fun d9 bm=>∃ba:Bool,d9=.bool ba/\(ba=true->0<k)/\MxI C b (F+4*cols+2) z g p n cols w bm)
    case first=>
     by_cases a3:0 < (k:Int)
     .by_cases ej:0 < (cols:Int)
      .go_wp2_with (go_at_call 46;(with_reducible refine(gH C b (F+4*cols) E 4 HI.o.cur Ty).mono ?_);rintro e cj ⟨v,rfl,⟨y,rfl⟩,Q,R⟩;have am:=zH (HI.go H.o Q R);clear Q R)
       go_meet
       exact⟨y,rfl,fun _=>Ry,am⟩
      .exact XV
     .exact XV
    case rest=>
     clear HI;obtain⟨ba,rfl,a3,cK⟩:=hcut;have HI:=zH cK;clear cK;obtain⟨E,rfl⟩:∃E,E=wc:=⟨wc,rfl⟩;cases ba
     .clear a3;have a9:=FH.2;go_wp2;go_roundw
      case rel=>exact⟨k+1,Ry,RB,zH (HI.mono Ry)⟩
      case measure=>simp[intOf];omega
     .have a3:=a3 rfl;go_upto_region 14 with(go_at_call 104;(with_reducible refine(kJ C b (F+4*cols+2) E p HI.o.cur Ty).mono ?_);rintro e cj ⟨v,rfl,⟨a7,rfl,b0,-⟩,Q,R⟩;have da:=zH (Ry:(a7:Int)<p);have am:=zH (HI.go H.o Q R);clear Q R b0)
      obtain⟨U,J,-,-⟩:=kT am.box;obtain⟨A1,c1,T⟩:=am.rows.row Z;obtain⟨b5,d2⟩:=aK (k-1);have d3:b5<n:=Ry;have eA:IntKind.i64.wrap ((k:Int)-1)=(b5:Int):=Sq;clear d2 a3 HI;go_wp2;clear U J T;go_loopw [70] (fun i V=>∃j:Nat,j<=cols/\i=.int .i64 j/\Hd (MxI C b (F+4*cols+2+2) z g p n cols w V)) (fun i _=>cols-(intOf i).toNat)
      case atStart=>exact⟨0,aT _,rfl,am⟩
      case round=>
       obtain⟨j,cO,rfl,D⟩:=hrel;clear am;by_cases a4:j<cols
       .have a1:=D.o.go H.o (D.o.cur.ext (aF wr)) (jX wr (some b));obtain⟨co,cn,d6,a5,bp,br,I,b3,⟨cur,a2⟩,a6⟩:=a1.rows.at Z a4;obtain⟨cr,dc,ad,c5,cz,-,-,d4,-,-⟩:=a1.rows.at d3 a4;obtain⟨-,ac,-,-⟩:=kT a1.box;have O:=aY ac (aY a5 (aY c5 cz));have c6:0<=ad/\ad<p:=Ry;have ch:=zH c6;have bv:=aY (gI ((a7:Int)*ad) (Ry:p≠0)) (gJ ((a7:Int)*ad) (Ry:0<p));have a8:=zH (a1.put H.o I a2 (a6 ((a7:Int)*ad%p) ⟨bv.1,aG bv.2⟩).1);clear I a2 a6 b3 ac a5 c5 cz c6 bv a1 d4;go_upto_region 17 with(fail)
        refine bk (S:=fun V=>af V z 1 (.slice (aX g) n n)/\af V g k (.slice (aX co) cols cn)/\af V g b5 (.slice (aX cr) cols dc)/\af V cr j (zI ad)) 19 RU O (fun hHeld=>?_);generalize wr.drew=e2 at O bp br a8 hHeld ⊢;clear O;refine ay 0 ?_;refine ay 1 ?_;refine ay 2 ?_;refine ay 3 ?_;refine ay 4 ?_;refine ay 5 ?_;refine ay 6 ?_;refine ay 7 ?_;refine ay 8 ?_;refine ay 9 ?_;refine ay 10 ?_;refine ay 11 ?_;refine ay 12 ?_;refine ay 13 ?_;refine ay 14 ?_;refine ay 15 ?_;refine ay 16 ?_;refine bu 17 fun K hK=>?_
        go_simp
        (with_reducible refine(nJ p (a7:Int) ad _ Ry Ry Ry (by have:=da.o;omega) ch.o.1 (by have:=ch.o;omega)).mono ?_)
        rintro e c7 ⟨rfl,rfl⟩;go_simp;refine hK.out _ _ (fun _=>hHeld) (fun hHeld=>?_);clear hK K;try simp only[Act.put,zA]
        have hHeld:=hHeld RC;refine ay 18 ?_;refine bu 19 fun K hK=>?_
        go_simp;refine hK.out _ _ (fun h=>absurd h RC) (fun hHeld=>?_);clear hK K;try simp only[Act.put,zA]
        refine dS RU ?_ _;clear bp br hHeld;go_wp2;go_roundw
        case rel=>exact⟨j+1,Ry,RB,a8⟩
        case measure=>simp[intOf];omega
       .have a9:=FH.2;go_wp2;go_roundw
        case rel=>exact⟨k+1,Ry,RB,zH (D.o.mono Ry)⟩
        case measure=>simp[intOf];omega
  .obtain rfl:k=n:=Ry;clear Z;obtain⟨e0,e1,f0,f1⟩:=kT HI.res;have y:=zS (v0:=.int .i64 (cols:Nat)) (v1:=.slice (aX g) k k) HI.res;obtain⟨d7,ac,-,-⟩:=kT y;unfold zgZ at d7 ac;clear y;go_wp2;refine az (v:=.agg (sY cols (aX g) k)) (by simp[results,results117,go_sem, *]) rfl ?_;have ao:=b8.o;refine⟨_,rfl,⟨g,rfl,?_⟩,((HI.cur.mono Ry).iM (a:=⟨w,0,none⟩) ao _).iM (a:=⟨w,1,none⟩) ao _,bV (bV HI.gr (a:=⟨w,0,none⟩) (ah _) _) (a:=⟨w,1,none⟩) (ah _) _⟩;obtain⟨rows,dT,d0,d1⟩:=HI.rows;exact⟨rows,dT,d0,(d1.setCell (a:=⟨w,0,none⟩) (jL _) _).setCell (a:=⟨w,1,none⟩) (jL _) _⟩
def jh.here{rows:aC}(h:jh w A rows)(B:k<rows.length):∃b o,A=some ⟨b,o,none⟩/\∀k r,rows[k]?=some r->∃z cap,af w b (o+k) (.slice z r.length cap)/\r.length<=cap/\aU w z r:=by
 rcases h with h|h
 .simp[h]at B
 .exact h
def zi8(rows:aC)(w:aa)(e:Ending)(w':aa):Prop:=∃A c,e=.returned (.slice A rows c)/\aL w' A rows/\aj w w'
def zdW(z:aa)(v:Nat)(S:aC)(us:bN)(k:Nat):Prop:=
 us.length=k/\∀i r,i<k->S[i]?=some r->∃A c,us[i]?=some (.slice A v c)/\aU z A (r.take v)
def zdW.snoc{v:Nat}{S:aC}{r:aH}(h:zdW E v S us k)(I:S[k]?=some r)(hi:aU E A (r.take v)):zdW E v S (us++[.slice A v c]) (k+1):=by
 refine⟨by rw[bS,h.1];rfl,fun i r' hi' z=>?_⟩;by_cases e:i=k
 .subst e;rw[I]at z;cases z
  exact⟨A,c,by rw[gD (by rw[h.1];exact ah _),h.1];simp,hi⟩
 .obtain⟨B,D,F,H⟩:=h.2 i r' Ry z;exact⟨B,D,by rw[dr (by rw[h.1];omega)];exact F,H⟩
def zdW.rows{v:Nat}{S:aC}(h:zdW E v S us S)(Z:∀r∈S,v<=r.length)(R:aj E w)(H:w.ownsRow D 27 1 (.slice A n c) S us):aL w A (oC v S):=by
 rcases zj S with z|z
 .exact aG (by rw[fw z];rfl)
 .obtain⟨g,ab,e,_⟩:=lR H z;simp only[ez]at e;obtain⟨rfl,rfl,rfl⟩:=e;refine aB ⟨g,0,rfl,fun k r F=>?_⟩;unfold oC at F;rw[bR]at F;obtain⟨q,B,rfl⟩:=o_.1 F;have T:=(bs.1 B).1;obtain⟨I,J,O,Q⟩:=h.2 k q T B;have U:=Z q (aR B);exact⟨I,J,by rw[fY,H.cellAt _ Ry,O,dX,iV U],Q.ext R⟩
def CY(p:Int)(s:Sy)(A:aq)(cap:Nat)(w:aa)(ap:aL w A s.rows)(z:s.Ok p):ax 124 (iH p (ae s.v s.h A s.rows cap)) w (zi8 (oC s.v.toNat (nW p s.n s.rows)) w):=by
 have cr:=Sys.v0 z;have ct:=Sys.v24 z;have cc:=Sys.h0 z;have ce:=Sys.h100 z;have a7:((s.n:Nat):Int)=s.v+s.h:=SW;have a9:((s.v.toNat:Nat):Int)=s.v:=Ry;obtain⟨cF,cz,ci,H,_,_⟩:=t_ (Sys.f z) (Sys.p2 z) (Sy.shp z);have a8:s.v.toNat<=s.n:=SW;obtain⟨S,Z⟩:=aK (nW p s.n s.rows);rw[<-Z]at H ⊢;have bm:=zH (fun(O:aa) (b0:aL O A s.rows)=>(by
  have:=AT p s.rows A cap s.rows s.n O (Sys.f z) b0 (Sy.shp z) (by have:=Sys.n z;omega) SW;rw[a7,<-Z]at this;exact this:ax 123 (ae p (s.v+s.h) A s.rows cap) O (yv S O)))
 have T:=zH (show ∀r∈S,s.v.toNat<=r.length from fun r D=>by rw[H.row r D];exact a8);have cn:S.length<=1048576:=by have:s.n<=124:=SW;have:=H.1;omega
 have ao:=zH ap;obtain⟨V,a0⟩:=aK s.v.toNat;rw[<-a0]at T a9 ⊢;clear Z H ap z a0 a8 a7;obtain⟨v,h,rows⟩:=s;dsimp only at *;subst a9;go_enter func124,ntmps124
 go_upto_region 2 with(fail)
 have J:Below w w (w.alloc (.cells (ae V h A rows cap) 26)):=(ai _ _).alloc (ah _) _;have ac:(w.alloc (.cells (ae V h A rows cap) 26)).heap[w.heap.size]?=some (.cells (ae V h A rows cap) 26 (0,0)):=aD _ _ rfl;obtain⟨b7,a1⟩:=aK (w.alloc (.cells (ae V h A rows cap) 26));rw[<-a1]at J ac ⊢;clear a1;obtain⟨ba,b5,b6⟩:=al ac;obtain⟨am,bv⟩:=bL J (ao.ext J);clear ac J ao;go_wp2_with fail
 refine(bm.o _ bv.o).mono ?_;rintro e F ⟨A2,c2,rfl,a6,ab⟩;have bb:=ag ab ba;obtain⟨bp,bd⟩:=bL a6.cap ab;have b9:(w:Nat)<F:=by have:=iC bb;exact this
 clear a6 ab ba b5 b6;go_wp2;go_loopw [5,18] (fun u i wr=>∃k:Nat,k<=S.length/\i=.int .i64 k/\(∃us,wr.ownsRow F 27 1 u k us/\zdW F V S us k)/\aj F wr) (fun _ i _=>S.length-(intOf i).toNat)
 case atStart=>exact⟨0,aT _,rfl,⟨[],kX _ _ _ _,rfl,fun i r hi=>Ry⟩,ai _ _⟩
 case round=>
  obtain⟨k,ch,rfl,⟨us,E,hcut⟩,B⟩:=hrel;by_cases a5:k<S.length
  .obtain⟨r,D⟩:=aw a5;obtain⟨b8,o,rfl,a2⟩:=bp.here a5;obtain⟨ad,I,a3,cb,a4⟩:=a2 k r D;have ca:=ag B a3;have cj:=T r (aR D);have cO:=ag B bb;have be:=zH (fun c=>hcut.snoc (c:=c) D (xA a4 V));have cu:V<=I:=Ry;obtain⟨bo,R⟩:=bL E B;have co:=B.size;clear D a2 a3 a4 E hcut B;go_wp2_with ((at_builtin;refine kM rfl _ _ rfl F _ _ k 1 us [.slice ad V I] _ 1 rfl rfl rfl (mq bo _) (CZ wr _) (C0 ad V I) Ry RX ?_;intro cI cK b3 b1))
   go_roundw
   case rel=>exact⟨k+1,Ry,RB,⟨_,b3,be.o _⟩,R.o.trans (((ai _ _).alloc Ry _).trans (b1.mono Ry))⟩
   case measure=>simp[intOf];omega
  .have b2:k=S.length:=Ry;subst b2;have b4:∃Q U,u5=.slice Q S U:=by
    rcases E.2 with⟨e,bz⟩|⟨g,I,cur,e,_⟩
    .exact⟨none,0,by rw[e,bz]⟩
    .exact⟨_,_,e⟩
   obtain⟨Q,U,rfl⟩:=b4;obtain⟨br,bi,R⟩:=dD (hcut.rows T B E) (by simp[oC]:(oC V S).length=S) (am.trans ((bQ bd B).mono am.size));clear E hcut B;go_wp2;go_ret
   exact⟨Q,U,by rw[bi.o];rfl,br,R.o⟩
def ye(p:Int)(s:Sy)(A:aq)(cap:Nat)(w:aa)(a9:aL w A s.rows)(I_:s.Ok p):ax 96 (iH p (ae s.v s.h A s.rows cap)) w (zhN (gW p s) w):=by
 have ce:=Sys.v0 I_;have ch:=Sys.v24 I_;obtain⟨r,_,b2,bo,_,_⟩:=t_ (Sys.f I_) (Sys.p2 I_) (Sy.shp I_);have cc:s.n<=124:=VI;have O:=rm bo (SW:s.v.toNat<=s.n);have bp:((s.v.toNat:Nat):Int)=s.v:=Ry;have a5:=zH (fun(D:aa) (R:aL D A s.rows)=>CY p s A cap D R I_);have T:zdx p s.v.toNat s.h.toNat s.rows=nW p s.v.toNat (oC s.v.toNat (nW p s.n s.rows)):=zfh (Sys.f I_) (Sys.p2 I_) (Sy.shp I_);obtain⟨B,a7⟩:=aK (oC s.v.toNat (nW p s.n s.rows));rw[<-a7]at a5 O T;have be:=O.1;have a3:=zH (fun(D:aa) (A1:aq) (c1:Nat) (R:aL D A1 B)=>(by
  have:=AT p B A1 c1 B s.v.toNat D (Sys.f I_) R (by rw[be];exact O) Ry Ry;rw[bp]at this;exact this:ax 123 (ae p s.v A1 B c1) D (yv (nW p s.v.toNat B) D)))
 have I:=zH (show(gW p s).rows=nW p s.v.toNat B from T);obtain⟨F,a8⟩:=aK (nW p s.v.toNat B);rw[<-a8]at a3 I;obtain⟨a4,Q⟩:=bL a9 (show(gW p s).v=s.v/\(gW p s).h=0 from⟨rfl,rfl⟩);obtain⟨ca,ba⟩:=aK (gW p s);rw[<-ba]at I Q ⊢;clear ba a8 a7 be O bo T bp b2 I_ a9;obtain⟨v,h,rows⟩:=s;dsimp only at *;go_enter func96,ntmps96
 go_upto_region 1 with(fail)
 have J:Below w w ((w.alloc (.cells (ae v h A rows cap) 26)).alloc (.cells aQ 26)):=((ai _ _).alloc (ah _) _).alloc Rx _;have U:((w.alloc (.cells (ae v h A rows cap) 26)).alloc (.cells aQ 26)).heap[w.heap.size]?=some (.cells (ae v h A rows cap) 26 (0,0)):=(bZ _ _ Rx).trans (aD _ _ rfl);have Z:((w.alloc (.cells (ae v h A rows cap) 26)).alloc (.cells aQ 26)).heap[(w:Nat)+1]?=some (.cells aQ 26 (0,0)):=aD _ _ Rx;have ab:(w:Nat)+2=((w.alloc (.cells (ae v h A rows cap) 26)).alloc (.cells aQ 26)):=Rx;obtain⟨a6,bb⟩:=aK ((w.alloc (.cells (ae v h A rows cap) 26)).alloc (.cells aQ 26));rw[<-bb]at J U Z ab ⊢;clear bb;obtain⟨a0,br,Fc,b0⟩:=fS J Z ab (a4.ext J);obtain⟨ac,ad,am⟩:=al U;clear U Z J a4 ab;go_region_held3 (fun w'=>af w' w 0 (zI v)/\af w' w 1 (zI h)/\af w' w 2 (.slice A rows cap))
  (first|exact t2|exact t1|exact⟨ac,ad,am⟩|exact⟨nK Rx t2.1,nK Rx t2.2.1,nK Rx t2.2.2⟩)
  ((first|(go_at_call 124;refine(a5.o _ (b0.ext (ai _ _).drew)).mono ?_;rintro e ci ⟨A2,c2,rfl,bi,H⟩;have t1:=aY (ag H ac) (aY (ag H ad) (ag H am));have bv:=zH bi;have ao:=zH ((ai a6 a6).drew.trans H);clear bi H)|(go_at_call 123;refine(a3.o _ _ _ bv.o).mono ?_;rintro e b9 ⟨A3,c3,rfl,bm,z⟩;have t2:=aY (ag z t1.1) (aY (ag z t1.2.1) (ag z t1.2.2));have bz:=zH (bm.mono ao.size);have ap:=zH (bQ ao z);have E:=cp ap br;obtain⟨b3,b4,b5⟩:=al E;have b6:=aS E 0;have b7:=aS E 1;have b8:=aS E 2;have b1:=zH E;clear bm z E)))
 have z:=oh (v0:=.int .i64 v) (v1:=()) (v2:=.slice A3 F c3) b1;obtain⟨a2,a1⟩:=bL (bz.fu (b:=(w:Nat)+1) (v0:=.int .i64 v) (v1:=()) (v2:=.slice A3 F c3) Tr) (jZ (b:=(w:Nat)+1) (bQ a0 ap) Ry (zI v) (zI 0) (.slice A3 F c3));obtain⟨cb,bd⟩:=aK (((b9.setCell ⟨(w:Nat)+1,0,none⟩ (zI v)).setCell ⟨(w:Nat)+1,1,none⟩ (zI 0)).setCell ⟨(w:Nat)+1,2,none⟩ (.slice A3 F c3));rw[<-bd]at z a2 a1 ⊢;clear bd b3 b4 b5 b6 b7 b8 t2 ac ad am;obtain⟨cj,cn,co⟩:=al z;clear z;go_wp2;refine az (v:=.agg #[v,(),.slice A3 F c3]) (by simp[results,results96,go_sem, *]) rfl ⟨A3,c3,?_,?_,a1⟩
 .rw[I.o,Q.o.1,Q.o.2]
 .rw[I.o];exact a2.mono a0.size
def xO(p:Int)(s:Sy)(A:aq)(cap:Nat)(w:aa)(D:cU w)(E:aL w A s.rows)(z:s.Ok p):ax 33 (iH p (ae s.v s.h A s.rows cap)) w (fp w true):=by have B:=z.small;have:=jg p s.v s.h A cap s.rows w D E (dM (by have:=B.n;omega)) (fun r F=>dM (by have:=B.len r F;omega));rw[il.2 z]at this;exact this
def yB(p:Int)(a b:Sy)(A1 A2:aq)(B D:Nat)(w:aa)(O:cU w)(bo:aL w A1 a.rows)(bp:aL w A2 b.rows)(am:a.Ok p)(a3:b.Ok p)(cn:a.v=b.v)(br:gW p a=gW p b):ax 26 (ew p (ae a.v a.h A1 a.rows B) (ae b.v b.h A2 b.rows D)) w fun e w'=>e=.returned (.tuple oW)/\aj w w':=by
 obtain⟨b0,s2⟩:=mO am;obtain⟨a5,a6,cb,cc⟩:=fS (fun(W:aa) (h:aL W A1 a.rows)=>kP p a A1 B W h am) (fun(W:aa) (h:aL W A2 b.rows)=>by have:=kP p b A2 D W h a3;rw[<-br]at this;exact this) (fun(W:aa) (O:cU W) (h:aL W A1 a.rows)=>xO p a A1 B W O h am) (fun(W:aa) (O:cU W) (h:aL W A2 b.rows)=>xO p b A2 D W O h a3);obtain⟨I,bm⟩:=aK (gW p a);rw[<-bm]at b0 s2 a5 a6;have ce:=zH (fun(W:aa) (a0 a1:aq) (c1 c2:Nat) (ci:aL W a0 I.rows) (cj:aL W a1 I.rows)=>by have:=l9 I I a0 a1 c1 c2 W ci cj (dM Ry) (dM Ry) (fun r hr=>dM TR) (fun r hr=>dM TR);rw[show jm I I=true by unfold jm;simp]at this;exact this)
 obtain⟨a7,bb,bd⟩:=dD O bo bp;clear b0 s2 bm O bo bp am a3 br;obtain⟨v,h,rows⟩:=a;obtain⟨v',h',ad⟩:=b;dsimp only at *;subst cn;go_enter func26,ntmps26
 go_upto_region 1 with(fail)
 have J:Below w w ((w.alloc (.cells (ae v h A1 rows B) 26)).alloc (.cells (ae v h' A2 ad D) 26)):=((ai _ _).alloc (ah _) _).alloc Rx _;have ao:((w.alloc (.cells (ae v h A1 rows B) 26)).alloc (.cells (ae v h' A2 ad D) 26)).heap[w.heap.size]?=some (.cells (ae v h A1 rows B) 26 (0,0)):=(bZ _ _ Rx).trans (aD _ _ rfl);have ap:((w.alloc (.cells (ae v h A1 rows B) 26)).alloc (.cells (ae v h' A2 ad D) 26)).heap[(w:Nat)+1]?=some (.cells (ae v h' A2 ad D) 26 (0,0)):=aD _ _ Rx;generalize (w.alloc _).alloc _=ch at J ao ap ⊢;obtain⟨b4,a9,ba,be,bi,a8⟩:=lq J ao ap (bb.ext J) (bd.ext J) (a7.ext J);obtain⟨Q,R,T⟩:=al ao;obtain⟨U,Z,ab⟩:=al ap;clear ao ap J bb bd a7;go_upto_region 3 with(first
  |(go_at_call 33;(with_reducible refine(cb.o ch a8.o be.o).mono ?_);rintro e co ⟨rfl,H⟩;have a2:=zH H;clear Q R T U Z ab;obtain⟨Q,R,T⟩:=al (aA a9 H);obtain⟨U,Z,ab⟩:=al (aA ba H);clear H)
  |(go_at_call 33;(with_reducible refine(cc.o co (a8.o.ext a2.o) (bi.o.ext a2.o)).mono ?_);rintro e b1 ⟨rfl,H⟩;have ac:=zH (an a2 H);clear Q R T U Z ab H;obtain⟨Q,R,T⟩:=al (aA a9 ac);obtain⟨U,Z,ab⟩:=al (aA ba ac)))
 obtain⟨b9,ca⟩:=bL (be.ext ac) (bi.ext ac);go_region_held3 (fun W=>af W w 0 (zI v)/\af W w 1 (zI h)/\af W w 2 (.slice A1 rows B)/\af W ((w:Nat)+1) 0 (zI v)/\af W ((w:Nat)+1) 1 (zI h')/\af W ((w:Nat)+1) 2 (.slice A2 ad D))
  (first|with_reducible exact t3|with_reducible exact t2|with_reducible exact t1|exact⟨Q,R,T,U,Z,ab⟩)
  ((first|(go_at_call 59;(with_reducible refine(a5.o _ (b9.o.ext (ai _ _).drew)).mono ?_);rintro e cr ⟨a0,d1,rfl,bv,E⟩;have t1:=(⟨ag E Q,ag E R,ag E T,ag E U,ag E Z,ag E ab⟩:And _ (And _ (And _ (And _ (And _ _)))));have b6:=zH bv.at;have a4:=zH ((ai b1 b1).drew.trans E);clear bv E)|(go_at_call 59;(with_reducible refine(a6.o _ (ca.o.ext a4.o)).mono ?_);rintro e ct ⟨a1,d2,rfl,bz,z⟩;have t2:=(⟨ag z t1.1,ag z t1.2.1,ag z t1.2.2.1,ag z t1.2.2.2.1,ag z t1.2.2.2.2.1,ag z t1.2.2.2.2.2⟩:And _ (And _ (And _ (And _ (And _ _)))));have b8:=zH bz.at;have b7:=zH (b6.ext z);have b2:=zH (bQ a4 z);clear bz z)|(go_at_call 58;(with_reducible refine(ce.o _ _ _ _ _ b7.o b8.o).mono ?_);rintro e cu ⟨rfl,F⟩;have t3:=(⟨ag F t2.1,ag F t2.2.1,ag F t2.2.2.1,ag F t2.2.2.2.1,ag F t2.2.2.2.2.1,ag F t2.2.2.2.2.2⟩:And _ (And _ (And _ (And _ (And _ _)))));have b3:=zH (bQ b2 F);clear F)))
 have b5:=zH (an b4 (an ac b3));go_wp2;refine az (v:=.tuple oW) (by simp[results,results26,go_sem, *]) rfl ⟨rfl,b5⟩
def zjh(z:Sy)(w:aa)(e:Ending)(w':aa):Prop:=∃A c,e=.returned (.tuple (eh (ae z.v z.h A z.rows c)))/\aL w' A z.rows/\aj w w'
def tF(p:Int)(s:Sy)(A:aq)(cap:Nat)(w:aa)(H:cU w)(ao:aL w A s.rows)(Q:s.Ok p):ax 31 (iH p (ae s.v s.h A s.rows cap)) w (zjh (gW p s) w):=by
 obtain⟨Z,a9⟩:=bL (fun(W:aa) (h:aL W A s.rows)=>kP p s A cap W h Q) (fun(W:aa) (H:cU W) (h:aL W A s.rows)=>xO p s A cap W H h Q);obtain⟨B,ap⟩:=aK (gW p s);rw[<-ap]at Z ⊢;obtain⟨ac,ab⟩:=bL ao H;clear ap Q ao H;obtain⟨v,h,rows⟩:=s;dsimp only at *;go_enter func31,ntmps31
 go_upto_region 1 with(fail)
 have E:Below w w ((w.alloc (.cells (ae v h A rows cap) 26)).alloc (.cells aQ 26)):=((ai _ _).alloc (ah _) _).alloc Rx _;have I:((w.alloc (.cells (ae v h A rows cap) 26)).alloc (.cells aQ 26)).heap[w.heap.size]?=some (.cells (ae v h A rows cap) 26 (0,0)):=(bZ _ _ Rx).trans (aD _ _ rfl);have J:((w.alloc (.cells (ae v h A rows cap) 26)).alloc (.cells aQ 26)).heap[(w:Nat)+1]?=some (.cells aQ 26 (0,0)):=aD _ _ Rx;generalize (w.alloc _).alloc _=am at E I J ⊢;obtain⟨a4,a6,a7,ad,a5,ba⟩:=lq E I J (ac.ext E) (ab.ext E) (show(w:Nat)+1<am from(aP.1 J).1);obtain⟨R,T,U⟩:=al I;clear I J E ac ab;go_wp2_with (first
  |(go_at_call 33;(with_reducible refine(a9.o am a5.o ad.o).mono ?_);rintro e a2 ⟨rfl,z⟩;have F:=zH z;clear R T U;obtain⟨R,T,U⟩:=al (aA a6 z);clear z)
  |(go_at_call 59;(with_reducible refine(Z.o a2 (ad.o.ext F.o)).mono ?_);rintro e bi ⟨O,d,rfl,a1,z⟩;have a8:=zH (a1.mono (show(w:Nat)+2<=a2 by have:=ba.o;have:=F.size;omega));have a3:=zH (an a4 (an F z));have D:=aA a7 (an F z);have a0:=oh (v0:=.int .i64 B.v) (v1:=.int .i64 B.h) (v2:=.slice O B.rows d) D;obtain⟨bm,bo,bp⟩:=al D;have f0:=aS D 0;have f1:=aS D 1;have f2:=aS D 2;obtain⟨bb,bd,be⟩:=al a0;clear R T U a1 z D a0))
 refine az (v:=.tuple (eh (ae B.v B.h O B.rows d))) (by simp[results,results31,go_sem, *]) rfl ⟨O,d,rfl,(a8.fu (b:=(w:Nat)+1) Ry).at,jZ a3 Ry _ _ _⟩
end Go.Proofs.YtdpgblncijojiaaGreatDoor
