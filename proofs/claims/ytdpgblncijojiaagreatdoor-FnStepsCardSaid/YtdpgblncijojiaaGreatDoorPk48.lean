/- Parts of the walks. Conditions: as stated with each. -/
import Derived.Test.YtdpgblncijojiaaGreatDoorPk41
import Derived.Test.YtdpgblncijojiaaGreatDoorPk45
import Derived.Test.YtdpgblncijojiaaGreatDoorPk47
namespace Go.Proofs.YtdpgblncijojiaaGreatDoor
open Go.RowKit Tryz
set_option linter.all false
set_option maxHeartbeats 16000000
set_option maxRecDepth 100000
variable{A:an}{B D b j k n:Nat}{p:Int}{q:Sy×List cS}{s:Sy}{v0 v1 v2:au}{w:aa}
def qw(n m:Nat):List (List Int):=List.replicate n (List.replicate m 0)
def zbN(n m:Nat)(w:aa)(ce:n<=1024)(cc:m<=1024):aw 139 (bP n m) w fun e w'=>∃g,e=.returned (.agg #[m,.slice (aY g) n n])/\aJ w' ((w:Nat)+1) (.slice (aY g) n n) (qw n m)/\ai w w':=by
 obtain⟨b3,bp,br,bv,bz⟩:=cU fI;obtain⟨b2,hi,b0,b1,Es⟩:=cU i_;have D:=az w (.cells pL 154) rfl;have ab:=aD w (.cells pL 154);go_enter func139,ntmps139
 go_upto_region 1 with(fail)
 have Q:(w.alloc (.cells pL 154):Nat)=w+1:=RS;generalize w.alloc _=W at ab D Q ⊢;obtain⟨a8,bb,bm⟩:=d_ ab D Q;clear ab D Q;go_upto_region 2 with((at_make;refine jg _ rfl _ _ 24 rfl W.heap.size 27 b2 (.slice none 0 0) 1 gx hi b0 b1 .i64 .i64 n n n rfl rfl rfl rfl SW TS (ag _) ?_;intro H a7 a4;have ap:=zH (cd a4);have U:=zH (bh.made a7);clear a7 a4))
 have F:=az H (.cells #[m,.slice (aY W) n n] 154) rfl;have ac:=aD H (.cells #[m,.slice (aY W) n n] 154);obtain⟨a2,Y,R⟩:=d_ (show(W:Nat)<H from(bZ U.o.outer _ rfl).2) (U.o.ext ac) (cC ap ac);generalize H.alloc _=ca at F Y R ⊢;generalize (H:Nat)=ao at F a2 ⊢;have a1:=zH F;obtain⟨am,I,-,-⟩:=kC F;clear F ac U ap;go_wp2;clear am I;go_loopw [14] (fun i wr=>∃k:Nat,k<=n/\i=.int .i64 k/\Hd (∃us,bh wr W (.slice (aY W) n n) (fh (qw n m) [] k) us)/\Hd (aU wr ao #[.int .i64 m,.slice (aY W) n n] 154)/\Hd (ai W wr)) (fun i _=>n-(intOf i).toNat)
 case atStart=>exact⟨0,bf _,rfl,zH ⟨_,by rw[jT,show(qw n m).length=n by simp[qw]];exact Y.o⟩,a1,R⟩
 case round=>
  obtain⟨k,cb,rfl,Z,a0,J⟩:=hrel;clear Y a1 R;obtain⟨am,I,-,-⟩:=kC a0;obtain⟨z,rfl⟩:∃z,z=wr:=⟨wr,rfl⟩;by_cases a6:k<n
  .obtain⟨us,E⟩:=Z.o;have bi:=zH E;clear E Z;go_upto_region 5 with(fail)
   refine bJ (S:=fun V=>ah V ao 1 (.slice (aY W) n n)) 6 Si I (fun hHeld=>?_);refine aC 0 ?_;refine aC 1 ?_;refine aC 2 ?_;refine aC 3 ?_;refine bM 4 fun K hK=>?_
   refine rG _ rfl (.tmp 20) (.tmp 20) 27 rfl z 3 b3 (zI 0) 1 dS bp br bv .i64 .i64 m m m rfl rfl rfl rfl (by rw[bz];omega) TS (ag _) ?_;intro b7 FK a3;rw[ig]at FK;obtain⟨O,be⟩:=bS ((aI z).trans (cd a3)) (T6:ar b7 z (.slice (aY z) m m) (List.replicate m 0));clear FK a3;rw[show(z.drew:Nat)=z from rfl];obtain⟨ad,b4,⟨v0,b5⟩,b6⟩:=bh.set (by simp[fh,qw];omega:n=(fh (qw n m) [] k).length) bi O be J.o.size a6;rw[kO _ _ _ _ (by simp[qw,a6]:(qw n m)[k]?=some (List.replicate m 0))]at ad;obtain⟨bd,bo,a9⟩:=d_ ad (ak a0 O) ((cC J.o O).setCell (p:=⟨W,k,none⟩) (ag _) (.slice (aY z) m m));clear ad b4;refine hK.out _ _ (fun _=>av O I) (fun hHeld=>?_);clear hK K;try simp only[Act.put,zA]
   have hHeld:=hHeld RX;refine aC 5 ?_;refine bM 6 fun K hK=>?_
   go_simp;refine hK.out _ _ (fun h=>absurd h RX) (fun hHeld=>?_);clear hK K;try simp only[Act.put,zA]
   refine eC Si ?_ _;clear b5 b6 am I;go_wp2;go_roundw
   case rel=>exact⟨k+1,RU,RW,zH ⟨_,bd⟩,zH ((bw _ _ _ _ (by have:=a2.o;show ao≠W.heap.size;omega)).trans bo),a9⟩
   case measure=>simp[intOf];omega
  .obtain rfl:k=n:=RU;have D:=ak bb J.o;obtain⟨ch,ci,f0,f1⟩:=kC D;have y:=yF (v0:=.int .i64 m) (v1:=.slice (aY W) k k) D;obtain⟨b8,b9,-,-⟩:=kC y;unfold zgA at b8 b9;have ba:=zH (((cC a8 J.o).setCell (p:=⟨w,0,none⟩) (ag _) (zI m)).setCell (p:=⟨w,1,none⟩) (ag _) (.slice (aY W) k k));clear D y;go_wp2;refine ax (v:=.agg #[m,.slice (aY W) k k]) (by simp[results,results139,go_sem, *]) rfl ?_;obtain⟨us,E⟩:=Z.o;rw[kN _ _ _ (by simp[qw])]at E;have Q:=bm.o;have a5:(w:Nat)<W:=RU;exact⟨W,rfl,aJ.mono (aJ.setCell (aJ.setCell ⟨us,E⟩ (a:=⟨w,0,none⟩) a5 _) (a:=⟨w,1,none⟩) a5 _) RU,ba⟩
def DE(p:Int)(n cols B g:Nat)(V:aa):Prop:=∃rows,rows.length=n/\CC p cols rows/\aJ V B (.slice (aY g) n n) rows
section
variable{p:Int}{n cols B g b:Nat}{V V':aa}
def DE.ext(h:DE p n cols B g V)(H:ai V V'):DE p n cols B g V':=by obtain⟨rows,D,E,F⟩:=h;exact⟨rows,D,E,F.ext H⟩
def DE.drawn(h:DE p n cols B g V)(I:V.grownBy V' (some b))(H:b<B):DE p n cols B g V':=by obtain⟨rows,D,E,F⟩:=h;exact⟨rows,D,E,F.drawn I H⟩
def DE.row(h:DE p n cols B g V)(Q:k<n):∃A c,ah V g k (.slice A cols c):=by
 obtain⟨rows,O,H,us,I⟩:=h;obtain⟨r,E⟩:=aB (RU:k<rows.length);obtain⟨J,F,c,e,-,D,-⟩:=I.at E;cases e
 rw[(H r (a_ E)).1]at D;exact⟨F,c,D⟩
def DE.lo(h:DE p n cols B g V)(J:0<n):B<=g:=by
 obtain⟨rows,H,I,us,D⟩:=h;obtain⟨F,cap,e,E,-⟩:=kG D.outer RU;cases e
 exact E
def DE.at(h:DE p n cols B g V)(a8:k<n)(a0:j<cols):∃D c x,ah V g k (.slice (aY D) cols c)/\ah V D j (zI x)/\V.frozen? ⟨D,j,none⟩=false/\B<=D/\(0<=x/\(x<p∨x=0))/\(∃cur,aU V D cur 3)/\∀y:Int,(0<=y/\(y<p∨y=0))->DE p n cols B g (V.setCell ⟨D,j,none⟩ (zI y))/\V.grownBy (V.setCell ⟨D,j,none⟩ (zI y)) (some D):=by
 obtain⟨rows,ac,J,us,O⟩:=h;obtain⟨r,H⟩:=aB (RU:k<rows.length);have E:=J r (a_ H);obtain⟨x,Y⟩:=aB (by rw[E.1];exact a0:j<r.length);obtain⟨a6,a4,a5,e,a2,Q,-,-,-,a1⟩:=O.at H;obtain⟨D,c,U,am,ao,ad,-,-,R⟩:=O.gS H Y;cases e
 rw[a2]at U;cases U
 rw[E.1]at Q;obtain⟨-,ab|⟨a7,cap,cur,Z,-,ap,-⟩⟩:=a1
 .cases ab.1
 cases Z
 refine⟨D,_,x,Q,am,ao,ad,E.2 x (a_ Y),⟨cur,ap⟩,fun y a3=>⟨⟨rows.set k (r.set j y),by rw[fP];exact ac,fun q F=>?_,⟨us,(R y).1⟩⟩,(R y).2⟩⟩;rcases vD F with F|rfl
 .exact J q F
 .refine⟨by rw[fP];exact E.1,fun z I=>?_⟩;rcases vD I with I|rfl
  .exact E.2 z I
  .exact a3
end
def DF(p:Int)(n m:Nat):(qw n m).length=n/\CC p m (qw n m):=⟨by simp[qw],fun r D=>by rw[(xX.1 D).2];exact⟨RS,fun x E=>by rw[(xX.1 E).2];omega⟩⟩
structure MxI(C:Code)(b K z g:Nat)(p:Int)(n cols:Nat)(w V:aa):Prop where
 rows:DE p n cols ((w:Nat)+1) g V
 box:aU V z (rU cols (aY g) n) 154
 res:aU V w pL 154
 cur:cH C b K V
 gr:w.grownBy V (some b)
section
variable{C:Code}{b K K' z g:Nat}{p:Int}{n cols:Nat}{w V V':aa}
def MxI.go(h:MxI C b K z g p n cols w V)(F:b < (w:Nat)/\(w:Nat)<z)(E:cH C b K' V')(D:V.grownBy V' (some b)):MxI C b K' z g p n cols w V':=⟨h.rows.drawn D RU,bR h.box D RU,bR h.res D F.1,E,h.gr.trans D⟩
def MxI.mono(h:MxI C b K z g p n cols w V)(D:K<=K'):MxI C b K' z g p n cols w V:=⟨h.rows,h.box,h.res,h.cur.mono D,h.gr⟩
def MxI.put(h:MxI C b K z g p n cols w V)(J:b < (w:Nat)/\(w:Nat)<z){cur:gh}{y:Int}(I:(w:Nat)+1<=D)(E:aU V D cur 3)(H:DE p n cols ((w:Nat)+1) g (V.setCell ⟨D,j,none⟩ (zI y))):MxI C b K z g p n cols w (V.setCell ⟨D,j,none⟩ (zI y)):=by
 have F:z≠D:=fun e=>by subst e;rw[h.box]at E;simp at E
 exact⟨H,(bw _ _ _ _ (by show z≠D;exact F)).trans h.box,(bw _ _ _ _ (by show w.heap.size≠D;omega)).trans h.res,h.cur.iP (a:=⟨D,j,none⟩) (by show b<D;omega) _,bW h.gr (a:=⟨D,j,none⟩) (by show(w:Nat)<=D;omega) _⟩
end
def za2(C:Code)(b m:Nat)(w:aa)(p:Int)(n cols:Nat)(bo:cH C b m w)(en:m<=274877700000)(es:2<=p)(ev:p<=97)(eo:n<=64)(em:cols<=64):aw 117 (xL (aY b) p n cols) w (kM C b (m+40000) (fun w' v=>∃g,v=.agg (rU cols (aY g) n)/\DE p n cols ((w:Nat)+1) g w') w):=by
 have bz:=az w (.cells pL 154) rfl;have I:=aD w (.cells pL 154);have b2:(w.alloc (.cells pL 154):Nat)=w+1:=RS;obtain⟨b8,b9⟩:=bS bo.lt bo;clear bo;go_enter func117,ntmps117
 go_upto_region 1 with(fail)
 generalize w.alloc _=W at I bz b2 ⊢;obtain⟨cb,b7,ce⟩:=d_ bz I b2;clear bz I b2;go_upto_region 2 with(go_at_call 139;(with_reducible refine(zbN n cols W RU RU).mono ?_);rintro e ab ⟨g,rfl,cR,ao⟩;have ca:=zH cR;have bi:=zH (ak cb ao);have bb:=zH (cC b7 ao);clear cR ao)
 have b4:=az ab (.cells (rU cols (aY g) n) 154) rfl;have ap:=aD ab (.cells (rU cols (aY g) n) 154);obtain⟨H,a0⟩:=bS (show b < (w:Nat)/\(w:Nat)<ab from⟨b8,(aM.1 bi).1⟩) (show MxI C b m ab.heap.size g p n cols w (ab.alloc (.cells (rU cols (aY g) n) 154)) from⟨⟨_,(DF p n cols).1,(DF p n cols).2,(ca.mono (by have:=ce.o;omega)).ext ap⟩,b4,ak bi ap,(b9.ext bb).ext ap,(aN bb).trans (aN ap)⟩);generalize ab.alloc _=da at a0 b4 ap ⊢;generalize (ab:Nat)=z at a0 H ⊢;clear b4 ap ca bi bb cb b7 ce b9;go_upto_region 3 with(go_at_call 46;(with_reducible refine(gX C b m da 3 a0.o.cur RU).mono ?_);rintro e eb ⟨v,rfl,⟨d4,rfl⟩,cr,cy⟩;have bd:=zH (a0.go H.o cr cy);clear cr cy)
 clear a0;obtain⟨Y,J,-,-⟩:=kC bd.box;go_wp2;clear Y J;go_loopw [23] (fun i wr=>∃k:Nat,k<=n/\i=.int .i64 k/\Hd (MxI C b (m+2+600*k) z g p n cols w wr)) (fun i _=>n-(intOf i).toNat)
 case atStart=>exact⟨0,bf _,rfl,bd⟩
 case round=>
  obtain⟨k,ek,rfl,HI⟩:=hrel;clear bd;obtain⟨Y,J,-,-⟩:=kC HI.box;by_cases Z:k<n
  .obtain⟨d9,eg,U⟩:=HI.rows.row Z;obtain⟨F,a9⟩:=aO (m+2+600*k);have E_:=zH (RU:F<=274877800000/\F=m+2+600*k);rw[<-a9]at HI;clear a9;obtain⟨c7,rfl⟩:∃c7,c7=wr:=⟨wr,rfl⟩;go_upto_block 2 with(fail)
   go_cut [12] from 32 to 51 (fun _ V=>MxI C b (F+4*cols) z g p n cols w V)
   case first=>
    go_wp2;clear Y J U;go_loopw [32] (fun i V=>∃j:Nat,j<=cols/\i=.int .i64 j/\Hd (MxI C b (F+4*j) z g p n cols w V)) (fun i _=>cols-(intOf i).toNat)
    case atStart=>exact⟨0,bf _,rfl,HI⟩
    case round=>
     obtain⟨j,cI,rfl,D⟩:=hrel;by_cases a4:j<cols
     .have ea:=zH (show j<=cols from cI);go_upto_region 9 with(fail)
      obtain⟨E,rfl⟩:∃E,E=wr:=⟨wr,rfl⟩;go_cut [39] from 35 to 40 (fun d7 bm=>∃b6:Bool,d7=.bool b6/\MxI C b (F+4*j+2) z g p n cols w bm)
      case first=>
       cases d4
       .go_wp2_with (go_at_call 46;(with_reducible refine(gX C b (F+4*j) E 2 D.o.cur TO).mono ?_);rintro e cj ⟨v,rfl,⟨y,rfl⟩,Q,R⟩;have c8:=zH (D.o.go H.o Q R);clear Q R)
        go_meet
        exact⟨y,rfl,c8⟩
       .go_wp2_with fail
        go_meet
        exact⟨true,rfl,D.o.mono RU⟩
      case rest=>
       clear D;obtain⟨b6,rfl,cO⟩:=hcut;have D:=zH cO;clear cO;obtain⟨E,rfl⟩:∃E,E=wc:=⟨wc,rfl⟩;cases b6
       .go_wp2;go_roundw
        case rel=>exact⟨j+1,RU,RW,zH (D.o.mono RU)⟩
        case measure=>simp[intOf];omega
       .obtain⟨Y,J,-,-⟩:=kC D.o.box;obtain⟨A1,c1,U⟩:=D.o.rows.row Z;go_upto_region 10 with(fail)
        obtain⟨dc,ei,e3,c0,-⟩:=D.o.rows.at Z a4;rw[U]at c0;cases c0
        have O:=bn J U;clear Y J U;refine bJ (S:=fun V=>ah V z 1 (.slice (aY g) n n)/\ah V g k (.slice (aY dc) cols c1)) 10 Si O (fun hHeld=>?_);refine aC 0 ?_;refine aC 1 ?_;refine aC 2 ?_;refine aC 3 ?_;refine aC 4 ?_;refine aC 5 ?_;refine aC 6 ?_;refine aC 7 ?_;refine bM 8 fun K hK=>?_
        go_simp
        (with_reducible refine(kx C b (F+4*j+2) E.drew p (D.o.cur.ext (aI E)) TO).mono ?_)
        rintro e c6 ⟨v,rfl,⟨r,rfl,b0,-⟩,ct,cz⟩;have cc:=zH ((aN (row:=some b) (aI E)).trans cz);have be:=zH (D.o.go H.o ct cc);obtain⟨cn,ck,d5,a5,bp,br,I,b3,⟨cur,a2⟩,a6⟩:=be.rows.at Z a4;have b1:=ik (W:=c6) (p:=⟨g,k,none⟩) (cc.block g (iN _ _ O.2) (fun e=>by have e:=eH e;have:=(DE.lo D.o.rows RU);have:=H.o;omega)) O.2;rw[b1]at a5;cases a5
        obtain⟨-,ac,-,-⟩:=kC be.box;have ci:=bn ac b1;have a8:=zH (be.put H.o I a2 (a6 (r:Int) RU).1);clear ct cz b0 I a2 a6 b3 ac b1;go_simp;refine hK.out _ _ (fun _=>ci) (fun hHeld=>?_);clear hK K;try simp only[Act.put,zA]
        have hHeld:=hHeld RX;refine aC 9 ?_;refine bM 10 fun K hK=>?_
        go_simp;refine hK.out _ _ (fun h=>absurd h RX) (fun hHeld=>?_);clear hK K;try simp only[Act.put,zA]
        refine eC Si ?_ _;clear O ci;go_wp2;go_roundw
        case rel=>exact⟨j+1,RU,RW,zH (a8.mono RU)⟩
        case measure=>simp[intOf];omega
     .obtain rfl:j=cols:=RU;go_wp2;go_meet
      exact D.o
   case rest=>
    clear HI Y J U;have HI:=zH hcut;clear hcut;obtain⟨E,rfl⟩:∃E,E=wc:=⟨wc,rfl⟩;go_upto_region 12 with(fail)
    go_cut [60] from 51 to 61 (fun d8 bm=>∃ba:Bool,d8=.bool ba/\(ba=true->0<k)/\MxI C b (F+4*cols+2) z g p n cols w bm)
    case first=>
     by_cases a3:0 < (k:Int)
     .by_cases ej:0 < (cols:Int)
      .go_wp2_with (go_at_call 46;(with_reducible refine(gX C b (F+4*cols) E 4 HI.o.cur TO).mono ?_);rintro e cj ⟨v,rfl,⟨y,rfl⟩,Q,R⟩;have am:=zH (HI.go H.o Q R);clear Q R)
       go_meet
       exact⟨y,rfl,fun _=>RU,am⟩
      .exact Yb
     .exact Yb
    case rest=>
     clear HI;obtain⟨ba,rfl,a3,cF⟩:=hcut;have HI:=zH cF;clear cF;obtain⟨E,rfl⟩:∃E,E=wc:=⟨wc,rfl⟩;cases ba
     .clear a3;have a9:=E_.2;go_wp2;go_roundw
      case rel=>exact⟨k+1,RU,RW,zH (HI.mono RU)⟩
      case measure=>simp[intOf];omega
     .have a3:=a3 rfl;go_upto_region 14 with(go_at_call 104;(with_reducible refine(kx C b (F+4*cols+2) E p HI.o.cur TO).mono ?_);rintro e cj ⟨v,rfl,⟨a7,rfl,b0,-⟩,Q,R⟩;have c9:=zH (RU:(a7:Int)<p);have am:=zH (HI.go H.o Q R);clear Q R b0)
      obtain⟨Y,J,-,-⟩:=kC am.box;obtain⟨A1,c1,U⟩:=am.rows.row Z;obtain⟨b5,d1⟩:=aO (k-1);have d2:b5<n:=RU;have eA:IntKind.i64.wrap ((k:Int)-1)=(b5:Int):=SQ;clear d1 a3 HI;go_wp2;clear Y J U;go_loopw [70] (fun i V=>∃j:Nat,j<=cols/\i=.int .i64 j/\Hd (MxI C b (F+4*cols+2+2) z g p n cols w V)) (fun i _=>cols-(intOf i).toNat)
      case atStart=>exact⟨0,bf _,rfl,am⟩
      case round=>
       obtain⟨j,cI,rfl,D⟩:=hrel;clear am;by_cases a4:j<cols
       .have a1:=D.o.go H.o (D.o.cur.ext (aI wr)) (jP wr (some b));obtain⟨cn,ck,d5,a5,bp,br,I,b3,⟨cur,a2⟩,a6⟩:=a1.rows.at Z a4;obtain⟨co,db,ad,c4,cu,-,-,d3,-,-⟩:=a1.rows.at d2 a4;obtain⟨-,ac,-,-⟩:=kC a1.box;have O:=bn ac (bn a5 (bn c4 cu));have c5:0<=ad/\ad<p:=RU;have ch:=zH c5;have bv:=bn (ir ((a7:Int)*ad) (RU:p≠0)) (iu ((a7:Int)*ad) (RU:0<p));have a8:=zH (a1.put H.o I a2 (a6 ((a7:Int)*ad%p) ⟨bv.1,aF bv.2⟩).1);clear I a2 a6 b3 ac a5 c4 cu c5 bv a1 d3;go_upto_region 17 with(fail)
        refine bJ (S:=fun V=>ah V z 1 (.slice (aY g) n n)/\ah V g k (.slice (aY cn) cols ck)/\ah V g b5 (.slice (aY co) cols db)/\ah V co j (zI ad)) 19 Si O (fun hHeld=>?_);generalize wr.drew=e2 at O bp br a8 hHeld ⊢;clear O;refine aC 0 ?_;refine aC 1 ?_;refine aC 2 ?_;refine aC 3 ?_;refine aC 4 ?_;refine aC 5 ?_;refine aC 6 ?_;refine aC 7 ?_;refine aC 8 ?_;refine aC 9 ?_;refine aC 10 ?_;refine aC 11 ?_;refine aC 12 ?_;refine aC 13 ?_;refine aC 14 ?_;refine aC 15 ?_;refine aC 16 ?_;refine bM 17 fun K hK=>?_
        go_simp
        (with_reducible refine(rH p (a7:Int) ad _ RU RU RU (by have:=c9.o;omega) ch.o.1 (by have:=ch.o;omega)).mono ?_)
        rintro e c6 ⟨rfl,rfl⟩;go_simp;refine hK.out _ _ (fun _=>hHeld) (fun hHeld=>?_);clear hK K;try simp only[Act.put,zA]
        have hHeld:=hHeld RX;refine aC 18 ?_;refine bM 19 fun K hK=>?_
        go_simp;refine hK.out _ _ (fun h=>absurd h RX) (fun hHeld=>?_);clear hK K;try simp only[Act.put,zA]
        refine eC Si ?_ _;clear bp br hHeld;go_wp2;go_roundw
        case rel=>exact⟨j+1,RU,RW,a8⟩
        case measure=>simp[intOf];omega
       .have a9:=E_.2;go_wp2;go_roundw
        case rel=>exact⟨k+1,RU,RW,zH (D.o.mono RU)⟩
        case measure=>simp[intOf];omega
  .obtain rfl:k=n:=RU;clear Z;obtain⟨e0,e1,f0,f1⟩:=kC HI.res;have y:=yF (v0:=.int .i64 (cols:Nat)) (v1:=.slice (aY g) k k) HI.res;obtain⟨d6,ac,-,-⟩:=kC y;unfold zgA at d6 ac;clear y;go_wp2;refine ax (v:=.agg (rU cols (aY g) k)) (by simp[results,results117,go_sem, *]) rfl ?_;have ao:=b8.o;refine⟨_,rfl,⟨g,rfl,?_⟩,((HI.cur.mono RU).iP (a:=⟨w,0,none⟩) ao _).iP (a:=⟨w,1,none⟩) ao _,bW (bW HI.gr (a:=⟨w,0,none⟩) (ag _) _) (a:=⟨w,1,none⟩) (ag _) _⟩;obtain⟨rows,dl,dT,d0⟩:=HI.rows;exact⟨rows,dl,dT,(d0.setCell (a:=⟨w,0,none⟩) (iV _) _).setCell (a:=⟨w,1,none⟩) (iV _) _⟩
def gR(X:List cS):Prop:=∀x∈X,x.row=[]
def gR.push{x:cS}(h:gR q.2)(D:x.row=[]):gR (push p q x).2:=by
 intro y z;simp only[Go.Proofs.YtdpgblncijojiaaGreatDoor.push,fc,gp]at z;rcases z with z|rfl
 .exact h y z
 .exact D
def gR.tc{p:Int}{a c:Nat}{iv:Int}{q:Sy×List cS}(h:gR q.2):∀i,gR (tc p a c iv i q).2
 |0=>h
 |i+1=>by
  have ih:=gR.tc (p:=p) (a:=a) (c:=c) (iv:=iv) h i;unfold Go.Proofs.YtdpgblncijojiaaGreatDoor.tc;split
  .exact ih.push rfl
  .exact ih
def gR.kX{p:Int}:∀(b:Nat) {q:Sy×List cS},gR q.2->gR (kX p b q).2
 |0,_,h=>h
 |b+1,q,h=>by
  unfold Go.Proofs.YtdpgblncijojiaaGreatDoor.kX;refine gR.kX b ?_;split
  .exact h.push rfl
  .exact(h.tc _).push rfl
def gR.lB{p:Int}:∀(m c:Nat) {z:Nat×(Sy×List cS)},gR z.2.2->gR (lB p m c z).2.2
 |0,_,_,h=>h
 |m+1,c,z,h=>by
  unfold Go.Proofs.YtdpgblncijojiaaGreatDoor.lB;refine gR.lB m (c+1) ?_;split
  .exact h
  .have D:gR (kt p c z.1 z.2).2:=by
    unfold kt;split
    .exact h.push rfl
    .exact h
   have E:gR (mg p c z.1 (kt p c z.1 z.2)).2:=by
    unfold mg;split
    .exact D.push rfl
    .exact D
   exact E.tc _
def gR.tP{p:Int}{r:Nat}:∀(n:Nat) {q:Sy×List cS},gR q.2->gR (tP p r n q).2
 |0,_,h=>h
 |i+1,q,h=>by
  unfold Go.Proofs.YtdpgblncijojiaaGreatDoor.tP;split
  .exact gR.tP i (h.push rfl)
  .exact h
def zei(p:Int)(s:Sy):gR (CY p s).2:=by unfold CY;exact gR.tP _ (gR.lB _ _ (gR.kX _ (fun x z=>by cases z)))
def zeA(h:s.Ok p):∃r,r<=s.n/\iO p r s.v.toNat (qA p s):=by obtain⟨N,E,z,_⟩:=Cz h;obtain⟨r,_,F,D,_⟩:=rD (Sys.f h) (Sys.p2 h) z;exact⟨r,RU,D⟩
def zeB{i:Int}(h:i∈iota n):0<=i/\i<n:=by obtain⟨k,z,rfl⟩:=cf.1 h;rw[et]at z;omega
def ye(p:Int)(s:Sy)(A:an)(cap:Nat)(w:aa)(bi:aX w A s.rows)(E:s.Ok p):aw 40 (iU (ae s.v s.h A s.rows cap) p) w (zba (qA p s) w):=by
 have ct:=Sys.v0 E;have c5:=Sys.v24 E;have cn:=Sys.h0 E;have cR:=Sys.h100 E;have R:=Sys.f E;obtain⟨a5,c7,c4,D,_,_⟩:=y_ R (Sys.p2 E) (Sy.shp E);have hrel:qA p s=qy p s.v.toNat (jq (n_ p s.rows s.n) (iota s.v.toNat)):=by unfold qA;rw[uZ D Tl]
 have U:iO p a5 s.v.toNat (jq (n_ p s.rows s.n) (iota s.v.toNat)):=by rw[uZ D Tl];exact Di D Tl
 have c0:s.n<=124:=Tl;have bv:((s.n:Nat):Int)=s.v+s.h:=Tl;have a4:((s.v.toNat:Nat):Int)=s.v:=RU;obtain⟨F,ab⟩:=aO (n_ p s.rows s.n);rw[<-ab]at D hrel U;obtain⟨cI,cF,cz,b8⟩:=fU hrel U D D.1;have b9:=zH (fun(z:aa) (ac:aX z A s.rows)=>(by
  have:=yg p s.rows A cap s.rows s.n z R ac (Sy.shp E) (by have:=Sys.n E;omega) RU;rw[bv,<-ab]at this;exact this:aw 81 #[p,.slice A s.rows cap,.int .i64 (s.v+s.h)] z (zba F z)))
 have be:=zH bi;have cj:=zH (fun(z:aa)=>(by
  have:=zeY s.v.toNat z RU;rw[a4]at this;exact this:aw 84 #[s.v] z fun e w'=>∃u,e=.returned u/\ar w' z u (iota s.v.toNat)/\ai z w'))
 have ca:=zH (wO F (iota s.v.toNat));have ch:=zH (fun(z:aa) (A1:an) (c1:Nat) (ac:aX z A1 (jq F (iota s.v.toNat)))=>(by
  have:=qM p (jq F (iota s.v.toNat)) A1 c1 a5 s.v.toNat z R ac U RU RU;rw[a4,<-hrel]at this;exact this:aw 82 #[p,.slice A1 a5 c1,s.v] z (zba (qA p s) z)))
 obtain⟨b6,b7⟩:=bS (show ∀r∈F,∀i∈iota s.v.toNat,0<=i/\i<r.length from fun r a3 i hi=>by have:=zeB hi;have:=D.row r a3;have:s.v.toNat<=s.n:=Tl;omega) (show ∀r∈F,r.length<=1048576 from fun r a3=>by have:=D.row r a3;omega);have co:=D.1;clear bv a4 ab hrel U D R bi E;have cr:F.length<=1048576:=RU;clear co;obtain⟨v,h,rows⟩:=s;dsimp only at *;have c6:IntKind.i64.wrap (v+h)=v+h:=SQ;have a9:=zH ((aj w w).alloc (ag _) (.cells (ae v h A rows cap) 26));go_enter func40,ntmps40
 go_upto_region 1 with(fail)
 have a2:(w.alloc (.cells (ae v h A rows cap) 26)).heap[w.heap.size]?=some (.cells (ae v h A rows cap) 26 (0,0)):=az _ _ rfl;obtain⟨Y,am⟩:=aO (w.alloc (.cells (ae v h A rows cap) 26));rw[<-am]at a2 ⊢;have Z:ai w Y:=by rw[am];exact a9
 clear am a9;obtain⟨Q,ci⟩:=bS Z (be.ext Z);obtain⟨a6,a7,a8⟩:=aq a2;clear a2 Z be;go_region_held3 (fun w'=>ah w' w 0 (zI v)/\ah w' w 1 (zI h)/\ah w' w 2 (.slice A rows cap))
  (first|exact ad|exact H|exact⟨a6,a7,a8⟩)
  ((first|(go_at_call 66;refine(oV v h _ _ ct RU cn RU).mono ?_;rintro e cu ⟨rfl,J⟩;have H:=bn (av J a6) (bn (av J a7) (av J a8));have bd:=zH ((aj Y Y).drew.trans J);clear J)|(go_at_call 81;refine(b9.o _ (ci.ext bd)).mono ?_;rintro e b1 ⟨A2,c2,rfl,bo,I⟩;have ad:=bn (av I H.1) (bn (av I H.2.1) (av I H.2.2));have cb:=zH bo;have O:=zH (cC bd I);clear bo I H)))
 have b2:=ad.1;clear ad a6 a7 a8;go_wp2_with fail
 go_region_held3 (fun w'=>ah w' w 0 (zI v))
  (first|exact t3|exact t2|exact t1|exact b2)
  ((first|(go_at_call 84;refine(cj.o _).mono ?_;rintro e cu ⟨u3,rfl,bz,ao⟩;have t1:=av ao b2;obtain⟨A3,c3,rfl,bm,_⟩:=bz.view;rw[fG]at ⊢;have b5:=zH bm;have ba:=zH ((aj b1 b1).drew.trans ao);clear bz bm ao)|(go_at_call 83;have a1:=zX F A2 c2 (iota v.toNat) A3 c3 _ (cb.at.ext ba) b5 cr b7 SI b6;rw[fG]at a1;refine a1.mono ?_;clear a1;rintro e c8 ⟨u4,rfl,b0,ap⟩;have t2:=av ap t1;obtain⟨cy,cO,rfl,bp,_⟩:=b0.view;rw[ca.o,b8.o]at ⊢;have cc:=zH bp;have bb:=zH (cC ba ap);clear b0 bp ap)|(go_at_call 82;refine(ch.o _ _ _ cc.o).mono ?_;rintro e c9 ⟨b3,ck,rfl,br,a0⟩;have t3:=av a0 t2;have ce:=zH br;have b4:=zH (cC bb a0);clear br a0)))
 all_goals go_wp2
 all_goals go_ret
 all_goals exact⟨b3,ck,rfl,ce.mono ((cC Q.o O).trans (bb.mono (cC Q.o O).size)).size,(cC Q.o O).trans (b4.mono (cC Q.o O).size)⟩
def wj{x:au}{p:dD}(h:p.block≠b)(z:w.cell? p=some x):(((w.setCell ⟨b,0,none⟩ v0).setCell ⟨b,1,none⟩ v1).setCell ⟨b,2,none⟩ v2).cell? p=some x:=(c_ h).trans ((c_ h).trans ((c_ h).trans z))
def eE.iA{rows:aE}(h:eE w B A rows)(z:b<B):eE (((w.setCell ⟨b,0,none⟩ v0).setCell ⟨b,1,none⟩ v1).setCell ⟨b,2,none⟩ v2) B A rows:=((h.setCell (a:=⟨b,0,none⟩) z _).setCell (a:=⟨b,1,none⟩) z _).setCell (a:=⟨b,2,none⟩) z _
def zi8(l r:Int)(z:aE)(w:aa)(e:Ending)(w':aa):Prop:=∃A c,e=.returned (.tuple (dN (ae l r A z c)))/\eE w' w A z/\ai w w'
def yh(p l:Int)(s:Sy)(A:an)(cap:Nat)(w:aa)(a6:dm w)(a7:aX w A s.rows)(D:s.Ok p)(bb:0<=l)(ba:l<=s.v):aw 12 #[p,.agg (ae s.v s.h A s.rows cap),l] w (zi8 l (s.v-l) (qA p s) w):=by
 have b1:=Sys.v0 D;have b2:=Sys.v24 D;have FH:=D.small;have a4:=zH (fun(z:aa) (Y:aX z A s.rows)=>ye p s A cap z Y D);have br:=zH (fun(z:aa) (b0:dm z) (Y:aX z A s.rows)=>(by
  have:=jV p s.v s.h A cap s.rows z b0 Y (fx TX) (fun r hr=>fx UJ);rw[jI.2 D]at this;exact this:aw 33 #[p,.agg (ae s.v s.h A s.rows cap)] z (fC z true)))
 have be:=zH (by unfold eX;simp[bb,ba]:eX l 0 s.v=true);have ch:IntKind.i64.wrap (s.v-l)=s.v-l:=SQ;obtain⟨F,a5⟩:=aO (qA p s);rw[<-a5]at a4 ⊢;obtain⟨a2,a1⟩:=bS a7 a6;clear a5 D a7 a6 bb ba FH b1 b2;obtain⟨v,h,rows⟩:=s;dsimp only at *;go_enter func12,ntmps12
 go_upto_region 1 with(fail)
 have H:Below w w ((w.alloc (.cells (ae v h A rows cap) 26)).alloc (.cells aQ 38)):=((aj _ _).alloc (ag _) _).alloc RS _;have O:((w.alloc (.cells (ae v h A rows cap) 26)).alloc (.cells aQ 38)).heap[w.heap.size]?=some (.cells (ae v h A rows cap) 26 (0,0)):=(b_ _ _ RS).trans (az _ _ rfl);have ac:((w.alloc (.cells (ae v h A rows cap) 26)).alloc (.cells aQ 38)).heap[(w:Nat)+1]?=some (.cells aQ 38 (0,0)):=az _ _ RS;have ad:(w:Nat)+2=((w.alloc (.cells (ae v h A rows cap) 26)).alloc (.cells aQ 38)):=RS;obtain⟨bz,a8⟩:=aO ((w.alloc (.cells (ae v h A rows cap) 26)).alloc (.cells aQ 38));rw[<-a8]at H O ac ad ⊢;clear a8;obtain⟨ao,bo,Fc,bm,a3,bi⟩:=mA H ac ad O (a2.ext H) (a1.ext H);obtain⟨ca,cb,cc⟩:=aq O;clear O ac H a2 a1 ad;go_upto_region 3 with(first
  |(go_at_call 33;(with_reducible refine(br.o bz bi.o a3.o).mono ?_);rintro e ci ⟨rfl,Z⟩;have J:=zH Z;obtain⟨Q,R,U⟩:=aq (cD Z bm);clear Z ca cb cc)
  |(go_at_call 39;(with_reducible refine(Calls.dQ (ez _ _ _ _) be.o).mono ?_);rintro e w' ⟨rfl,rfl⟩))
 go_region_held3 (fun w'=>ah w' w 0 (zI v)/\ah w' w 1 (zI h)/\ah w' w 2 (.slice A rows cap))
  (first|exact t1|exact⟨Q,R,U⟩|exact⟨wj RS t1.1,wj RS t1.2.1,wj RS t1.2.2⟩)
  ((go_at_call 40;refine(a4.o _ (a3.ext J.o.drew)).mono ?_;rintro e b9 ⟨A2,c2,rfl,bd,I⟩;have t1:=bn (av I Q) (bn (av I R) (av I U));have bp:=zH (bd.mono J.o.drew.size);have am:=zH (J.o.drew.trans (I.mono J.o.drew.size));have E:=cD am bo;obtain⟨b3,b4,b5⟩:=aq E;have b6:=aP E 0;have b7:=aP E 1;have b8:=aP E 2;have bv:=zH E;clear bd I E))
 have ab:=gQ (v0:=.int .i64 l) (v1:=.int .i64 (v-l)) (v2:=.slice A2 F c2) bv;obtain⟨a0,ap⟩:=bS (bp.iA (b:=(w:Nat)+1) (v0:=.int .i64 l) (v1:=.int .i64 (v-l)) (v2:=.slice A2 F c2) TR) (dJ (b:=(w:Nat)+1) (cC ao am) RU (zI l) (zI (v-l)) (.slice A2 F c2));obtain⟨ce,a9⟩:=aO (((b9.setCell ⟨(w:Nat)+1,0,none⟩ (zI l)).setCell ⟨(w:Nat)+1,1,none⟩ (zI (v-l))).setCell ⟨(w:Nat)+1,2,none⟩ (.slice A2 F c2));rw[<-a9]at ab a0 ap ⊢;clear a9 b3 b4 b5 b6 b7 b8 t1 Q R U;obtain⟨Q,R,U⟩:=aq ab;clear ab;go_wp2;refine ax (v:=.tuple (dN (ae l (v-l) A2 F c2))) (by simp[results,results12,go_sem, *]) rfl ⟨A2,c2,rfl,a0.mono ao.size,ap⟩
def BQ(p:Int)(s:Sy)(xs:List cS):List cS:=if gP p s xs=true then(j5 p s xs xs).map Prod.fst else[]
def zii{xs:List cS}(D:∀x∈xs,x.row.length<=1048576):(BQ p s xs).length<=1048576/\∀r∈BQ p s xs,r.row.length<=1048576:=by
 unfold BQ;split
 .rename_i h;obtain⟨z,H,I⟩:=nM.1 h;refine⟨by rw[bt];have:=vh p s xs xs;omega,fun r F=>?_⟩;obtain⟨q,E,rfl⟩:=cf.1 F;exact D _ (zK z xs RU q E).1
 .simp
def Af(p:Int)(s:Sy)(A:an)(cap:Nat)(xs:List cS)(U:an)(ao:Nat)(w:aa)(ab:dm w)(ac:aX w A s.rows)(be:s.rows.length<=1048576)(a2:∀r∈s.rows,r.length<=1048576)(H:eD w U xs)(bi:xs.length<=1048576)(a3:∀x∈xs,x.row.length<=1048576):aw 21 (jv p (ae s.v s.h A s.rows cap) U xs ao) w (iC (BQ p s xs) (gP p s xs) w):=by
 have J:=zH ((aj w w).alloc (ag _) (.cells (ae s.v s.h A s.rows cap) 26));have O:=zH (og p s A cap xs _ U ao (ab.ext J.o) (ac.ext J.o) be a2 bi);have a5:(w.alloc (.cells (ae s.v s.h A s.rows cap) 26)).heap[w.heap.size]?=some (.cells (ae s.v s.h A s.rows cap) 26 (0,0)):=az _ _ rfl;obtain⟨ap,a9,ba,bd,a8⟩:=lv a5 ab ac H a3;clear ab ac H a2 a3 a5;cases I:sC p s xs.length with
 |false=>
  have Fe:=zH I;rw[I]at O;clear I;have z:gP p s xs=false:=Us;have E:BQ p s xs=[]:=by unfold BQ;rw[z,al RX]
  rw[z,E];clear z E;go_enter func21,ntmps21
  go_wp2_with (go_at_call 47;refine O.mono ?_;rintro e a7 ⟨rfl,D⟩;have F:=zH (af J.o D);clear D)
  exact ax (v:=.tuple lN) Va rfl (iC.mk rfl (cB.nil _ _) F.o)
 |true=>
  have Fe:=zH I;rw[I]at O;clear I;obtain⟨a4,bm⟩:=mw.1 Fe;have a0:=zH (fun(W:aa) (ad:ai w W)=>tU p s A cap xs W U ao (a9.ext ad) (ba.ext ad) (bd.ext ad) a4 bm a8);clear a4;have a1:=fj p xs s;by_cases am:bO p s xs<xs.length
  .have Z:=zH (show ∀W e w',zeT p s xs W e w'->e=.returned (.tuple lN)/\ai W w' from fun W e w' h=>⟨h.1 am,h.2.2⟩);have z:gP p s xs=false:=U_;have E:BQ p s xs=[]:=by unfold BQ;rw[z,al RX]
   rw[z,E];clear am a1 z E;go_enter func21,ntmps21
   go_wp2_with (first|(go_at_call 47;refine O.mono ?_;rintro e a7 ⟨rfl,D⟩;have F:=zH (af J.o D);obtain⟨d0,d1,d2⟩:=aq (ak ap D);clear D)|(go_at_call 52;refine(a0.o _ F.o).mono ?_;rintro e bo R;obtain⟨rfl,Q⟩:=Z.o _ _ _ R;have Y:=zH (af F Q);clear Q R d0 d1 d2))
   exact ax (v:=.tuple lN) Va rfl (iC.mk rfl (cB.nil _ _) Y.o)
  .have z:gP p s xs=true:=Wf;obtain⟨X,H⟩:=aO ((j5 p s xs xs).map Prod.fst);have E:BQ p s xs=X:=by unfold BQ;rw[ay z,H]
   have Z:=zH (show ∀W e w',zeT p s xs W e w'->∃(A:an) (n c:Nat),e=.returned (.tuple (pO A n c))/\cB w' W.heap.size (.slice A n c) X/\ai W w' from fun W e w' h=>by obtain⟨A2,c2,z,E⟩:=h.2.1 RU;rw[H];exact⟨_,_,_,z,E,h.2.2⟩)
   rw[z,E];clear am a1 z E H;go_enter func21,ntmps21
   go_wp2_with (first|(go_at_call 47;refine O.mono ?_;rintro e a7 ⟨rfl,D⟩;have F:=zH (af J.o D);have bp:=zH D.size;obtain⟨d0,d1,d2⟩:=aq (ak ap D);clear D)|(go_at_call 52;refine(a0.o _ F.o).mono ?_;rintro e bo R;obtain⟨A2,n2,c2,rfl,a6,Q⟩:=Z.o _ _ _ R;have Y:=zH (af F Q);have bb:=zH (a6.mono (B':=w.heap.size) F.size);clear Q R d0 d1 d2 a6))
   exact ax (v:=.tuple (pO A2 n2 c2)) Va rfl (iC.mk rfl bb.o Y.o)
end Go.Proofs.YtdpgblncijojiaaGreatDoor
