/- Parts of the walks. Conditions: as stated with each. -/
import Derived.Test.YtpieilkmmiopfaaGreatDoorPk33
import Derived.Test.YtpieilkmmiopfaaGreatDoorPk35
namespace Go.Proofs.YtpieilkmmiopfaaGreatDoor
open Go.RowKit Tryz
set_option linter.all false
set_option maxHeartbeats 4000000
set_option maxRecDepth 100000
variable{A:ax}{w:aa}{xs:aL}
def ziC n w(ca:n<=4096):az 150 (fm n) w (xr ⟨n,[],List.range n,List.range n⟩ w):=by
 have a1:=((al w w).alloc (ae _) (.cells cw 54)).alloc Qt (.cells (Af n) 54);have G:=(bO (w.alloc (.cells cw 54)) (.cells (Af n) 54) (k:=w.heap.size) Qt).t (aH w _ rfl);have F:=aH (w.alloc (.cells cw 54)) (.cells (Af n) 54) (n:=(w:Nat)+1) Qt;go_enter func150,ntmps150
 go_upto_region 2 with(fail)
 generalize (w.alloc _).alloc _=W at a1 G F ⊢;obtain⟨H,av,a0,O⟩:=gG (show(w:Nat)+1<W from(bk.1 F).1) a1 G F;clear a1 G F;go_wp2;go_loopw [4] (fun i wr=>∃(k:Nat) (v2 v3:aG),k<=n/\i=.int .i64 k/\O4 W wr v2 v3 (.slice none 0 0) (.slice none 0 0) (bD (List.range k)) (bD (List.range k)) [] []/\bA wr ((w:Nat)+1) #[.int .i64 (n:Nat),.slice none 0 0,v2,v3] 54/\bA wr w cw 54/\ag w wr) (fun i _=>n-(intOf i).toNat)
 case atStart=>exact⟨0,_,_,aW _,rfl,O4.nil (ae _),O,a0,av⟩
 case round=>
  obtain⟨k,v2,v3,b8,rfl,h,F,G,U⟩:=hrel;have HL:=zH (by rw[aS,fK]:(bD (List.range k)).length=k);by_cases b9:k<n
  .have⟨a2,a3,p2,a4⟩:=aB F;have⟨br,ac,b5,b3,bo⟩:=pD h (h.ext (aw wr (.cells (fm k) 3))) (ai F (aw wr (.cells (fm k) 3))) (ai G (aw wr (.cells (fm k) 3))) (U.t ((aw wr (.cells (fm k) 3)).x U.size));clear h F G U av a0 O;go_upto_region 6 with((at_builtin;refine de qy rfl (.tmp 13) (.tmp 15) rfl W (wr.alloc (.cells (fm k) 3)) v2 (bD (List.range k)) (k:Int) [.int .i64 (k:Nat)] wr ac.o.o1 rfl SU (kn.d ac.o1 ac.le fun _=>rfl) RK ac.o.le rfl rfl (aH wr _ rfl) ?_;intro ao an a6 J Y T D;rw[HL.o]at J ⊢;have I:=(D.block ((w:Nat)+1) H).t b5;have b0:=zH ((D.block w (pU H)).t b3);have⟨bb,bc,bd,be⟩:=aB I;have⟨f0,f1,f2,f3⟩:=cN I;have b6:=zH I;have bu:=zH (O4.X br Y T D J);have bh:=zH (bo.t (D.x (ix (pU H))));clear J Y T D I))
   have y:=bE a6 ((w:Nat)+1) 2 _ _ (.slice (bH ao) (k+1) an) b6;simp only[zA]at y;have ap:=(bu.set (a:=⟨(w:Nat)+1,2,none⟩) H (.slice (bH ao) (k+1) an)).sw;have a5:=(a_ a6 ⟨(w:Nat)+1,2,none⟩ (.slice (bH ao) (k+1) an) w (by show w.heap.size≠(w:Nat)+1;omega)).t b0;have ah:=bh.setCell (p:=⟨(w:Nat)+1,2,none⟩) (by show(w:Nat)<=w+1;omega) (.slice (bH ao) (k+1) an);generalize a6.setCell ⟨(w:Nat)+1,2,none⟩ _=V at y ap a5 ah ⊢;clear a2 a3 p2 a4 bb bc bd be f0 f1 f2 f3;have⟨a2,a3,p2,a4⟩:=aB y;obtain⟨bv,ad,b4,b1,bi,O⟩:=ny ap (ap.ext (aw V (.cells (fm k) 3))) (ai y (aw V (.cells (fm k) 3))) (ai a5 (aw V (.cells (fm k) 3))) (ah.t ((aw V (.cells (fm k) 3)).x ah.size)) (by rw[nk];simp[bD]:bD (List.range k)++[(k:Int)]=bD (List.range (k+1)));clear y ap a5 ah;go_wp2_with ((at_builtin;refine de qy rfl (.tmp 19) (.tmp 21) rfl W (V.alloc (.cells (fm k) 3)) v3 (bD (List.range k)) (k:Int) [.int .i64 (k:Nat)] V ad.o.o1 rfl SU (kn.d ad.o1 ad.le fun _=>rfl) RK ad.o.le rfl rfl (aH V _ rfl) ?_;intro a9 a8 bg J Y T D;rw[HL.o]at J ⊢;have I:=(D.block ((w:Nat)+1) H).t b4;have b2:=zH ((D.block w (pU H)).t b1);have⟨bb,bc,bd,be⟩:=aB I;have⟨f0,f1,f2,f3⟩:=cN I;have b7:=zH I;have bz:=zH (O4.X bv Y T D J);have bn:=zH (bi.t (D.x (ix (pU H))));clear J Y T D I))
   go_roundw
   case rel=>
    have y:=bE bg ((w:Nat)+1) 3 _ _ (.slice (bH a9) (k+1) a8) b7;simp only[zA]at y;have ba:=(bz.set (a:=⟨(w:Nat)+1,3,none⟩) H (.slice (bH a9) (k+1) a8)).sw;rw[O.o]at ba;exact⟨k+1,_,_,Qu,Qx,ba,y,(a_ bg ⟨(w:Nat)+1,3,none⟩ _ w.heap.size (by show w.heap.size≠(w:Nat)+1;omega)).t b2,bn.setCell (p:=⟨(w:Nat)+1,3,none⟩) (by show(w:Nat)<=w+1;omega) _⟩
   case measure=>simp[intOf];omega
  .obtain rfl:k=n:=Qu;obtain⟨Z,c2,rfl,-,-,-⟩:=h.o1.p;obtain⟨ab,am,rfl,-,-,-⟩:=h.o2.p;rw[HL.o]at h F;have⟨a2,a3,p2,a4⟩:=aB F;have⟨cb,cc,ce,ch⟩:=aB G;have⟨f0,f1,f2,f3⟩:=cN G;have y:=cP (v0:=.int .i64 (k:Nat)) (v1:=dE) (v2:=.slice Z k c2) (v3:=.slice ab k am) G;refine O2 fun y0 y1 y2 y3=>?_
   obtain⟨bp,bq,a7⟩:=er (bY U (b:=w.heap.size) (ae _) (zI (k:Nat)) (.slice none 0 0) (.slice Z k c2) (.slice ab k am)) (Fv (g:=⟨k,[],List.range k,List.range k⟩) (A1:=none) (Fr.all fun _=>ay rfl) (By h.o1 h.le) (By h.o2 h.le)) (show(w:Nat)<W from pU H);clear h F G U y HL av a0 O;go_wp2;refine aI (v:=.agg #[(k:Nat),dE,.slice Z k c2,.slice ab k am]) (by simp[results,results150,go_sem, *]) rfl ⟨none,0,Z,c2,ab,am,?_,?_,bp⟩
   .rw[show(List.range k).length=k from fK ..];rfl
   .exact(bq.dQ (b:=w.heap.size) a7).to (ix a7) (gp eK.q)
def zjG(h:aO w A xs)(h0:0<xs.length):∀a,A=some a->a.block < (w:Nat):=fun a e=>XP
def zL:∀(xs:aL),rC xs=ew xs
 |[]=>rfl
 |x::xs=>by
  have:=zL xs;unfold rC at this ⊢;unfold ew;rw[List.takeWhile_cons];by_cases h:x=0
  .simp[h,this]
  .simp[h]
def FH(p b:Int)B n ε G A1 D xs ys w(Y:1<=p)(Z:p<=1000)(J:-1000000<=b)(O:b<=1000000)(h:aE w B (.slice A1 n ε) xs)(I:aO w D ys)(Hu:∀a,D=some a->0<n->a.block<B)(F:xs.length=n)(H:ys.length=n)(ao:n<=1048576)(ab:∀x∈xs,0<=x/\x<=1000)(ac:∀y∈ys,0<=y/\y<=1000)(ah:B<=(w:Nat))(h0:0<n):az 176 #[p,.slice A1 n ε,b,.slice D n G] w fun e w'=>e=.returned (.tuple #[])/\aE w' B (.slice A1 n ε) (dw p b xs ys)/\w.grownBy w' (Value.slice A1 n ε).ownBlock:=by unfold aE at h;rw[F]at h;obtain⟨g,rfl⟩:∃g,A1=some ⟨g,0,none⟩:=Xk;have an:=(bS h g rfl).1;have:=pL p b B g ε G D xs ys w Y Z J O (by rw[F];exact h) I (fun ad o e am=>UJ) Qu Qu ab ac;rw[F,H]at this;refine iB this ?_;rintro e w' ⟨rfl,U,T⟩;refine⟨rfl,?_,T⟩;unfold aE;rw[mD,F,H,rX];exact U
def zfk p n M v bh A c4 ε w(d0:2<=p)(d1:p<=97)(b5:bt w bh M)(H:aO w A v)(dr:M.length<=1048576)(c9:n<=1048576)(bg:v.length=n)(ck:∀r∈M,r.length=n/\(∀x∈r,0<=x/\x<p)/\ew r<n)(co:∀k,k<=M.length->(xC p M v k).length=n/\∀x∈xC p M v k,0<=x/\x<p):az 132 (wY p bh M c4 A n ε) w fun e w'=>∃u,e=.returned (.tuple #[u,.bool (BN p M v)])/\ag w w':=by
 have⟨cF,cK,b0,bz,bi⟩:=pD b5 ck co bg (fun V (c6:ag w V)=>(by rw[<-bg];exact qg A ε v V (H.ext c6) Qu:az 71 (bZ A n ε) V fun e w'=>∃u,e=.returned u/\aE w' V u v/\ag V w'));clear b5 H ck co bg;go_enter func132,ntmps132
 go_upto_region 2 with(go_at_call 71;refine(bi.o _ (al _ _)).x ?_;rintro e h ⟨u,rfl,a2,b7⟩;obtain⟨I,D,rfl,-⟩:=a2.p;rw[bz.o]at a2 ⊢;have a8:=zH a2;have ac:=zH b7;clear a2 b7)
 go_upto_region 3 with(fail)
 have⟨a7,a9,a5,cO,bu⟩:=pD (show aE (h.alloc (.cells #[] 3)) h (.slice (bH h) 0 0) [] from aE.lit _ _ (ae _)) (a8.ext ((al h h).alloc (ae _) (.cells #[] 3))) (ac.alloc ac.size (.cells #[] 3)) ac.size (Qt:(h:Nat)<=(h.alloc (.cells #[] 3)));have ce:=a8.lt;have cu:=zH (show ∀k,(Value.slice I n D).ownBlock=some k->k < (h:Nat) from fun k bd=>(ce k bd).2);generalize h.alloc _=d3 at a7 a9 a5 bu ⊢;clear a8 ac bi ce;go_wp2;go_loopw [9,18] (fun u i wr=>∃(k:Nat) (ys:aL),k<=M.length/\i=.int .i64 k/\aE wr w (.slice I n D) (xC p M v k)/\aE wr h u ys/\ys.length=k/\ag w wr/\(h:Nat)<=wr) (fun _ i _=>M.length-(intOf i).toNat)
 case atStart=>exact⟨0,[],aW _,rfl,a9,a7,rfl,a5,bu⟩
 case round=>
  obtain⟨k,ys,bd,rfl,F,av,cp,Y,be⟩:=hrel;clear a9 a7 a5;by_cases cc:k<M.length
  .have⟨r,a0⟩:=aq cc;obtain⟨dc,o,rfl,b9⟩:=cF.θ cc;obtain⟨ab,ba,ca,ao⟩:=b9 k r a0;have c8:=ar Y ca;obtain⟨a1,cj,db⟩:=cK r (aU a0);obtain⟨c1,c2⟩:=b0 k bd;have⟨T,bb⟩:=aR (xC p M v k);rw[<-bb]at F c1 c2;have⟨a4,ap⟩:=aR (ew r);rw[<-ap]at db;have⟨x,a3⟩:=aq (Qu:a4<T.length);obtain⟨d6,d7⟩:=c2 x (aU a3);have cW:=zH (show xC p M v (k+1)=dw p (-x) T r by
    show dw p (-((xC p M v k).getD (ew (M.getD k [])) 0)) (xC p M v k) (M.getD k [])=_
    rw[getD_some a0,<-bb,<-ap,bf,a3];rfl)
   rw[a1]at c8;have cz:=zH (fun V (H:ag w V)=>(by
    have:=zdX ab ba r V (ao.ext H) SL;rw[zL,<-ap,a1]at this;exact this:az 185 (bZ ab n ba) V fun e w'=>e=.returned (zI a4)/\V=w'))
   have b3:0<n:=Qu;obtain⟨g,rfl⟩:∃g,I=some ⟨g,0,none⟩:=by
    have J:=F;unfold aE at J;rw[c1]at J;rcases J.2 with⟨_,dq⟩|⟨g,c,dl,e,_⟩
    .omega
    .cases e;exact⟨g,rfl⟩
   have cn:wr.ownsRow w 3 1 (.slice (bH g) n D) n (T.map (Value.int .i64)):=by have J:=F;unfold aE at J;rwa[c1]at J
   have dO:af wr g a4 (zI x):=by rw[cn.C a4 Qu,bI,a3];rfl
   have cb:=cu g rfl;have b6:∀a,ab=some a->0<n->a.block < (w:Nat):=fun a e b3=>zjG ao Qu a e
   have dT:IntKind.i64.wrap (-x)=-x:=Rt;have⟨cq,br,cB,ad,bv,b1,c0,bn⟩:=zH8 (fun V (H:ag w V) (c5:aE V w (.slice (bH g) n D) T)=>FH p (-x) w n D ba (some ⟨g,0,none⟩) ab T r V Qu Qu Qu Qu c5 (ao.ext H) b6 c1 a1 c9 (fun z G=>by have:=c2 z G;omega) (fun z G=>by have:=cj z G;omega) H.size b3) F av Y be cp (av.lt) cb;clear F av Y be ao ca b9 c1 c2 bb ap a3 a0 cj cn b6 cb a1 cp;go_wp2_with (first|(go_at_call 185;refine(cz.o _ ad.o).x ?_;rintro e w' ⟨rfl,rfl⟩)|(at_builtin;refine qm rfl _ _ rfl _ wr _ _ _ rfl rfl cB.o (by rw[b1.o];omega) bv.o ?_;intro d2 d4 ci bc b8;have bp:=zH ci;have bq:=zH (aE.kept br bc (au (fun e=>by have:=c0 g e.q;have:=bn.o;omega)));have a6:=zH ((ad.x (ae _)).t (b8.x cO));have cR:=zH (aZ bv bc.size);clear ci bc b8)|(go_at_call 176;refine(cq.o _ a6 bq).x ?_;rintro e d5 ⟨rfl,ch,an⟩;have cI:=zH ch;have cA:=zH (aE.kept bp an (au (fun e=>by have:=(bp.lt g e).1;have:=bn.o;omega)));have cr:=zH (a6.grown an a6.size fun b c7=>(bq.lt b c7).1);have cV:=zH (aZ cR an.size);clear ch an))
   go_roundw
   case rel=>exact⟨k+1,ys++[x],Qu,Qx,by rw[cW.o];exact cI,cA,by simp[b1.o],cr,cV⟩
   case measure=>simp[intOf];omega
  .obtain rfl:k=M.length:=Qu;have⟨br,ad,bo⟩:=er F Y (show ∃O ah,(Value.slice I n D)=.slice O (xC p M v M.length) ah/\aO wr O (xC p M v M.length) from by obtain⟨O,ah,e,U,-⟩:=F.p;exact⟨O,ah,e,U⟩);obtain⟨O,ah,b2,b4⟩:=bo.o;have Z:=(b0.o _ (ae _)).1;rw[Z]at b2;cases b2
   have ct:=zH (by have:=EZ I D (xC p M v M.length) wr b4 (by rw[Z];unfold maxLen;omega);rw[Z]at this;exact this:az 186 (bZ I n D) wr fun e w'=>e=.returned (.bool (uX (xC p M v M.length)))/\wr=w');have c3:=zH (show uX (xC p M v M.length)=BN p M v by
    unfold BN uX;rw[jQ,cf,bz.o,<-Z,vW,eD];constructor
    .intro U d am;have⟨z,G⟩:=aq am;rw[bf,G];exact oM (U z (aU G))
    .intro U z G;obtain⟨d,am⟩:=eH.1 G;have:=U d (bG.1 am).1;rw[bf,am]at this;exact fT this)
   clear F av Y be b4 Z bo;go_wp2_with (go_at_call 186;refine ct.x ?_;rintro e w' ⟨rfl,rfl⟩)
   refine aI (v:=.tuple #[_,.bool (uX (xC p M v M.length))]) (by simp[results,results132,go_sem, *];rfl) rfl ⟨_,by rw[c3.o],ad⟩
def zcC D F G H A1 I J O c1 c2 ab ac U n2 Y Z n V(a3:aO V A1 D)(a4:aO V I F)(a5:aO V J G)(a6:aO V O H)(ap:U=D.length)(av:n2=F.length)(a0:Y=G.length)(a1:Z=H.length)(a2:n=(D++(F++(G++H))).length)(bd:U+n2+Y+Z<=1048576):az 65 #[.slice (bH V) 4 4] (V.alloc (.cells #[.slice A1 U c1,.slice I n2 c2,.slice J Y ab,.slice O Z ac] 26)) fun e w'=>∃ad ah,e=.returned (.slice ad n ah)/\n<=ah/\Fr w' V w' (fun W=>aO W ad (D++(F++(G++H))))/\ag V w':=by
 have T:=aw V (.cells #[.slice A1 U c1,.slice I n2 c2,.slice J Y ab,.slice O Z ac] 26);have⟨a9,ba,bb,bc⟩:=aB (aH V (.cells #[.slice A1 U c1,.slice I n2 c2,.slice J Y ab,.slice O Z ac] 26) rfl);have a7:bt (V.alloc (.cells #[.slice A1 U c1,.slice I n2 c2,.slice J Y ab,.slice O Z ac] 26)) (some ⟨V,0,none⟩) [D,F,G,H]:=au ⟨V,0,rfl,fun k r h=>by
  match k,h with
  |0,h=>simp at h;subst h;exact⟨A1,c1,by rw[<-ap];exact a9,a3.ext T⟩
  |1,h=>simp at h;subst h;exact⟨I,c2,by rw[<-av];exact ba,a4.ext T⟩
  |2,h=>simp at h;subst h;exact⟨J,ab,by rw[<-a0];exact bb,a5.ext T⟩
  |3,h=>simp at h;subst h;exact⟨O,ac,by rw[<-a1];exact bc,a6.ext T⟩
  |k+4,h=>simp at h⟩
 have:=ya [D,F,G,H] (some ⟨V,0,none⟩) 4 _ a7 Qt (fun k _=>by
  match k with
  |0=>simp
  |1=>simp;omega
  |2=>simp;omega
  |3=>simp;omega
  |k+4=>simp;omega)
 refine iB this ?_;rintro e w' ⟨u,rfl,am,an⟩;have a8:[D,F,G,H].flatten=D++(F++(G++H)):=Qt;rw[a8]at am;obtain⟨ad,ah,rfl,-,ao,-⟩:=am.p;rw[<-a2]at ao ⊢;exact⟨ad,ah,rfl,ao,(am.fr an.size).to T.size (ae _),aT T an⟩
def zbk(n:Nat)w(h:n<=1099511627776):az 98 (bK n) w fun e w'=>∃u,e=.returned u/\aE w' w u (jG n)/\ag w w':=kO n w h
def zcD xs l r k c0 d G J l2 r2 ca c2 A bb D V(a4:bA V G (gH l r A k c0) 67)(a5:bA V J (gH l2 r2 bb ca c2) 67)(hI:aO V D xs)(hx:xs.length=l+r)(h0:0<xs.length)(hc:xs.length<=d)(b6:l+r<=65536)(b7:l2+r2<=65536):az 180 #[.slice D xs d,.pointer (bH G),.pointer (bH J)] V fun e w'=>∃I T,e=.returned (.slice I (xs.take l++(jG l2++(xs.drop l++jG r2))) T)/\(xs.take l++(jG l2++(xs.drop l++jG r2))).length<=T/\Fr w' V w' (fun W=>aO W I (xs.take l++(jG l2++(xs.drop l++jG r2))))/\ag V w':=by
 refine No fun HS HF P7 IL n hn=>?_
 have⟨m,Z⟩:=aR ((xs.take l++(jG l2++(xs.drop l++jG r2))).length);have⟨b2,b3,b4,ab,ac,b5⟩:=ny Z (Rv:l=(xs.take l).length) (Ro:r=(xs.drop l).length) (QN:l2=(jG l2).length) (QN:r2=(jG r2).length) (Qu:l+l2+r+r2<=1048576);rw[<-hn]at HS HF ⊢;rw[<-Z];have⟨a6,a7,a8⟩:=aD a4;obtain⟨a9,ba,-⟩:=aD a5;have h:=aQ a6 (aQ a7 (aQ a8 (aQ a9 ba)));clear a4 a5 hI hx h0 hc b6 b7 hn Z a6 a7 a8 a9 ba;go_enter func180,ntmps180
 go_upto_region 1 with(fail)
 go_region_held3 (fun W=>af W G 0 (zI (l:Nat))/\af W G 1 (zI (r:Nat))/\af W G 2 (.slice A k c0)/\af W J 0 (zI (l2:Nat))/\af W J 1 (zI (r2:Nat)))
  (first|with_reducible exact h|with_reducible exact kU (aC _) h|with_reducible exact kU ad.o h|with_reducible exact kU U.o h|with_reducible exact kU ah.o h|with_reducible exact kU F.o h|with_reducible exact kU (F.o.alloc F.o.size _) h|with_reducible exact kU am.o h)
  ((first|(go_at_call 175;with_reducible refine(HF.o _ (aC V)).x ?_;rintro e ce ⟨bc,d1,rfl,-,av,an⟩;have ad:=zH ((aC V).t (an.x (aC V).size));have bi:=zH av;clear av an)|(go_at_call 98;with_reducible refine(P7.o _).x ?_;rintro e ch ⟨u2,rfl,b8,Y⟩;obtain⟨bd,d2,rfl,a0,-⟩:=b8.p;rw[<-ab.o];have U:=zH (aT ad.o Y);have bu:=zH a0;have bn:=zH (bi.o.ext Y);clear a0 Y)|(go_at_call 174;with_reducible refine(HS.o _ U.o).x ?_;rintro e ci ⟨be,d3,rfl,-,a1,O⟩;have ah:=zH (aT U.o O);have bq:=zH a1;have bo:=zH (bn.o.ext O);have bv:=zH (bu.o.ext O);clear a1 O)|(go_at_call 98;with_reducible refine(IL.o _).x ?_;rintro e cb ⟨u4,rfl,b9,H⟩;obtain⟨bg,d4,rfl,a2,-⟩:=b9.p;rw[<-ac.o];have F:=zH (aT ah.o H);have b0:=zH a2;have bp:=zH (bo.o.ext H);have bz:=zH (bv.o.ext H);have br:=zH (bq.o.ext H);clear a2 H)|(go_at_call 65;with_reducible refine(zcC (xs.take l) (jG l2) (xs.drop l) (jG r2) bc bd be bg d1 d2 d3 d4 l l2 r r2 m cb bp.o bz.o br.o b0.o b3.o ab.o b4.o ac.o b2.o b5.o).x ?_;rintro e cc ⟨I,T,rfl,a3,ap,ao⟩;have b1:=zH a3;have am:=zH (aT F.o ao);have bh:=zH (ap.to (lo':=V.heap.size) F.o.size (ae _));clear a3 ap ao)))
 go_wp2;go_ret
 exact⟨I,T,rfl,b1,bh,am⟩
def zcE xs l r k c0 d G J l2 r2 ca c2 A bb D V(a4:bA V G (gH l r A k c0) 67)(a5:bA V J (gH l2 r2 bb ca c2) 67)(hI:aO V D xs)(hx:xs.length=l+r)(h0:0<xs.length)(hc:xs.length<=d)(b6:l+r<=65536)(b7:l2+r2<=65536):az 181 #[.slice D xs d,.pointer (bH J),.pointer (bH G)] V fun e w'=>∃I T,e=.returned (.slice I (jG l2++(xs.take l++(jG r2++xs.drop l))) T)/\(jG l2++(xs.take l++(jG r2++xs.drop l))).length<=T/\Fr w' V w' (fun W=>aO W I (jG l2++(xs.take l++(jG r2++xs.drop l))))/\ag V w':=by
 refine No fun HS HF P7 IL n hn=>?_
 have⟨m,ab⟩:=aR ((jG l2++(xs.take l++(jG r2++xs.drop l))).length);have⟨b2,b3,b4,ac,ad,b5⟩:=ny ab (Rv:l=(xs.take l).length) (Ro:r=(xs.drop l).length) (QN:l2=(jG l2).length) (QN:r2=(jG r2).length) (Qu:l2+l+r2+r<=1048576);rw[<-hn]at HS HF ⊢;rw[<-ab];have⟨a6,a7,a8⟩:=aD a4;obtain⟨a9,ba,-⟩:=aD a5;have h:=aQ a6 (aQ a7 (aQ a8 (aQ a9 ba)));clear a4 a5 hI hx h0 hc b6 b7 hn ab a6 a7 a8 a9 ba;go_enter func181,ntmps181
 go_upto_region 1 with(fail)
 go_region_held3 (fun W=>af W G 0 (zI (l:Nat))/\af W G 1 (zI (r:Nat))/\af W G 2 (.slice A k c0)/\af W J 0 (zI (l2:Nat))/\af W J 1 (zI (r2:Nat)))
  (first|with_reducible exact h|with_reducible exact kU (aC _) h|with_reducible exact kU U.o h|with_reducible exact kU ah.o h|with_reducible exact kU Y.o h|with_reducible exact kU F.o h|with_reducible exact kU (F.o.alloc F.o.size _) h|with_reducible exact kU am.o h)
  ((first|(go_at_call 98;with_reducible refine(P7.o _).x ?_;rintro e ce ⟨u1,rfl,b8,an⟩;obtain⟨bc,d1,rfl,av,-⟩:=b8.p;rw[<-ac.o];have U:=zH ((aC V).t (an.x (aC V).size));have bq:=zH av;clear av an)|(go_at_call 175;with_reducible refine(HF.o _ U.o).x ?_;rintro e ch ⟨bd,d2,rfl,-,a0,Z⟩;have ah:=zH (aT U.o Z);have bi:=zH a0;have br:=zH (bq.o.ext Z);clear a0 Z)|(go_at_call 98;with_reducible refine(IL.o _).x ?_;rintro e ci ⟨u3,rfl,b9,O⟩;obtain⟨be,d3,rfl,a1,-⟩:=b9.p;rw[<-ad.o];have Y:=zH (aT ah.o O);have bz:=zH a1;have bu:=zH (br.o.ext O);have bn:=zH (bi.o.ext O);clear a1 O)|(go_at_call 174;with_reducible refine(HS.o _ Y.o).x ?_;rintro e cb ⟨bg,d4,rfl,-,a2,H⟩;have F:=zH (aT Y.o H);have bp:=zH a2;have bv:=zH (bu.o.ext H);have bo:=zH (bn.o.ext H);have b0:=zH (bz.o.ext H);clear a2 H)|(go_at_call 65;with_reducible refine(zcC (jG l2) (xs.take l) (jG r2) (xs.drop l) bc bd be bg d1 d2 d3 d4 l2 l r2 r m cb bv.o bo.o b0.o bp.o ac.o b3.o ad.o b4.o b2.o b5.o).x ?_;rintro e cc ⟨I,T,rfl,a3,ap,ao⟩;have b1:=zH a3;have am:=zH (aT F.o ao);have bh:=zH (ap.to (lo':=V.heap.size) F.o.size (ae _));clear a3 ap ao)))
 go_wp2;go_ret
 exact⟨I,T,rfl,b1,bh,am⟩
def zk1(rows:aP)(N:Nat)(w:aa)(e:Ending)(w':aa):Prop:=∃h D,e=.returned (.slice h N D)/\bw 26 1 Bf w' w (.slice h N D) rows/\ag w w'
def zgK f M N c0 A v0 v1 a3 p2 w(hM:M.length=N)(bh:N<=1048576)(hR:cS w A M)(H:∀(xs:aL) (G:ax) (d:Nat) (V:aa),xs∈M->ag w V->aO V G xs->xs.length<=d->az 180 #[.slice G xs d,a3,p2] V fun e U=>∃h D,e=.returned (.slice h (f xs) D)/\(f xs).length<=D/\Fr U V U (fun W=>aO W h (f xs))/\ag V U):az 173 #[.agg #[v0,v1,.slice A N c0],.func (.func 180) #[] #[a3,p2]] w (zk1 (M.map f) N w):=by
 refine Od fun HH HM HR hB hq=>?_;clear hM hR H
 go_enter func173,ntmps173
 go_upto_region 1 with(fail)
 generalize w.alloc _=W at hB hq ⊢;have ad:=zH (bw.lit 26 1 Bf W w hB.size);have I:=aw W (.cells #[] 26);have ac:=zH (aT hB I);have a4:=aF (ai hq I) 2 rfl;clear hB hq;go_upto_region 2 with(fail)
 generalize W.alloc _=bd at ad ac a4 I ⊢;clear I;go_wp2;go_loopw [5,12] (fun u i wr=>∃k:Nat,k<=N/\i=.int .i64 k/\bw 26 1 Bf wr w u ((M.take k).map f)/\ag w wr) (fun _ i _=>N-(intOf i).toNat)
 case atStart=>exact⟨0,aW _,rfl,ad,ac⟩
 case round=>
  obtain⟨k,bi,rfl,FT,FW⟩:=hrel;clear a4;by_cases FX:k<N
  .have⟨xs,hx⟩:=aq (SF:k<M.length);have bc:=HR wr FW;rcases bc with Ht|⟨b,o,rfl,ap⟩
   .exact Wc
   obtain⟨G,d,ba,ao,am⟩:=ap k xs hx;have⟨J,Gl,Gu⟩:=er (HH xs G d wr (aU hx) FW am ao) (SE:(M.take (k+1)).map f=(M.take k).map f++[f xs]) (Tv:((M.take k).map f).length=k);obtain⟨u0,cu,rfl,-⟩:=FT.p;rw[Gu.o];have⟨O,Gc⟩:=bJ FT FW;have⟨n,a2⟩:=aR xs.length;rw[<-a2]at ba J;have⟨Y,a0⟩:=aR (f xs);rw[<-a0]at J Gl;clear FT FW ap hx am ao a2 a0;have a8:=zH (show ∀g,(Value.slice u0 k cu).ownBlock=some g->g < (wr:Nat) from fun g e=>by obtain⟨cs,ah⟩:=O.o;rw[Gu.o]at ah;exact(bS ah.η g e).2)
   rw[Gu.o]at O;go_upto_region 6 with(first|(go_at_call 180;refine J.o.x ?_;rintro e F ⟨h,D,rfl,a1,av,Z⟩;have T:=zH Z;have a5:=zH av;have a6:=zH a1;have a7:=zH (O.ext Z);clear av Z a1)|(at_builtin;refine de yU rfl (.tmp 16) (.tmp 20) rfl w (F.alloc (.cells (aV h Y D) 26)) (.slice u0 k cu) ((M.take k).map f) Y [.slice h Y D] F (a7.ext (aw _ _)) rfl SU ⟨wr,F,Gc.size,(aw _ _).size,fun g e=>ay (a8 g e),(a5.ext (aw _ _) (ae _)).E fun V hV=>⟨h,D,rfl,a6,hV⟩⟩ R5 (aZ Gc.size (aZ T.o.size (aw _ _).size)) rfl rfl (aH F _ rfl) ?_;intro bg be bn ab bb a9 an;rw[Gu.o]at ab ⊢;have Gv:=zH ab;have G0:=zH (((aT Gc T.o).t ((aw F _).x (aZ Gc.size T.o.size))).t an);clear ab bb a9 an))
   exact Yz
  .exact Zh
def zgL f M N c0 A v0 v1 a3 p2 w(hM:M.length=N)(bh:N<=1048576)(hR:cS w A M)(H:∀(xs:aL) (G:ax) (d:Nat) (V:aa),xs∈M->ag w V->aO V G xs->xs.length<=d->az 181 #[.slice G xs d,a3,p2] V fun e U=>∃h D,e=.returned (.slice h (f xs) D)/\(f xs).length<=D/\Fr U V U (fun W=>aO W h (f xs))/\ag V U):az 173 #[.agg #[v0,v1,.slice A N c0],.func (.func 181) #[] #[a3,p2]] w (zk1 (M.map f) N w):=by
 refine Od fun HH HM HR hB hq=>?_;clear hM hR H
 go_enter func173,ntmps173
 go_upto_region 1 with(fail)
 generalize w.alloc _=W at hB hq ⊢;have ad:=zH (bw.lit 26 1 Bf W w hB.size);have I:=aw W (.cells #[] 26);have ac:=zH (aT hB I);have a4:=aF (ai hq I) 2 rfl;clear hB hq;go_upto_region 2 with(fail)
 generalize W.alloc _=bd at ad ac a4 I ⊢;clear I;go_wp2;go_loopw [5,12] (fun u i wr=>∃k:Nat,k<=N/\i=.int .i64 k/\bw 26 1 Bf wr w u ((M.take k).map f)/\ag w wr) (fun _ i _=>N-(intOf i).toNat)
 case atStart=>exact⟨0,aW _,rfl,ad,ac⟩
 case round=>
  obtain⟨k,bi,rfl,FT,FW⟩:=hrel;clear a4;by_cases FX:k<N
  .have⟨xs,hx⟩:=aq (SF:k<M.length);have bc:=HR wr FW;rcases bc with Ht|⟨b,o,rfl,ap⟩
   .exact Wc
   obtain⟨G,d,ba,ao,am⟩:=ap k xs hx;have⟨J,Gl,Gu⟩:=er (HH xs G d wr (aU hx) FW am ao) (SE:(M.take (k+1)).map f=(M.take k).map f++[f xs]) (Tv:((M.take k).map f).length=k);obtain⟨u0,cu,rfl,-⟩:=FT.p;rw[Gu.o];have⟨O,Gc⟩:=bJ FT FW;have⟨n,a2⟩:=aR xs.length;rw[<-a2]at ba J;have⟨Y,a0⟩:=aR (f xs);rw[<-a0]at J Gl;clear FT FW ap hx am ao a2 a0;have a8:=zH (show ∀g,(Value.slice u0 k cu).ownBlock=some g->g < (wr:Nat) from fun g e=>by obtain⟨cs,ah⟩:=O.o;rw[Gu.o]at ah;exact(bS ah.η g e).2)
   rw[Gu.o]at O;go_upto_region 6 with(first|(go_at_call 181;refine J.o.x ?_;rintro e F ⟨h,D,rfl,a1,av,Z⟩;have T:=zH Z;have a5:=zH av;have a6:=zH a1;have a7:=zH (O.ext Z);clear av Z a1)|(at_builtin;refine de yU rfl (.tmp 16) (.tmp 20) rfl w (F.alloc (.cells (aV h Y D) 26)) (.slice u0 k cu) ((M.take k).map f) Y [.slice h Y D] F (a7.ext (aw _ _)) rfl SU ⟨wr,F,Gc.size,(aw _ _).size,fun g e=>ay (a8 g e),(a5.ext (aw _ _) (ae _)).E fun V hV=>⟨h,D,rfl,a6,hV⟩⟩ R5 (aZ Gc.size (aZ T.o.size (aw _ _).size)) rfl rfl (aH F _ rfl) ?_;intro bg be bn ab bb a9 an;rw[Gu.o]at ab ⊢;have Gv:=zH ab;have G0:=zH (((aT Gc T.o).t ((aw F _).x (aZ Gc.size T.o.size))).t an);clear ab bb a9 an))
   exact Yz
  .exact Zh
end Go.Proofs.YtpieilkmmiopfaaGreatDoor
