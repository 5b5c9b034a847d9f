/- Parts of the walks and laws (Make). Conditions: as stated with each. -/
import Derived.Test.YtpieilkmmiopfaaGreatDoorPk19
namespace Go.Proofs.YtpieilkmmiopfaaGreatDoor
open Go.RowKit Tryz
set_option linter.all false
set_option maxHeartbeats 4000000
set_option maxRecDepth 20000
variable{H Rn:Nat}{QI Rd:aN}{QQ Ri:Int}{R Ro T:ax}{Rk:du}{W w w':aa}{Y:aq}
theorem dx{g:Nat}(h:aW W g #[R,T,Ro] Rk):ae W g 0 R/\ae W g 1 T/\ae W g 2 Ro/\W.frozen? ⟨g,0,none⟩=false/\W.frozen? ⟨g,1,none⟩=false/\W.frozen? ⟨g,2,none⟩=false:=⟨a_ h 0,a_ h 1,a_ h 2,aK h 0,aK h 1,aK h 2⟩
def Made(H F:Int)(G:aN)(ok:Bool)(w:aa)(e:Ending)(w':aa):Prop:=
 ∃(v2 D:Int) (h:aq) (n2 c2:Nat),e=.returned (.tuple (jy (fy v2 D h n2 c2) ok))/\(ok=true->v2=H/\D=F/\aU w' w.heap.size (.slice h n2 c2) G)/\(ok=false->v2=0/\D=0/\h=none/\n2=0/\c2=0)/\ag w w'
theorem Made.no{ok:Bool}{e:Ending}(h:ok=false)(F:e=.returned (.tuple (cJ bj)))(D:ag w w'):Made Ri QQ Rd ok w e w':=by subst h;exact⟨0,0,none,0,0,F,fun h=>Ru,fun _=>⟨rfl,rfl,rfl,rfl,rfl⟩,D⟩
theorem Made.yes{ok:Bool}{e:Ending}(h:ok=true)(F:e=.returned (.tuple (fA (fy Ri QQ Y H Rn))))(G:aU w' w.heap.size (.slice Y H Rn) Rd)(D:ag w w'):Made Ri QQ Rd ok w e w':=by subst h;exact⟨Ri,QQ,Y,H,Rn,F,fun _=>⟨rfl,rfl,G⟩,fun h=>Ru,D⟩
theorem Made.none{v1 h:Int}{ok1 ok:Bool}{e:Ending}(m:Made v1 h Rd ok1 w e w')(h:ok1=false)(D:ok=false):Made Ri QQ QI ok w e w':=by subst h;subst D;obtain⟨v2,J,I,n2,c2,G,_,H,F⟩:=m;obtain⟨rfl,rfl,rfl,rfl,rfl⟩:=H rfl;exact Made.no rfl G F
theorem Made.same{ok1 ok:Bool}{e:Ending}(m:Made Ri QQ Rd ok1 w e w')(h:ok1=ok):Made Ri QQ Rd ok w e w':=h ▸ m
theorem u_(h:ax)(D:ax)(w:aa):(method 399 229 (.agg #[h,D]) "loop.example/g01073/impl.can").run prog w=.ok (244,(.agg #[h,D])) w:=RP
theorem xn(h:ax)(D:ax)(w:aa):(nilAhead 399 229 (.agg #[h,D]) "loop.example/g01073/impl.can").run prog w=.ok (some false) w:=RP
theorem xp(h:ax)(D:ax)(w:aa):(method 399 229 (.agg #[h,D]) "loop.example/g01073/impl.do").run prog w=.ok (245,(.agg #[h,D])) w:=RP
theorem yw(h:ax)(D:ax)(w:aa):(nilAhead 399 229 (.agg #[h,D]) "loop.example/g01073/impl.do").run prog w=.ok (some false) w:=RP
theorem td(p v H v' h':Int)(A:aq)(cap:Nat)(rows EZ:aN)(w:aa)(T:Bool)(a b c:Int)(R:aq)(n V:Nat)(a8:∀W,aw 146 (cy (qf a b c R n V)) W fun e w'=>e=.returned (.tuple #[.iface 229 (.agg (bf a b)),.bool true])/\ag W w')(ap:∀W,ag w W->aw 244 (ie (.agg (bf a b)) p (ar v H A rows cap)) W (dM W T))(a0:T=true->∀W,ag w W->aw 245 (ie (.agg (bf a b)) p (ar v H A rows cap)) W fun e w'=>∃u,e=.returned (.agg (dK v' h' u))/\aU w' W.heap.size u EZ/\ag W w')(bd:eB w)(bi:EZ.length<=maxLen)(bo:∀r∈EZ,r.length<=maxLen):aw 101 (iL p (ar v H A rows cap) (qf a b c R n V)) w fun e w'=>Made v' h' EZ (T&&j_ p v' h' EZ) w e w':=by
 obtain⟨bv,a3,a4,a7,a5,a6⟩:=kE a8 ap a0 bd bi bo;clear a8 ap a0 bd bi bo;have b9:=u_ (.int .i64 a) (.int .i64 b);have ca:=xn (.int .i64 a) (.int .i64 b);have b1:=xp (.int .i64 a) (.int .i64 b);have nd:=yw (.int .i64 a) (.int .i64 b);go_enter lO,lP
 go_upto_region 2 with(go_at_call 146;refine(bv.o _).mono ?_;rintro e cb ⟨rfl,I⟩)
 have bc:=(below_alloc3 w (.cells (ar v H A rows cap) 57) (.cells (qf a b c R n V) 97) (.cells bj 57));obtain⟨bq,b2,br⟩:=cm w (.cells (ar v H A rows cap) 57) (.cells (qf a b c R n V) 97) (.cells bj 57);have ao:=cH I bq;have bp:=cH I br;have bg:=bc.trans (I.mono (B':=w.heap.size) Sp);have b0:=I.size;simp only[dt]at b0;obtain⟨b5,b6,b7,_,_,_⟩:=dx ao;obtain⟨HB,bz,Z⟩:=dO bg ao bp;clear bq b2 br ao bp bg I bc;cases T with
 |false=>
  clear a4 b1 nd;go_wp2_with (go_at_call 244;refine(a3.o _ HB.o).mono ?_;rintro e bu ⟨rfl,h⟩;obtain⟨ab,ac,ad,a9,ba,bb⟩:=dx (cH h Z.o);have EO:=zH h;clear h)
  exact Y_
 |true=>
  go_upto_region 4 with(go_at_call 244;refine(a3.o _ HB.o).mono ?_;rintro e bu ⟨rfl,h⟩;obtain⟨ab,ac,ad,_,_,_⟩:=dx (cH h bz.o);have EO:=zH h;clear h)
  have am:=HB.o.trans (EO.o.mono Rr);have b8:=EO.o.size;obtain⟨a2,a1⟩:=bD am (a4.o Rv bu am);clear am;cases U:j_ p v' h' EZ with
  |false=>
   have HS:=zH U;clear U;go_wp2_with (first|(go_at_call 245;refine a1.o.mono ?_;rintro e b3 ⟨u,rfl,G,D⟩;obtain⟨A3,c3,rfl,O,_,_⟩:=G.view;have J:=a2.o.trans (D.mono Rr);have Y:=zH O;have HU:=zH G;have EN:=zH D;have EY:=zH J;clear G D O J)|(go_at_call 67;refine(cW p v' h' A3 c3 EZ _ (a7.o.ext EY.o) Y.o a5.o a6.o).mono ?_;rintro e b4 ⟨_,N,F⟩;obtain rfl:=N HS.o;clear N;obtain⟨ab,ac,ad,a9,ba,bb⟩:=dx (cH F (cH EN.o (cH EO.o Z.o)));have ET:=zH F;clear F))
   exact Zf
  |true=>
   have HS:=zH U;clear U;go_wp2_with (first|(go_at_call 245;refine a1.o.mono ?_;rintro e b3 ⟨u,rfl,G,D⟩;obtain⟨A3,c3,rfl,O,_,_⟩:=G.view;have J:=a2.o.trans (D.mono Rr);have Y:=zH O;have HU:=zH G;have EN:=zH D;have EY:=zH J;clear G D O J)|(go_at_call 67;refine(cW p v' h' A3 c3 EZ _ (a7.o.ext EY.o) Y.o a5.o a6.o).mono ?_;rintro e b4 ⟨N,_,F⟩;obtain rfl:=N HS.o;clear N;obtain⟨ab,ac,ad,a9,ba,bb⟩:=dx (cH F (cH EN.o (cH EO.o Z.o)));have ET:=zH F;clear F))
   exact Zs
theorem tM(h:ax)(D:ax)(w:aa):(method 399 231 (.agg #[h,D]) "loop.example/g01073/impl.can").run prog w=.ok (248,(.agg #[h,D])) w:=RP
theorem va(h:ax)(D:ax)(w:aa):(nilAhead 399 231 (.agg #[h,D]) "loop.example/g01073/impl.can").run prog w=.ok (some false) w:=RP
theorem vc(h:ax)(D:ax)(w:aa):(method 399 231 (.agg #[h,D]) "loop.example/g01073/impl.do").run prog w=.ok (249,(.agg #[h,D])) w:=RP
theorem xq(h:ax)(D:ax)(w:aa):(nilAhead 399 231 (.agg #[h,D]) "loop.example/g01073/impl.do").run prog w=.ok (some false) w:=RP
theorem rF(p v H v' h':Int)(A:aq)(cap:Nat)(rows EZ:aN)(w:aa)(T:Bool)(a b c:Int)(R:aq)(n V:Nat)(a8:∀W,aw 146 (cy (qg a b c R n V)) W fun e w'=>e=.returned (.tuple #[.iface 231 (.agg (bf a c)),.bool true])/\ag W w')(ap:∀W,ag w W->aw 248 (ie (.agg (bf a c)) p (ar v H A rows cap)) W (dM W T))(a0:T=true->∀W,ag w W->aw 249 (ie (.agg (bf a c)) p (ar v H A rows cap)) W fun e w'=>∃u,e=.returned (.agg (dK v' h' u))/\aU w' W.heap.size u EZ/\ag W w')(bd:eB w)(bi:EZ.length<=maxLen)(bo:∀r∈EZ,r.length<=maxLen):aw 101 (iL p (ar v H A rows cap) (qg a b c R n V)) w fun e w'=>Made v' h' EZ (T&&j_ p v' h' EZ) w e w':=by
 obtain⟨bv,a3,a4,a7,a5,a6⟩:=kE a8 ap a0 bd bi bo;clear a8 ap a0 bd bi bo;have b9:=tM (.int .i64 a) (.int .i64 c);have ca:=va (.int .i64 a) (.int .i64 c);have b1:=vc (.int .i64 a) (.int .i64 c);have nd:=xq (.int .i64 a) (.int .i64 c);go_enter lO,lP
 go_upto_region 2 with(go_at_call 146;refine(bv.o _).mono ?_;rintro e cb ⟨rfl,I⟩)
 have bc:=(below_alloc3 w (.cells (ar v H A rows cap) 57) (.cells (qg a b c R n V) 97) (.cells bj 57));obtain⟨bq,b2,br⟩:=cm w (.cells (ar v H A rows cap) 57) (.cells (qg a b c R n V) 97) (.cells bj 57);have ao:=cH I bq;have bp:=cH I br;have bg:=bc.trans (I.mono (B':=w.heap.size) Sp);have b0:=I.size;simp only[dt]at b0;obtain⟨b5,b6,b7,_,_,_⟩:=dx ao;obtain⟨HB,bz,Z⟩:=dO bg ao bp;clear bq b2 br ao bp bg I bc;cases T with
 |false=>
  clear a4 b1 nd;go_wp2_with (go_at_call 248;refine(a3.o _ HB.o).mono ?_;rintro e bu ⟨rfl,h⟩;obtain⟨ab,ac,ad,a9,ba,bb⟩:=dx (cH h Z.o);have EO:=zH h;clear h)
  exact Y_
 |true=>
  go_upto_region 4 with(go_at_call 248;refine(a3.o _ HB.o).mono ?_;rintro e bu ⟨rfl,h⟩;obtain⟨ab,ac,ad,_,_,_⟩:=dx (cH h bz.o);have EO:=zH h;clear h)
  have am:=HB.o.trans (EO.o.mono Rr);have b8:=EO.o.size;obtain⟨a2,a1⟩:=bD am (a4.o Rv bu am);clear am;cases U:j_ p v' h' EZ with
  |false=>
   have HS:=zH U;clear U;go_wp2_with (first|(go_at_call 249;refine a1.o.mono ?_;rintro e b3 ⟨u,rfl,G,D⟩;obtain⟨A3,c3,rfl,O,_,_⟩:=G.view;have J:=a2.o.trans (D.mono Rr);have Y:=zH O;have HU:=zH G;have EN:=zH D;have EY:=zH J;clear G D O J)|(go_at_call 67;refine(cW p v' h' A3 c3 EZ _ (a7.o.ext EY.o) Y.o a5.o a6.o).mono ?_;rintro e b4 ⟨_,N,F⟩;obtain rfl:=N HS.o;clear N;obtain⟨ab,ac,ad,a9,ba,bb⟩:=dx (cH F (cH EN.o (cH EO.o Z.o)));have ET:=zH F;clear F))
   exact Zf
  |true=>
   have HS:=zH U;clear U;go_wp2_with (first|(go_at_call 249;refine a1.o.mono ?_;rintro e b3 ⟨u,rfl,G,D⟩;obtain⟨A3,c3,rfl,O,_,_⟩:=G.view;have J:=a2.o.trans (D.mono Rr);have Y:=zH O;have HU:=zH G;have EN:=zH D;have EY:=zH J;clear G D O J)|(go_at_call 67;refine(cW p v' h' A3 c3 EZ _ (a7.o.ext EY.o) Y.o a5.o a6.o).mono ?_;rintro e b4 ⟨N,_,F⟩;obtain rfl:=N HS.o;clear N;obtain⟨ab,ac,ad,a9,ba,bb⟩:=dx (cH F (cH EN.o (cH EO.o Z.o)));have ET:=zH F;clear F))
   exact Zs
theorem xr(h:ax)(D:ax)(F:ax)(w:aa):(method 399 233 (.agg #[h,D,F]) "loop.example/g01073/impl.can").run prog w=.ok (251,(.agg #[h,D,F])) w:=RP
theorem yy(h:ax)(D:ax)(F:ax)(w:aa):(nilAhead 399 233 (.agg #[h,D,F]) "loop.example/g01073/impl.can").run prog w=.ok (some false) w:=RP
theorem yz(h:ax)(D:ax)(F:ax)(w:aa):(method 399 233 (.agg #[h,D,F]) "loop.example/g01073/impl.do").run prog w=.ok (252,(.agg #[h,D,F])) w:=RP
theorem Av(h:ax)(D:ax)(F:ax)(w:aa):(nilAhead 399 233 (.agg #[h,D,F]) "loop.example/g01073/impl.do").run prog w=.ok (some false) w:=RP
theorem vf(p v H v' h':Int)(A:aq)(cap:Nat)(rows EZ:aN)(w:aa)(T:Bool)(a b c:Int)(R:aq)(n V:Nat)(a8:∀W,aw 146 (cy (qc a b c R n V)) W fun e w'=>e=.returned (.tuple #[.iface 233 (.agg (fP a b c)),.bool true])/\ag W w')(ap:∀W,ag w W->aw 251 (ie (.agg (fP a b c)) p (ar v H A rows cap)) W (dM W T))(a0:T=true->∀W,ag w W->aw 252 (ie (.agg (fP a b c)) p (ar v H A rows cap)) W fun e w'=>∃u,e=.returned (.agg (dK v' h' u))/\aU w' W.heap.size u EZ/\ag W w')(bd:eB w)(bi:EZ.length<=maxLen)(bo:∀r∈EZ,r.length<=maxLen):aw 101 (iK p (ar v H A rows cap) (qc a b c R n V)) w fun e w'=>Made v' h' EZ (T&&j_ p v' h' EZ) w e w':=by
 obtain⟨bv,a3,a4,a7,a5,a6⟩:=kE a8 ap a0 bd bi bo;clear a8 ap a0 bd bi bo;have b9:=xr (.int .i64 a) (.int .i64 b) (.int .i64 c);have ca:=yy (.int .i64 a) (.int .i64 b) (.int .i64 c);have b1:=yz (.int .i64 a) (.int .i64 b) (.int .i64 c);have nd:=Av (.int .i64 a) (.int .i64 b) (.int .i64 c);go_enter lO,lP
 go_upto_region 2 with(go_at_call 146;refine(bv.o _).mono ?_;rintro e cb ⟨rfl,I⟩)
 have bc:=(below_alloc3 w (.cells (ar v H A rows cap) 57) (.cells (qc a b c R n V) 97) (.cells bj 57));obtain⟨bq,b2,br⟩:=cm w (.cells (ar v H A rows cap) 57) (.cells (qc a b c R n V) 97) (.cells bj 57);have ao:=cH I bq;have bp:=cH I br;have bg:=bc.trans (I.mono (B':=w.heap.size) Sp);have b0:=I.size;simp only[dt]at b0;obtain⟨b5,b6,b7,_,_,_⟩:=dx ao;obtain⟨HB,bz,Z⟩:=dO bg ao bp;clear bq b2 br ao bp bg I bc;cases T with
 |false=>
  clear a4 b1 nd;go_wp2_with (go_at_call 251;refine(a3.o _ HB.o).mono ?_;rintro e bu ⟨rfl,h⟩;obtain⟨ab,ac,ad,a9,ba,bb⟩:=dx (cH h Z.o);have EO:=zH h;clear h)
  exact Y_
 |true=>
  go_upto_region 4 with(go_at_call 251;refine(a3.o _ HB.o).mono ?_;rintro e bu ⟨rfl,h⟩;obtain⟨ab,ac,ad,_,_,_⟩:=dx (cH h bz.o);have EO:=zH h;clear h)
  have am:=HB.o.trans (EO.o.mono Rr);have b8:=EO.o.size;obtain⟨a2,a1⟩:=bD am (a4.o Rv bu am);clear am;cases U:j_ p v' h' EZ with
  |false=>
   have HS:=zH U;clear U;go_wp2_with (first|(go_at_call 252;refine a1.o.mono ?_;rintro e b3 ⟨u,rfl,G,D⟩;obtain⟨A3,c3,rfl,O,_,_⟩:=G.view;have J:=a2.o.trans (D.mono Rr);have Y:=zH O;have HU:=zH G;have EN:=zH D;have EY:=zH J;clear G D O J)|(go_at_call 67;refine(cW p v' h' A3 c3 EZ _ (a7.o.ext EY.o) Y.o a5.o a6.o).mono ?_;rintro e b4 ⟨_,N,F⟩;obtain rfl:=N HS.o;clear N;obtain⟨ab,ac,ad,a9,ba,bb⟩:=dx (cH F (cH EN.o (cH EO.o Z.o)));have ET:=zH F;clear F))
   exact Zf
  |true=>
   have HS:=zH U;clear U;go_wp2_with (first|(go_at_call 252;refine a1.o.mono ?_;rintro e b3 ⟨u,rfl,G,D⟩;obtain⟨A3,c3,rfl,O,_,_⟩:=G.view;have J:=a2.o.trans (D.mono Rr);have Y:=zH O;have HU:=zH G;have EN:=zH D;have EY:=zH J;clear G D O J)|(go_at_call 67;refine(cW p v' h' A3 c3 EZ _ (a7.o.ext EY.o) Y.o a5.o a6.o).mono ?_;rintro e b4 ⟨N,_,F⟩;obtain rfl:=N HS.o;clear N;obtain⟨ab,ac,ad,a9,ba,bb⟩:=dx (cH F (cH EN.o (cH EO.o Z.o)));have ET:=zH F;clear F))
   exact Zs
theorem vg(h:ax)(w:aa):(method 399 235 (.agg #[h]) "loop.example/g01073/impl.can").run prog w=.ok (254,(.agg #[h])) w:=RP
theorem xt(h:ax)(w:aa):(nilAhead 399 235 (.agg #[h]) "loop.example/g01073/impl.can").run prog w=.ok (some false) w:=RP
theorem xu(h:ax)(w:aa):(method 399 235 (.agg #[h]) "loop.example/g01073/impl.do").run prog w=.ok (255,(.agg #[h])) w:=RP
theorem yA(h:ax)(w:aa):(nilAhead 399 235 (.agg #[h]) "loop.example/g01073/impl.do").run prog w=.ok (some false) w:=RP
theorem te(p v H v' h':Int)(A:aq)(cap:Nat)(rows EZ:aN)(w:aa)(T:Bool)(a b c:Int)(R:aq)(n V:Nat)(a8:∀W,aw 146 (cy (qh a b c R n V)) W fun e w'=>e=.returned (.tuple #[.iface 235 (.agg (bs a)),.bool true])/\ag W w')(ap:∀W,ag w W->aw 254 (ie (.agg (bs a)) p (ar v H A rows cap)) W (dM W T))(a0:T=true->∀W,ag w W->aw 255 (ie (.agg (bs a)) p (ar v H A rows cap)) W fun e w'=>∃u,e=.returned (.agg (dK v' h' u))/\aU w' W.heap.size u EZ/\ag W w')(bd:eB w)(bi:EZ.length<=maxLen)(bo:∀r∈EZ,r.length<=maxLen):aw 101 (iL p (ar v H A rows cap) (qh a b c R n V)) w fun e w'=>Made v' h' EZ (T&&j_ p v' h' EZ) w e w':=by
 obtain⟨bv,a3,a4,a7,a5,a6⟩:=kE a8 ap a0 bd bi bo;clear a8 ap a0 bd bi bo;have b9:=vg (.int .i64 a);have ca:=xt (.int .i64 a);have b1:=xu (.int .i64 a);have nd:=yA (.int .i64 a);go_enter lO,lP
 go_upto_region 2 with(go_at_call 146;refine(bv.o _).mono ?_;rintro e cb ⟨rfl,I⟩)
 have bc:=(below_alloc3 w (.cells (ar v H A rows cap) 57) (.cells (qh a b c R n V) 97) (.cells bj 57));obtain⟨bq,b2,br⟩:=cm w (.cells (ar v H A rows cap) 57) (.cells (qh a b c R n V) 97) (.cells bj 57);have ao:=cH I bq;have bp:=cH I br;have bg:=bc.trans (I.mono (B':=w.heap.size) Sp);have b0:=I.size;simp only[dt]at b0;obtain⟨b5,b6,b7,_,_,_⟩:=dx ao;obtain⟨HB,bz,Z⟩:=dO bg ao bp;clear bq b2 br ao bp bg I bc;cases T with
 |false=>
  clear a4 b1 nd;go_wp2_with (go_at_call 254;refine(a3.o _ HB.o).mono ?_;rintro e bu ⟨rfl,h⟩;obtain⟨ab,ac,ad,a9,ba,bb⟩:=dx (cH h Z.o);have EO:=zH h;clear h)
  exact Y_
 |true=>
  go_upto_region 4 with(go_at_call 254;refine(a3.o _ HB.o).mono ?_;rintro e bu ⟨rfl,h⟩;obtain⟨ab,ac,ad,_,_,_⟩:=dx (cH h bz.o);have EO:=zH h;clear h)
  have am:=HB.o.trans (EO.o.mono Rr);have b8:=EO.o.size;obtain⟨a2,a1⟩:=bD am (a4.o Rv bu am);clear am;cases U:j_ p v' h' EZ with
  |false=>
   have HS:=zH U;clear U;go_wp2_with (first|(go_at_call 255;refine a1.o.mono ?_;rintro e b3 ⟨u,rfl,G,D⟩;obtain⟨A3,c3,rfl,O,_,_⟩:=G.view;have J:=a2.o.trans (D.mono Rr);have Y:=zH O;have HU:=zH G;have EN:=zH D;have EY:=zH J;clear G D O J)|(go_at_call 67;refine(cW p v' h' A3 c3 EZ _ (a7.o.ext EY.o) Y.o a5.o a6.o).mono ?_;rintro e b4 ⟨_,N,F⟩;obtain rfl:=N HS.o;clear N;obtain⟨ab,ac,ad,a9,ba,bb⟩:=dx (cH F (cH EN.o (cH EO.o Z.o)));have ET:=zH F;clear F))
   exact Zf
  |true=>
   have HS:=zH U;clear U;go_wp2_with (first|(go_at_call 255;refine a1.o.mono ?_;rintro e b3 ⟨u,rfl,G,D⟩;obtain⟨A3,c3,rfl,O,_,_⟩:=G.view;have J:=a2.o.trans (D.mono Rr);have Y:=zH O;have HU:=zH G;have EN:=zH D;have EY:=zH J;clear G D O J)|(go_at_call 67;refine(cW p v' h' A3 c3 EZ _ (a7.o.ext EY.o) Y.o a5.o a6.o).mono ?_;rintro e b4 ⟨N,_,F⟩;obtain rfl:=N HS.o;clear N;obtain⟨ab,ac,ad,a9,ba,bb⟩:=dx (cH F (cH EN.o (cH EO.o Z.o)));have ET:=zH F;clear F))
   exact Zs
theorem xv(h:ax)(w:aa):(method 399 236 (.agg #[h]) "loop.example/g01073/impl.can").run prog w=.ok (258,(.agg #[h])) w:=RP
theorem yB(h:ax)(w:aa):(nilAhead 399 236 (.agg #[h]) "loop.example/g01073/impl.can").run prog w=.ok (some false) w:=RP
theorem yC(h:ax)(w:aa):(method 399 236 (.agg #[h]) "loop.example/g01073/impl.do").run prog w=.ok (259,(.agg #[h])) w:=RP
theorem Aw(h:ax)(w:aa):(nilAhead 399 236 (.agg #[h]) "loop.example/g01073/impl.do").run prog w=.ok (some false) w:=RP
theorem vh(p v H v' h':Int)(A:aq)(cap:Nat)(rows EZ:aN)(w:aa)(T:Bool)(a b c:Int)(R:aq)(n V:Nat)(a8:∀W,aw 146 (cy (qi a b c R n V)) W fun e w'=>e=.returned (.tuple #[.iface 236 (.agg (bs a)),.bool true])/\ag W w')(ap:∀W,ag w W->aw 258 (ie (.agg (bs a)) p (ar v H A rows cap)) W (dM W T))(a0:T=true->∀W,ag w W->aw 259 (ie (.agg (bs a)) p (ar v H A rows cap)) W fun e w'=>∃u,e=.returned (.agg (dK v' h' u))/\aU w' W.heap.size u EZ/\ag W w')(bd:eB w)(bi:EZ.length<=maxLen)(bo:∀r∈EZ,r.length<=maxLen):aw 101 (iL p (ar v H A rows cap) (qi a b c R n V)) w fun e w'=>Made v' h' EZ (T&&j_ p v' h' EZ) w e w':=by
 obtain⟨bv,a3,a4,a7,a5,a6⟩:=kE a8 ap a0 bd bi bo;clear a8 ap a0 bd bi bo;have b9:=xv (.int .i64 a);have ca:=yB (.int .i64 a);have b1:=yC (.int .i64 a);have nd:=Aw (.int .i64 a);go_enter lO,lP
 go_upto_region 2 with(go_at_call 146;refine(bv.o _).mono ?_;rintro e cb ⟨rfl,I⟩)
 have bc:=(below_alloc3 w (.cells (ar v H A rows cap) 57) (.cells (qi a b c R n V) 97) (.cells bj 57));obtain⟨bq,b2,br⟩:=cm w (.cells (ar v H A rows cap) 57) (.cells (qi a b c R n V) 97) (.cells bj 57);have ao:=cH I bq;have bp:=cH I br;have bg:=bc.trans (I.mono (B':=w.heap.size) Sp);have b0:=I.size;simp only[dt]at b0;obtain⟨b5,b6,b7,_,_,_⟩:=dx ao;obtain⟨HB,bz,Z⟩:=dO bg ao bp;clear bq b2 br ao bp bg I bc;cases T with
 |false=>
  clear a4 b1 nd;go_wp2_with (go_at_call 258;refine(a3.o _ HB.o).mono ?_;rintro e bu ⟨rfl,h⟩;obtain⟨ab,ac,ad,a9,ba,bb⟩:=dx (cH h Z.o);have EO:=zH h;clear h)
  exact Y_
 |true=>
  go_upto_region 4 with(go_at_call 258;refine(a3.o _ HB.o).mono ?_;rintro e bu ⟨rfl,h⟩;obtain⟨ab,ac,ad,_,_,_⟩:=dx (cH h bz.o);have EO:=zH h;clear h)
  have am:=HB.o.trans (EO.o.mono Rr);have b8:=EO.o.size;obtain⟨a2,a1⟩:=bD am (a4.o Rv bu am);clear am;cases U:j_ p v' h' EZ with
  |false=>
   have HS:=zH U;clear U;go_wp2_with (first|(go_at_call 259;refine a1.o.mono ?_;rintro e b3 ⟨u,rfl,G,D⟩;obtain⟨A3,c3,rfl,O,_,_⟩:=G.view;have J:=a2.o.trans (D.mono Rr);have Y:=zH O;have HU:=zH G;have EN:=zH D;have EY:=zH J;clear G D O J)|(go_at_call 67;refine(cW p v' h' A3 c3 EZ _ (a7.o.ext EY.o) Y.o a5.o a6.o).mono ?_;rintro e b4 ⟨_,N,F⟩;obtain rfl:=N HS.o;clear N;obtain⟨ab,ac,ad,a9,ba,bb⟩:=dx (cH F (cH EN.o (cH EO.o Z.o)));have ET:=zH F;clear F))
   exact Zf
  |true=>
   have HS:=zH U;clear U;go_wp2_with (first|(go_at_call 259;refine a1.o.mono ?_;rintro e b3 ⟨u,rfl,G,D⟩;obtain⟨A3,c3,rfl,O,_,_⟩:=G.view;have J:=a2.o.trans (D.mono Rr);have Y:=zH O;have HU:=zH G;have EN:=zH D;have EY:=zH J;clear G D O J)|(go_at_call 67;refine(cW p v' h' A3 c3 EZ _ (a7.o.ext EY.o) Y.o a5.o a6.o).mono ?_;rintro e b4 ⟨N,_,F⟩;obtain rfl:=N HS.o;clear N;obtain⟨ab,ac,ad,a9,ba,bb⟩:=dx (cH F (cH EN.o (cH EO.o Z.o)));have ET:=zH F;clear F))
   exact Zs
theorem tN(h:ax)(D:ax)(w:aa):(method 399 237 (.agg #[h,D]) "loop.example/g01073/impl.can").run prog w=.ok (266,(.agg #[h,D])) w:=RP
theorem vi(h:ax)(D:ax)(w:aa):(nilAhead 399 237 (.agg #[h,D]) "loop.example/g01073/impl.can").run prog w=.ok (some false) w:=RP
theorem vj(h:ax)(D:ax)(w:aa):(method 399 237 (.agg #[h,D]) "loop.example/g01073/impl.do").run prog w=.ok (267,(.agg #[h,D])) w:=RP
theorem xw(h:ax)(D:ax)(w:aa):(nilAhead 399 237 (.agg #[h,D]) "loop.example/g01073/impl.do").run prog w=.ok (some false) w:=RP
theorem rG(p v H v' h':Int)(A:aq)(cap:Nat)(rows EZ:aN)(w:aa)(T:Bool)(a b c:Int)(R:aq)(n V:Nat)(a8:∀W,aw 146 (cy (qd a b c R n V)) W fun e w'=>e=.returned (.tuple #[.iface 237 (.agg (bf a b)),.bool true])/\ag W w')(ap:∀W,ag w W->aw 266 (ie (.agg (bf a b)) p (ar v H A rows cap)) W (dM W T))(a0:T=true->∀W,ag w W->aw 267 (ie (.agg (bf a b)) p (ar v H A rows cap)) W fun e w'=>∃u,e=.returned (.agg (dK v' h' u))/\aU w' W.heap.size u EZ/\ag W w')(bd:eB w)(bi:EZ.length<=maxLen)(bo:∀r∈EZ,r.length<=maxLen):aw 101 (iL p (ar v H A rows cap) (qd a b c R n V)) w fun e w'=>Made v' h' EZ (T&&j_ p v' h' EZ) w e w':=by
 obtain⟨bv,a3,a4,a7,a5,a6⟩:=kE a8 ap a0 bd bi bo;clear a8 ap a0 bd bi bo;have b9:=tN (.int .i64 a) (.int .i64 b);have ca:=vi (.int .i64 a) (.int .i64 b);have b1:=vj (.int .i64 a) (.int .i64 b);have nd:=xw (.int .i64 a) (.int .i64 b);go_enter lO,lP
 go_upto_region 2 with(go_at_call 146;refine(bv.o _).mono ?_;rintro e cb ⟨rfl,I⟩)
 have bc:=(below_alloc3 w (.cells (ar v H A rows cap) 57) (.cells (qd a b c R n V) 97) (.cells bj 57));obtain⟨bq,b2,br⟩:=cm w (.cells (ar v H A rows cap) 57) (.cells (qd a b c R n V) 97) (.cells bj 57);have ao:=cH I bq;have bp:=cH I br;have bg:=bc.trans (I.mono (B':=w.heap.size) Sp);have b0:=I.size;simp only[dt]at b0;obtain⟨b5,b6,b7,_,_,_⟩:=dx ao;obtain⟨HB,bz,Z⟩:=dO bg ao bp;clear bq b2 br ao bp bg I bc;cases T with
 |false=>
  clear a4 b1 nd;go_wp2_with (go_at_call 266;refine(a3.o _ HB.o).mono ?_;rintro e bu ⟨rfl,h⟩;obtain⟨ab,ac,ad,a9,ba,bb⟩:=dx (cH h Z.o);have EO:=zH h;clear h)
  exact Y_
 |true=>
  go_upto_region 4 with(go_at_call 266;refine(a3.o _ HB.o).mono ?_;rintro e bu ⟨rfl,h⟩;obtain⟨ab,ac,ad,_,_,_⟩:=dx (cH h bz.o);have EO:=zH h;clear h)
  have am:=HB.o.trans (EO.o.mono Rr);have b8:=EO.o.size;obtain⟨a2,a1⟩:=bD am (a4.o Rv bu am);clear am;cases U:j_ p v' h' EZ with
  |false=>
   have HS:=zH U;clear U;go_wp2_with (first|(go_at_call 267;refine a1.o.mono ?_;rintro e b3 ⟨u,rfl,G,D⟩;obtain⟨A3,c3,rfl,O,_,_⟩:=G.view;have J:=a2.o.trans (D.mono Rr);have Y:=zH O;have HU:=zH G;have EN:=zH D;have EY:=zH J;clear G D O J)|(go_at_call 67;refine(cW p v' h' A3 c3 EZ _ (a7.o.ext EY.o) Y.o a5.o a6.o).mono ?_;rintro e b4 ⟨_,N,F⟩;obtain rfl:=N HS.o;clear N;obtain⟨ab,ac,ad,a9,ba,bb⟩:=dx (cH F (cH EN.o (cH EO.o Z.o)));have ET:=zH F;clear F))
   exact Zf
  |true=>
   have HS:=zH U;clear U;go_wp2_with (first|(go_at_call 267;refine a1.o.mono ?_;rintro e b3 ⟨u,rfl,G,D⟩;obtain⟨A3,c3,rfl,O,_,_⟩:=G.view;have J:=a2.o.trans (D.mono Rr);have Y:=zH O;have HU:=zH G;have EN:=zH D;have EY:=zH J;clear G D O J)|(go_at_call 67;refine(cW p v' h' A3 c3 EZ _ (a7.o.ext EY.o) Y.o a5.o a6.o).mono ?_;rintro e b4 ⟨N,_,F⟩;obtain rfl:=N HS.o;clear N;obtain⟨ab,ac,ad,a9,ba,bb⟩:=dx (cH F (cH EN.o (cH EO.o Z.o)));have ET:=zH F;clear F))
   exact Zs
theorem tO(h:ax)(D:ax)(F:ax)(w:aa):(method 399 239 (.agg #[h,D,F]) "loop.example/g01073/impl.can").run prog w=.ok (273,(.agg #[h,D,F])) w:=RP
theorem vk(h:ax)(D:ax)(F:ax)(w:aa):(nilAhead 399 239 (.agg #[h,D,F]) "loop.example/g01073/impl.can").run prog w=.ok (some false) w:=RP
theorem vl(h:ax)(D:ax)(F:ax)(w:aa):(method 399 239 (.agg #[h,D,F]) "loop.example/g01073/impl.do").run prog w=.ok (274,(.agg #[h,D,F])) w:=RP
theorem xx(h:ax)(D:ax)(F:ax)(w:aa):(nilAhead 399 239 (.agg #[h,D,F]) "loop.example/g01073/impl.do").run prog w=.ok (some false) w:=RP
theorem rH(p v J v' h':Int)(A:aq)(cap:Nat)(rows EZ:aN)(w:aa)(U:Bool)(a b c:Int)(h:aq)(n D:Nat)(a8:∀W,aw 146 (cy (qj a b c h n D)) W fun e w'=>e=.returned (.tuple #[.iface 239 (.agg (fy a b h n D)),.bool true])/\ag W w')(ap:∀W,ag w W->aw 273 (ie (.agg (fy a b h n D)) p (ar v J A rows cap)) W (dM W U))(a0:U=true->∀W,ag w W->aw 274 (ie (.agg (fy a b h n D)) p (ar v J A rows cap)) W fun e w'=>∃u,e=.returned (.agg (dK v' h' u))/\aU w' W.heap.size u EZ/\ag W w')(bd:eB w)(bi:EZ.length<=maxLen)(bo:∀r∈EZ,r.length<=maxLen):aw 101 (iL p (ar v J A rows cap) (qj a b c h n D)) w fun e w'=>Made v' h' EZ (U&&j_ p v' h' EZ) w e w':=by
 obtain⟨bv,a3,a4,a7,a5,a6⟩:=kE a8 ap a0 bd bi bo;clear a8 ap a0 bd bi bo;have b9:=tO (.int .i64 a) (.int .i64 b) (.slice h n D);have ca:=vk (.int .i64 a) (.int .i64 b) (.slice h n D);have b1:=vl (.int .i64 a) (.int .i64 b) (.slice h n D);have nd:=xx (.int .i64 a) (.int .i64 b) (.slice h n D);go_enter lO,lP
 go_upto_region 2 with(go_at_call 146;refine(bv.o _).mono ?_;rintro e cb ⟨rfl,N⟩)
 have bc:=(below_alloc3 w (.cells (ar v J A rows cap) 57) (.cells (qj a b c h n D) 97) (.cells bj 57));obtain⟨bq,b2,br⟩:=cm w (.cells (ar v J A rows cap) 57) (.cells (qj a b c h n D) 97) (.cells bj 57);have ao:=cH N bq;have bp:=cH N br;have bg:=bc.trans (N.mono (B':=w.heap.size) Sp);have b0:=N.size;simp only[dt]at b0;obtain⟨b5,b6,b7,_,_,_⟩:=dx ao;obtain⟨HB,bz,Z⟩:=dO bg ao bp;clear bq b2 br ao bp bg N bc;cases U with
 |false=>
  clear a4 b1 nd;go_wp2_with (go_at_call 273;refine(a3.o _ HB.o).mono ?_;rintro e bu ⟨rfl,F⟩;obtain⟨ab,ac,ad,a9,ba,bb⟩:=dx (cH F Z.o);have EO:=zH F;clear F)
  exact Y_
 |true=>
  go_upto_region 4 with(go_at_call 273;refine(a3.o _ HB.o).mono ?_;rintro e bu ⟨rfl,F⟩;obtain⟨ab,ac,ad,_,_,_⟩:=dx (cH F bz.o);have EO:=zH F;clear F)
  have am:=HB.o.trans (EO.o.mono Rr);have b8:=EO.o.size;obtain⟨a2,a1⟩:=bD am (a4.o Rv bu am);clear am;cases V:j_ p v' h' EZ with
  |false=>
   have HS:=zH V;clear V;go_wp2_with (first|(go_at_call 274;refine a1.o.mono ?_;rintro e b3 ⟨u,rfl,I,G⟩;obtain⟨A3,c3,rfl,T,_,_⟩:=I.view;have O:=a2.o.trans (G.mono Rr);have Y:=zH T;have HU:=zH I;have EN:=zH G;have EY:=zH O;clear I G T O)|(go_at_call 67;refine(cW p v' h' A3 c3 EZ _ (a7.o.ext EY.o) Y.o a5.o a6.o).mono ?_;rintro e b4 ⟨_,R,H⟩;obtain rfl:=R HS.o;clear R;obtain⟨ab,ac,ad,a9,ba,bb⟩:=dx (cH H (cH EN.o (cH EO.o Z.o)));have ET:=zH H;clear H))
   exact Zf
  |true=>
   have HS:=zH V;clear V;go_wp2_with (first|(go_at_call 274;refine a1.o.mono ?_;rintro e b3 ⟨u,rfl,I,G⟩;obtain⟨A3,c3,rfl,T,_,_⟩:=I.view;have O:=a2.o.trans (G.mono Rr);have Y:=zH T;have HU:=zH I;have EN:=zH G;have EY:=zH O;clear I G T O)|(go_at_call 67;refine(cW p v' h' A3 c3 EZ _ (a7.o.ext EY.o) Y.o a5.o a6.o).mono ?_;rintro e b4 ⟨R,_,H⟩;obtain rfl:=R HS.o;clear R;obtain⟨ab,ac,ad,a9,ba,bb⟩:=dx (cH H (cH EN.o (cH EO.o Z.o)));have ET:=zH H;clear H))
   exact Zs
theorem sO(h:ax)(w:aa):(method 399 241 (.agg #[h]) "loop.example/g01073/impl.can").run prog w=.ok (282,(.agg #[h])) w:=RP
theorem tP(h:ax)(w:aa):(nilAhead 399 241 (.agg #[h]) "loop.example/g01073/impl.can").run prog w=.ok (some false) w:=RP
theorem tQ(h:ax)(w:aa):(method 399 241 (.agg #[h]) "loop.example/g01073/impl.do").run prog w=.ok (283,(.agg #[h])) w:=RP
theorem vm(h:ax)(w:aa):(nilAhead 399 241 (.agg #[h]) "loop.example/g01073/impl.do").run prog w=.ok (some false) w:=RP
theorem qH(p v H v' h':Int)(A:aq)(cap:Nat)(rows EZ:aN)(w:aa)(T:Bool)(a b c:Int)(R:aq)(n V:Nat)(a8:∀W,aw 146 (cy (qe a b c R n V)) W fun e w'=>e=.returned (.tuple #[.iface 241 (.agg (bs b)),.bool true])/\ag W w')(ap:∀W,ag w W->aw 282 (ie (.agg (bs b)) p (ar v H A rows cap)) W (dM W T))(a0:T=true->∀W,ag w W->aw 283 (ie (.agg (bs b)) p (ar v H A rows cap)) W fun e w'=>∃u,e=.returned (.agg (dK v' h' u))/\aU w' W.heap.size u EZ/\ag W w')(bd:eB w)(bi:EZ.length<=maxLen)(bo:∀r∈EZ,r.length<=maxLen):aw 101 (iL p (ar v H A rows cap) (qe a b c R n V)) w fun e w'=>Made v' h' EZ (T&&j_ p v' h' EZ) w e w':=by
 obtain⟨bv,a3,a4,a7,a5,a6⟩:=kE a8 ap a0 bd bi bo;clear a8 ap a0 bd bi bo;have b9:=sO (.int .i64 b);have ca:=tP (.int .i64 b);have b1:=tQ (.int .i64 b);have nd:=vm (.int .i64 b);go_enter lO,lP
 go_upto_region 2 with(go_at_call 146;refine(bv.o _).mono ?_;rintro e cb ⟨rfl,I⟩)
 have bc:=(below_alloc3 w (.cells (ar v H A rows cap) 57) (.cells (qe a b c R n V) 97) (.cells bj 57));obtain⟨bq,b2,br⟩:=cm w (.cells (ar v H A rows cap) 57) (.cells (qe a b c R n V) 97) (.cells bj 57);have ao:=cH I bq;have bp:=cH I br;have bg:=bc.trans (I.mono (B':=w.heap.size) Sp);have b0:=I.size;simp only[dt]at b0;obtain⟨b5,b6,b7,_,_,_⟩:=dx ao;obtain⟨HB,bz,Z⟩:=dO bg ao bp;clear bq b2 br ao bp bg I bc;cases T with
 |false=>
  clear a4 b1 nd;go_wp2_with (go_at_call 282;refine(a3.o _ HB.o).mono ?_;rintro e bu ⟨rfl,h⟩;obtain⟨ab,ac,ad,a9,ba,bb⟩:=dx (cH h Z.o);have EO:=zH h;clear h)
  exact Y_
 |true=>
  go_upto_region 4 with(go_at_call 282;refine(a3.o _ HB.o).mono ?_;rintro e bu ⟨rfl,h⟩;obtain⟨ab,ac,ad,_,_,_⟩:=dx (cH h bz.o);have EO:=zH h;clear h)
  have am:=HB.o.trans (EO.o.mono Rr);have b8:=EO.o.size;obtain⟨a2,a1⟩:=bD am (a4.o Rv bu am);clear am;cases U:j_ p v' h' EZ with
  |false=>
   have HS:=zH U;clear U;go_wp2_with (first|(go_at_call 283;refine a1.o.mono ?_;rintro e b3 ⟨u,rfl,G,D⟩;obtain⟨A3,c3,rfl,O,_,_⟩:=G.view;have J:=a2.o.trans (D.mono Rr);have Y:=zH O;have HU:=zH G;have EN:=zH D;have EY:=zH J;clear G D O J)|(go_at_call 67;refine(cW p v' h' A3 c3 EZ _ (a7.o.ext EY.o) Y.o a5.o a6.o).mono ?_;rintro e b4 ⟨_,N,F⟩;obtain rfl:=N HS.o;clear N;obtain⟨ab,ac,ad,a9,ba,bb⟩:=dx (cH F (cH EN.o (cH EO.o Z.o)));have ET:=zH F;clear F))
   exact Zf
  |true=>
   have HS:=zH U;clear U;go_wp2_with (first|(go_at_call 283;refine a1.o.mono ?_;rintro e b3 ⟨u,rfl,G,D⟩;obtain⟨A3,c3,rfl,O,_,_⟩:=G.view;have J:=a2.o.trans (D.mono Rr);have Y:=zH O;have HU:=zH G;have EN:=zH D;have EY:=zH J;clear G D O J)|(go_at_call 67;refine(cW p v' h' A3 c3 EZ _ (a7.o.ext EY.o) Y.o a5.o a6.o).mono ?_;rintro e b4 ⟨N,_,F⟩;obtain rfl:=N HS.o;clear N;obtain⟨ab,ac,ad,a9,ba,bb⟩:=dx (cH F (cH EN.o (cH EO.o Z.o)));have ET:=zH F;clear F))
   exact Zs
theorem sP(h:ax)(w:aa):(method 399 242 (.agg #[h]) "loop.example/g01073/impl.can").run prog w=.ok (285,(.agg #[h])) w:=RP
theorem tR(h:ax)(w:aa):(nilAhead 399 242 (.agg #[h]) "loop.example/g01073/impl.can").run prog w=.ok (some false) w:=RP
theorem tS(h:ax)(w:aa):(method 399 242 (.agg #[h]) "loop.example/g01073/impl.do").run prog w=.ok (286,(.agg #[h])) w:=RP
theorem vn(h:ax)(w:aa):(nilAhead 399 242 (.agg #[h]) "loop.example/g01073/impl.do").run prog w=.ok (some false) w:=RP
theorem qI(p v H v' h':Int)(A:aq)(cap:Nat)(rows EZ:aN)(w:aa)(T:Bool)(a b c:Int)(R:aq)(n V:Nat)(a8:∀W,aw 146 (cy (qk a b c R n V)) W fun e w'=>e=.returned (.tuple #[.iface 242 (.agg (bs b)),.bool true])/\ag W w')(ap:∀W,ag w W->aw 285 (ie (.agg (bs b)) p (ar v H A rows cap)) W (dM W T))(a0:T=true->∀W,ag w W->aw 286 (ie (.agg (bs b)) p (ar v H A rows cap)) W fun e w'=>∃u,e=.returned (.agg (dK v' h' u))/\aU w' W.heap.size u EZ/\ag W w')(bd:eB w)(bi:EZ.length<=maxLen)(bo:∀r∈EZ,r.length<=maxLen):aw 101 (iL p (ar v H A rows cap) (qk a b c R n V)) w fun e w'=>Made v' h' EZ (T&&j_ p v' h' EZ) w e w':=by
 obtain⟨bv,a3,a4,a7,a5,a6⟩:=kE a8 ap a0 bd bi bo;clear a8 ap a0 bd bi bo;have b9:=sP (.int .i64 b);have ca:=tR (.int .i64 b);have b1:=tS (.int .i64 b);have nd:=vn (.int .i64 b);go_enter lO,lP
 go_upto_region 2 with(go_at_call 146;refine(bv.o _).mono ?_;rintro e cb ⟨rfl,I⟩)
 have bc:=(below_alloc3 w (.cells (ar v H A rows cap) 57) (.cells (qk a b c R n V) 97) (.cells bj 57));obtain⟨bq,b2,br⟩:=cm w (.cells (ar v H A rows cap) 57) (.cells (qk a b c R n V) 97) (.cells bj 57);have ao:=cH I bq;have bp:=cH I br;have bg:=bc.trans (I.mono (B':=w.heap.size) Sp);have b0:=I.size;simp only[dt]at b0;obtain⟨b5,b6,b7,_,_,_⟩:=dx ao;obtain⟨HB,bz,Z⟩:=dO bg ao bp;clear bq b2 br ao bp bg I bc;cases T with
 |false=>
  clear a4 b1 nd;go_wp2_with (go_at_call 285;refine(a3.o _ HB.o).mono ?_;rintro e bu ⟨rfl,h⟩;obtain⟨ab,ac,ad,a9,ba,bb⟩:=dx (cH h Z.o);have EO:=zH h;clear h)
  exact Y_
 |true=>
  go_upto_region 4 with(go_at_call 285;refine(a3.o _ HB.o).mono ?_;rintro e bu ⟨rfl,h⟩;obtain⟨ab,ac,ad,_,_,_⟩:=dx (cH h bz.o);have EO:=zH h;clear h)
  have am:=HB.o.trans (EO.o.mono Rr);have b8:=EO.o.size;obtain⟨a2,a1⟩:=bD am (a4.o Rv bu am);clear am;cases U:j_ p v' h' EZ with
  |false=>
   have HS:=zH U;clear U;go_wp2_with (first|(go_at_call 286;refine a1.o.mono ?_;rintro e b3 ⟨u,rfl,G,D⟩;obtain⟨A3,c3,rfl,O,_,_⟩:=G.view;have J:=a2.o.trans (D.mono Rr);have Y:=zH O;have HU:=zH G;have EN:=zH D;have EY:=zH J;clear G D O J)|(go_at_call 67;refine(cW p v' h' A3 c3 EZ _ (a7.o.ext EY.o) Y.o a5.o a6.o).mono ?_;rintro e b4 ⟨_,N,F⟩;obtain rfl:=N HS.o;clear N;obtain⟨ab,ac,ad,a9,ba,bb⟩:=dx (cH F (cH EN.o (cH EO.o Z.o)));have ET:=zH F;clear F))
   exact Zf
  |true=>
   have HS:=zH U;clear U;go_wp2_with (first|(go_at_call 286;refine a1.o.mono ?_;rintro e b3 ⟨u,rfl,G,D⟩;obtain⟨A3,c3,rfl,O,_,_⟩:=G.view;have J:=a2.o.trans (D.mono Rr);have Y:=zH O;have HU:=zH G;have EN:=zH D;have EY:=zH J;clear G D O J)|(go_at_call 67;refine(cW p v' h' A3 c3 EZ _ (a7.o.ext EY.o) Y.o a5.o a6.o).mono ?_;rintro e b4 ⟨N,_,F⟩;obtain rfl:=N HS.o;clear N;obtain⟨ab,ac,ad,a9,ba,bb⟩:=dx (cH F (cH EN.o (cH EO.o Z.o)));have ET:=zH F;clear F))
   exact Zs
end Go.Proofs.YtpieilkmmiopfaaGreatDoor
