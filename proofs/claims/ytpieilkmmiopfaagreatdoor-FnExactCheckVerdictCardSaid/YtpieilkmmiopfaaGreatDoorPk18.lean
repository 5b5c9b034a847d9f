/- Parts of the walks. Conditions: as stated with each. -/
import Derived.Test.YtpieilkmmiopfaaGreatDoorPk17
namespace Go.Proofs.YtpieilkmmiopfaaGreatDoor
open Go.RowKit Tryz
set_option linter.all false
set_option maxHeartbeats 4000000
set_option maxRecDepth 100000
variable{A A1:ax}{B B' J b c2 hi hi' k lo lo' n r s x y:Nat}{C l:bP}{Q:gZ}{T v v0 v1 v2 v3 v4 z z2:aG}{V W w w':aa}{a:Act}{cs:gg}{e:Ed}{g:Gr}{o:h_}{ops:iI}{ps:ng}{rest:List Oper}{t:dL}{xs:aL}
section
variable{c1:Nat}
def Fr.later{P}(F:Fr w lo hi P)(h:ag w w')(D:hi<=(w:Nat)):Fr w' lo w' P:=(F.ext h D).x (ae _) (aZ D h.size)
def Fr.dQ{P}(h:Fr w lo hi P)(D:b<lo):Fr (dQ w b v0 v1 v2 v3) lo hi P:=h.y fun k a _=>nZ Qu
def Fr.to{P}(h:Fr w lo hi P)(D:lo'<=lo)(F:hi<=hi'):Fr w lo' hi' P:=h.x D F
def Fv{D F}(G:Fr w lo hi fun W=>bR 4 Cl W A1 g.es)(H:Fr w lo hi fun W=>aO W D (bD g.i))(I:Fr w lo hi fun W=>aO W F (bD g.o)):Fr w lo hi fun W=>jV W A1 D F g:=fun W h=>⟨G W h,H W h,I W h⟩
def ze(n:Nat)w(Z:n<=1048576):az 166 (bK n) w (xr ⟨n,[],List.range n,List.range n⟩ w):=by
 have H:=aH w (.cells cw 54) rfl;have O:=(al w w).alloc (ae _) (.cells cw 54);go_enter func166,ntmps166
 go_upto_region 1 with(fail)
 generalize w.alloc _=W at O H ⊢;have ab:(w:Nat)<W:=(bk.1 H).1;have⟨U,am,Y⟩:=er O H ab;go_wp2_with fail
 refine(qu n _ Z).x ?_;rintro e a6 ⟨u1,rfl,I,T⟩;obtain⟨A1,c1,rfl,-⟩:=I.p;rw[dX]at I ⊢;have⟨an,G⟩:=bJ (I.fr T.size) T;go_wp2_with fail
 refine(qu n _ Z).x ?_;rintro e ac ⟨u2,rfl,J,F⟩;obtain⟨h,c2,rfl,-⟩:=J.p;rw[dX]at J ⊢;have⟨ao,ad⟩:=bJ (J.fr F.size) F;have D:=ai (ai am G) F;have⟨a0,a1,a2,a3⟩:=aB D;have⟨f0,f1,f2,f3⟩:=cN D;have y:=cP (v0:=.int .i64 n) (v1:=dE) (v2:=.slice A1 n c1) (v3:=.slice h n c2) D;refine O2 fun y0 y1 y2 y3=>?_
 have ah:=zH (bY ((aT U G).t (F.x ((aT U G).size))) (ae _) (zI n) (.slice none 0 0) (.slice A1 n c1) (.slice h n c2));go_wp2;refine aI (v:=.agg #[n,dE,.slice A1 n c1,.slice h n c2]) (by simp[results,results166,go_sem, *]) rfl ⟨none,0,A1,c1,h,c2,?_,?_,ah⟩
 .rw[show(List.range n).length=n from fK ..];rfl
 .have a5:=G.size;have a4:=Y.o;have ap:=(an.later ad (ae _)).dQ (v0:=.int .i64 n) (v1:=dE) (v2:=.slice A1 n c1) (v3:=.slice h n c2) Y;have av:=ao.dQ (v0:=.int .i64 n) (v1:=dE) (v2:=.slice A1 n c1) (v3:=.slice h n c2) (b:=w.heap.size) Qu;have D:(ac:Nat)=(dQ ac w (zI n) (.slice none 0 0) (.slice A1 n c1) (.slice h n c2)):=eK.q;exact Fv (Fr.all fun _=>ay rfl) (ap.to Qu (gp D)) (av.to Qu (gp D))
def zfX{E}{D}(I:bA W E (zj e A1 c1 D c2) 155)(G:lo<=E)(H:E<hi)(f1:Fr W lo hi fun V=>aO V A1 (bD e.i))(f2:Fr W lo hi fun V=>aO V D (bD e.o)):Fr W lo hi fun V=>bR 4 Cl V (some ⟨E,0,none⟩) [e]:=fun V F=>by
 refine au ⟨E,0,rfl,fun k x h=>?_⟩
 match k,h with
 |0,h=>
  simp at h;subst h;refine⟨_,fun j y J=>?_,A1,c1,D,c2,rfl,f1 V F,f2 V F⟩;rw[show 0+0*4+j=j by omega,bB ((F E G H).t I) j];exact J
 |k+1,h=>simp at h
def ki(h:bA W b cs 3)(e:cs.toList=xs.map (Value.int .i64)):aO W (some ⟨b,0,none⟩) xs:=au ⟨b,0,rfl,fun k x D=>by rw[jU,bB h k,e,bI,D];rfl⟩
def zf(h:bA W b cs 3)(e:cs.toList=xs.map (Value.int .i64))(D:lo<=b)(F:b<hi):Fr W lo hi fun V=>aO V (some ⟨b,0,none⟩) xs:=fun V G=>ki ((G b D F).t h) e
def Fw k v s w(hl:dI ⟨k,v,s.toList.isEmpty⟩=true):az 123 (cY (dN k v s)) w (xr (fv ⟨k,v,s.toList.isEmpty⟩) w):=by
 refine Ox fun hl hB hq hr he=>?_
 by_cases h1:k=1
 .subst h1;obtain⟨m,rfl⟩:∃m:Nat,v=(m:Int):=⟨v.toNat,S7⟩;have dT:m<=12:=S7;rw[show fv ⟨1,(m:Int),true⟩=⟨m,[],List.range m,List.range m⟩ from rfl];clear hl;go_enter func123,ntmps123
  go_upto_region 1 with(fail)
  generalize (w.alloc _).alloc _=W at hB hq hr ⊢;obtain⟨a5,c1,c2⟩:=aD hq;have⟨bb,HR⟩:=bJ hB hr;clear hB hq hr;go_wp2_with (go_at_call 166;refine(ze m _ Qu).x ?_;rintro e w2 ⟨A1,d1,A2,d2,A3,d3,rfl,a0,D⟩;have hz:=ai HR D;have⟨bv,bz,b0,b1⟩:=aB hz;have⟨f0,f1,f2,f3⟩:=cN hz;have HZ:=zH hz;have HF:=zH a0;have a2:=zH (aT bb D);have dq:=zH D.size;clear hz a0 D)
  refine Mq fun y y0 y1 y2 y3=>?_
  refine aI (v:=.agg #[m,.slice A1 0 d1,.slice A2 m d2,.slice A3 m d3]) Ux rfl ⟨A1,d1,A2,d2,A3,d3,by rw[fK];rfl,?_,bY a2 (b:=(w:Nat)+1) Qu _ _ _ _⟩;exact Y7
 by_cases h2:k=2
 .subst h2;rw[show fv ⟨2,v,true⟩=⟨2,[],[0,1],[1,0]⟩ from rfl];clear hl;go_enter func123,ntmps123
  go_upto_region 1 with(fail)
  generalize (w.alloc _).alloc _=W at hB hq hr ⊢;obtain⟨a5,c1,c2⟩:=aD hq;have s0:=(bk.1 hr).1;have b6:=(hB.alloc hB.size (.cells kZ 3)).alloc (by have:=hB.size;simp;omega) (.cells mu 3);have cb:=(bO (W.alloc (.cells kZ 3)) (.cells mu 3) (k:=W.heap.size) Qt).t (aH W _ rfl);have cc:=aH (W.alloc (.cells kZ 3)) (.cells mu 3) (n:=(W:Nat)+1) Qt;have hz:=(bO (W.alloc (.cells kZ 3)) (.cells mu 3) (k:=(w:Nat)+1) QW).t ((bO W (.cells kZ 3) s0).t hr);have Nx:(W:Nat)+2=((W.alloc (.cells kZ 3)).alloc (.cells mu 3)):=Qt;clear hB hq hr;have⟨bv,bz,b0,b1⟩:=aB hz;have⟨f0,f1,f2,f3⟩:=cN hz;have y:=cP (v0:=.int .i64 2) (v1:=dE) (v2:=.slice (bH W) 2 2) (v3:=.slice (some ⟨(W:Nat)+1,0,none⟩) 2 2) hz;have⟨y0,y1,y2,y3⟩:=aB y;unfold dQ at y0 y1 y2 y3;have⟨cq,HF,Nw,Nv⟩:=gG (bY b6 (b:=(w:Nat)+1) Qu (zI 2) (.slice none 0 0) (.slice (bH W) 2 2) (.slice (some ⟨(W:Nat)+1,0,none⟩) 2 2)) (Fv (g:=⟨2,[],[0,1],[1,0]⟩) (A1:=none) (Fr.all fun _=>ay rfl) (zf (xs:=bD [0,1]) cb rfl (ae _) (Qu:(W:Nat)<W+2)) (zf (xs:=bD [1,0]) cc rfl Qu Qu)) Nx s0;clear y hz cb cc b6 Nx s0;go_wp2;refine aI (v:=.agg #[.int .i64 2,dE,.slice (bH W) 2 2,.slice (some ⟨(W:Nat)+1,0,none⟩) 2 2]) Ux rfl ⟨none,0,_,2,_,2,rfl,?_,cq⟩;exact Yf
 .have⟨a,a9⟩:=aR (pC ⟨k,v,true⟩);have⟨b,D⟩:=aR (sC ⟨k,v,true⟩);have a7:3<=k/\k<=14:=by
   have:=hl;rw[<-zbZ]at this;unfold Ç at this;simp only[uN,lp,aj h1,aj h2]at this;by_cases b5:eU k 3 14=true
   .simpa[eU]using b5
   .rw[aj b5]at this;cases this
  have bq:eU k 3 14=true:=by simpa[eU]using a7
  have b7:gwI k=(a:Nat):=by have:=(zea hl).1;unfold Ä at this;simp only[uN,lp,aj h1,aj h2,ak bq]at this;rw[a9,this]
  have b8:gwO k=(b:Nat):=by have:=(zea hl).2;unfold Ã at this;simp only[uN,lp,aj h1,aj h2,ak bq]at this;rw[D,this]
  have br:=tK hl;have dO:a<=12:=by rw[a9];exact br.1
  have Gg:b<=12:=by rw[D];exact br.2
  have cz:=zH (show fv ⟨k,v,true⟩=⟨a+b,[⟨k,v,List.range a,dd a b⟩],List.range a,dd a b⟩ by unfold fv dd;rw[aj h1,aj h2,a9,D])
  have cA:=zH (fun(W:aa)=>(by have:=jt k W a7.1 a7.2;rw[b7,b8]at this;exact this:az 167 (bK k) W fun e w'=>e=.returned (.agg (iL a b))/\ag W w'));have d5:(k==1)=false:=Rp;have n2:(k==2)=false:=Rk;have d4:IntKind.i64.wrap ((a:Int)+b)=((a+b:Nat):Int):=Rt;clear b7 b8 a9 D br bq a7 hl h1 h2;go_enter func123,ntmps123
  go_upto_region 1 with(fail)
  generalize (w.alloc _).alloc _=W at hB hq hr ⊢;obtain⟨a5,c1,c2⟩:=aD hq;have⟨bb,HR⟩:=bJ hB hr;clear hB hq hr;go_upto_region 7 with(go_at_call 167;refine(cA.o _).x ?_;rintro e w2 ⟨rfl,D⟩;have hz:=ai HR D;have an:=ar D a5;have I:=ar D c1;have HZ:=zH hz;have a2:=zH (aT bb D);clear hz D)
  have bu:=aH w2 (.cells (iL a b) 207) rfl;have bh:=a2.alloc a2.size (.cells (iL a b) 207);have a8:=ai HZ (aw w2 (.cells (iL a b) 207));have d0:=ar (aw w2 (.cells (iL a b) 207)) an;have d1:=ar (aw w2 (.cells (iL a b) 207)) I;generalize w2.alloc _=ah at bu bh a8 d0 d1 ⊢;obtain⟨b4,a6,-,-⟩:=dD bu;have⟨cj,cB⟩:=bJ bh a8;have ce:(w:Nat)+1<ah:=(bk.1 a8).1;have b2:=zH ce;clear a5 c1 c2 an I bu bh a8 ce;have ap:=aQ b4 (aQ a6 (aQ d0 d1));clear b4 a6 d0 d1;go_cut [4,5] from 21 (fun dc dl V=>∃Y I Z ab,dc=.slice Y a I/\dl=.slice Z b ab/\Fr V ah V (fun T=>aO T Y (bD (List.range a)))/\Fr V ah V (fun T=>aO T Z (bD (dd a b)))/\ag ah V)
  case first=>
   go_region_held3 (fun V=>af V w2 0 (zI (a:Nat))/\af V w2 1 (zI (b:Nat))/\af V w 0 (zI k)/\af V w 1 (zI v))
    (first|exact ap|exact gS GY ap|exact gS h ap)
    ((first|(go_at_call 62;refine(qu a _ Qu).x ?_;rintro e a1 ⟨u1,rfl,ac,FR⟩;obtain⟨Y,I,rfl,-⟩:=ac.p;rw[dX]at ac ⊢;have cK:=zH (ac.fr FR.size);have GY:=zH ((aC ah).t FR);clear ac FR)|(go_at_call 66;refine(sJ a b _ Qu Qu).x ?_;rintro e am ⟨u2,rfl,ad,Gg⟩;obtain⟨Z,ab,rfl,-⟩:=ad.p;rw[aS,c_]at ad ⊢;have cO:=zH (ad.fr Gg.size);have ao:=zH Gg;have h:=zH (aT GY Gg);clear ad Gg)))
   all_goals
    go_wp2_with fail
    go_meet
    exact⟨Y,I,Z,ab,rfl,rfl,(cK.later ao (ae _)).to (ae _) (ae _),cO.to GY.size (ae _),h⟩
  case rest=>
   obtain⟨Y,I,Z,ab,rfl,rfl,bo,bp,av⟩:=hcut;have⟨ct,cu,ck,cF⟩:=gG bo bp (aT cj av) (ai cB av);have F:=gS av ap;have cI:=zH av.size;have b9:=bo.D;have ca:=bp.D;have⟨co,cp⟩:=bJ (fun(V:aa) (bi:ag wc V)=>(by have:=qg Y I (bD (List.range a)) V (b9.ext bi) (by rw[aS,fK];omega);rw[aS,fK]at this;exact this:az 71 (bZ Y a I) V fun e w'=>∃u,e=.returned u/\aE w' V u (bD (List.range a))/\ag V w')) (fun(V:aa) (bi:ag wc V)=>(by have:=qg Z ab (bD (dd a b)) V (ca.ext bi) Sa;rw[aS,c_]at this;exact this:az 71 (bZ Z b ab) V fun e w'=>∃u,e=.returned u/\aE w' V u (bD (dd a b))/\ag V w'));clear bo bp av b9 ca ap;have⟨a3,a4⟩:=bJ (show w2.heap.size≠(w:Nat)+1 by have:=(bk.1 HZ).1;omega) (Qu:w.heap.size≠(w:Nat)+1);have bd:=zH (show ∀(X:aa) (E:Nat) (J:ax) (G:Nat) (O:ax) (H:Nat),ag wc X->bA X ((w:Nat)+1) cw 54->
     bA X E (wW k v Y a I Z b ab) 155->(wc:Nat)<=E->Fr X wc X (fun T=>aO T J (bD (List.range a)))->Fr X wc X (fun T=>aO T O (bD (dd a b)))->
     ∃A1 c1 A2 c2 A3 an,(dQ X ((w:Nat)+1) (zI ((a:Int)+(b:Int))) (.slice (bH E) 1 1) (.slice J a G) (.slice O b H)).heap[(w:Nat)+1]?=some (.cells #[.int .i64 ((a:Int)+(b:Int)),.slice A1 1 c1,.slice A2 a c2,.slice A3 b an] 54 (0,0))/\
      Fr (dQ X ((w:Nat)+1) (zI ((a:Int)+(b:Int))) (.slice (bH E) 1 1) (.slice J a G) (.slice O b H)) ah (dQ X ((w:Nat)+1) (zI ((a:Int)+(b:Int))) (.slice (bH E) 1 1) (.slice J a G) (.slice O b H)) (fun T=>jV T A1 A2 A3 ⟨a+b,[⟨k,v,List.range a,dd a b⟩],List.range a,dd a b⟩)/\
      Below w w (dQ X ((w:Nat)+1) (zI ((a:Int)+(b:Int))) (.slice (bH E) 1 1) (.slice J a G) (.slice O b H)) from fun X E J G O H bn cW U dr c0 c3=>by
    have cV:=(bk.1 U).1;have d6:=b2.o;have ci:=cI.o;have a6:Fr X ah X (fun V=>bR 4 Cl V (some ⟨E,0,none⟩) [⟨k,v,List.range a,dd a b⟩]):=
     zfX (e:=⟨k,v,List.range a,dd a b⟩) (c1:=I) (c2:=ab) (by rw[show(List.range a).length=a from fK ..,show(dd a b).length=b from c_ ..];exact U) Qu cV (ct.later bn (ae _)) (cu.later bn (ae _))
    have g:=Fv (g:=⟨a+b,[⟨k,v,List.range a,dd a b⟩],List.range a,dd a b⟩) a6 (c0.to ci (ae _)) (c3.to ci (ae _));refine⟨_,1,J,G,O,H,cP cW,?_,bY (aT ck bn) Qu _ _ _ _⟩;rw[eK];exact g.dQ Qu)
   go_upto_region 8 with(fail)
   go_cut [] from 29 (fun V=>∃A1 c1 A2 c2 A3 an,bA V ((w:Nat)+1) #[.int .i64 ((a:Int)+(b:Int)),.slice A1 1 c1,.slice A2 a c2,.slice A3 b an] 54/\Fr V ah V (fun T=>jV T A1 A2 A3 ⟨a+b,[⟨k,v,List.range a,dd a b⟩],List.range a,dd a b⟩)/\ag w V)
   case first=>
    go_region_held3 (fun V=>af V w2 0 (zI (a:Nat))/\af V w2 1 (zI (b:Nat))/\af V w 0 (zI k)/\af V w 1 (zI v))
     (first|with_reducible exact F|with_reducible exact gS (aC _) F|with_reducible exact gS (aw _ _).drew F|with_reducible exact gS GY.o F|with_reducible exact gS (GY.o.alloc GY.o.size _) F|with_reducible exact gS h.o F|with_reducible exact gS (h.o.alloc h.o.size _) F|with_reducible exact⟨dH a3.o (gS h.o F).1,dH a3.o (gS h.o F).2.1,dH a4.o (gS h.o F).2.2.1,dH a4.o (gS h.o F).2.2.2⟩|with_reducible exact⟨dH a3.o (gS (h.o.alloc h.o.size _) F).1,dH a3.o (gS (h.o.alloc h.o.size _) F).2.1,dH a4.o (gS (h.o.alloc h.o.size _) F).2.2.1,dH a4.o (gS (h.o.alloc h.o.size _) F).2.2.2⟩)
     ((first|(go_at_call 71;refine(co.o _ VL).x ?_;rintro e a1 ⟨u1,rfl,ac,FR⟩;obtain⟨J,G,rfl,-⟩:=ac.p;have GY:Hd (ag wc a1):=VZ;have be:=zH ((ac.fr FR.size).to (lo':=wc.heap.size) Qt (ae _));(first|(have U:=ai (ky wc _) FR;have cr:=zH U;clear U)|skip);rw[aS,fK]at ac ⊢;clear ac FR)|(go_at_call 71;refine(cp.o _ VR).x ?_;rintro e am ⟨u2,rfl,ad,Gg⟩;obtain⟨O,H,rfl,-⟩:=ad.p;have h:Hd (ag wc am):=V7;have ao:Hd (ag a1 am):=VX;have bg:=zH ((ad.fr Gg.size).to (lo':=wc.heap.size) (by have:=GY.size;(try simp)<;>omega) (ae _));(first|(have U:=ai cr Gg;have bc:=zH U;clear U)|(have U:=ai (aH a1 _ rfl) Gg;have bc:=zH U;clear U)|skip);have hz:=ai cF h;have⟨bv,bz,b0,b1⟩:=aB hz;have⟨f0,f1,f2,f3⟩:=cN hz;have ba:=ai hz (aw am (.cells (wW k v Y a I Z b ab) 155));have⟨c4,c5,p2,c6⟩:=aB ba;have⟨c7,c8,c9,db⟩:=cN ba;have b3:=zH hz;have cR:=zH ba;rw[aS,c_]at ad ⊢;clear hz ba ad Gg)))
    all_goals
     clear c4 c5 p2 c6 c7 c8 c9 db bv bz b0 b1 f0 f1 f2 f3;go_wp2_with fail
     go_meet
     first
      |with_reducible exact bd.o am wc J G O H h.o b3.o bc.o (ae _) (be.o.later ao.o (ae _)) bg.o
      |with_reducible exact bd.o am a1 J G O H h.o b3.o bc.o GY.o.size (be.o.later ao.o (ae _)) bg.o
      |with_reducible exact bd.o _ am.heap.size J G O H (h.o.alloc h.o.size _) cR.o (aH am _ rfl) h.o.size ((be.o.later ao.o (ae _)).later (aw _ _) (ae _)) (bg.o.later (aw _ _) (ae _))
   case rest=>
    obtain⟨A1,G,A2,H,A3,ch,hq,a0,D⟩:=hcut;have⟨y0,y1,y2,y3⟩:=aB hq;have⟨HF,cn⟩:=bJ a0 D;clear hq a0 D;go_wp2;refine aI (v:=.agg #[.int .i64 ((a:Int)+(b:Int)),.slice A1 1 G,.slice A2 a H,.slice A3 b ch]) Ux rfl ?_;rw[cz.o];refine⟨A1,G,A2,H,A3,ch,?_,HF.to (by have:=b2.o;omega) (ae _),cn⟩;exact XK
end
def AN(w:aa)(B h:Nat)(P:j4):Prop:=∃lo hi,B<=lo/\hi<=(w:Nat)/\(h<lo∨hi<=h)/\Fr w lo hi P
def AN.zfM{P}(h:AN w B J P)(I:b<B):AN (dQ w b v0 v1 v2 v3) B J P:=by obtain⟨lo,hi,D,F,G,H⟩:=h;exact⟨lo,hi,D,by rw[eK];exact F,G,H.y fun k a b=>nZ Qu⟩
def AN.mk{P}(h:Fr w lo hi P)(D:B<=lo)(F:hi<=(w:Nat))(G:J<lo∨hi<=J):AN w B J P:=⟨lo,hi,D,F,G,h⟩
def AN.mk4{P}(h:Fr w lo hi P)(D:B<=lo)(F:hi<=(w:Nat))(G:J<lo∨hi<=J):AN (dQ w J v0 v1 v2 v3) B J P:=⟨lo,hi,D,by rw[eK];exact F,G,h.y fun k a b=>nZ Qu⟩
def AN.late{P}(D:AN w B J P)(h:b_ J (J+1) w w')(O:B<=J):AN w' B J P:=by obtain⟨lo,hi,F,G,H,I⟩:=D;exact⟨lo,hi,F,aZ G h.size,H,I.y fun k a b=>h.block k Qu Qu⟩
def AN.all{P}(h:AN w B J P):Fr w B w P:=by obtain⟨lo,hi,D,F,H,G⟩:=h;exact G.to D F
def b_.À{a b c}(h:b_ lo hi a b)(k:Below a b c):b_ lo hi a c:=⟨k.os.t h.os,k.tape.t h.tape,k.output.t h.output,aZ h.size k.size,fun i D F=>(k.block i D).t (h.block i D F)⟩
def zem{H}{F G}{E}{xs:List H}(h:bw F s E w B v xs)(O:bA w J cs G)(I:F≠G):v.ownBlock≠some J:=by
 obtain⟨cs,h⟩:=h;rcases h.η.2 with⟨rfl,_⟩|⟨g,ε,T,rfl,_,D,_⟩
 .simp[Value.ownBlock]
 .intro e;simp only[Value.ownBlock,dW]at e;rw[e,O]at D;simp only[dW,Obj.cells.injEq]at D;exact I D.2.1.q
def ziw(g:Gr)(w:aa)(e:Ending)(w':aa):Prop:=∃A1 c1 h c2 D F,e=.returned (.agg (bj g A1 c1 h c2 D F))/\
 bw 155 4 Cl w' w (.slice A1 g.es c1) g.es/\Fr w' w w' (fun W=>aO W h (bD g.i))/\Fr w' w w' (fun W=>aO W D (bD g.o))/\ag w w'
def ziw.gr{e}(h:ziw g w e w'):xr g w e w':=by obtain⟨A1,c1,F,c2,G,H,I,J,O,T,D⟩:=h;exact⟨A1,c1,F,c2,G,H,I,Fv (J.fr (fun _ _ _ _ U h=>h.ext U) D.size) O T,D⟩
def zcA(t:aL)(f:gN)(g:Gr):Prop:=∀x,g.On x->t[x]?=some ((f x:Nat):Int)
def xX{t}{f}(h:∀x∈l,t[x]?=some ((f x:Nat):Int)):nA t (bD l)=bD (l.map f):=by
 unfold nA bD;rw[nr,nr];refine kB fun x D=>?_
 simp[h x D]
def Du{t:aL}{f:gN}(h:∀x∈l,t[x]?=some ((f x:Nat):Int)):∀i∈bD l,0<=i/\i<t.length:=fun i hi=>by obtain⟨x,D,rfl⟩:=cH.1 hi;have:=(bG.1 (h x D)).1;omega
def tk t f l A ε n h D w(H:n=t.length)(G:aO w A t)(F:aO w h (bD l))(I:t.length<=1048576)(hm:l.length<=1048576)(hl:∀x∈l,t[x]?=some ((f x:Nat):Int)):az 164 #[.slice h l D,.slice A n ε] w fun e w'=>∃A3 c3,e=.returned (.slice A3 l c3)/\Fr w' w w' (fun W=>aO W A3 (bD (l.map f)))/\ag w w':=by
 subst H;have:=zez t A ε (bD l) h D w G F I RZ (Du hl);refine Ng fun this w' hb A3 c3 hu=>?_
 refine⟨A3,c3,QV,hu.fr hb.size,hb⟩
def AS g(J:Nat)t f A1 A2 A3 T c1 c2 c3 Y w(hG:jV w A1 A2 A3 g)(hT:aO w T t)(hl:zcA t f g)(bp:t.length<=65536)(b2:g.w<=65536)(b0:J<=65536)(U:g.es.length<=65536)(hi:g.i.length<=65536)(ho:g.o.length<=65536)(KI:∀e∈g.es,e.i.length<=65536/\e.o.length<=65536):az 205 #[.agg (bj g A1 c1 A2 c2 A3 c3),J,.slice T t Y] w (ziw (g.map J f) w):=by
 obtain⟨gw,es,gi,go⟩:=g;refine PR fun LI LO hB hq hr HG HT KQ KM KB KV KA IJ KP=>?_;clear hT bp hG hl hi ho KI
 go_enter func205,ntmps205
 go_upto_region 1 with(fail)
 generalize (w.alloc _).alloc _=W at hB hq hr HG HT ⊢;have⟨x0,x1,x2,x3⟩:=aB hq;obtain⟨an,bi,bh,GX,av,a0⟩:=ny hB hr hq (show(w:Nat)+2<=W from(bk.1 hr).1) (fun(V:aa) (hV:ag W V)=>tk t f gi T Y t A2 c2 V rfl (HT.ext hV) (HG.i.ext hV) KA KB LI) (fun(V:aa) (hV:ag W V)=>tk t f go T Y t A3 c3 V rfl (HT.ext hV) (HG.o.o.ext hV) KA KV LO);have S0:=aQ x2 x3;clear hB hr hq x0 x1 x2 x3 LI LO;go_cut [7] from 10 (fun bq V=>∃Z D H F I,bq=.pointer (bH Z)/\bA V Z #[.int .i64 J,.slice none 0 0,.slice D gi H,.slice F go I] 54/\(W:Nat)<=Z/\AN V W Z (fun am=>aO am D (bD (gi.map f)))/\AN V W Z (fun am=>aO am F (bD (go.map f)))/\ag W V)
 case first=>
  go_region_held3 (fun V=>af V w 2 (.slice A2 gi c2)/\af V w 3 (.slice A3 go c3))
   (first|with_reducible exact S0|with_reducible exact j6 (aC _) S0|with_reducible exact j6 (aw _ _).drew S0|with_reducible exact j6 GY.o S0|with_reducible exact j6 (GY.o.alloc GY.o.size _) S0|with_reducible exact j6 Hk.o S0|with_reducible exact j6 (Hk.o.alloc Hk.o.size _) S0|with_reducible exact j6 (bY Hk.o (ae _) _ _ _ _) S0|with_reducible exact j6 (bY Hk.o GY.o.size _ _ _ _) S0)
   ((first|(go_at_call 164;refine(av.o _ VL).x ?_;rintro e w7 ⟨D,H,rfl,IB,FR⟩;have GY:Hd (ag W w7):=VZ;have Iz:=zH IB;have G5:=zH FR;clear IB FR)|(go_at_call 164;refine(a0.o _ VR).x ?_;rintro e w8 ⟨F,I,rfl,Gf,Gg⟩;have Hk:Hd (ag W w8):=V7;have KN:Hd (ag w7 w8):=VX;have Iv:=zH Gf;have bu:=zH Gg;(first|(have G:=ai (ai (ky W _) G5) Gg;have⟨a7,a8,a9,ba⟩:=aB G;have⟨f0,f1,f2,f3⟩:=cN G;have HZ:=zH G;clear G)|(have G:=ai (aH w7 _ rfl) Gg;have⟨a7,a8,a9,ba⟩:=aB G;have⟨f0,f1,f2,f3⟩:=cN G;have HZ:=zH G;clear G)|skip);clear Gf Gg)))
  all_goals
   go_wp2_with fail
   go_meet
   first
    |with_reducible exact⟨w8,D,H,F,I,rfl,aH w8 _ rfl,Hk.o.size,AN.mk ((Iz.o.ext KN.o (ae _)).ext (aw _ _) KN.o.size) (ae _) (aZ KN.o.size (aw _ _).size) (au KN.o.size),AN.mk (Iv.o.ext (aw _ _) (ae _)) GY.o.size (aw _ _).size (au (ae _)),Hk.o.alloc Hk.o.size _⟩
    |with_reducible exact⟨w7,D,H,F,I,rfl,cP HZ.o,GY.o.size,AN.mk4 (Iz.o.ext KN.o (ae _)) (ae _) KN.o.size (au (ae _)),AN.mk4 Iv.o (aZ GY.o.size (aw _ _).size) (ae _) (ay Qt),bY Hk.o GY.o.size _ _ _ _⟩
    |with_reducible exact⟨W,D,H,F,I,rfl,cP HZ.o,ae _,AN.mk4 (Iz.o.ext KN.o (ae _)) (aw _ _).drew.size KN.o.size (ay Qt),AN.mk4 Iv.o GY.o.size (ae _) (ay UN),bY Hk.o (ae _) _ _ _ _⟩
 case rest=>
  obtain⟨Z,D,H,F,I,rfl,G,a1,a2,a3,ab⟩:=hcut;have⟨bd,be,ao,HZ,bn⟩:=pD a2 a3 ab a1 (ai bi ab);have a6:=(bk.1 G).1;have Kz:=zH a6;have S1:=(aB (ai bh ab)).2.1;have⟨z0,z1,z2,z3⟩:=aB G;have br:=zH (HG.ext ab);clear a2 a3 ab a1 a6 av a0 S0 HG HT;go_wp2;go_loopw [23] (fun i wr=>∃k:Nat,k<=es.length/\i=.int .i64 k/\(∃C1 m1,bA wr Z #[.int .i64 J,.slice C1 k m1,.slice D gi H,.slice F go I] 54/\bw 155 4 Cl wr wc (.slice C1 k m1) ((es.map (Ed.map f)).take k))/\b_ Z (Z+1) wc wr) (fun i _=>es.length-(intOf i).toNat)
  case atStart=>exact⟨0,aW _,rfl,⟨none,0,G,bw.nil _ _ _ _ _⟩,b_.refl _ _ _⟩
  case round=>
   obtain⟨k,b1,rfl,⟨C1,m1,ac,FT⟩,O⟩:=hrel;clear z0 z1 z2 z3 G S1;have ad:ag w wr:=(aT an ao).t (O.L Uc (aT an ao).size);have IM:=O.size;by_cases bo:k<es.length
   .have⟨e,U⟩:=aq bo;obtain⟨bv,bz,D1,d1,D2,d2,rfl,x0,x1,x2,x3,hi1,hi2⟩:=fU ((IJ.ext ad).es) U;obtain⟨L1,L2⟩:=KQ e (aU U);obtain⟨N1,N2⟩:=KM e (aU U);have Gl:=zH (by rw[du,bI,U];rfl:(es.map (Ed.map f)).take (k+1)=(es.map (Ed.map f)).take k++[e.map f]);have a4:((es.map (Ed.map f)).take k).length=k:=by rw[cQ,bs];omega
    have⟨Kx,ap,Jq,II,KS⟩:=pD a4 ad O FT ac;have b3:=(bk.1 ac).1;obtain⟨ek,ev,ei,IN⟩:=e;dsimp only at x0 x1 x2 x3 hi1 hi2 L1 L2 N1 N2;have⟨Gm,G6⟩:=bM wr (.cells (eh ek ev D1 ei d1 D2 IN d2) 155);clear U a4 FT O ac ad;go_upto_region 5 with(fail)
    generalize wr.alloc _=w2 at Gm G6 ⊢;have⟨Ia,KT,Hf⟩:=er Gm (fun(V:aa) (hV:ag wr V)=>tk t f ei T Y t D1 d1 V rfl (KP.ext (aT ap hV)) (hi1.ext hV) KA Qu L1) (fun(V:aa) (hV:ag wr V)=>tk t f IN T Y t D2 d2 V rfl (KP.ext (aT ap hV)) (hi2.ext hV) KA Qu L2);exact Z8
   .obtain rfl:k=es.length:=Qu;have⟨z0,z1,z2,z3⟩:=aB ac;have ah:=nL bn O (ay Uc);have⟨a7,a8,a9,ba⟩:=aB ah;have⟨f0,f1,f2,f3⟩:=cN ah;have y:=cP (v0:=.int .i64 J) (v1:=.slice C1 es m1) (v2:=.slice D gi H) (v3:=.slice F go I) ah;have⟨y0,y1,y2,y3⟩:=aB y;have⟨bc,Jq⟩:=bJ (bY ad (b:=(w:Nat)+1) Qu (zI J) (.slice C1 es m1) (.slice D gi H) (.slice F go I)) O;have a5:bw 155 4 Cl wr wc (.slice C1 es m1) (es.map (Ed.map f)):=Wy;have bg:=zH a5;clear y ac ah O FT a5;go_wp2;have b4:=GX.o;have bb:=HZ.o;have b5:=Kz.o;refine aI (v:=.agg (rI J C1 es m1 D gi H F go I)) (by simp[results,results205,go_sem, *]) rfl ⟨C1,m1,D,H,F,I,?_,?_,?_,?_,bc⟩
    .show Ending.returned (Value.agg #[_,Value.slice C1 _ m1,Value.slice D _ H,Value.slice F _ I])=Ending.returned (Value.agg #[_,Value.slice C1 (es.map (Ed.map f)) m1,Value.slice D (gi.map f) H,Value.slice F (go.map f) I])
     rw[bs,bs,bs];rfl
    .show bw _ _ _ _ _ (Value.slice C1 (es.map (Ed.map f)) m1) (es.map (Ed.map f))
     rw[bs];exact(((((bg.setCell (a:=⟨(w:Nat)+1,0,none⟩) (by show(w:Nat)+1<_;omega) _).setCell (a:=⟨(w:Nat)+1,1,none⟩) (by show(w:Nat)+1<_;omega) _).setCell (a:=⟨(w:Nat)+1,2,none⟩) (by show(w:Nat)+1<_;omega) _).setCell (a:=⟨(w:Nat)+1,3,none⟩) (by show(w:Nat)+1<_;omega) _).x Qu)
    .exact((bd.late Jq bb).zfM (b:=(w:Nat)+1) Qu).all.to Qu (ae _)
    .exact((be.late Jq bb).zfM (b:=(w:Nat)+1) Qu).all.to Qu (ae _)
def Ck.root{P}(h:Ck n P C)(hx:P[x]?=some y)(D:x<n):y<=x/\C.getD y 0=C.getD x 0/\(y=x->C.getD x 0=x):=by have e:P.getD x 0=y:=RL;have F:=h.le x D;have G:=h.up x D;have H:=h.Ë x D;rw[e]at F G H;exact⟨F,G,H⟩
def Ck.lt{P}(h:Ck n P C)(D:x<n):C.getD x 0<=x:=h.cls.le x D
def Dp n P C A ε x w(T:Ck n P C)(ad:aO w A (bD P))(ah:x<n)(ao:n<=1048576):az 209 #[.slice A n ε,x] w fun e w'=>e=.returned (zI (C.getD x 0:Nat))/\w=w':=by
 have D:=zH T;have⟨r,I⟩:=aR (C.getD x 0);rw[<-I];have ab:=zH I;clear T I;go_enter func209,ntmps209
 go_wp2;go_loopw [1] (fun u wr=>∃y:Nat,u=.int .i64 y/\y<n/\Hd (C.getD y 0=r)/\wr=w) (fun u _=>(intOf u).toNat)
 case atStart=>exact⟨x,rfl,ah,zH ab.q,rfl⟩
 case round=>
  obtain⟨y,rfl,J,U,rfl⟩:=hrel;obtain⟨z,h⟩:=aq (by rw[D.o.ι];exact J:y<P.length);obtain⟨b,o,rfl,H⟩:=ad.θ (k:=y) (by rw[aS,D.o.ι];exact J);have am:=H y _ (dK h);obtain⟨ac,F,G⟩:=D.root h J;have Y:=zH F;by_cases O:z=y
  .have Z:=zH (G O);subst O;clear H F G h;go_wp2;go_ret
   exact⟨rl (by rw[show r=z by rw[<-U.o,Z.o]]),rfl⟩
  .have ap:((z:Int)!=(y:Int))=true:=QW;have an:z<y:=Qu;clear H F G h O ac;go_wp2;go_roundw
   case rel=>exact⟨z,rfl,Qu,zH (by rw[Y.o,U.o]),Qz⟩
   case measure=>simp[intOf];omega
def ziq l(i x:Nat):(bD l).set i (x:Int)=bD (l.set i x):=by simp[bD,eW]
def zmm(n ε B:Nat)(A:ax)(P C:bP)(x y:Nat)(w:aa)(e:Ending)(w':aa):Prop:=
 e=.returned (.tuple #[])/\aE w' B (.slice A n ε) (bD (P.set (max (C.getD x 0) (C.getD y 0)) (min (C.getD x 0) (C.getD y 0))))/\w.grownBy w' (Value.slice A n ε).ownBlock/\(w':Nat)=w
def zir n B P C A ε x y w(D:Ck n P C)(G:aE w B (.slice A n ε) (bD P))(am:x<n)(an:y<n)(av:n<=1048576):az 207 #[.slice A n ε,x,y] w (zmm n ε B A P C x y w):=by
 obtain⟨a1,a2,e,U,-⟩:=G.p;simp only[ep]at e;obtain⟨rfl,-,-⟩:=e;have H:=zH (fun(z:Nat) (a0:z<n)=>Dp n P C A ε z w D U a0 av);obtain⟨g,rfl⟩:∃g,A=some ⟨g,0,none⟩:=by
  rcases EL G with⟨_,h,_⟩|h
  .have:=oy List.length h;rw[aS,D.ι]at this;simp at this;omega
  .exact h
 have ab:=D.lt am;have ac:=D.lt an;have ad:=D.ι;have⟨a,Y⟩:=aR (C.getD x 0);have⟨b,Z⟩:=aR (C.getD y 0);have⟨HX,HY⟩:=bJ (H x am) (H y an);unfold zmm;rw[<-Y]at HX ab ⊢;rw[<-Z]at HY ac ⊢;have O:max a b<n:=Qu;have⟨q,ah⟩:=aq (Qu:max a b<P.length);have F:=G;unfold aE at F;rw[aS,ad]at F;have I:af w g (max a b) (zI (q:Nat)):=by rw[F.C _ Qu,bI,dK ah];rfl
 have J:=F.g (max a b);have T:=F.j (max a b) (zI ((min a b:Nat):Int));rw[<-eW,ziq]at T;have HS:=zH T;clear H D G U F T ah Y Z ab ac;have HE:=zH (show ∀M m,max a b=M->min a b=m->aE (w.setCell ⟨g,M,none⟩ (zI (m:Nat))) B (.slice (bH g) n ε) (bD (P.set (max a b) (min a b)))/\w.grownBy (w.setCell ⟨g,M,none⟩ (zI (m:Nat))) (Value.slice (bH g) n ε).ownBlock/\(w.setCell ⟨g,M,none⟩ (zI (m:Nat)):Nat)=w from fun M m ao ap=>by subst ao ap;refine⟨?_,HS.2,Qt⟩;unfold aE;rw[aS,iW,ad];exact HS.1)
 rcases An a b with h|h|h
 .rw[show max a b=b by omega]at I J O;have HF:=zH (HE b a Qu Qu);exact Zc
 .rw[show max a b=b by omega]at I J O;have HF:=zH (HE b a Qu Qu);clear HE HS;subst h;go_enter func207,ntmps207
  refine MY ?_;go_end0
  exact⟨rfl,HF⟩
 .rw[show max a b=a by omega]at I J O;have HF:=zH (HE a b Qu Qu);exact Zc
def ec(g:Gr):List (List Nat):=[g.i,g.o]++g.es.flatMap fun e=>[e.i,e.o]
def yA g x:(∃l∈ec g,x∈l)↔g.On x:=by
 unfold ec Gr.On;constructor
 .rintro⟨l,G,F⟩;rcases dP.1 G with h|h
  .simp at h;rcases h with rfl|rfl
   .exact ay F
   .exact au (ay F)
  .obtain⟨e,D,h⟩:=lh.1 h;simp at h;rcases h with rfl|rfl
   .exact au (au ⟨e,D,ay F⟩)
   .exact au (au ⟨e,D,au F⟩)
 .rintro(h|h|⟨e,D,h|h⟩)
  .exact⟨g.i,Qt,h⟩
  .exact⟨g.o,Qt,h⟩
  .exact⟨e.i,kE _ (lh.2 ⟨e,D,Qt⟩),h⟩
  .exact⟨e.o,kE _ (lh.2 ⟨e,D,Qt⟩),h⟩
def zfp g A1 A2 A3 c1 c2 c3 v1 v2 lo hi w0 w(h:List (List Nat)->World->Prop)(hG:jV w0 A1 A2 A3 g)(ap:g.es.length<=1048576)(Gb:∀l∈ec g,l.length<=65536)(hI:∀d V D,h d V->ag V D->h d D)(hB:ag w0 w)(I2:(w0:Nat)<=lo)(Mb:hi<=(w:Nat))(hs:h [] w)(H:∀(d:List (List Nat)) (l:bP) (A:ax) (ε:Nat) (V:aa),h d V->aO w0 A (bD l)->ag w0 V->(∀x∈l,g.On x)->l.length<=65536->az 208 #[.slice A l ε,v1,v2] V fun e D=>e=.returned (.tuple #[])/\h (d++[l]) D/\b_ lo hi V D):az 169 #[.agg (bj g A1 c1 A2 c2 A3 c3),.func (.func 208) #[] #[v1,v2]] w fun e w'=>e=.returned (.tuple #[])/\h (ec g) w'/\b_ lo hi w w':=by
 obtain⟨gw,es,gi,go⟩:=g;refine Qb fun HH HI IJ Ih Ig hq Gq HB LI LO LE JJ Mf L3 L8=>?_;clear hI hB hs hG Gb H
 go_enter func169,ntmps169
 go_upto_region 1 with(fail)
 generalize w.alloc _=W at hq Ig Gq ⊢;have⟨x0,x1,x2,x3⟩:=aB hq;have⟨L_,Y,ab⟩:=er (HH [] gi A2 c2 W Ig IJ.i (Ih.o _ Gq) LI Mf) hq Gq;clear Ig hq Gq;go_wp2_with fail
 refine L_.x ?_;rintro e ad ⟨rfl,hi2,G⟩;have F:=nL Y G (au Mb);have⟨ah,am,an,ao⟩:=aB F;have J:=zH (ab.t G);have⟨Me,Z⟩:=bJ (HH [gi] go A3 c3 ad hi2 IJ.o.o (Ih.o _ J.o) LO L3) F;clear x0 x1 x2 x3 hi2 G F L_;go_wp2_with fail
 refine Me.x ?_;rintro e av ⟨rfl,O,I⟩;have T:=nL Z I (au Mb);have⟨z0,z1,z2,z3⟩:=aB T;have⟨ac,U⟩:=bJ (J.o.t I) O;clear ah am an ao O I T Me;go_wp2;go_loopw [17] (fun i wr=>∃k:Nat,k<=es.length/\i=.int .i64 k/\h ([gi,go]++(es.take k).flatMap fun e=>[e.i,e.o]) wr/\b_ lo hi w wr) (fun i _=>es.length-(intOf i).toNat)
 case atStart=>exact⟨0,aW _,rfl,U,ac⟩
 case round=>
  exact Z3
def FJ g A1 A2 A3 c1 c2 c3 v1 v2 v3 v4 lo hi w0 w(h:List (List Nat)->World->Prop)(hG:jV w0 A1 A2 A3 g)(ap:g.es.length<=1048576)(Gb:∀l∈ec g,l.length<=65536)(hI:∀d V D,h d V->ag V D->h d D)(hB:ag w0 w)(I2:(w0:Nat)<=lo)(Mb:hi<=(w:Nat))(hs:h [] w)(H:∀(d:List (List Nat)) (l:bP) (A:ax) (ε:Nat) (V:aa),h d V->aO w0 A (bD l)->ag w0 V->(∀x∈l,g.On x)->l.length<=65536->az 170 #[.slice A l ε,v1,v2,v3,v4] V fun e D=>e=.returned (.tuple #[])/\h (d++[l]) D/\b_ lo hi V D):az 169 #[.agg (bj g A1 c1 A2 c2 A3 c3),.func (.func 170) #[] #[v1,v2,v3,v4]] w fun e w'=>e=.returned (.tuple #[])/\h (ec g) w'/\b_ lo hi w w':=by
 obtain⟨gw,es,gi,go⟩:=g;refine Qb fun HH HI IJ Ih Ig hq Gq HB LI LO LE JJ Mf L3 L8=>?_;clear hI hB hs hG Gb H
 go_enter func169,ntmps169
 go_upto_region 1 with(fail)
 generalize w.alloc _=W at hq Ig Gq ⊢;have⟨x0,x1,x2,x3⟩:=aB hq;have⟨L_,Y,ab⟩:=er (HH [] gi A2 c2 W Ig IJ.i (Ih.o _ Gq) LI Mf) hq Gq;clear Ig hq Gq;go_wp2_with fail
 refine L_.x ?_;rintro e ad ⟨rfl,hi2,G⟩;have F:=nL Y G (au Mb);have⟨ah,am,an,ao⟩:=aB F;have J:=zH (ab.t G);have⟨Me,Z⟩:=bJ (HH [gi] go A3 c3 ad hi2 IJ.o.o (Ih.o _ J.o) LO L3) F;clear x0 x1 x2 x3 hi2 G F L_;go_wp2_with fail
 refine Me.x ?_;rintro e av ⟨rfl,O,I⟩;have T:=nL Z I (au Mb);have⟨z0,z1,z2,z3⟩:=aB T;have⟨ac,U⟩:=bJ (J.o.t I) O;clear ah am an ao O I T Me;go_wp2;go_loopw [17] (fun i wr=>∃k:Nat,k<=es.length/\i=.int .i64 k/\h ([gi,go]++(es.take k).flatMap fun e=>[e.i,e.o]) wr/\b_ lo hi w wr) (fun i _=>es.length-(intOf i).toNat)
 case atStart=>exact⟨0,aW _,rfl,U,ac⟩
 case round=>
  exact Z3
def Ds:(prog.info? 4).map (fun i=>(i.zero,i.size,i.bytes))=some (some (.bool false),1,1):=QT
def pH(C:bP)(d:List (List Nat))(r:Nat):Bool:=d.any fun l=>l.any fun x=>decide (C.getD x 0=r)
def mP(n:Nat)(C:bP)(d:List (List Nat)):List Bool:=(List.range n).map (pH C d)
def lK n C d:(mP n C d).length=n:=by simp[mP]
def nD C d(h:r<n):(mP n C d)[r]?=some (pH C d r):=by simp[mP,h]
def AQ n C:mP n C []=List.replicate n false:=by
 apply gk;intro k;by_cases h:k<n
 .rw[nD _ _ h,fI,ak h];rfl
 .rw[eP (by rw[lK];omega),fI,aj h]
def zgF{d}(h:l[k]?=some x)r:pH C (d++[l.take (k+1)]) r=(pH C (d++[l.take k]) r||decide (C.getD x 0=r)):=by unfold pH;rw[CY,CY,List.any_cons,List.any_cons,List.any_nil,Bool.or_false,Bool.or_false,du,h,CY];simp[Bool.or_assoc]
def zaj{d}(D:l[k]?=some x)(F:C.getD x 0<n):(mP n C (d++[l.take k])).set (C.getD x 0) true=mP n C (d++[l.take (k+1)]):=by
 apply gk;intro r;by_cases h:r<n
 .rw[nD _ _ h,zgF D];by_cases e:C.getD x 0=r
  .subst e;rw[gl (by rw[lK];exact h)];simp
  .rw[gI e,nD _ _ h];simp only[e,decide_false,Bool.or_false]
 .rw[eP (by rw[iW,lK];omega),eP (by rw[lK];omega)]
structure UI(n B bu bc ug uc cp:Nat)(Ac:ax)(P C:bP)(d:List (List Nat))(V:aa):Prop where
 hu:bA V bu (bZ (bH ug) n uc) 209
 hc:bA V bc (bZ Ac n cp) 258
 ci:aE V B (.slice Ac n cp) (bD P)
 us:V.ownsRow B 4 1 (.slice (bH ug) n uc) n ((mP n C d).map Value.bool)
def UI.ext{H ug O I}{F}{P}{d}{G}(D:UI n B J H ug O I F P C d V)(h:ag V G):UI n B J H ug O I F P C d G:=⟨ai D.hu h,ai D.hc h,D.ci.ext h,jA D.us (row:=none) ⟨h.os,h.tape,h.output,h.size,fun k T _=>h.block k T⟩ SY⟩
def UI.ug{D ug O F}{h}{P}{d}(H:UI n B J D ug O F h P C d V):∃cs,bA V ug cs 4:=by
 rcases H.us.2 with⟨e,_⟩|⟨g,ε,G,e,_,I,_⟩
 .cases e
 .cases e;exact⟨G,I⟩
def UI.set{D ug O H}{G}{P}{d}(h:UI n B J D ug O H G P C (d++[l.take k]) V)(U:l[k]?=some x)(T:C.getD x 0<n):UI n B J D ug O H G P C (d++[l.take (k+1)]) (V.setCell ⟨ug,C.getD x 0,none⟩ (.bool true)):=by
 obtain⟨cs,I⟩:=h.ug;have Y:J≠ug:=fun e=>by have:=h.hu;rw[e,I]at this;simp at this
 have n2:D≠ug:=fun e=>by have:=h.hc;rw[e,I]at this;simp at this
 have F:=h.us.j (C.getD x 0) (.bool true);rw[<-eW,zaj U T]at F;exact⟨(a_ _ _ _ _ Y).t h.hu,(a_ _ _ _ _ n2).t h.hc,aE.kept h.ci F.2 (vT Qw h.ci h.us),F.1⟩
def zgG n B F D ug I G h P C d l A ε V(ao:Ck n P C)(H:UI n B F D ug I G h P C d V)(an:aO V A (bD l))(av:∀x∈l,x<n)(bg:n<=1048576)(bp:l.length<=1048576)(a1:∀b o,A=some ⟨b,o,none⟩->0<l.length->b≠ug):az 208 #[.slice A l ε,.pointer (bH F),.pointer (bH D)] V fun e ad=>e=.returned (.tuple #[])/\UI n B F D ug I G h P C (d++[l]) ad/\b_ ug (ug+1) V ad:=by
 have⟨ac,a3,a5,a6⟩:=gG ao an av a1;have a7:=zH (show UI n B F D ug I G h P C (d++[l.take 0]) V from by
  have:mP n C (d++[l.take 0])=mP n C d:=by unfold mP pH;simp
  exact⟨H.hu,H.hc,H.ci,by rw[this];exact H.us⟩)
 clear ao H an av a1;go_enter func208,ntmps208
 go_wp2;go_loopw [8] (fun i wr=>∃k:Nat,k<=l.length/\i=.int .i64 k/\UI n B F D ug I G h P C (d++[l.take k]) wr/\b_ ug (ug+1) V wr) (fun i _=>l.length-(intOf i).toNat)
 case atStart=>exact⟨0,aW _,rfl,a7,b_.refl _ _ _⟩
 case round=>
  obtain⟨k,bo,rfl,hu,hw⟩:=hrel;by_cases FX:k<l.length
  .have⟨x,O⟩:=aq FX;obtain⟨b,o,rfl,ap⟩:=a3.θ (k:=k) Se;have bq:=a6 b o rfl Qu;have bn:=hw.cell (ap k _ (dK O)) (by show b<ug∨ug+1<=b;omega);have Y:=a5 x (aU O);have T:C.getD x 0<n:=by have:=ac.lt Y;omega
   have⟨ab,Z⟩:=bJ (hu.set O T) (fun W (bc:aO W h (bD P))=>Dp n P C h G x W ac bc Y bg);have a4:Hd (aO wr h (bD P)):=by obtain⟨bh,bi,e,bb,-⟩:=hu.ci.p;simp only[ep]at e;obtain⟨rfl,-,-⟩:=e;exact zH bb
   have⟨r,a0⟩:=aR (C.getD x 0);rw[<-a0]at ab Z T;have ah:=aF hu.hu 0 rfl;have am:=aF hu.hc 0 rfl;have bd:∃q,af wr ug r q:=by obtain⟨q,hq⟩:=aq (by rw[lK];exact T:r < (mP n C (d++[l.take k])).length);exact⟨.bool q,U9⟩
   obtain⟨q,hq⟩:=bd;have be:=hu.us.g r;obtain⟨cs,U⟩:=hu.ug;have a2:F≠ug:=fun e=>by have:=hu.hu;rw[e,U]at this;simp at this
   have n2:D≠ug:=fun e=>by have:=hu.hc;rw[e,U]at this;simp at this
   have⟨a9,ba,a8⟩:=er a2 n2 hw;have J:=aQ ah am;clear ap O Y hu a0 U a2 n2 hw ah am;go_wp2_with fail
   go_region_held3 (fun W=>af W F 0 (.slice (bH ug) n I)/\af W D 0 (.slice h n G))
    (first|exact J|exact⟨(cE a9.o).t J.1,(cE ba.o).t J.2⟩)
    ((go_at_call 209;refine(Z.o _ (a4.ext (aC _))).x ?_;rintro e w' ⟨rfl,rfl⟩))
   have⟨HE,I3⟩:=bJ (ab.ext (aC _)) ((a8.xv (p:=⟨ug,r,none⟩) (v:=.bool true) (ae _) (iX _)).t (b_.gy (aC _)));clear J hq be;go_wp2;go_roundw
   case rel=>exact⟨k+1,Qu,Qx,HE,I3⟩
   case measure=>simp[intOf];omega
  .exact Yl
def EJ:pH C (ec g) r=true↔∃x,g.On x/\C.getD x 0=r:=by
 unfold pH;rw[nl];constructor
 .rintro⟨l,F,h⟩;rw[nl]at h;obtain⟨x,D,h⟩:=h;exact⟨x,(yA g x).1 ⟨l,F,D⟩,Q_⟩
 .rintro⟨x,D,h⟩;obtain⟨l,F,D⟩:=(yA g x).2 D;exact⟨l,F,nl.2 ⟨x,D,Q_⟩⟩
def zgc(G:g.In):Fl g C r=(decide (C.getD r 0=r)&&pH C (ec g) r):=by
 rw[jQ];unfold Fl;rw[bN,bN,EJ,nl];constructor
 .rintro⟨D,x,F,h⟩;rw[bN,cf]at h;exact⟨D,x,Gr.lO.1 h.1,h.2⟩
 .rintro⟨D,x,F,h⟩;exact⟨D,x,fj.2 (G x F),by rw[Gr.lO.2 F];simpa using h⟩
def Æ(g:Gr)(C:bP)(x:Nat):Int:=if pH C (ec g) (C.getD x 0)=true then(DD g C x:Nat) else -1
def Υ(g:Gr)(C:bP):List Int:=(List.range g.w).map (Æ g C)
def CO g C:(Υ g C).length=g.w:=by simp[Υ]
def wK C(h:x<g.w):(Υ g C)[x]?=some (Æ g C x):=by simp[Υ,h]
def nS(g:Gr)(C:bP)(k:Nat):Nat:=((List.range k).filter (Fl g C)).length
def wL g C k:nS g C k<=k:=by have:=C4 (Fl g C) (List.range k);rw[fK]at this;exact this
def zaV g C k:nS g C (k+1)=nS g C k+if Fl g C k=true then 1 else 0:=zcJ k
def zaW(D:g.In):zcA (Υ g C) (DD g C) g:=fun x h=>by rw[wK C (D x h)];unfold Æ;rw[ak (EJ.2 ⟨x,h,rfl⟩)]
def zgd(h:pH C (ec g) (C.getD k 0)=false):Æ g C k=-1:=by unfold Æ;rw[h];simp
def zge(h:l9 g.w C)(D:k<g.w):Æ g C k=Æ g C (C.getD k 0):=by unfold Æ DD;rw[h.rep k D]
def zgf(h:pH C (ec g) (C.getD k 0)=true)(e:C.getD k 0=k):Æ g C k=(nS g C k:Nat):=by unfold Æ DD nS;rw[ak h,e]
def zgg(D:g.In)(h:pH C (ec g) (C.getD k 0)=true)(e:C.getD k 0=k):nS g C (k+1)=nS g C k+1:=by rw[zaV,zgc D,e];rw[e]at h;rw[h];simp
def zG(D:g.In)(h:pH C (ec g) (C.getD k 0)=false∨C.getD k 0≠k):nS g C (k+1)=nS g C k:=by
 rw[zaV,zgc D];rcases h with h|h
 .by_cases e:C.getD k 0=k
  .rw[e]at h;rw[h];simp
  .rw[fR e,my];rfl
 .rw[fR h,my];rfl
def zJ(h:g.In)(D:∀q∈ps,q.1<g.w/\q.2<g.w):js g ps=g.map (nS g (jF g.w ps) g.w) (DD g (jF g.w ps)):=ziG h D
def EPr(_:aa)(x:g_)(c:cL):Prop:=c=[.int .i64 (x.1:Nat),.int .i64 (x.2:Nat)]
def zm9:RT prog 201 202 2 (.agg fP) 16:=⟨underlying201,QT,Qw,Qw,Qw⟩
def zfg(G:bR 2 EPr w A ps){q}(F:ps[k]?=some q):∃b o,A=some ⟨b,o,none⟩/\af w b (o+k*2) (zI (q.1:Nat))/\af w b (o+k*2+1) (zI (q.2:Nat)):=by obtain⟨b,o,e,H⟩:=G.θ (bG.1 F).1;obtain⟨c,h,D⟩:=H k q F;unfold EPr at D;subst D;exact⟨b,o,e,h 0 _ rfl,h 1 _ rfl⟩
def zhK(h:bR 2 EPr w A ps)(D:ag w w'):bR 2 EPr w' A ps:=bR.ext (fun _ _ h=>(h:EPr w _ _)) h D
def zmR(g:Gr)(ps:ng)(w:aa)(e:Ending)(w':aa):Prop:=∃A1 c1 h c2 D G F H,e=.returned (.agg #[.int .i64 ((js g ps).w:Nat),.slice A1 (js g ps).es c1,.slice h (js g ps).i c2,.slice D (js g ps).o G,.slice F g.w H])/\
 Fr w' w w' (fun W=>jV W A1 h D (js g ps))/\ag w w'
abbrev st5(w:aa)(b:Nat)(v0 v1 v2 v3 v4:aG):World:=((((w.setCell ⟨b,0,none⟩ v0).setCell ⟨b,1,none⟩ v1).setCell ⟨b,2,none⟩ v2).setCell ⟨b,3,none⟩ v3).setCell ⟨b,4,none⟩ v4
def zgI{G H I}(h:bA w b #[T,G,z2,H,I] t):(st5 w b v0 v1 v2 v3 v4).heap[b]?=some (.cells #[v0,v1,v2,v3,v4] t (0,0)):=by
 refine NL fun e1 e2 e3=>?_
 have D:=bE _ b 3 _ _ v3 e3;have F:=bE _ b 4 _ _ v4 D;simpa[st5]using F
def zit(h:k≠b):(st5 w b v0 v1 v2 v3 v4).heap[k]?=w.heap[k]?:=(a_ _ _ _ _ Q_).t ((a_ _ _ _ _ Q_).t ((a_ _ _ _ _ Q_).t ((a_ _ _ _ _ Q_).t (a_ _ _ _ _ Q_))))
def ziu:(st5 w b v0 v1 v2 v3 v4:Nat)=w:=by simp[st5]
def zgJ(D:Below B w w')(h:B<=b)v0 v1 v2 v3 v4:Below B w (st5 w' b v0 v1 v2 v3 v4):=((((D.setCell h _).setCell h _).setCell h _).setCell h _).setCell h _
def zel{h}{xs}{z:h}(D:r<k)(F:k<=xs.length):(eF xs z k)[r]?=xs[r]?:=by unfold eF;rw[dU Rv,iM,ak D]
def zcz{h}{xs}(D:w.ownsRow B h s v n xs)(J:B'<=B):w.ownsRow B' h s v n xs:=⟨D.1,D.2.E id fun⟨g,ε,H,F,I,G⟩=>⟨g,ε,H,F,Qu,G⟩⟩
def zfL(H:g.i.length<=65536)(I:g.o.length<=65536)(D:∀e∈g.es,e.i.length<=65536/\e.o.length<=65536):∀l∈ec g,l.length<=65536:=fun l G=>by
 unfold ec at G;rcases dP.1 G with h|h
 .simp at h;rcases h with rfl|rfl
  .exact H
  .exact I
 .obtain⟨e,F,h⟩:=lh.1 h;simp at h;rcases h with rfl|rfl
  .exact(D e F).1
  .exact(D e F).2
def xW n:(madeCells (Value.bool false).cells (n*1)).toList=(List.replicate n false).map Value.bool:=YR
structure G1R(n B bc cp:Nat)(Ac:ax)(ps:ng)(k:Nat)(P:bP)(V:aa):Prop where
 up:Ck n P (jF n (ps.take k))
 hc:bA V bc (bZ Ac n cp) 258
 ci:aE V B (.slice Ac n cp) (bD P)
def ziv g ps A1 ah am c6 c1 c2 a1 g5 w(bb:jV w A1 ah am g)(es:bR 2 EPr w c6 ps)(ct:g.In)(cI:∀q∈ps,q.1<g.w/\q.2<g.w)(fl:g.w<=65536)(e1:g.es.length<=65536)(hi:g.i.length<=65536)(fa:g.o.length<=65536)(e2:∀e∈g.es,e.i.length<=65536/\e.o.length<=65536)(hA:ps.length<=1048576):az 165 #[.agg (bj g A1 c1 ah c2 am a1),.slice c6 ps g5] w (zmR g ps w):=by
 have gd:=zH (zJ ct cI);have⟨n,bn⟩:=aR g.w;have⟨bp,cz⟩:=aR g.es.length;have⟨bq,cA⟩:=aR g.i.length;have⟨br,cB⟩:=aR g.o.length;have e9:n<=65536:=by rw[bn];exact fl
 rw[<-bn,<-cz,<-cA,<-cB];obtain⟨O,dT,d0,d4,d7,bg,dl,d5,dc,ba⟩:=zjZ bn cz cA cB (show ∀q∈ps,q.1<n/\q.2<n by rw[bn];exact cI) ct bb es e2 (show g.es.length<=65536/\g.i.length<=65536/\g.o.length<=65536 from⟨e1,hi,fa⟩);have av:=(bO (w.alloc (.cells (nh n A1 bp c1 ah bq c2 am br a1) 54)) (.cells zb5 204) (k:=w.heap.size) Qt).t (aH w _ rfl);have a0:=aH (w.alloc (.cells (nh n A1 bp c1 ah bq c2 am br a1) 54)) (.cells zb5 204) (n:=(w:Nat)+1) Qt;have co:=((al w w).alloc (ae _) (.cells (nh n A1 bp c1 ah bq c2 am br a1) 54)).alloc Qt (.cells zb5 204);clear bn cz cA cB ct cI bb es e2 e1 hi fa fl;go_enter func165,ntmps165
 go_upto_region 1 with(fail)
 generalize (w.alloc _).alloc _=W at av a0 co ⊢;have fc:(w:Nat)+2<=W:=(bk.1 a0).1;have⟨a6,a7,a8,a9⟩:=aB av;have⟨c7,gv,gB,GX⟩:=gG co av a0 fc;clear av a0 co fc;go_upto_region 2 with(go_at_call 62;refine(qu n _ Qu).x ?_;rintro e G ⟨u,rfl,ab,D⟩;obtain⟨J,Z,rfl,-⟩:=ab.p;rw[dX]at ab ⊢;rw[zgV]at ab;have ci:=zH ab;have be:=zH D;clear ab D)
 have⟨F,b5⟩:=bM G (.cells (bZ J n Z) 258);have cj:=zH (ci.ext F);have d6:=zH (show ∀b,(Value.slice J n Z).ownBlock=some b->(W:Nat)<=b/\b < (G:Nat) from fun b D=>by have:=ci.lt b (by simpa[Value.ownBlock]using D);exact this)
 have⟨cb,ce,b0,g1⟩:=gG (ai (ai gv be) F) (ai (ai gB be) F) ((aT c7 be).t (F.x (aT c7 be).size)) be.size;generalize G.alloc _=cn at F b5 cj cb ce b0 ⊢;have dq:=zH (show G1R n W G Z J ps 0 (List.range n) cn from⟨ziF n,b5,cj⟩);have b7:(G:Nat)<cn:=(bk.1 b5).1;have g3:=zH b7;clear F b5 a6 a7 a8 a9 ci cj b7;go_wp2;go_loopw [18] (fun i wr=>∃(k:Nat) (P:bP),k<=ps.length/\i=.int .i64 k/\G1R n W G Z J ps k P wr/\b_ W G cn wr) (fun i _=>ps.length-(intOf i).toNat)
 case atStart=>exact⟨0,_,aW _,rfl,dq,b_.refl _ _ _⟩
 case round=>
  obtain⟨k,P,cu,rfl,ap,a4⟩:=hrel;have b6:ag w wr:=b0.t (a4.L SJ b0.size);have hC:=a4.size;by_cases bc:k<ps.length
  .have⟨q,av⟩:=aq bc;obtain⟨b,o,rfl,c4,c5⟩:=zfg (zhK d5 b6) av;obtain⟨cV,cW⟩:=d7 q (aU av);have d9:=zH (by rw[du,av];exact zcK n _ q:jF n (ps.take (k+1))=mI (jF n (ps.take k)) q.1 q.2);obtain⟨fx,fy⟩:=q;dsimp only at c4 c5 cV cW d9;have⟨F,cF⟩:=bM wr (.cells (bC fx fy) 202);have⟨b2,b9,a2,ee⟩:=gG (ap.ci.ext F) (ai ap.hc F) ap.up (a4.t (b_.gy F));clear av ap a4 b6;go_upto_region 5 with(fail)
   generalize wr.alloc _=hn at F cF b2 b9 ee ⊢;obtain⟨hk,hl,-,-⟩:=dD cF;have ej:=aF b9.o 0 rfl;clear c4 c5 cF F;go_wp2_with (go_at_call 207;refine(zir n W P (jF n (ps.take k)) J Z fx fy _ a2 b2 cV cW Qu).x ?_;rintro e ho ⟨rfl,e6,e7,hb⟩;have gi:=zH e6;have bh:=zH e7;clear e6 e7 hb)
   have eb:=zH (show b_ W G hn ho from⟨bh.os,bh.tape,bh.output,bh.size,fun k cu a0=>bh.block k cu fun e=>by have:=d6 k e.q;omega⟩);obtain⟨f6,gR⟩:=bJ (nL b9 eb (au (ae _))) (show Ck n _ _ from zkg a2 cV cW);clear hk hl ej;go_roundw
   case rel=>exact⟨k+1,_,Qu,Qx,⟨by rw[d9.o];exact gR,f6,gi⟩,ee.t eb⟩
   case measure=>simp[intOf];omega
  .obtain rfl:k=ps.length:=Qu;have⟨C,cp⟩:=aR (jF n ps);have cR:=ap.up;rw[cZ (ae _),<-cp]at cR;obtain⟨ga,a2,c9,f8,b2,b8⟩:=ny cp cR (show(W:Nat)<=wr from aZ g1 (by have:=g3.o;omega)) ap.hc ap.ci b6;have bd:=nL cb a4 (ay SJ);have bo:=nL ce a4 (ay SJ);have⟨gw,gC⟩:=bJ bd bo;have⟨a6,a7,a8,a9⟩:=aB bd;have eA:(G:Nat)<wr:=(bk.1 ap.hc).1;have hq:=zH eA;have⟨hj,ha,hh,b7,FU⟩:=dp Ds;clear cp ap a4 b6 bd bo cR eA d7 d5 d6 dq ce cb b0;go_upto_region 8 with((at_make;refine jg _ rfl _ _ 209 rfl wr.heap.size 4 hj (.bool false) 1 underlying209 ha hh b7 .i64 .i64 n n n rfl rfl rfl rfl RF SL (ae _) ?_;intro U fb e5;have gs:=zH fb;have dr:=zH (cy e5);clear fb e5))
   have⟨F,cr⟩:=bM U (.cells (bZ (bH wr) n n) 209);have a3:=aT dr F;have⟨cc,d8⟩:=bJ (ai gw a3) (ai gC a3);have ac:UI n W U G wr n Z J P C [] (U.alloc (.cells (bZ (bH wr) n n) 209)):=by refine⟨cr,ai f8 a3,b2.ext a3,?_⟩;have:=gs.o;rw[xW,<-AQ n C]at this;exact nm (zcz this c9) _
   have⟨ea,b1⟩:=bJ ac (aT b8 a3);have fs:(wr:Nat)+1<=(U.alloc (.cells (bZ (bH wr) n n) 209)):=by obtain⟨cs,h⟩:=ac.ug;exact(bk.1 h).1
   have eg:=zH fs;have ez:(wr:Nat)<=U:=dr.size;have hp:=zH ez;clear a6 a7 a8 a9 ac fs ez;generalize U.alloc _=c0 at F cr a3 cc d8 ea b1 eg ⊢;have⟨a6,a7,a8,a9⟩:=aB cc;have gn:=zH (show az 169 #[.agg (nh n A1 bp c1 ah bq c2 am br a1),.func (.func 208) #[] #[.pointer (bH U),.pointer (bH G)]] c0 fun e w'=>e=.returned (.tuple #[])/\UI n W U G wr n Z J P C (ec g) w'/\b_ wr ((wr:Nat)+1) c0 w' from by
    have:=zfp g A1 ah am c1 c2 a1 (.pointer (bH U)) (.pointer (bH G)) wr ((wr:Nat)+1) w c0 (fun d V=>UI n W U G wr n Z J P C d V) dl (by have:=ba.1;omega) (zfL ba.2.1 ba.2.2 dc) (fun d V g4 h D=>h.ext D) b1 b8.size eg ea (fun d l A ε V b4 eo ao hc hz=>by
     refine(zgG n W U G wr n Z J P C d l A ε V a2 b4 (eo.ext ao) (fun x hf=>by rw[O.o];exact bg x (hc x hf)) Qu Qu ?_).x ?_
     .intro b o e em;subst e;obtain⟨hr,hD,g6,g8⟩:=eo.θ (k:=0) (by rw[aS];exact em);cases g6
      have⟨y,hg⟩:=aq em;have:=jB _ _ (g8 0 _ (dK hg));have b3:=b8.size;have:b < (w:Nat):=this;omega
     .rintro e g4 ⟨bi,b3,g7⟩;exact⟨bi,b3,g7⟩)
    rw[<-O.o,<-dT.o,<-d0.o,<-d4.o]at this;exact this)
   clear F cr a3;go_upto_region 9 with(go_at_call 169;refine gn.x ?_;rintro e a5 ⟨rfl,fd,fo⟩;have g0:=zH fd;have ck:=zH fo;clear fd fo)
   have NB:=zH (show(w:Nat)+2<=wr from aZ GX c9);have cK:=nL cc ck (ay SH);have⟨gK,gA⟩:=bJ (nL d8 ck (ay SH)) cK;have ey:ag w a5:=b1.t (ck.L SH b1.size);have f7:=zH ey;clear a6 a7 a8 a9 ey;have⟨a6,a7,a8,a9⟩:=aB cK;clear cK;go_upto_region 10 with(go_at_call 98;refine(kO n _ Qu).x ?_;rintro e hM ⟨u,rfl,ab,D⟩;obtain⟨Y,an,rfl,-⟩:=ab.p;rw[fA]at ab ⊢;have ei:=zH ab;have f5:=zH D;clear ab D)
   have H:=ei.o;unfold aE at H;rw[fA,show List.replicate n (0:Int)=eF (Υ g C) 0 0 by rw[iP,CO,O.o]]at H;obtain⟨gL,Gu,gb⟩:=er H (by rw[CO,O.o]:(Υ g C).length=n) (show l9 g.w C by have:=a2.cls;rw[O.o]at this;exact this);clear H ei;obtain⟨c3,rfl⟩:∃c3,c3=wr:=⟨wr,rfl⟩;go_wp2;go_loopw [10,40] (fun u i V=>∃k:Nat,k<=n/\i=.int .i64 k/\u=.int .i64 ((nS g C k:Nat))/\V.ownsRow a5 3 1 (.slice Y n an) n ((eF (Υ g C) 0 k).map (Value.int .i64))/\ag a5 V) (fun _ i _=>n-(intOf i).toNat)
   case atStart=>exact⟨0,aW _,rfl,rfl,gL,f5⟩
   case round=>
    obtain⟨k,cu,rfl,rfl,H,ao⟩:=hrel;have ac:=g0.ext ao;by_cases bc:k<n
    .obtain⟨T,rfl⟩:∃T,Y=some ⟨T,0,none⟩:=by
      rcases H.2 with⟨_,bi⟩|⟨T,ek,hv,e,_⟩
      .omega
      .cases e;exact⟨T,rfl⟩
     have e4:=bS H T rfl;have b4:aO wr J (bD P):=by obtain⟨fz,ek,e,h,-⟩:=ac.ci.p;exact Wt
     have HRO:=zH (Dp n P C J Z k wr a2 b4 bc Qu);have e8:k<g.w:=by rw[<-O.o];exact bc
     have hd:C.getD k 0<=k:=a2.lt bc;have⟨r,a0⟩:=aR (C.getD k 0);have⟨b,D⟩:=aR (pH C (ec g) r);have⟨H_,Ho⟩:=bJ a0 D;rw[<-a0]at HRO hd;have ej:=aF ac.hu 0 rfl;have hs:=aF ac.hc 0 rfl;have hB:af wr c3 r (.bool b):=by rw[ac.us.C _ Qu,bI,nD _ _ Qu,D];rfl
     have hx:af wr T k (zI 0):=by rw[H.C _ Qu,bI,lD _ _ _ (by rw[Gu.o];exact bc)];rfl
     have hy:=H.g k;have ch:=zH (show ∀z,Æ g C k=z->(wr.setCell ⟨T,k,none⟩ (zI z)).ownsRow a5 3 1 (.slice (bH T) n an) n ((eF (Υ g C) 0 (k+1)).map (Value.int .i64))/\Below a5 a5 (wr.setCell ⟨T,k,none⟩ (zI z)) from fun z ad=>by have bi:=(H.j k (zI z)).1;rw[<-eW,jq _ _ _ _ (by rw[wK C e8,ad])]at bi;exact⟨bi,ao.setCell (p:=⟨T,k,none⟩) e4.1 _⟩)
     have gu:=zH (show r<k->af wr T r (zI (Æ g C r)) from fun h=>by rw[H.C _ Qu,bI,zel h R5,wK C Qu];rfl)
     have db:=zH (wL g C k);clear H ao ac e4 b4 a0 D;cases b
     .obtain⟨HS,HCN⟩:=bJ (ch (-1) (zgd T2)) (zG bg (k:=k) (ay T2));exact Y5
     .by_cases he:r<k
      .obtain⟨HS,HCN⟩:=bJ (ch (Æ g C r) (by rw[zge gb e8,<-H_.o])) (zG bg (k:=k) (au (by rw[<-H_.o];omega)));have g9:=gu he;generalize Æ g C r=z at HS g9;exact Y5
      .have cO:r=k:=Qu;obtain⟨HS,HCN⟩:=bJ (ch (nS g C k:Nat) (zgf T2 (by rw[<-H_.o];exact cO))) (zgg bg (k:=k) T2 (by rw[<-H_.o];exact cO));have⟨hu,e0⟩:=aR (nS g C k);rw[<-e0]at HS HCN db ⊢;have hw:=db.o;clear e0 cO;go_wp2_with (go_at_call 209;refine HRO.x ?_;rintro e w' ⟨rfl,rfl⟩)
       go_roundw
       case rel=>exact⟨k+1,Qu,Qx,by rw[HCN.o];rfl,HS.1,HS.2⟩
       case measure=>simp[intOf];omega
    .obtain rfl:k=n:=Qu;have ev:aO wr Y (Υ g C):=by
      have:=H;rw[jo _ _ _ (by rw[Gu.o];exact ae _)]at this;have b3:aE wr a5 (.slice Y k an) (Υ g C):=by unfold aE;rw[Gu.o];exact this
      obtain⟨fz,ek,e,h,-⟩:=b3.p;exact Wt
     have cq:=aT f7 ao;have ca:=zH (show az 205 (rL (nh k A1 bp c1 ah bq c2 am br a1) (nS g C k:Nat) Y k an) wr (xr (js g ps) wr) from by have:=AS g (nS g C g.w) (Υ g C) (DD g C) A1 ah am Y c1 c2 a1 an wr (dl.ext cq) ev (zaW bg) (by rw[Gu.o];exact e9) (by rw[<-O.o];exact e9) (by have:=wL g C g.w;rw[<-O.o]at this ⊢;omega) ba.1 ba.2.1 ba.2.2 dc;rw[Gu.o,<-O.o,<-dT.o,<-d0.o,<-d4.o]at this;rw[show js g ps=g.map (nS g C k) (DD g C) by rw[gd.o,ga.o,O.o]];exact this.x fun e w' h=>h.gr)
     have bd:=ai gA ao;have bo:=ai gK ao;have⟨a6,a7,a8,a9⟩:=aB bd;have⟨H_,c8⟩:=bJ bo cq;clear ev H ao ac bd bo cq;have⟨I,bb⟩:=aR (js g ps);have dO:=zH bb;rw[<-bb]at ca;clear bb;have⟨ht,eB⟩:=aR (nS g C k);rw[<-eB]at ca ⊢;clear eB;go_wp2_with (go_at_call 205;refine ca.x ?_;rintro e hm ⟨bu,d1,bv,d2,bz,d3,rfl,e3,D⟩;have ad:=ai H_ D;have⟨hE,hF,hG,hH,hI⟩:=fg ad;have f0:=aK ad 0;have f1:=aK ad 1;have f2:=aK ad 2;have f3:=aK ad 3;have f4:=aK ad 4;have g2:=zH ad;have gc:=zH e3;have f9:=zH D;clear ad e3 D)
     have y:=zgI (v0:=.int .i64 (I.w:Nat)) (v1:=.slice bu I.es d1) (v2:=.slice bv I.i d2) (v3:=.slice bz I.o d3) (v4:=.slice Y k an) g2;have⟨c4,c5,hN,hO,hP⟩:=fg y;clear y;have hJ:=c8.size;have hL:=(bk.1 H_).1;refine aI (v:=.agg #[(I.w:Nat),.slice bu I.es d1,.slice bv I.i d2,.slice bz I.o d3,.slice Y k an]) (by simp[results,results165,go_sem, *]) rfl ⟨bu,d1,bv,d2,bz,d3,Y,an,by rw[<-dO.o,<-O.o],?_,zgJ (aT c8 f9) (b:=(w:Nat)+1) Qu _ _ _ _ _⟩;rw[<-dO.o,ziu];exact(gc.y (w':=st5 hm ((w:Nat)+1) (zI (I.w:Nat)) (.slice bu I.es d1) (.slice bv I.i d2) (.slice bz I.o d3) (.slice Y k an)) fun q a _=>zit Qu).to Qu (ae _)
def mL{s}:∀{cs:List (List Value)},(∀c∈cs,c.length=s)->cs.flatten.length=cs*s
 |[],_=>Qt
 |c::cs,h=>by rw[uH,bm,h c (kb ..),mL fun c D=>h c (kC _ D),jT,AF,uI]
def qL{T}{F}{bytes}{E}(hT:RT prog t F s z bytes)(U:o.guard=none)O x(Y:o.op=.call {callee:=.builtin .append,args:=#[O,x],argTypes:=#[t,t]})B G W v v2(xs ys:List T)(D:bw F s E W B v xs)(h2:bw F s E W G v2 ys)(hd:∀g,v.ownBlock=some g->g<G)(a7:B<=G)(a8:G<=(W:Nat))(Gb:xs.length+ys<=1048576)(Z:a.eval O=v)(hx:a.eval x=v2)(h:∀v' w',bw F s E w' B v' (xs++ys)->Below B W w'->wpList prog ops Q rest (a.put o.dst v') w'):wpList prog ops Q (o::rest) a W:=by
 have⟨ab,hi,ao,ap,av⟩:=dp hT.Ï;obtain⟨cs,D⟩:=D;obtain⟨ds,h2⟩:=h2;have ah:∀(k:Nat) (x:T) (c:cL),ys[k]?=some x->ds[k]?=some c->c.length=s/\(∀u∈c,u.oneCell'=true)/\kn E W B v x c:=fun k x c hx hc=>YK
 rcases h2.η.2 with⟨rfl,ac⟩|⟨g,ε,a0,rfl,bc,bb,bd,a9,ba,be⟩
 .have J:ys=[]:=iq ac;subst J;refine l7 U fun K hK=>?_
  have an:=iZ (P:=prog) (w:=W) B t o.type F ab s hT.und hi v _ 0 _ D.η;unfold Oper.wp;simp[execOp,Y,resolve,invoke,builtin,Z,hx,an,Result.andThen];exact hK _ _ (h v W ⟨cs,by simpa using D⟩ (al _ _))
 .have ad:=oz h2.η (g:=g) rfl;refine AE W U O x t Y B F ab z s bytes hT.und hi ao ap av hT.zs hT.pos v _ _ Z D.η ⟨g,0,none⟩ ys ε ds.flatten hx (by rw[mL h2.cl,h2.ι]) (fun j u am=>ad j u am) ?_ ?_ ?_ Qu ?_
  .intro u I;obtain⟨c,hc,I⟩:=uv.1 I;obtain⟨k,H⟩:=eH.1 hc;obtain⟨y,J⟩:=aq (by rw[<-h2.ι];exact(bG.1 H).1:k<ys.length);exact(h2.ν k y c J H).2.1 u I
  .unfold maxLen;omega
  .exact XL
  .refine OL fun v' w' FT Gx _ Ha hv=>?_
   exact h v' w' ⟨cs++ds,D.th h2.ι ah FT Gx hv⟩ ((al _ _).grown Gx Qu fun k H=>(bS D.η k H).1)
def Cu(V:aa)(B F:Nat)(g:Gr):Prop:=∃A1 c1 h c2 D G,bA V F (bj g A1 c1 h c2 D G) 54/\bw 155 4 Cl V B (.slice A1 g.es c1) g.es
def Fa(h:g.In):zcA (υ g.w) (fun x=>x) g:=fun x D=>sM (h x D)
def qM(h:g.In)a:zcA (bD (dd a g.w)) (fun x=>x+a) g:=fun x D=>dK (qh (h x D))
def zne(a b:Gr)(w:aa)(e:Ending)(w':aa):Prop:=∃A1 c1,e=.returned (.agg (CW ((a.w+b.w:Nat)) A1 (fG a b) c1))/\Fr w' w w' (fun W=>bR 4 Cl W A1 (fG a b))/\ag w w'
structure px(g:Gr):Prop where
 inr:g.In
 w:g.w<=4096
 es:g.es.length<=4096
 i:g.i.length<=4096
 o:g.o.length<=4096
 el:∀e∈g.es,e.i.length<=4096/\e.o.length<=4096
def zl4(h:px g)A1 D F G c1 c2 H I w(J:jV w A1 D F g)(O:aO w G (υ g.w)):az 205 #[.agg (bj g A1 c1 D c2 F H),(g.w:Nat),.slice G g.w I] w (ziw g w):=by have:=AS g g.w (υ g.w) (fun x=>x) A1 D F G c1 c2 H I w J O (Fa h.inr) (by rw[dX];have:=h.w;omega) R_ R_ Sg R9 R7 (fun e he=>Tl);rw[dX]at this;rw[show g.map g.w (fun x=>x)=g by unfold Gr.map;simp[show(Ed.map fun x=>x)=id from funext fun e=>by simp[Ed.map]]]at this;exact this
def zl5(h:px g)a(T:a<=4096)A1 D F G c1 c2 H I w(J:jV w A1 D F g)(O:aO w G (bD (dd a g.w))):az 205 #[.agg (bj g A1 c1 D c2 F H),(g.w:Nat),.slice G g.w I] w (ziw (g.map g.w (· +a)) w):=by have:=AS g g.w (bD (dd a g.w)) (fun x=>x+a) A1 D F G c1 c2 H I w J O (qM h.inr a) (by rw[aS,c_];have:=h.w;omega) R_ R_ Sg R9 R7 (fun e he=>Tl);rw[aS,c_]at this;exact this
end Go.Proofs.YtpieilkmmiopfaaGreatDoor
