/- Parts of the walks. Conditions: as stated with each. -/
import Derived.Test.YtpieilkmmiopfaaGreatDoorPk5
namespace Go.Proofs.YtpieilkmmiopfaaGreatDoor
open Go.RowKit Tryz
set_option linter.all false
set_option maxHeartbeats 4000000
set_option maxRecDepth 100000
variable{A A1:ax}{B B' J b c2 hi hi' k lo lo' n r s x y:Nat}{C l:bP}{Q:gZ}{T v v0 v1 v2 v3 v4 z z2:aG}{V W w w':aa}{a:Act}{cs:gg}{e:Ed}{g:Gr}{o:h_}{ops:iI}{ps:ng}{rest:List Oper}{t:dL}{xs:aL}
section
variable{c1:Nat}
def Fr.later{P}(F:Fr w lo hi P)(h:ag w w')(D:hi<=(w:Nat)):Fr w' lo w' P:=(F.ext h D).x (ae _) (aZ D h.size)
def Fr.dQ{P}(h:Fr w lo hi P)(D:b<lo):Fr (dQ w b v0 v1 v2 v3) lo hi P:=h.y fun k a _=>nZ Qu
def Fr.to{P}(h:Fr w lo hi P)(D:lo'<=lo)(F:hi<=hi'):Fr w lo' hi' P:=h.x D F
def Fv{D F}(G:Fr w lo hi fun W=>bR 4 Cl W A1 g.es)(H:Fr w lo hi fun W=>aO W D (bD g.i))(I:Fr w lo hi fun W=>aO W F (bD g.o)):Fr w lo hi fun W=>jV W A1 D F g:=fun W h=>⟨G W h,H W h,I W h⟩
def ze(n:Nat)w(Z:n<=1048576):az 166 (bK n) w (xr ⟨n,[],List.range n,List.range n⟩ w):=by
 have H:=aH w (.cells cw 54) rfl;have O:=(al w w).alloc (ae _) (.cells cw 54);go_enter func166,ntmps166
 go_upto_region 1 with(fail)
 generalize w.alloc _=W at O H ⊢;have ab:(w:Nat)<W:=(bk.1 H).1;have⟨U,am,Y⟩:=er O H ab;go_wp2_with fail
 refine(qu n _ Z).x ?_;rintro e a6 ⟨u1,rfl,I,T⟩;obtain⟨A1,c1,rfl,-⟩:=I.p;rw[dX]at I ⊢;have⟨an,G⟩:=bJ (I.fr T.size) T;go_wp2_with fail
 refine(qu n _ Z).x ?_;rintro e ac ⟨u2,rfl,J,F⟩;obtain⟨h,c2,rfl,-⟩:=J.p;rw[dX]at J ⊢;have⟨ao,ad⟩:=bJ (J.fr F.size) F;have D:=ai (ai am G) F;have⟨a0,a1,a2,a3⟩:=aB D;have⟨f0,f1,f2,f3⟩:=cN D;have y:=cP (v0:=.int .i64 n) (v1:=dE) (v2:=.slice A1 n c1) (v3:=.slice h n c2) D;refine O2 fun y0 y1 y2 y3=>?_
 have ah:=zH (bY ((aT U G).t (F.x ((aT U G).size))) (ae _) (zI n) (.slice none 0 0) (.slice A1 n c1) (.slice h n c2));go_wp2;refine aI (v:=.agg #[n,dE,.slice A1 n c1,.slice h n c2]) (by simp[results,results166,go_sem, *]) rfl ⟨none,0,A1,c1,h,c2,?_,?_,ah⟩
 .rw[show(List.range n).length=n from fK ..];rfl
 .have a5:=G.size;have a4:=Y.o;have ap:=(an.later ad (ae _)).dQ (v0:=.int .i64 n) (v1:=dE) (v2:=.slice A1 n c1) (v3:=.slice h n c2) Y;have av:=ao.dQ (v0:=.int .i64 n) (v1:=dE) (v2:=.slice A1 n c1) (v3:=.slice h n c2) (b:=w.heap.size) Qu;have D:(ac:Nat)=(dQ ac w (zI n) (.slice none 0 0) (.slice A1 n c1) (.slice h n c2)):=eK.q;exact Fv (Fr.all fun _=>ay rfl) (ap.to Qu (gp D)) (av.to Qu (gp D))
def zfX{E}{D}(I:bA W E (zj e A1 c1 D c2) 155)(G:lo<=E)(H:E<hi)(f1:Fr W lo hi fun V=>aO V A1 (bD e.i))(f2:Fr W lo hi fun V=>aO V D (bD e.o)):Fr W lo hi fun V=>bR 4 Cl V (some ⟨E,0,none⟩) [e]:=fun V F=>by
 refine au ⟨E,0,rfl,fun k x h=>?_⟩
 match k,h with
 |0,h=>
  simp at h;subst h;refine⟨_,fun j y J=>?_,A1,c1,D,c2,rfl,f1 V F,f2 V F⟩;rw[show 0+0*4+j=j by omega,bB ((F E G H).t I) j];exact J
 |k+1,h=>simp at h
def ki(h:bA W b cs 3)(e:cs.toList=xs.map (Value.int .i64)):aO W (some ⟨b,0,none⟩) xs:=au ⟨b,0,rfl,fun k x D=>by rw[jU,bB h k,e,bI,D];rfl⟩
def zf(h:bA W b cs 3)(e:cs.toList=xs.map (Value.int .i64))(D:lo<=b)(F:b<hi):Fr W lo hi fun V=>aO V (some ⟨b,0,none⟩) xs:=fun V G=>ki ((G b D F).t h) e
def Fw k v s w(hl:dI ⟨k,v,s.toList.isEmpty⟩=true):az 123 (cY (dN k v s)) w (xr (fv ⟨k,v,s.toList.isEmpty⟩) w):=by
 refine Ox fun hl hB hq hr he=>?_
 by_cases h1:k=1
 .subst h1;obtain⟨m,rfl⟩:∃m:Nat,v=(m:Int):=⟨v.toNat,S7⟩;have dT:m<=12:=S7;rw[show fv ⟨1,(m:Int),true⟩=⟨m,[],List.range m,List.range m⟩ from rfl];clear hl;go_enter func123,ntmps123
  go_upto_region 1 with(fail)
  generalize (w.alloc _).alloc _=W at hB hq hr ⊢;obtain⟨a5,c1,c2⟩:=aD hq;have⟨bb,HR⟩:=bJ hB hr;clear hB hq hr;go_wp2_with (go_at_call 166;refine(ze m _ Qu).x ?_;rintro e w2 ⟨A1,d1,A2,d2,A3,d3,rfl,a0,D⟩;have hz:=ai HR D;have⟨bv,bz,b0,b1⟩:=aB hz;have⟨f0,f1,f2,f3⟩:=cN hz;have HZ:=zH hz;have HF:=zH a0;have a2:=zH (aT bb D);have dq:=zH D.size;clear hz a0 D)
  refine Mq fun y y0 y1 y2 y3=>?_
  refine aI (v:=.agg #[m,.slice A1 0 d1,.slice A2 m d2,.slice A3 m d3]) Ux rfl ⟨A1,d1,A2,d2,A3,d3,by rw[fK];rfl,?_,bY a2 (b:=(w:Nat)+1) Qu _ _ _ _⟩;exact Y7
 by_cases h2:k=2
 .subst h2;rw[show fv ⟨2,v,true⟩=⟨2,[],[0,1],[1,0]⟩ from rfl];clear hl;go_enter func123,ntmps123
  go_upto_region 1 with(fail)
  generalize (w.alloc _).alloc _=W at hB hq hr ⊢;obtain⟨a5,c1,c2⟩:=aD hq;have s0:=(bk.1 hr).1;have b6:=(hB.alloc hB.size (.cells kZ 3)).alloc (by have:=hB.size;simp;omega) (.cells mu 3);have cb:=(bO (W.alloc (.cells kZ 3)) (.cells mu 3) (k:=W.heap.size) Qt).t (aH W _ rfl);have cc:=aH (W.alloc (.cells kZ 3)) (.cells mu 3) (n:=(W:Nat)+1) Qt;have hz:=(bO (W.alloc (.cells kZ 3)) (.cells mu 3) (k:=(w:Nat)+1) QW).t ((bO W (.cells kZ 3) s0).t hr);have Nx:(W:Nat)+2=((W.alloc (.cells kZ 3)).alloc (.cells mu 3)):=Qt;clear hB hq hr;have⟨bv,bz,b0,b1⟩:=aB hz;have⟨f0,f1,f2,f3⟩:=cN hz;have y:=cP (v0:=.int .i64 2) (v1:=dE) (v2:=.slice (bH W) 2 2) (v3:=.slice (some ⟨(W:Nat)+1,0,none⟩) 2 2) hz;have⟨y0,y1,y2,y3⟩:=aB y;unfold dQ at y0 y1 y2 y3;have⟨cq,HF,Nw,Nv⟩:=gG (bY b6 (b:=(w:Nat)+1) Qu (zI 2) (.slice none 0 0) (.slice (bH W) 2 2) (.slice (some ⟨(W:Nat)+1,0,none⟩) 2 2)) (Fv (g:=⟨2,[],[0,1],[1,0]⟩) (A1:=none) (Fr.all fun _=>ay rfl) (zf (xs:=bD [0,1]) cb rfl (ae _) (Qu:(W:Nat)<W+2)) (zf (xs:=bD [1,0]) cc rfl Qu Qu)) Nx s0;clear y hz cb cc b6 Nx s0;go_wp2;refine aI (v:=.agg #[.int .i64 2,dE,.slice (bH W) 2 2,.slice (some ⟨(W:Nat)+1,0,none⟩) 2 2]) Ux rfl ⟨none,0,_,2,_,2,rfl,?_,cq⟩;exact Yf
 .have⟨a,a9⟩:=aR (pC ⟨k,v,true⟩);have⟨b,D⟩:=aR (sC ⟨k,v,true⟩);have a7:3<=k/\k<=14:=by
   have:=hl;rw[<-ϝ]at this;unfold Ç at this;simp only[uN,lp,aj h1,aj h2]at this;by_cases b5:eU k 3 14=true
   .simpa[eU]using b5
   .rw[aj b5]at this;cases this
  have bq:eU k 3 14=true:=by simpa[eU]using a7
  have b7:gwI k=(a:Nat):=by have:=(ϧ hl).1;unfold Ä at this;simp only[uN,lp,aj h1,aj h2,ak bq]at this;rw[a9,this]
  have b8:gwO k=(b:Nat):=by have:=(ϧ hl).2;unfold Ã at this;simp only[uN,lp,aj h1,aj h2,ak bq]at this;rw[D,this]
  have br:=tK hl;have dO:a<=12:=by rw[a9];exact br.1
  have Gg:b<=12:=by rw[D];exact br.2
  have cz:=zH (show fv ⟨k,v,true⟩=⟨a+b,[⟨k,v,List.range a,dd a b⟩],List.range a,dd a b⟩ by unfold fv dd;rw[aj h1,aj h2,a9,D])
  have cA:=zH (fun(W:aa)=>(by have:=jt k W a7.1 a7.2;rw[b7,b8]at this;exact this:az 167 (bK k) W fun e w'=>e=.returned (.agg (iL a b))/\ag W w'));have d5:(k==1)=false:=Rp;have n2:(k==2)=false:=Rk;have d4:IntKind.i64.wrap ((a:Int)+b)=((a+b:Nat):Int):=Rt;clear b7 b8 a9 D br bq a7 hl h1 h2;go_enter func123,ntmps123
  go_upto_region 1 with(fail)
  generalize (w.alloc _).alloc _=W at hB hq hr ⊢;obtain⟨a5,c1,c2⟩:=aD hq;have⟨bb,HR⟩:=bJ hB hr;clear hB hq hr;go_upto_region 7 with(go_at_call 167;refine(cA.o _).x ?_;rintro e w2 ⟨rfl,D⟩;have hz:=ai HR D;have an:=ar D a5;have I:=ar D c1;have HZ:=zH hz;have a2:=zH (aT bb D);clear hz D)
  have bu:=aH w2 (.cells (iL a b) 207) rfl;have bh:=a2.alloc a2.size (.cells (iL a b) 207);have a8:=ai HZ (aw w2 (.cells (iL a b) 207));have d0:=ar (aw w2 (.cells (iL a b) 207)) an;have d1:=ar (aw w2 (.cells (iL a b) 207)) I;generalize w2.alloc _=ah at bu bh a8 d0 d1 ⊢;obtain⟨b4,a6,-,-⟩:=dD bu;have⟨cj,cB⟩:=bJ bh a8;have ce:(w:Nat)+1<ah:=(bk.1 a8).1;have b2:=zH ce;clear a5 c1 c2 an I bu bh a8 ce;have ap:=aQ b4 (aQ a6 (aQ d0 d1));clear b4 a6 d0 d1;go_cut [4,5] from 21 (fun dc dl V=>∃Y I Z ab,dc=.slice Y a I/\dl=.slice Z b ab/\Fr V ah V (fun T=>aO T Y (bD (List.range a)))/\Fr V ah V (fun T=>aO T Z (bD (dd a b)))/\ag ah V)
  case first=>
   go_region_held3 (fun V=>af V w2 0 (zI (a:Nat))/\af V w2 1 (zI (b:Nat))/\af V w 0 (zI k)/\af V w 1 (zI v))
    (first|exact ap|exact gS GY ap|exact gS h ap)
    ((first|(go_at_call 62;refine(qu a _ Qu).x ?_;rintro e a1 ⟨u1,rfl,ac,FR⟩;obtain⟨Y,I,rfl,-⟩:=ac.p;rw[dX]at ac ⊢;have cK:=zH (ac.fr FR.size);have GY:=zH ((aC ah).t FR);clear ac FR)|(go_at_call 66;refine(sJ a b _ Qu Qu).x ?_;rintro e am ⟨u2,rfl,ad,Gg⟩;obtain⟨Z,ab,rfl,-⟩:=ad.p;rw[aS,c_]at ad ⊢;have cO:=zH (ad.fr Gg.size);have ao:=zH Gg;have h:=zH (aT GY Gg);clear ad Gg)))
   all_goals
    go_wp2_with fail
    go_meet
    exact⟨Y,I,Z,ab,rfl,rfl,(cK.later ao (ae _)).to (ae _) (ae _),cO.to GY.size (ae _),h⟩
  case rest=>
   obtain⟨Y,I,Z,ab,rfl,rfl,bo,bp,av⟩:=hcut;have⟨ct,cu,ck,cF⟩:=gG bo bp (aT cj av) (ai cB av);have F:=gS av ap;have cI:=zH av.size;have b9:=bo.D;have ca:=bp.D;have⟨co,cp⟩:=bJ (fun(V:aa) (bi:ag wc V)=>(by have:=qg Y I (bD (List.range a)) V (b9.ext bi) (by rw[aS,fK];omega);rw[aS,fK]at this;exact this:az 71 (bZ Y a I) V fun e w'=>∃u,e=.returned u/\aE w' V u (bD (List.range a))/\ag V w')) (fun(V:aa) (bi:ag wc V)=>(by have:=qg Z ab (bD (dd a b)) V (ca.ext bi) Sa;rw[aS,c_]at this;exact this:az 71 (bZ Z b ab) V fun e w'=>∃u,e=.returned u/\aE w' V u (bD (dd a b))/\ag V w'));clear bo bp av b9 ca ap;have⟨a3,a4⟩:=bJ (show w2.heap.size≠(w:Nat)+1 by have:=(bk.1 HZ).1;omega) (Qu:w.heap.size≠(w:Nat)+1);have bd:=zH (show ∀(X:aa) (E:Nat) (J:ax) (G:Nat) (O:ax) (H:Nat),ag wc X->bA X ((w:Nat)+1) cw 54->
     bA X E (wW k v Y a I Z b ab) 155->(wc:Nat)<=E->Fr X wc X (fun T=>aO T J (bD (List.range a)))->Fr X wc X (fun T=>aO T O (bD (dd a b)))->
     ∃A1 c1 A2 c2 A3 an,(dQ X ((w:Nat)+1) (zI ((a:Int)+(b:Int))) (.slice (bH E) 1 1) (.slice J a G) (.slice O b H)).heap[(w:Nat)+1]?=some (.cells #[.int .i64 ((a:Int)+(b:Int)),.slice A1 1 c1,.slice A2 a c2,.slice A3 b an] 54 (0,0))/\
      Fr (dQ X ((w:Nat)+1) (zI ((a:Int)+(b:Int))) (.slice (bH E) 1 1) (.slice J a G) (.slice O b H)) ah (dQ X ((w:Nat)+1) (zI ((a:Int)+(b:Int))) (.slice (bH E) 1 1) (.slice J a G) (.slice O b H)) (fun T=>jV T A1 A2 A3 ⟨a+b,[⟨k,v,List.range a,dd a b⟩],List.range a,dd a b⟩)/\
      Below w w (dQ X ((w:Nat)+1) (zI ((a:Int)+(b:Int))) (.slice (bH E) 1 1) (.slice J a G) (.slice O b H)) from fun X E J G O H bn cW U dr c0 c3=>by
    have cV:=(bk.1 U).1;have d6:=b2.o;have ci:=cI.o;have a6:Fr X ah X (fun V=>bR 4 Cl V (some ⟨E,0,none⟩) [⟨k,v,List.range a,dd a b⟩]):=
     zfX (e:=⟨k,v,List.range a,dd a b⟩) (c1:=I) (c2:=ab) (by rw[show(List.range a).length=a from fK ..,show(dd a b).length=b from c_ ..];exact U) Qu cV (ct.later bn (ae _)) (cu.later bn (ae _))
    have g:=Fv (g:=⟨a+b,[⟨k,v,List.range a,dd a b⟩],List.range a,dd a b⟩) a6 (c0.to ci (ae _)) (c3.to ci (ae _));refine⟨_,1,J,G,O,H,cP cW,?_,bY (aT ck bn) Qu _ _ _ _⟩;rw[eK];exact g.dQ Qu)
   go_upto_region 8 with(fail)
   go_cut [] from 29 (fun V=>∃A1 c1 A2 c2 A3 an,bA V ((w:Nat)+1) #[.int .i64 ((a:Int)+(b:Int)),.slice A1 1 c1,.slice A2 a c2,.slice A3 b an] 54/\Fr V ah V (fun T=>jV T A1 A2 A3 ⟨a+b,[⟨k,v,List.range a,dd a b⟩],List.range a,dd a b⟩)/\ag w V)
   case first=>
    go_region_held3 (fun V=>af V w2 0 (zI (a:Nat))/\af V w2 1 (zI (b:Nat))/\af V w 0 (zI k)/\af V w 1 (zI v))
     (first|with_reducible exact F|with_reducible exact gS (aC _) F|with_reducible exact gS (aw _ _).drew F|with_reducible exact gS GY.o F|with_reducible exact gS (GY.o.alloc GY.o.size _) F|with_reducible exact gS h.o F|with_reducible exact gS (h.o.alloc h.o.size _) F|with_reducible exact⟨dH a3.o (gS h.o F).1,dH a3.o (gS h.o F).2.1,dH a4.o (gS h.o F).2.2.1,dH a4.o (gS h.o F).2.2.2⟩|with_reducible exact⟨dH a3.o (gS (h.o.alloc h.o.size _) F).1,dH a3.o (gS (h.o.alloc h.o.size _) F).2.1,dH a4.o (gS (h.o.alloc h.o.size _) F).2.2.1,dH a4.o (gS (h.o.alloc h.o.size _) F).2.2.2⟩)
     ((first|(go_at_call 71;refine(co.o _ VL).x ?_;rintro e a1 ⟨u1,rfl,ac,FR⟩;obtain⟨J,G,rfl,-⟩:=ac.p;have GY:Hd (ag wc a1):=VZ;have be:=zH ((ac.fr FR.size).to (lo':=wc.heap.size) Qt (ae _));(first|(have U:=ai (ky wc _) FR;have cr:=zH U;clear U)|skip);rw[aS,fK]at ac ⊢;clear ac FR)|(go_at_call 71;refine(cp.o _ VR).x ?_;rintro e am ⟨u2,rfl,ad,Gg⟩;obtain⟨O,H,rfl,-⟩:=ad.p;have h:Hd (ag wc am):=V7;have ao:Hd (ag a1 am):=VX;have bg:=zH ((ad.fr Gg.size).to (lo':=wc.heap.size) (by have:=GY.size;(try simp)<;>omega) (ae _));(first|(have U:=ai cr Gg;have bc:=zH U;clear U)|(have U:=ai (aH a1 _ rfl) Gg;have bc:=zH U;clear U)|skip);have hz:=ai cF h;have⟨bv,bz,b0,b1⟩:=aB hz;have⟨f0,f1,f2,f3⟩:=cN hz;have ba:=ai hz (aw am (.cells (wW k v Y a I Z b ab) 155));have⟨c4,c5,p2,c6⟩:=aB ba;have⟨c7,c8,c9,db⟩:=cN ba;have b3:=zH hz;have cR:=zH ba;rw[aS,c_]at ad ⊢;clear hz ba ad Gg)))
    all_goals
     clear c4 c5 p2 c6 c7 c8 c9 db bv bz b0 b1 f0 f1 f2 f3;go_wp2_with fail
     go_meet
     first
      |with_reducible exact bd.o am wc J G O H h.o b3.o bc.o (ae _) (be.o.later ao.o (ae _)) bg.o
      |with_reducible exact bd.o am a1 J G O H h.o b3.o bc.o GY.o.size (be.o.later ao.o (ae _)) bg.o
      |with_reducible exact bd.o _ am.heap.size J G O H (h.o.alloc h.o.size _) cR.o (aH am _ rfl) h.o.size ((be.o.later ao.o (ae _)).later (aw _ _) (ae _)) (bg.o.later (aw _ _) (ae _))
   case rest=>
    obtain⟨A1,G,A2,H,A3,ch,hq,a0,D⟩:=hcut;have⟨y0,y1,y2,y3⟩:=aB hq;have⟨HF,cn⟩:=bJ a0 D;clear hq a0 D;go_wp2;refine aI (v:=.agg #[.int .i64 ((a:Int)+(b:Int)),.slice A1 1 G,.slice A2 a H,.slice A3 b ch]) Ux rfl ?_;rw[cz.o];refine⟨A1,G,A2,H,A3,ch,?_,HF.to (by have:=b2.o;omega) (ae _),cn⟩;exact XK
end
def AN(w:aa)(B h:Nat)(P:j4):Prop:=∃lo hi,B<=lo/\hi<=(w:Nat)/\(h<lo∨hi<=h)/\Fr w lo hi P
def AN.zfM{P}(h:AN w B J P)(I:b<B):AN (dQ w b v0 v1 v2 v3) B J P:=by obtain⟨lo,hi,D,F,G,H⟩:=h;exact⟨lo,hi,D,by rw[eK];exact F,G,H.y fun k a b=>nZ Qu⟩
def AN.mk{P}(h:Fr w lo hi P)(D:B<=lo)(F:hi<=(w:Nat))(G:J<lo∨hi<=J):AN w B J P:=⟨lo,hi,D,F,G,h⟩
def AN.mk4{P}(h:Fr w lo hi P)(D:B<=lo)(F:hi<=(w:Nat))(G:J<lo∨hi<=J):AN (dQ w J v0 v1 v2 v3) B J P:=⟨lo,hi,D,by rw[eK];exact F,G,h.y fun k a b=>nZ Qu⟩
def AN.late{P}(D:AN w B J P)(h:b_ J (J+1) w w')(O:B<=J):AN w' B J P:=by obtain⟨lo,hi,F,G,H,I⟩:=D;exact⟨lo,hi,F,aZ G h.size,H,I.y fun k a b=>h.block k Qu Qu⟩
def AN.all{P}(h:AN w B J P):Fr w B w P:=by obtain⟨lo,hi,D,F,H,G⟩:=h;exact G.to D F
def b_.À{a b c}(h:b_ lo hi a b)(k:Below a b c):b_ lo hi a c:=⟨k.os.t h.os,k.tape.t h.tape,k.output.t h.output,aZ h.size k.size,fun i D F=>(k.block i D).t (h.block i D F)⟩
def zem{H}{F G}{E}{xs:List H}(h:bw F s E w B v xs)(O:bA w J cs G)(I:F≠G):v.ownBlock≠some J:=by
 obtain⟨cs,h⟩:=h;rcases h.η.2 with⟨rfl,_⟩|⟨g,ε,T,rfl,_,D,_⟩
 .simp[Value.ownBlock]
 .intro e;simp only[Value.ownBlock,dW]at e;rw[e,O]at D;simp only[dW,Obj.cells.injEq]at D;exact I D.2.1.q
def Ϩ(g:Gr)(w:aa)(e:Ending)(w':aa):Prop:=∃A1 c1 h c2 D F,e=.returned (.agg (bj g A1 c1 h c2 D F))/\
 bw 155 4 Cl w' w (.slice A1 g.es c1) g.es/\Fr w' w w' (fun W=>aO W h (bD g.i))/\Fr w' w w' (fun W=>aO W D (bD g.o))/\ag w w'
def Ϩ.gr{e}(h:Ϩ g w e w'):xr g w e w':=by obtain⟨A1,c1,F,c2,G,H,I,J,O,T,D⟩:=h;exact⟨A1,c1,F,c2,G,H,I,Fv (J.fr (fun _ _ _ _ U h=>h.ext U) D.size) O T,D⟩
def ø(t:aL)(f:gN)(g:Gr):Prop:=∀x,g.On x->t[x]?=some ((f x:Nat):Int)
def xX{t}{f}(h:∀x∈l,t[x]?=some ((f x:Nat):Int)):nA t (bD l)=bD (l.map f):=by
 unfold nA bD;rw[nr,nr];refine kB fun x D=>?_
 simp[h x D]
def Du{t:aL}{f:gN}(h:∀x∈l,t[x]?=some ((f x:Nat):Int)):∀i∈bD l,0<=i/\i<t.length:=fun i hi=>by obtain⟨x,D,rfl⟩:=cH.1 hi;have:=(bG.1 (h x D)).1;omega
def tk t f l A ε n h D w(H:n=t.length)(G:aO w A t)(F:aO w h (bD l))(I:t.length<=1048576)(hm:l.length<=1048576)(hl:∀x∈l,t[x]?=some ((f x:Nat):Int)):az 164 #[.slice h l D,.slice A n ε] w fun e w'=>∃A3 c3,e=.returned (.slice A3 l c3)/\Fr w' w w' (fun W=>aO W A3 (bD (l.map f)))/\ag w w':=by
 subst H;have:=zez t A ε (bD l) h D w G F I RZ (Du hl);refine Ng fun this w' hb A3 c3 hu=>?_
 refine⟨A3,c3,QV,hu.fr hb.size,hb⟩
def AS g(J:Nat)t f A1 A2 A3 T c1 c2 c3 Y w(hG:jV w A1 A2 A3 g)(hT:aO w T t)(hl:ø t f g)(bp:t.length<=65536)(b2:g.w<=65536)(b0:J<=65536)(U:g.es.length<=65536)(hi:g.i.length<=65536)(ho:g.o.length<=65536)(KI:∀e∈g.es,e.i.length<=65536/\e.o.length<=65536):az 205 #[.agg (bj g A1 c1 A2 c2 A3 c3),J,.slice T t Y] w (Ϩ (g.map J f) w):=by
 obtain⟨gw,es,gi,go⟩:=g;refine PR fun LI LO hB hq hr HG HT KQ KM KB KV KA IJ KP=>?_;clear hT bp hG hl hi ho KI
 go_enter func205,ntmps205
 go_upto_region 1 with(fail)
 generalize (w.alloc _).alloc _=W at hB hq hr HG HT ⊢;have⟨x0,x1,x2,x3⟩:=aB hq;obtain⟨an,bi,bh,GX,av,a0⟩:=ny hB hr hq (show(w:Nat)+2<=W from(bk.1 hr).1) (fun(V:aa) (hV:ag W V)=>tk t f gi T Y t A2 c2 V rfl (HT.ext hV) (HG.i.ext hV) KA KB LI) (fun(V:aa) (hV:ag W V)=>tk t f go T Y t A3 c3 V rfl (HT.ext hV) (HG.o.o.ext hV) KA KV LO);have S0:=aQ x2 x3;clear hB hr hq x0 x1 x2 x3 LI LO;go_cut [7] from 10 (fun bq V=>∃Z D H F I,bq=.pointer (bH Z)/\bA V Z #[.int .i64 J,.slice none 0 0,.slice D gi H,.slice F go I] 54/\(W:Nat)<=Z/\AN V W Z (fun am=>aO am D (bD (gi.map f)))/\AN V W Z (fun am=>aO am F (bD (go.map f)))/\ag W V)
 case first=>
  go_region_held3 (fun V=>af V w 2 (.slice A2 gi c2)/\af V w 3 (.slice A3 go c3))
   (first|with_reducible exact S0|with_reducible exact j6 (aC _) S0|with_reducible exact j6 (aw _ _).drew S0|with_reducible exact j6 GY.o S0|with_reducible exact j6 (GY.o.alloc GY.o.size _) S0|with_reducible exact j6 Hk.o S0|with_reducible exact j6 (Hk.o.alloc Hk.o.size _) S0|with_reducible exact j6 (bY Hk.o (ae _) _ _ _ _) S0|with_reducible exact j6 (bY Hk.o GY.o.size _ _ _ _) S0)
   ((first|(go_at_call 164;refine(av.o _ VL).x ?_;rintro e w7 ⟨D,H,rfl,IB,FR⟩;have GY:Hd (ag W w7):=VZ;have Iz:=zH IB;have G5:=zH FR;clear IB FR)|(go_at_call 164;refine(a0.o _ VR).x ?_;rintro e w8 ⟨F,I,rfl,Gf,Gg⟩;have Hk:Hd (ag W w8):=V7;have KN:Hd (ag w7 w8):=VX;have Iv:=zH Gf;have bu:=zH Gg;(first|(have G:=ai (ai (ky W _) G5) Gg;have⟨a7,a8,a9,ba⟩:=aB G;have⟨f0,f1,f2,f3⟩:=cN G;have HZ:=zH G;clear G)|(have G:=ai (aH w7 _ rfl) Gg;have⟨a7,a8,a9,ba⟩:=aB G;have⟨f0,f1,f2,f3⟩:=cN G;have HZ:=zH G;clear G)|skip);clear Gf Gg)))
  all_goals
   go_wp2_with fail
   go_meet
   first
    |with_reducible exact⟨w8,D,H,F,I,rfl,aH w8 _ rfl,Hk.o.size,AN.mk ((Iz.o.ext KN.o (ae _)).ext (aw _ _) KN.o.size) (ae _) (aZ KN.o.size (aw _ _).size) (au KN.o.size),AN.mk (Iv.o.ext (aw _ _) (ae _)) GY.o.size (aw _ _).size (au (ae _)),Hk.o.alloc Hk.o.size _⟩
    |with_reducible exact⟨w7,D,H,F,I,rfl,cP HZ.o,GY.o.size,AN.mk4 (Iz.o.ext KN.o (ae _)) (ae _) KN.o.size (au (ae _)),AN.mk4 Iv.o (aZ GY.o.size (aw _ _).size) (ae _) (ay Qt),bY Hk.o GY.o.size _ _ _ _⟩
    |with_reducible exact⟨W,D,H,F,I,rfl,cP HZ.o,ae _,AN.mk4 (Iz.o.ext KN.o (ae _)) (aw _ _).drew.size KN.o.size (ay Qt),AN.mk4 Iv.o GY.o.size (ae _) (ay UN),bY Hk.o (ae _) _ _ _ _⟩
 case rest=>
  obtain⟨Z,D,H,F,I,rfl,G,a1,a2,a3,ab⟩:=hcut;have⟨bd,be,ao,HZ,bn⟩:=pD a2 a3 ab a1 (ai bi ab);have a6:=(bk.1 G).1;have Kz:=zH a6;have S1:=(aB (ai bh ab)).2.1;have⟨z0,z1,z2,z3⟩:=aB G;have br:=zH (HG.ext ab);clear a2 a3 ab a1 a6 av a0 S0 HG HT;go_wp2;go_loopw [23] (fun i wr=>∃k:Nat,k<=es.length/\i=.int .i64 k/\(∃C1 m1,bA wr Z #[.int .i64 J,.slice C1 k m1,.slice D gi H,.slice F go I] 54/\bw 155 4 Cl wr wc (.slice C1 k m1) ((es.map (Ed.map f)).take k))/\b_ Z (Z+1) wc wr) (fun i _=>es.length-(intOf i).toNat)
  case atStart=>exact⟨0,aW _,rfl,⟨none,0,G,bw.nil _ _ _ _ _⟩,b_.refl _ _ _⟩
  case round=>
   obtain⟨k,b1,rfl,⟨C1,m1,ac,FT⟩,O⟩:=hrel;clear z0 z1 z2 z3 G S1;have ad:ag w wr:=(aT an ao).t (O.L Uc (aT an ao).size);have IM:=O.size;by_cases bo:k<es.length
   .have⟨e,U⟩:=aq bo;obtain⟨bv,bz,D1,d1,D2,d2,rfl,x0,x1,x2,x3,hi1,hi2⟩:=fU ((IJ.ext ad).es) U;obtain⟨L1,L2⟩:=KQ e (aU U);obtain⟨N1,N2⟩:=KM e (aU U);have Gl:=zH (by rw[du,bI,U];rfl:(es.map (Ed.map f)).take (k+1)=(es.map (Ed.map f)).take k++[e.map f]);have a4:((es.map (Ed.map f)).take k).length=k:=by rw[cQ,bs];omega
    have⟨Kx,ap,Jq,II,KS⟩:=pD a4 ad O FT ac;have b3:=(bk.1 ac).1;obtain⟨ek,ev,ei,IN⟩:=e;dsimp only at x0 x1 x2 x3 hi1 hi2 L1 L2 N1 N2;have⟨Gm,G6⟩:=bM wr (.cells (eh ek ev D1 ei d1 D2 IN d2) 155);clear U a4 FT O ac ad;go_upto_region 5 with(fail)
    generalize wr.alloc _=w2 at Gm G6 ⊢;have⟨Ia,KT,Hf⟩:=er Gm (fun(V:aa) (hV:ag wr V)=>tk t f ei T Y t D1 d1 V rfl (KP.ext (aT ap hV)) (hi1.ext hV) KA Qu L1) (fun(V:aa) (hV:ag wr V)=>tk t f IN T Y t D2 d2 V rfl (KP.ext (aT ap hV)) (hi2.ext hV) KA Qu L2);exact Z8
   .obtain rfl:k=es.length:=Qu;have⟨z0,z1,z2,z3⟩:=aB ac;have ah:=nL bn O (ay Uc);have⟨a7,a8,a9,ba⟩:=aB ah;have⟨f0,f1,f2,f3⟩:=cN ah;have y:=cP (v0:=.int .i64 J) (v1:=.slice C1 es m1) (v2:=.slice D gi H) (v3:=.slice F go I) ah;have⟨y0,y1,y2,y3⟩:=aB y;have⟨bc,Jq⟩:=bJ (bY ad (b:=(w:Nat)+1) Qu (zI J) (.slice C1 es m1) (.slice D gi H) (.slice F go I)) O;have a5:bw 155 4 Cl wr wc (.slice C1 es m1) (es.map (Ed.map f)):=Wy;have bg:=zH a5;clear y ac ah O FT a5;go_wp2;have b4:=GX.o;have bb:=HZ.o;have b5:=Kz.o;refine aI (v:=.agg (rI J C1 es m1 D gi H F go I)) (by simp[results,results205,go_sem, *]) rfl ⟨C1,m1,D,H,F,I,?_,?_,?_,?_,bc⟩
    .show Ending.returned (Value.agg #[_,Value.slice C1 _ m1,Value.slice D _ H,Value.slice F _ I])=Ending.returned (Value.agg #[_,Value.slice C1 (es.map (Ed.map f)) m1,Value.slice D (gi.map f) H,Value.slice F (go.map f) I])
     rw[bs,bs,bs];rfl
    .show bw _ _ _ _ _ (Value.slice C1 (es.map (Ed.map f)) m1) (es.map (Ed.map f))
     rw[bs];exact(((((bg.setCell (a:=⟨(w:Nat)+1,0,none⟩) (by show(w:Nat)+1<_;omega) _).setCell (a:=⟨(w:Nat)+1,1,none⟩) (by show(w:Nat)+1<_;omega) _).setCell (a:=⟨(w:Nat)+1,2,none⟩) (by show(w:Nat)+1<_;omega) _).setCell (a:=⟨(w:Nat)+1,3,none⟩) (by show(w:Nat)+1<_;omega) _).x Qu)
    .exact((bd.late Jq bb).zfM (b:=(w:Nat)+1) Qu).all.to Qu (ae _)
    .exact((be.late Jq bb).zfM (b:=(w:Nat)+1) Qu).all.to Qu (ae _)
def Ck.root{P}(h:Ck n P C)(hx:P[x]?=some y)(D:x<n):y<=x/\C.getD y 0=C.getD x 0/\(y=x->C.getD x 0=x):=by have e:P.getD x 0=y:=RL;have F:=h.le x D;have G:=h.up x D;have H:=h.Ë x D;rw[e]at F G H;exact⟨F,G,H⟩
def Ck.lt{P}(h:Ck n P C)(D:x<n):C.getD x 0<=x:=h.cls.le x D
def Dp n P C A ε x w(T:Ck n P C)(ad:aO w A (bD P))(ah:x<n)(ao:n<=1048576):az 209 #[.slice A n ε,x] w fun e w'=>e=.returned (zI (C.getD x 0:Nat))/\w=w':=by
 have D:=zH T;have⟨r,I⟩:=aR (C.getD x 0);rw[<-I];have ab:=zH I;clear T I;go_enter func209,ntmps209
 go_wp2;go_loopw [1] (fun u wr=>∃y:Nat,u=.int .i64 y/\y<n/\Hd (C.getD y 0=r)/\wr=w) (fun u _=>(intOf u).toNat)
 case atStart=>exact⟨x,rfl,ah,zH ab.q,rfl⟩
 case round=>
  obtain⟨y,rfl,J,U,rfl⟩:=hrel;obtain⟨z,h⟩:=aq (by rw[D.o.ι];exact J:y<P.length);obtain⟨b,o,rfl,H⟩:=ad.θ (k:=y) (by rw[aS,D.o.ι];exact J);have am:=H y _ (dK h);obtain⟨ac,F,G⟩:=D.root h J;have Y:=zH F;by_cases O:z=y
  .have Z:=zH (G O);subst O;clear H F G h;go_wp2;go_ret
   exact⟨rl (by rw[show r=z by rw[<-U.o,Z.o]]),rfl⟩
  .have ap:((z:Int)!=(y:Int))=true:=QW;have an:z<y:=Qu;clear H F G h O ac;go_wp2;go_roundw
   case rel=>exact⟨z,rfl,Qu,zH (by rw[Y.o,U.o]),(by trivial)⟩
   case measure=>simp[intOf];omega
def ziq l(i x:Nat):(bD l).set i (x:Int)=bD (l.set i x):=by simp[bD,eW]
def zmm(n ε B:Nat)(A:ax)(P C:bP)(x y:Nat)(w:aa)(e:Ending)(w':aa):Prop:=
 e=.returned (.tuple #[])/\aE w' B (.slice A n ε) (bD (P.set (max (C.getD x 0) (C.getD y 0)) (min (C.getD x 0) (C.getD y 0))))/\w.grownBy w' (Value.slice A n ε).ownBlock/\(w':Nat)=w
def zir n B P C A ε x y w(D:Ck n P C)(G:aE w B (.slice A n ε) (bD P))(am:x<n)(an:y<n)(av:n<=1048576):az 207 #[.slice A n ε,x,y] w (zmm n ε B A P C x y w):=by
 obtain⟨a1,a2,e,U,-⟩:=G.p;simp only[ep]at e;obtain⟨rfl,-,-⟩:=e;have H:=zH (fun(z:Nat) (a0:z<n)=>Dp n P C A ε z w D U a0 av);obtain⟨g,rfl⟩:∃g,A=some ⟨g,0,none⟩:=by
  rcases EL G with⟨_,h,_⟩|h
  .have:=oy List.length h;rw[aS,D.ι]at this;simp at this;omega
  .exact h
 have ab:=D.lt am;have ac:=D.lt an;have ad:=D.ι;have⟨a,Y⟩:=aR (C.getD x 0);have⟨b,Z⟩:=aR (C.getD y 0);have⟨HX,HY⟩:=bJ (H x am) (H y an);unfold zmm;rw[<-Y]at HX ab ⊢;rw[<-Z]at HY ac ⊢;have O:max a b<n:=Qu;have⟨q,ah⟩:=aq (Qu:max a b<P.length);have F:=G;unfold aE at F;rw[aS,ad]at F;have I:af w g (max a b) (zI (q:Nat)):=by rw[F.C _ Qu,bI,dK ah];rfl
 have J:=F.g (max a b);have T:=F.j (max a b) (zI ((min a b:Nat):Int));rw[<-eW,ziq]at T;have HS:=zH T;clear H D G U F T ah Y Z ab ac;have HE:=zH (show ∀M m,max a b=M->min a b=m->aE (w.setCell ⟨g,M,none⟩ (zI (m:Nat))) B (.slice (bH g) n ε) (bD (P.set (max a b) (min a b)))/\w.grownBy (w.setCell ⟨g,M,none⟩ (zI (m:Nat))) (Value.slice (bH g) n ε).ownBlock/\(w.setCell ⟨g,M,none⟩ (zI (m:Nat)):Nat)=w from fun M m ao ap=>by subst ao ap;refine⟨?_,HS.2,Qt⟩;unfold aE;rw[aS,iW,ad];exact HS.1)
 rcases An a b with h|h|h
 .rw[show max a b=b by omega]at I J O;have HF:=zH (HE b a Qu Qu);exact Zc
 .rw[show max a b=b by omega]at I J O;have HF:=zH (HE b a Qu Qu);clear HE HS;subst h;go_enter func207,ntmps207
  refine MY ?_;go_end0
  exact⟨rfl,HF⟩
 .rw[show max a b=a by omega]at I J O;have HF:=zH (HE a b Qu Qu);exact Zc
def ec(g:Gr):List (List Nat):=[g.i,g.o]++g.es.flatMap fun e=>[e.i,e.o]
def yA g x:(∃l∈ec g,x∈l)↔g.On x:=by
 unfold ec Gr.On;constructor
 .rintro⟨l,G,F⟩;rcases dP.1 G with h|h
  .simp at h;rcases h with rfl|rfl
   .exact ay F
   .exact au (ay F)
  .obtain⟨e,D,h⟩:=lh.1 h;simp at h;rcases h with rfl|rfl
   .exact au (au ⟨e,D,ay F⟩)
   .exact au (au ⟨e,D,au F⟩)
 .rintro(h|h|⟨e,D,h|h⟩)
  .exact⟨g.i,Qt,h⟩
  .exact⟨g.o,Qt,h⟩
  .exact⟨e.i,kE _ (lh.2 ⟨e,D,Qt⟩),h⟩
  .exact⟨e.o,kE _ (lh.2 ⟨e,D,Qt⟩),h⟩
def zfp g A1 A2 A3 c1 c2 c3 v1 v2 lo hi w0 w(h:List (List Nat)->World->Prop)(hG:jV w0 A1 A2 A3 g)(ap:g.es.length<=1048576)(Gb:∀l∈ec g,l.length<=65536)(hI:∀d V D,h d V->ag V D->h d D)(hB:ag w0 w)(I2:(w0:Nat)<=lo)(Mb:hi<=(w:Nat))(hs:h [] w)(H:∀(d:List (List Nat)) (l:bP) (A:ax) (ε:Nat) (V:aa),h d V->aO w0 A (bD l)->ag w0 V->(∀x∈l,g.On x)->l.length<=65536->az 208 #[.slice A l ε,v1,v2] V fun e D=>e=.returned (.tuple #[])/\h (d++[l]) D/\b_ lo hi V D):az 169 #[.agg (bj g A1 c1 A2 c2 A3 c3),.func (.func 208) #[] #[v1,v2]] w fun e w'=>e=.returned (.tuple #[])/\h (ec g) w'/\b_ lo hi w w':=by
 obtain⟨gw,es,gi,go⟩:=g;refine Qb fun HH HI IJ Ih Ig hq Gq HB LI LO LE JJ Mf L3 L8=>?_;clear hI hB hs hG Gb H
 go_enter func169,ntmps169
 go_upto_region 1 with(fail)
 generalize w.alloc _=W at hq Ig Gq ⊢;have⟨x0,x1,x2,x3⟩:=aB hq;have⟨L_,Y,ab⟩:=er (HH [] gi A2 c2 W Ig IJ.i (Ih.o _ Gq) LI Mf) hq Gq;clear Ig hq Gq;go_wp2_with fail
 refine L_.x ?_;rintro e ad ⟨rfl,hi2,G⟩;have F:=nL Y G (au Mb);have⟨ah,am,an,ao⟩:=aB F;have J:=zH (ab.t G);have⟨Me,Z⟩:=bJ (HH [gi] go A3 c3 ad hi2 IJ.o.o (Ih.o _ J.o) LO L3) F;clear x0 x1 x2 x3 hi2 G F L_;go_wp2_with fail
 refine Me.x ?_;rintro e av ⟨rfl,O,I⟩;have T:=nL Z I (au Mb);have⟨z0,z1,z2,z3⟩:=aB T;have⟨ac,U⟩:=bJ (J.o.t I) O;clear ah am an ao O I T Me;go_wp2;go_loopw [17] (fun i wr=>∃k:Nat,k<=es.length/\i=.int .i64 k/\h ([gi,go]++(es.take k).flatMap fun e=>[e.i,e.o]) wr/\b_ lo hi w wr) (fun i _=>es.length-(intOf i).toNat)
 case atStart=>exact⟨0,aW _,rfl,U,ac⟩
 case round=>
  exact Z3
def FJ g A1 A2 A3 c1 c2 c3 v1 v2 v3 v4 lo hi w0 w(h:List (List Nat)->World->Prop)(hG:jV w0 A1 A2 A3 g)(ap:g.es.length<=1048576)(Gb:∀l∈ec g,l.length<=65536)(hI:∀d V D,h d V->ag V D->h d D)(hB:ag w0 w)(I2:(w0:Nat)<=lo)(Mb:hi<=(w:Nat))(hs:h [] w)(H:∀(d:List (List Nat)) (l:bP) (A:ax) (ε:Nat) (V:aa),h d V->aO w0 A (bD l)->ag w0 V->(∀x∈l,g.On x)->l.length<=65536->az 170 #[.slice A l ε,v1,v2,v3,v4] V fun e D=>e=.returned (.tuple #[])/\h (d++[l]) D/\b_ lo hi V D):az 169 #[.agg (bj g A1 c1 A2 c2 A3 c3),.func (.func 170) #[] #[v1,v2,v3,v4]] w fun e w'=>e=.returned (.tuple #[])/\h (ec g) w'/\b_ lo hi w w':=by
 obtain⟨gw,es,gi,go⟩:=g;refine Qb fun HH HI IJ Ih Ig hq Gq HB LI LO LE JJ Mf L3 L8=>?_;clear hI hB hs hG Gb H
 go_enter func169,ntmps169
 go_upto_region 1 with(fail)
 generalize w.alloc _=W at hq Ig Gq ⊢;have⟨x0,x1,x2,x3⟩:=aB hq;have⟨L_,Y,ab⟩:=er (HH [] gi A2 c2 W Ig IJ.i (Ih.o _ Gq) LI Mf) hq Gq;clear Ig hq Gq;go_wp2_with fail
 refine L_.x ?_;rintro e ad ⟨rfl,hi2,G⟩;have F:=nL Y G (au Mb);have⟨ah,am,an,ao⟩:=aB F;have J:=zH (ab.t G);have⟨Me,Z⟩:=bJ (HH [gi] go A3 c3 ad hi2 IJ.o.o (Ih.o _ J.o) LO L3) F;clear x0 x1 x2 x3 hi2 G F L_;go_wp2_with fail
 refine Me.x ?_;rintro e av ⟨rfl,O,I⟩;have T:=nL Z I (au Mb);have⟨z0,z1,z2,z3⟩:=aB T;have⟨ac,U⟩:=bJ (J.o.t I) O;clear ah am an ao O I T Me;go_wp2;go_loopw [17] (fun i wr=>∃k:Nat,k<=es.length/\i=.int .i64 k/\h ([gi,go]++(es.take k).flatMap fun e=>[e.i,e.o]) wr/\b_ lo hi w wr) (fun i _=>es.length-(intOf i).toNat)
 case atStart=>exact⟨0,aW _,rfl,U,ac⟩
 case round=>
  exact Z3
def Ds:(prog.info? 4).map (fun i=>(i.zero,i.size,i.bytes))=some (some (.bool false),1,1):=QT
def pH(C:bP)(d:List (List Nat))(r:Nat):Bool:=d.any fun l=>l.any fun x=>decide (C.getD x 0=r)
def mP(n:Nat)(C:bP)(d:List (List Nat)):List Bool:=(List.range n).map (pH C d)
def lK n C d:(mP n C d).length=n:=by simp[mP]
def nD C d(h:r<n):(mP n C d)[r]?=some (pH C d r):=by simp[mP,h]
def AQ n C:mP n C []=List.replicate n false:=by
 apply gk;intro k;by_cases h:k<n
 .rw[nD _ _ h,fI,ak h];rfl
 .rw[eP (by rw[lK];omega),fI,aj h]
def zgF{d}(h:l[k]?=some x)r:pH C (d++[l.take (k+1)]) r=(pH C (d++[l.take k]) r||decide (C.getD x 0=r)):=by unfold pH;rw[CY,CY,List.any_cons,List.any_cons,List.any_nil,Bool.or_false,Bool.or_false,du,h,CY];simp[Bool.or_assoc]
def ť{d}(D:l[k]?=some x)(F:C.getD x 0<n):(mP n C (d++[l.take k])).set (C.getD x 0) true=mP n C (d++[l.take (k+1)]):=by
 apply gk;intro r;by_cases h:r<n
 .rw[nD _ _ h,zgF D];by_cases e:C.getD x 0=r
  .subst e;rw[gl (by rw[lK];exact h)];simp
  .rw[gI e,nD _ _ h];simp only[e,decide_false,Bool.or_false]
 .rw[eP (by rw[iW,lK];omega),eP (by rw[lK];omega)]
structure UI(n B bu bc ug uc cp:Nat)(Ac:ax)(P C:bP)(d:List (List Nat))(V:aa):Prop where
 hu:bA V bu (bZ (bH ug) n uc) 209
 hc:bA V bc (bZ Ac n cp) 258
 ci:aE V B (.slice Ac n cp) (bD P)
 us:V.ownsRow B 4 1 (.slice (bH ug) n uc) n ((mP n C d).map Value.bool)
def UI.ext{H ug O I}{F}{P}{d}{G}(D:UI n B J H ug O I F P C d V)(h:ag V G):UI n B J H ug O I F P C d G:=⟨ai D.hu h,ai D.hc h,D.ci.ext h,jA D.us (row:=none) ⟨h.os,h.tape,h.output,h.size,fun k T _=>h.block k T⟩ SY⟩
def UI.ug{D ug O F}{h}{P}{d}(H:UI n B J D ug O F h P C d V):∃cs,bA V ug cs 4:=by
 rcases H.us.2 with⟨e,_⟩|⟨g,ε,G,e,_,I,_⟩
 .cases e
 .cases e;exact⟨G,I⟩
def UI.set{D ug O H}{G}{P}{d}(h:UI n B J D ug O H G P C (d++[l.take k]) V)(U:l[k]?=some x)(T:C.getD x 0<n):UI n B J D ug O H G P C (d++[l.take (k+1)]) (V.setCell ⟨ug,C.getD x 0,none⟩ (.bool true)):=by
 obtain⟨cs,I⟩:=h.ug;have Y:J≠ug:=fun e=>by have:=h.hu;rw[e,I]at this;simp at this
 have n2:D≠ug:=fun e=>by have:=h.hc;rw[e,I]at this;simp at this
 have F:=h.us.j (C.getD x 0) (.bool true);rw[<-eW,ť U T]at F;exact⟨(a_ _ _ _ _ Y).t h.hu,(a_ _ _ _ _ n2).t h.hc,aE.kept h.ci F.2 (vT Qw h.ci h.us),F.1⟩
def zgG n B F D ug I G h P C d l A ε V(ao:Ck n P C)(H:UI n B F D ug I G h P C d V)(an:aO V A (bD l))(av:∀x∈l,x<n)(bg:n<=1048576)(bp:l.length<=1048576)(a1:∀b o,A=some ⟨b,o,none⟩->0<l.length->b≠ug):az 208 #[.slice A l ε,.pointer (bH F),.pointer (bH D)] V fun e ad=>e=.returned (.tuple #[])/\UI n B F D ug I G h P C (d++[l]) ad/\b_ ug (ug+1) V ad:=by
 have⟨ac,a3,a5,a6⟩:=gG ao an av a1;have a7:=zH (show UI n B F D ug I G h P C (d++[l.take 0]) V from by
  have:mP n C (d++[l.take 0])=mP n C d:=by unfold mP pH;simp
  exact⟨H.hu,H.hc,H.ci,by rw[this];exact H.us⟩)
 clear ao H an av a1;go_enter func208,ntmps208
 go_wp2;go_loopw [8] (fun i wr=>∃k:Nat,k<=l.length/\i=.int .i64 k/\UI n B F D ug I G h P C (d++[l.take k]) wr/\b_ ug (ug+1) V wr) (fun i _=>l.length-(intOf i).toNat)
 case atStart=>exact⟨0,aW _,rfl,a7,b_.refl _ _ _⟩
 case round=>
  obtain⟨k,bo,rfl,hu,hw⟩:=hrel;by_cases FX:k<l.length
  .have⟨x,O⟩:=aq FX;obtain⟨b,o,rfl,ap⟩:=a3.θ (k:=k) Se;have bq:=a6 b o rfl Qu;have bn:=hw.cell (ap k _ (dK O)) (by show b<ug∨ug+1<=b;omega);have Y:=a5 x (aU O);have T:C.getD x 0<n:=by have:=ac.lt Y;omega
   have⟨ab,Z⟩:=bJ (hu.set O T) (fun W (bc:aO W h (bD P))=>Dp n P C h G x W ac bc Y bg);have a4:Hd (aO wr h (bD P)):=by obtain⟨bh,bi,e,bb,-⟩:=hu.ci.p;simp only[ep]at e;obtain⟨rfl,-,-⟩:=e;exact zH bb
   have⟨r,a0⟩:=aR (C.getD x 0);rw[<-a0]at ab Z T;have ah:=aF hu.hu 0 rfl;have am:=aF hu.hc 0 rfl;have bd:∃q,af wr ug r q:=by obtain⟨q,hq⟩:=aq (by rw[lK];exact T:r < (mP n C (d++[l.take k])).length);exact⟨.bool q,U9⟩
   obtain⟨q,hq⟩:=bd;have be:=hu.us.g r;obtain⟨cs,U⟩:=hu.ug;have a2:F≠ug:=fun e=>by have:=hu.hu;rw[e,U]at this;simp at this
   have n2:D≠ug:=fun e=>by have:=hu.hc;rw[e,U]at this;simp at this
   have⟨a9,ba,a8⟩:=er a2 n2 hw;have J:=aQ ah am;clear ap O Y hu a0 U a2 n2 hw ah am;go_wp2_with fail
   go_region_held3 (fun W=>af W F 0 (.slice (bH ug) n I)/\af W D 0 (.slice h n G))
    (first|exact J|exact⟨(cE a9.o).t J.1,(cE ba.o).t J.2⟩)
    ((go_at_call 209;refine(Z.o _ (a4.ext (aC _))).x ?_;rintro e w' ⟨rfl,rfl⟩))
   have⟨HE,I3⟩:=bJ (ab.ext (aC _)) ((a8.xv (p:=⟨ug,r,none⟩) (v:=.bool true) (ae _) (iX _)).t (b_.gy (aC _)));clear J hq be;go_wp2;go_roundw
   case rel=>exact⟨k+1,Qu,Qx,HE,I3⟩
   case measure=>simp[intOf];omega
  .exact Yl
def EJ:pH C (ec g) r=true↔∃x,g.On x/\C.getD x 0=r:=by
 unfold pH;rw[nl];constructor
 .rintro⟨l,F,h⟩;rw[nl]at h;obtain⟨x,D,h⟩:=h;exact⟨x,(yA g x).1 ⟨l,F,D⟩,Q_⟩
 .rintro⟨x,D,h⟩;obtain⟨l,F,D⟩:=(yA g x).2 D;exact⟨l,F,nl.2 ⟨x,D,Q_⟩⟩
def Ő(G:g.In):Fl g C r=(decide (C.getD r 0=r)&&pH C (ec g) r):=by
 rw[jQ];unfold Fl;rw[bN,bN,EJ,nl];constructor
 .rintro⟨D,x,F,h⟩;rw[bN,cf]at h;exact⟨D,x,Gr.lO.1 h.1,h.2⟩
 .rintro⟨D,x,F,h⟩;exact⟨D,x,fj.2 (G x F),by rw[Gr.lO.2 F];simpa using h⟩
def Æ(g:Gr)(C:bP)(x:Nat):Int:=if pH C (ec g) (C.getD x 0)=true then(DD g C x:Nat) else -1
def Υ(g:Gr)(C:bP):List Int:=(List.range g.w).map (Æ g C)
def CO g C:(Υ g C).length=g.w:=by simp[Υ]
def wK C(h:x<g.w):(Υ g C)[x]?=some (Æ g C x):=by simp[Υ,h]
def nS(g:Gr)(C:bP)(k:Nat):Nat:=((List.range k).filter (Fl g C)).length
def wL g C k:nS g C k<=k:=by have:=C4 (Fl g C) (List.range k);rw[fK]at this;exact this
def zaV g C k:nS g C (k+1)=nS g C k+if Fl g C k=true then 1 else 0:=zcJ k
def zaW(D:g.In):ø (Υ g C) (DD g C) g:=fun x h=>by rw[wK C (D x h)];unfold Æ;rw[ak (EJ.2 ⟨x,h,rfl⟩)]
def Ŋ(h:pH C (ec g) (C.getD k 0)=false):Æ g C k=-1:=by unfold Æ;rw[h];simp
def zge(h:l9 g.w C)(D:k<g.w):Æ g C k=Æ g C (C.getD k 0):=by unfold Æ DD;rw[h.rep k D]
def Ŵ(h:pH C (ec g) (C.getD k 0)=true)(e:C.getD k 0=k):Æ g C k=(nS g C k:Nat):=by unfold Æ DD nS;rw[ak h,e]
def zgg(D:g.In)(h:pH C (ec g) (C.getD k 0)=true)(e:C.getD k 0=k):nS g C (k+1)=nS g C k+1:=by rw[zaV,Ő D,e];rw[e]at h;rw[h];simp
def zG(D:g.In)(h:pH C (ec g) (C.getD k 0)=false∨C.getD k 0≠k):nS g C (k+1)=nS g C k:=by
 rw[zaV,Ő D];rcases h with h|h
 .by_cases e:C.getD k 0=k
  .rw[e]at h;rw[h];simp
  .rw[fR e,my];rfl
 .rw[fR h,my];rfl
def zJ(h:g.In)(D:∀q∈ps,q.1<g.w/\q.2<g.w):js g ps=g.map (nS g (jF g.w ps) g.w) (DD g (jF g.w ps)):=ziG h D
def EPr(_:aa)(x:g_)(c:cL):Prop:=c=[.int .i64 (x.1:Nat),.int .i64 (x.2:Nat)]
def zm9:RT prog 201 202 2 (.agg fP) 16:=⟨underlying201,QT,Qw,Qw,Qw⟩
def zfg(G:bR 2 EPr w A ps){q}(F:ps[k]?=some q):∃b o,A=some ⟨b,o,none⟩/\af w b (o+k*2) (zI (q.1:Nat))/\af w b (o+k*2+1) (zI (q.2:Nat)):=by obtain⟨b,o,e,H⟩:=G.θ (bG.1 F).1;obtain⟨c,h,D⟩:=H k q F;unfold EPr at D;subst D;exact⟨b,o,e,h 0 _ rfl,h 1 _ rfl⟩
def zhK(h:bR 2 EPr w A ps)(D:ag w w'):bR 2 EPr w' A ps:=bR.ext (fun _ _ h=>(h:EPr w _ _)) h D
def zmR(g:Gr)(ps:ng)(w:aa)(e:Ending)(w':aa):Prop:=∃A1 c1 h c2 D G F H,e=.returned (.agg #[.int .i64 ((js g ps).w:Nat),.slice A1 (js g ps).es c1,.slice h (js g ps).i c2,.slice D (js g ps).o G,.slice F g.w H])/\
 Fr w' w w' (fun W=>jV W A1 h D (js g ps))/\ag w w'
abbrev st5(w:aa)(b:Nat)(v0 v1 v2 v3 v4:aG):World:=((((w.setCell ⟨b,0,none⟩ v0).setCell ⟨b,1,none⟩ v1).setCell ⟨b,2,none⟩ v2).setCell ⟨b,3,none⟩ v3).setCell ⟨b,4,none⟩ v4
def zgI{G H I}(h:bA w b #[T,G,z2,H,I] t):(st5 w b v0 v1 v2 v3 v4).heap[b]?=some (.cells #[v0,v1,v2,v3,v4] t (0,0)):=by
 refine NL fun e1 e2 e3=>?_
 have D:=bE _ b 3 _ _ v3 e3;have F:=bE _ b 4 _ _ v4 D;simpa[st5]using F
def zit(h:k≠b):(st5 w b v0 v1 v2 v3 v4).heap[k]?=w.heap[k]?:=(a_ _ _ _ _ Q_).t ((a_ _ _ _ _ Q_).t ((a_ _ _ _ _ Q_).t ((a_ _ _ _ _ Q_).t (a_ _ _ _ _ Q_))))
def ziu:(st5 w b v0 v1 v2 v3 v4:Nat)=w:=by simp[st5]
def zgJ(D:Below B w w')(h:B<=b)v0 v1 v2 v3 v4:Below B w (st5 w' b v0 v1 v2 v3 v4):=((((D.setCell h _).setCell h _).setCell h _).setCell h _).setCell h _
def zel{h}{xs}{z:h}(D:r<k)(F:k<=xs.length):(eF xs z k)[r]?=xs[r]?:=by unfold eF;rw[dU Rv,iM,ak D]
def zcz{h}{xs}(D:w.ownsRow B h s v n xs)(J:B'<=B):w.ownsRow B' h s v n xs:=⟨D.1,D.2.E id fun⟨g,ε,H,F,I,G⟩=>⟨g,ε,H,F,Qu,G⟩⟩
def zfL(H:g.i.length<=65536)(I:g.o.length<=65536)(D:∀e∈g.es,e.i.length<=65536/\e.o.length<=65536):∀l∈ec g,l.length<=65536:=fun l G=>by
 unfold ec at G;rcases dP.1 G with h|h
 .simp at h;rcases h with rfl|rfl
  .exact H
  .exact I
 .obtain⟨e,F,h⟩:=lh.1 h;simp at h;rcases h with rfl|rfl
  .exact(D e F).1
  .exact(D e F).2
def xW n:(madeCells (Value.bool false).cells (n*1)).toList=(List.replicate n false).map Value.bool:=YR
structure G1R(n B bc cp:Nat)(Ac:ax)(ps:ng)(k:Nat)(P:bP)(V:aa):Prop where
 up:Ck n P (jF n (ps.take k))
 hc:bA V bc (bZ Ac n cp) 258
 ci:aE V B (.slice Ac n cp) (bD P)
def ziv g ps A1 ah am c6 c1 c2 a1 g5 w(bb:jV w A1 ah am g)(es:bR 2 EPr w c6 ps)(ct:g.In)(cI:∀q∈ps,q.1<g.w/\q.2<g.w)(fl:g.w<=65536)(e1:g.es.length<=65536)(hi:g.i.length<=65536)(fa:g.o.length<=65536)(e2:∀e∈g.es,e.i.length<=65536/\e.o.length<=65536)(hA:ps.length<=1048576):az 165 #[.agg (bj g A1 c1 ah c2 am a1),.slice c6 ps g5] w (zmR g ps w):=by
 have gd:=zH (zJ ct cI);have⟨n,bn⟩:=aR g.w;have⟨bp,cz⟩:=aR g.es.length;have⟨bq,cA⟩:=aR g.i.length;have⟨br,cB⟩:=aR g.o.length;have e9:n<=65536:=by rw[bn];exact fl
 rw[<-bn,<-cz,<-cA,<-cB];obtain⟨O,dT,d0,d4,d7,bg,dl,d5,dc,ba⟩:=ϟ bn cz cA cB (show ∀q∈ps,q.1<n/\q.2<n by rw[bn];exact cI) ct bb es e2 (show g.es.length<=65536/\g.i.length<=65536/\g.o.length<=65536 from⟨e1,hi,fa⟩);have av:=(bO (w.alloc (.cells (nh n A1 bp c1 ah bq c2 am br a1) 54)) (.cells đ 204) (k:=w.heap.size) Qt).t (aH w _ rfl);have a0:=aH (w.alloc (.cells (nh n A1 bp c1 ah bq c2 am br a1) 54)) (.cells đ 204) (n:=(w:Nat)+1) Qt;have co:=((al w w).alloc (ae _) (.cells (nh n A1 bp c1 ah bq c2 am br a1) 54)).alloc Qt (.cells đ 204);clear bn cz cA cB ct cI bb es e2 e1 hi fa;go_enter func165,ntmps165
 go_upto_region 1 with(fail)
 generalize (w.alloc _).alloc _=W at av a0 co ⊢;have fc:(w:Nat)+2<=W:=(bk.1 a0).1;have⟨a6,a7,a8,a9⟩:=aB av;have⟨c7,gv,gB,GX⟩:=gG co av a0 fc;go_upto_region 2 with(go_at_call 62;refine(qu n _ Qu).x ?_;rintro e G ⟨u,rfl,ab,D⟩;obtain⟨J,Z,rfl,-⟩:=ab.p;rw[dX]at ab ⊢;rw[zgV]at ab;have ci:=zH ab;have be:=zH D)
 have⟨F,b5⟩:=bM G (.cells (bZ J n Z) 258);have cj:=zH (ci.ext F);have d6:=zH (show ∀b,(Value.slice J n Z).ownBlock=some b->(W:Nat)<=b/\b < (G:Nat) from fun b D=>by have:=ci.lt b (by simpa[Value.ownBlock]using D);exact this)
 have⟨cb,ce,b0,g1⟩:=gG (ai (ai gv be) F) (ai (ai gB be) F) ((aT c7 be).t (F.x (aT c7 be).size)) be.size;generalize G.alloc _=cn at F b5 cj cb ce b0 ⊢;have dq:=zH (show G1R n W G Z J ps 0 (List.range n) cn from⟨ziF n,b5,cj⟩);have b7:(G:Nat)<cn:=(bk.1 b5).1;have g3:=zH b7;go_wp2;go_loopw [18] (fun i wr=>∃(k:Nat) (P:bP),k<=ps.length/\i=.int .i64 k/\G1R n W G Z J ps k P wr/\b_ W G cn wr) (fun i _=>ps.length-(intOf i).toNat)
 case atStart=>exact⟨0,_,aW _,rfl,dq,b_.refl _ _ _⟩
 case round=>
  obtain⟨k,P,cu,rfl,ap,a4⟩:=hrel;have b6:ag w wr:=b0.t (a4.L SJ b0.size);have hC:=a4.size;by_cases bc:k<ps.length
  .have⟨q,av⟩:=aq bc;obtain⟨b,o,rfl,c4,c5⟩:=zfg (zhK d5 b6) av;obtain⟨cV,cW⟩:=d7 q (aU av);have d9:=zH (by rw[du,av];exact ū n _ q:jF n (ps.take (k+1))=mI (jF n (ps.take k)) q.1 q.2);obtain⟨fx,fy⟩:=q;dsimp only at c4 c5 cV cW d9;have⟨F,cF⟩:=bM wr (.cells (bC fx fy) 202);have⟨b2,b9,a2,ee⟩:=gG (ap.ci.ext F) (ai ap.hc F) ap.up (a4.t (b_.gy F));go_upto_region 5 with(fail)
   generalize wr.alloc _=hn at F cF b2 b9 ee ⊢;obtain⟨hk,hl,-,-⟩:=dD cF;have ej:=aF b9.o 0 rfl;go_wp2_with (go_at_call 207;refine(zir n W P (jF n (ps.take k)) J Z fx fy _ a2 b2 cV cW Qu).x ?_;rintro e ho ⟨rfl,e6,e7,hb⟩;have gi:=zH e6;have bh:=zH e7;clear hb)
   have eb:=zH (show b_ W G hn ho from⟨bh.os,bh.tape,bh.output,bh.size,fun k cu a0=>bh.block k cu fun e=>by have:=d6 k e.q;omega⟩);obtain⟨f6,gR⟩:=bJ (nL b9 eb (au (ae _))) (show Ck n _ _ from zkg a2 cV cW);clear hk hl ej;go_roundw
   case rel=>exact⟨k+1,_,Qu,Qx,⟨by rw[d9.o];exact gR,f6,gi⟩,ee.t eb⟩
   case measure=>simp[intOf];omega
  .obtain rfl:k=ps.length:=Qu;have⟨C,cp⟩:=aR (jF n ps);have cR:=ap.up;rw[cZ (ae _),<-cp]at cR;obtain⟨ga,a2,c9,f8,b2,b8⟩:=ny cp cR (show(W:Nat)<=wr from aZ g1 (by have:=g3.o;omega)) ap.hc ap.ci b6;have bd:=nL cb a4 (ay SJ);have bo:=nL ce a4 (ay SJ);have⟨gw,gC⟩:=bJ bd bo;have⟨a6,a7,a8,a9⟩:=aB bd;have eA:(G:Nat)<wr:=(bk.1 ap.hc).1;have hq:=zH eA;have⟨hj,ha,hh,b7,FU⟩:=dp Ds;clear cp ap;go_upto_region 8 with((at_make;refine jg _ rfl _ _ 209 rfl wr.heap.size 4 hj (.bool false) 1 underlying209 ha hh b7 .i64 .i64 n n n rfl rfl rfl rfl RF SL (ae _) ?_;intro U fb e5;have gs:=zH fb;have dr:=zH (cy e5)))
   have⟨F,cr⟩:=bM U (.cells (bZ (bH wr) n n) 209);have a3:=aT dr F;have⟨cc,d8⟩:=bJ (ai gw a3) (ai gC a3);have ac:UI n W U G wr n Z J P C [] (U.alloc (.cells (bZ (bH wr) n n) 209)):=by refine⟨cr,ai f8 a3,b2.ext a3,?_⟩;have:=gs.o;rw[xW,<-AQ n C]at this;exact nm (zcz this c9) _
   have⟨ea,b1⟩:=bJ ac (aT b8 a3);have fs:(wr:Nat)+1<=(U.alloc (.cells (bZ (bH wr) n n) 209)):=by obtain⟨cs,h⟩:=ac.ug;exact(bk.1 h).1
   have eg:=zH fs;have ez:(wr:Nat)<=U:=dr.size;have hp:=zH ez;generalize U.alloc _=c0 at F cr a3 cc d8 ea b1 eg ⊢;have⟨a6,a7,a8,a9⟩:=aB cc;have gn:=zH (show az 169 #[.agg (nh n A1 bp c1 ah bq c2 am br a1),.func (.func 208) #[] #[.pointer (bH U),.pointer (bH G)]] c0 fun e w'=>e=.returned (.tuple #[])/\UI n W U G wr n Z J P C (ec g) w'/\b_ wr ((wr:Nat)+1) c0 w' from by
    have:=zfp g A1 ah am c1 c2 a1 (.pointer (bH U)) (.pointer (bH G)) wr ((wr:Nat)+1) w c0 (fun d V=>UI n W U G wr n Z J P C d V) dl (by have:=ba.1;omega) (zfL ba.2.1 ba.2.2 dc) (fun d V g4 h D=>h.ext D) b1 b8.size eg ea (fun d l A ε V b4 eo ao hc hz=>by
     refine(zgG n W U G wr n Z J P C d l A ε V a2 b4 (eo.ext ao) (fun x hf=>by rw[O.o];exact bg x (hc x hf)) Qu Qu ?_).x ?_
     .intro b o e em;subst e;obtain⟨hr,hD,g6,g8⟩:=eo.θ (k:=0) (by rw[aS];exact em);cases g6
      have⟨y,hg⟩:=aq em;have:=jB _ _ (g8 0 _ (dK hg));have b3:=b8.size;have:b < (w:Nat):=this;omega
     .rintro e g4 ⟨bi,b3,g7⟩;exact⟨bi,b3,g7⟩)
    rw[<-O.o,<-dT.o,<-d0.o,<-d4.o]at this;exact this)
   go_upto_region 9 with(go_at_call 169;refine gn.x ?_;rintro e a5 ⟨rfl,fd,fo⟩;have g0:=zH fd;have ck:=zH fo)
   have NB:=zH (show(w:Nat)+2<=wr from aZ GX c9);have cK:=nL cc ck (ay SH);have⟨gK,gA⟩:=bJ (nL d8 ck (ay SH)) cK;have ey:ag w a5:=b1.t (ck.L SH b1.size);have f7:=zH ey;have⟨a6,a7,a8,a9⟩:=aB cK;go_upto_region 10 with(go_at_call 98;refine(kO n _ Qu).x ?_;rintro e hM ⟨u,rfl,ab,D⟩;obtain⟨Y,an,rfl,-⟩:=ab.p;rw[fA]at ab ⊢;have ei:=zH ab;have f5:=zH D)
   have H:=ei.o;unfold aE at H;rw[fA,show List.replicate n (0:Int)=eF (Υ g C) 0 0 by rw[iP,CO,O.o]]at H;obtain⟨gL,Gu,gb⟩:=er H (by rw[CO,O.o]:(Υ g C).length=n) (show l9 g.w C by have:=a2.cls;rw[O.o]at this;exact this);obtain⟨c3,rfl⟩:∃c3,c3=wr:=⟨wr,rfl⟩;go_wp2;go_loopw [10,40] (fun u i V=>∃k:Nat,k<=n/\i=.int .i64 k/\u=.int .i64 ((nS g C k:Nat))/\V.ownsRow a5 3 1 (.slice Y n an) n ((eF (Υ g C) 0 k).map (Value.int .i64))/\ag a5 V) (fun _ i _=>n-(intOf i).toNat)
   case atStart=>exact⟨0,aW _,rfl,rfl,gL,f5⟩
   case round=>
    obtain⟨k,cu,rfl,rfl,H,ao⟩:=hrel;have ac:=g0.ext ao;by_cases bc:k<n
    .obtain⟨T,rfl⟩:∃T,Y=some ⟨T,0,none⟩:=by
      rcases H.2 with⟨_,bi⟩|⟨T,ek,hv,e,_⟩
      .omega
      .cases e;exact⟨T,rfl⟩
     have e4:=bS H T rfl;have b4:aO wr J (bD P):=by obtain⟨fz,ek,e,h,-⟩:=ac.ci.p;exact Wt
     have HRO:=zH (Dp n P C J Z k wr a2 b4 bc Qu);have e8:k<g.w:=by rw[<-O.o];exact bc
     have hd:C.getD k 0<=k:=a2.lt bc;have⟨r,a0⟩:=aR (C.getD k 0);have⟨b,D⟩:=aR (pH C (ec g) r);have⟨H_,Ho⟩:=bJ a0 D;rw[<-a0]at HRO hd;have ej:=aF ac.hu 0 rfl;have hs:=aF ac.hc 0 rfl;have hB:af wr c3 r (.bool b):=by rw[ac.us.C _ Qu,bI,nD _ _ Qu,D];rfl
     have hx:af wr T k (zI 0):=by rw[H.C _ Qu,bI,lD _ _ _ (by rw[Gu.o];exact bc)];rfl
     have hy:=H.g k;have ch:=zH (show ∀z,Æ g C k=z->(wr.setCell ⟨T,k,none⟩ (zI z)).ownsRow a5 3 1 (.slice (bH T) n an) n ((eF (Υ g C) 0 (k+1)).map (Value.int .i64))/\Below a5 a5 (wr.setCell ⟨T,k,none⟩ (zI z)) from fun z ad=>by have bi:=(H.j k (zI z)).1;rw[<-eW,jq _ _ _ _ (by rw[wK C e8,ad])]at bi;exact⟨bi,ao.setCell (p:=⟨T,k,none⟩) e4.1 _⟩)
     have gu:=zH (show r<k->af wr T r (zI (Æ g C r)) from fun h=>by rw[H.C _ Qu,bI,zel h R5,wK C Qu];rfl)
     have db:=zH (wL g C k);clear ac e4 b4 a0 D;cases b
     .obtain⟨HS,HCN⟩:=bJ (ch (-1) (Ŋ T2)) (zG bg (k:=k) (ay T2));exact Y5
     .by_cases he:r<k
      .obtain⟨HS,HCN⟩:=bJ (ch (Æ g C r) (by rw[zge gb e8,<-H_.o])) (zG bg (k:=k) (au (by rw[<-H_.o];omega)));have g9:=gu he;generalize Æ g C r=z at HS g9;exact Y5
      .have cO:r=k:=Qu;obtain⟨HS,HCN⟩:=bJ (ch (nS g C k:Nat) (Ŵ T2 (by rw[<-H_.o];exact cO))) (zgg bg (k:=k) T2 (by rw[<-H_.o];exact cO));have⟨hu,e0⟩:=aR (nS g C k);rw[<-e0]at HS HCN db ⊢;have hw:=db.o;clear e0 cO;go_wp2_with (go_at_call 209;refine HRO.x ?_;rintro e w' ⟨rfl,rfl⟩)
       go_roundw
       case rel=>exact⟨k+1,Qu,Qx,by rw[HCN.o];rfl,HS.1,HS.2⟩
       case measure=>simp[intOf];omega
    .obtain rfl:k=n:=Qu;have ev:aO wr Y (Υ g C):=by
      have:=H;rw[jo _ _ _ (by rw[Gu.o];exact ae _)]at this;have b3:aE wr a5 (.slice Y k an) (Υ g C):=by unfold aE;rw[Gu.o];exact this
      obtain⟨fz,ek,e,h,-⟩:=b3.p;exact Wt
     have cq:=aT f7 ao;have ca:=zH (show az 205 (rL (nh k A1 bp c1 ah bq c2 am br a1) (nS g C k:Nat) Y k an) wr (xr (js g ps) wr) from by have:=AS g (nS g C g.w) (Υ g C) (DD g C) A1 ah am Y c1 c2 a1 an wr (dl.ext cq) ev (zaW bg) (by rw[Gu.o];exact e9) (by rw[<-O.o];exact e9) (by have:=wL g C g.w;rw[<-O.o]at this ⊢;omega) ba.1 ba.2.1 ba.2.2 dc;rw[Gu.o,<-O.o,<-dT.o,<-d0.o,<-d4.o]at this;rw[show js g ps=g.map (nS g C k) (DD g C) by rw[gd.o,ga.o,O.o]];exact this.x fun e w' h=>h.gr)
     have bd:=ai gA ao;have bo:=ai gK ao;have⟨a6,a7,a8,a9⟩:=aB bd;have⟨H_,c8⟩:=bJ bo cq;clear cq;have⟨I,bb⟩:=aR (js g ps);have dO:=zH bb;rw[<-bb]at ca;clear bb;have⟨ht,eB⟩:=aR (nS g C k);rw[<-eB]at ca ⊢;clear eB;go_wp2_with (go_at_call 205;refine ca.x ?_;rintro e hm ⟨bu,d1,bv,d2,bz,d3,rfl,e3,D⟩;have ad:=ai H_ D;have⟨hE,hF,hG,hH,hI⟩:=fg ad;have f0:=aK ad 0;have f1:=aK ad 1;have f2:=aK ad 2;have f3:=aK ad 3;have f4:=aK ad 4;have g2:=zH ad;have gc:=zH e3;have f9:=zH D;clear ad e3 D)
     have y:=zgI (v0:=.int .i64 (I.w:Nat)) (v1:=.slice bu I.es d1) (v2:=.slice bv I.i d2) (v3:=.slice bz I.o d3) (v4:=.slice Y k an) g2;have⟨c4,c5,hN,hO,hP⟩:=fg y;clear y;have hJ:=c8.size;have hL:=(bk.1 H_).1;refine aI (v:=.agg #[(I.w:Nat),.slice bu I.es d1,.slice bv I.i d2,.slice bz I.o d3,.slice Y k an]) (by simp[results,results165,go_sem, *]) rfl ⟨bu,d1,bv,d2,bz,d3,Y,an,by rw[<-dO.o,<-O.o],?_,zgJ (aT c8 f9) (b:=(w:Nat)+1) Qu _ _ _ _ _⟩;rw[<-dO.o,ziu];exact(gc.y (w':=st5 hm ((w:Nat)+1) (zI (I.w:Nat)) (.slice bu I.es d1) (.slice bv I.i d2) (.slice bz I.o d3) (.slice Y k an)) fun q a _=>zit Qu).to Qu (ae _)
def mL{s}:∀{cs:List (List Value)},(∀c∈cs,c.length=s)->cs.flatten.length=cs*s
 |[],_=>Qt
 |c::cs,h=>by rw[uH,bm,h c (kb ..),mL fun c D=>h c (kC _ D),jT,AF,uI]
def qL{T}{F}{bytes}{E}(hT:RT prog t F s z bytes)(U:o.guard=none)O x(Y:o.op=.call {callee:=.builtin .append,args:=#[O,x],argTypes:=#[t,t]})B G W v v2(xs ys:List T)(D:bw F s E W B v xs)(h2:bw F s E W G v2 ys)(hd:∀g,v.ownBlock=some g->g<G)(a7:B<=G)(a8:G<=(W:Nat))(Gb:xs.length+ys<=1048576)(Z:a.eval O=v)(hx:a.eval x=v2)(h:∀v' w',bw F s E w' B v' (xs++ys)->Below B W w'->wpList prog ops Q rest (a.put o.dst v') w'):wpList prog ops Q (o::rest) a W:=by
 have⟨ab,hi,ao,ap,av⟩:=dp hT.Ï;obtain⟨cs,D⟩:=D;obtain⟨ds,h2⟩:=h2;have ah:∀(k:Nat) (x:T) (c:cL),ys[k]?=some x->ds[k]?=some c->c.length=s/\(∀u∈c,u.oneCell'=true)/\kn E W B v x c:=fun k x c hx hc=>YK
 rcases h2.η.2 with⟨rfl,ac⟩|⟨g,ε,a0,rfl,bc,bb,bd,a9,ba,be⟩
 .have J:ys=[]:=iq ac;subst J;refine l7 U fun K hK=>?_
  have an:=iZ (P:=prog) (w:=W) B t o.type F ab s hT.und hi v _ 0 _ D.η;unfold Oper.wp;simp[execOp,Y,resolve,invoke,builtin,Z,hx,an,Result.andThen];exact hK _ _ (h v W ⟨cs,by simpa using D⟩ (al _ _))
 .have ad:=oz h2.η (g:=g) rfl;refine AE W U O x t Y B F ab z s bytes hT.und hi ao ap av hT.zs hT.pos v _ _ Z D.η ⟨g,0,none⟩ ys ε ds.flatten hx (by rw[mL h2.cl,h2.ι]) (fun j u am=>ad j u am) ?_ ?_ ?_ Qu ?_
  .intro u I;obtain⟨c,hc,I⟩:=uv.1 I;obtain⟨k,H⟩:=eH.1 hc;obtain⟨y,J⟩:=aq (by rw[<-h2.ι];exact(bG.1 H).1:k<ys.length);exact(h2.ν k y c J H).2.1 u I
  .unfold maxLen;omega
  .exact XL
  .refine OL fun v' w' FT Gx _ Ha hv=>?_
   exact h v' w' ⟨cs++ds,D.th h2.ι ah FT Gx hv⟩ ((al _ _).grown Gx Qu fun k H=>(bS D.η k H).1)
def Cu(V:aa)(B F:Nat)(g:Gr):Prop:=∃A1 c1 h c2 D G,bA V F (bj g A1 c1 h c2 D G) 54/\bw 155 4 Cl V B (.slice A1 g.es c1) g.es
def Fa(h:g.In):ø (υ g.w) (fun x=>x) g:=fun x D=>sM (h x D)
def qM(h:g.In)a:ø (bD (dd a g.w)) (fun x=>x+a) g:=fun x D=>dK (qh (h x D))
def zne(a b:Gr)(w:aa)(e:Ending)(w':aa):Prop:=∃A1 c1,e=.returned (.agg (CW ((a.w+b.w:Nat)) A1 (fG a b) c1))/\Fr w' w w' (fun W=>bR 4 Cl W A1 (fG a b))/\ag w w'
structure px(g:Gr):Prop where
 inr:g.In
 w:g.w<=4096
 es:g.es.length<=4096
 i:g.i.length<=4096
 o:g.o.length<=4096
 el:∀e∈g.es,e.i.length<=4096/\e.o.length<=4096
def zl4(h:px g)A1 D F G c1 c2 H I w(J:jV w A1 D F g)(O:aO w G (υ g.w)):az 205 #[.agg (bj g A1 c1 D c2 F H),(g.w:Nat),.slice G g.w I] w (Ϩ g w):=by have:=AS g g.w (υ g.w) (fun x=>x) A1 D F G c1 c2 H I w J O (Fa h.inr) (by rw[dX];have:=h.w;omega) R_ R_ Sg R9 R7 (fun e he=>Tl);rw[dX]at this;rw[show g.map g.w (fun x=>x)=g by unfold Gr.map;simp[show(Ed.map fun x=>x)=id from funext fun e=>by simp[Ed.map]]]at this;exact this
def zl5(h:px g)a(T:a<=4096)A1 D F G c1 c2 H I w(J:jV w A1 D F g)(O:aO w G (bD (dd a g.w))):az 205 #[.agg (bj g A1 c1 D c2 F H),(g.w:Nat),.slice G g.w I] w (Ϩ (g.map g.w (· +a)) w):=by have:=AS g g.w (bD (dd a g.w)) (fun x=>x+a) A1 D F G c1 c2 H I w J O (qM h.inr a) (by rw[aS,c_];have:=h.w;omega) R_ R_ Sg R9 R7 (fun e he=>Tl);rw[aS,c_]at this;exact this
section
variable{c1:Nat}
def bw.dQ{D}{h}{E}{xs:List D}(F:bw h s E w B v xs)(G:J<B):bw h s E (Go.Proofs.YtpieilkmmiopfaaGreatDoor.dQ w J v0 v1 v2 v3) B v xs:=F.y (fun k H _=>nZ Qu) (gp eK.q)
def Cu.of{F}{h D}(I:bA V J (bj g A1 c1 h c2 D F) 54)(G:bw 155 4 Cl V B' (.slice A1 g.es c1) g.es)(H:B<=B'):Cu V B J g:=⟨A1,c1,h,c2,D,F,I,G.x H⟩
def Cu.of4{F}{h D}{U Y}(O:bA V J #[T,U,z2,Y] 54)(G:bw 155 4 Cl V B' (.slice A1 g.es c1) g.es)(H:B<=B')(I:J<B'):Cu (dQ V J (zI (g.w:Nat)) (.slice A1 g.es c1) (.slice h g.i c2) (.slice D g.o F)) B J g:=⟨A1,c1,h,c2,D,F,cP O,(G.dQ I).x H⟩
def EB a b A1 A2 A3 D1 D2 D3 c1 c2 c3 d1 d2 d3 w(a3:px a)(a0:px b)(cq:jV w A1 A2 A3 a)(cr:jV w D1 D2 D3 b):az 163 (iV (bj a A1 c1 A2 c2 A3 c3) (bj b D1 d1 D2 d2 D3 d3)) w (zne a b w):=by
 have⟨dT,ca⟩:=bJ (fun(T:ax) (ab:Nat) (V:aa) (bu:ag w V) (br:aO V T (υ a.w))=>zl4 a3 A1 A2 A3 T c1 c2 c3 ab V (cq.ext bu) br) (fun(T:ax) (ab:Nat) (V:aa) (bu:ag w V) (br:aO V T (bD (dd a.w b.w)))=>zl5 a0 a.w a3.w D1 D2 D3 T d1 d2 d3 ab V (cr.ext bu) br);refine PX fun H7 q0 q1 q2=>?_
 have e7:=a3.w;have e8:=a0.w;have e9:a.es.length+b.es<=8192:=by have:=a3.es;have:=a0.es;omega
 have fa:IntKind.i64.wrap ((a.w:Int)+(b.w:Int))=(a.w:Int)+(b.w:Int):=Rt;clear cq cr a3 a0;go_enter func163,ntmps163
 go_upto_region 1 with(fail)
 generalize ((w.alloc _).alloc _).alloc _=F at H7 q0 q1 q2 ⊢;have bp:=(bk.1 q2).1;have⟨em,eo,es,ev⟩:=aB q0;have⟨c4,c5,c6,c7⟩:=aB q1;go_upto_region 2 with(fail)
 have⟨av,bc⟩:=bM F (.cells #[.int .i64 ((a.w:Int)+(b.w:Int)),dE,dE,dE] 54);have⟨ce,ch,ci,a2⟩:=gG (ai q0 av) (ai q1 av) (ai q2 av) (aT H7 av);clear em eo es ev c4 c5 c6 c7 q0 q1 q2 H7;generalize F.alloc _=W at av bc ce ch ci a2 ⊢;have d7:=zH bc;have b2:(F:Nat)<W:=(bk.1 bc).1;have⟨a7,b7⟩:=bJ b2 bp;have I:=aB ce;clear av bc b2 bp;go_cut [6] from 8 (fun ey V=>∃ap,ey=.pointer (bH ap)/\Cu V W ap a/\(W:Nat)<=ap/\ag W V)
 case first=>
  go_region_held3 (fun V=>af V w 0 (zI (a.w:Nat))/\af V w 1 (.slice A1 a.es c1)/\af V w 2 (.slice A2 a.i c2)/\af V w 3 (.slice A3 a.o c3))
   (first|with_reducible exact I|with_reducible exact gS (aC _) I|with_reducible exact gS (aw _ _).drew I|with_reducible exact gS GY.o I|with_reducible exact gS (GY.o.alloc GY.o.size _) I|with_reducible exact gS h.o I|with_reducible exact gS (h.o.alloc h.o.size _) I|with_reducible exact gS (bY h.o (ae _) _ _ _ _) I|with_reducible exact gS (bY h.o GY.o.size _ _ _ _) I)
   ((first|(go_at_call 62;refine(qu a.w _ Qu).x ?_;rintro e an ⟨u1,rfl,am,FR⟩;obtain⟨T,ab,rfl,a4,-⟩:=am.p;rw[dX]at am ⊢;have GY:Hd (ag W an):=VZ;have JL:=zH a4;have G5:=zH FR;clear am FR a4)|(go_at_call 205;refine(dT T ab _ (a2.t ((VR:ag W _).x a2.size)) VP).x ?_;rintro e ao ⟨a6,a8,b5,ck,b6,cn,rfl,ah,-,-,Gg⟩;have h:Hd (ag W ao):=V7;have Y:=zH ah;have ea:=zH Gg;(first|(have D:=ai (ai (ky W _) G5) Gg;have⟨bd,be,bg,bh⟩:=aB D;have⟨f0,f1,f2,f3⟩:=cN D;have Z:=zH D;clear D)|(have D:=ai (aH an _ rfl) Gg;have⟨bd,be,bg,bh⟩:=aB D;have⟨f0,f1,f2,f3⟩:=cN D;have Z:=zH D;clear D)|skip);clear ah Gg)))
  all_goals
   go_wp2_with fail
   go_meet
   first
    |with_reducible exact⟨ao,rfl,Cu.of (aH ao _ rfl) (Y.o.ext (aw _ _)) GY.o.size,h.o.size,h.o.alloc h.o.size _⟩
    |with_reducible exact⟨an,rfl,Cu.of4 Z.o Y.o (aZ GY.o.size (aw _ _).size) Qt,GY.o.size,bY h.o GY.o.size _ _ _ _⟩
    |with_reducible exact⟨W,rfl,Cu.of4 Z.o Y.o GY.o.size UN,ae _,bY h.o (ae _) _ _ _ _⟩
 case rest=>
  obtain⟨e0,rfl,cu,e6,ac⟩:=hcut;obtain⟨O,rfl⟩:∃O,O=wc:=⟨wc,rfl⟩;have⟨dc,c9,bi⟩:=er cu ac (aT a2 ac);have cj:=aB (ai ch ac);have U:=aQ (gS ac I).1 cj;have⟨d8,d5⟩:=bJ (ai d7 ac) (ai ci ac);have⟨G,bq⟩:=aR (b.map b.w (· +a.w));have b9:=zH bq;rw[<-bq]at ca;clear cu ac I cj bq;go_upto_region 3 with(fail)
  go_cut [7] from 8 (fun ez V=>∃ap,ez=.pointer (bH ap)/\Cu V O ap G/\ag O V)
  case first=>
   go_region_held3 (fun V=>af V w 0 (zI (a.w:Nat))/\af V ((w:Nat)+1) 0 (zI (b.w:Nat))/\af V ((w:Nat)+1) 1 (.slice D1 b.es d1)/\af V ((w:Nat)+1) 2 (.slice D2 b.i d2)/\af V ((w:Nat)+1) 3 (.slice D3 b.o d3))
    (first|with_reducible exact U|with_reducible exact kU (aC _) U|with_reducible exact kU (aw _ _).drew U|with_reducible exact kU GY.o U|with_reducible exact kU (GY.o.alloc GY.o.size _) U|with_reducible exact kU h.o U|with_reducible exact kU (h.o.alloc h.o.size _) U|with_reducible exact kU (bY h.o (ae _) _ _ _ _) U|with_reducible exact kU (bY h.o GY.o.size _ _ _ _) U)
    ((first|(go_at_call 66;refine(sJ a.w b.w _ Qu Qu).x ?_;rintro e an ⟨u1,rfl,am,FR⟩;obtain⟨T,ab,rfl,a4,-⟩:=am.p;rw[aS,c_]at am ⊢;have GY:Hd (ag O an):=VZ;have JL:=zH a4;have G5:=zH FR;clear am FR a4)|(go_at_call 205;refine(ca T ab _ (bi.t ((VR:ag O _).x bi.size)) VP).x ?_;rintro e ao ⟨a6,a8,b5,ck,b6,cn,rfl,ah,-,-,Gg⟩;have h:Hd (ag O ao):=V7;have Y:=zH ah;have ea:=zH Gg;(first|(have D:=ai (ai (ky O _) G5) Gg;have⟨bd,be,bg,bh⟩:=aB D;have⟨f0,f1,f2,f3⟩:=cN D;have Z:=zH D;clear D)|(have D:=ai (aH an _ rfl) Gg;have⟨bd,be,bg,bh⟩:=aB D;have⟨f0,f1,f2,f3⟩:=cN D;have Z:=zH D;clear D)|skip);clear ah Gg)))
   all_goals
    go_wp2_with fail
    go_meet
    first
     |with_reducible exact⟨ao,rfl,Cu.of (aH ao _ rfl) (Y.o.ext (aw _ _)) GY.o.size,h.o.alloc h.o.size _⟩
     |with_reducible exact⟨an,rfl,Cu.of4 Z.o Y.o (aZ GY.o.size (aw _ _).size) Qt,bY h.o GY.o.size _ _ _ _⟩
     |with_reducible exact⟨O,rfl,Cu.of4 Z.o Y.o GY.o.size UN,bY h.o (ae _) _ _ _ _⟩
  case rest=>
   obtain⟨e1,rfl,ej,ad⟩:=hcut;obtain⟨a6,a8,b5,ck,b6,cn,co,b4⟩:=dc.o;obtain⟨c8,f1,eA,f2,eB,f3,cp,c0⟩:=ej;have dl:=zH (show ∀g,(Value.slice a6 a.es a8).ownBlock=some g->g < (O:Nat) from fun g e=>by obtain⟨cs,ah⟩:=b4;exact(bS ah.η g e).2)
   have⟨ee,eg⟩:=bJ (b4.ext ad) c0;have cz:G.es.length=b.es:=by rw[b9.o];exact bs ..
   have b8:=zH (by rw[b9.o];rfl:fG a b=a.es++G.es);obtain⟨-,fx,-,-⟩:=aB (ai co ad);obtain⟨-,u1,-,-⟩:=aB cp;have⟨db,bo,d6⟩:=er (aT bi ad) (ai d8 ad) (ai d5 ad);have cA:=c9.size;have cB:=ad.size;have⟨cb,cc,dr⟩:=er cA cB cz;have⟨fb,fc,fd,fl⟩:=aB bo;have⟨f0,e2,e3,e4⟩:=cN bo;clear co b4 cp c0 ad cz cA cB;go_upto_region 5 with((at_builtin;refine qL Ć rfl (.tmp 31) (.tmp 33) rfl W O wc (.slice a6 a.es a8) (.slice c8 G.es f1) a.es G.es ee.o eg.o dl.o cb.o cc.o (by have:=dr.o;omega) rfl rfl ?_;intro fo a1 b1 bv;obtain⟨H,J,rfl,-⟩:=b1.p;have d0:=zH b1;have bn:=zH bv;have ba:=(bv.block F a7).t bo;have⟨cF,b3,cI,cK⟩:=aB ba;have⟨cO,cR,cV,cW⟩:=cN ba;have d9:=zH ba;clear b1 bv ba))
   have bb:=bE a1 F 1 _ _ (.slice H (a.es.length+G.es) J) d9;simp only[zA]at bb;have e5:(w:Nat)+1+1<F:=b7.o;have a5:(a1.setCell ⟨F,1,none⟩ (.slice H (a.es.length+G.es) J)).heap[(w:Nat)+1+1]?=some (.cells cw 54 (0,0)):=
    (a_ _ _ _ _ (by show(w:Nat)+1+1≠F.heap.size;omega)).t ((bn.block _ (by have:=a7.o;omega)).t d6)
   have a9:bw 155 4 Cl (a1.setCell ⟨F,1,none⟩ (.slice H (a.es.length+G.es) J)) W (.slice H (a.es.length+G.es) J) (a.es++G.es):=by have:=d0.setCell (a:=⟨F,1,none⟩) a7 (.slice H (a.es.length+G.es) J);rwa[bm]at this
   have bz:Below w w (a1.setCell ⟨F,1,none⟩ (.slice H (a.es.length+G.es) J)):=(db.t (bn.x a2.size)).setCell (p:=⟨F,1,none⟩) (by show(w:Nat)<=F;omega) _;have ct:(W:Nat)<=(a1.setCell ⟨F,1,none⟩ (.slice H (a.es.length+G.es) J)):=by have:=bn.size;have:=cb.o;have:=cc.o;simp;omega
   clear cF b3 cI cK cO cR cV cW;generalize a1.setCell ⟨F,1,none⟩ _=fs at bb a5 a9 bz ct ⊢;have⟨cF,b3,cI,cK⟩:=aB bb;have⟨bd,be,bg,bh⟩:=aB a5;have⟨cO,cR,cV,cW⟩:=cN a5;have⟨m,b0⟩:=aR (a.es.length+G.es);rw[<-b0]at b3 a9 ⊢;have dO:=zH b0;have y:=cP (v0:=.int .i64 ((a.w:Int)+(b.w:Int))) (v1:=.slice H m J) (v2:=dE) (v3:=dE) a5;have⟨c4,c5,c6,c7⟩:=aB y;have⟨dq,d4,eb⟩:=er (bY bz (b:=(w:Nat)+1+1) Qu (zI ((a.w:Int)+(b.w:Int))) (.slice H m J) (.slice none 0 0) (.slice none 0 0)) a9 ct;clear bb a5 a9 bz y b0;go_wp2;refine aI (v:=.agg (CW ((a.w:Int)+(b.w:Int)) H m J)) (by simp[results,results163,go_sem, *]) rfl ⟨H,J,?_,?_,dq⟩
   .rw[b8.o,bm,<-dO.o];rfl
   .rw[b8.o,eK];have ek:=d4.fr (fun _ _ _ _ a0 ei=>ei.ext a0) eb;have bp:=b7.o;have b2:=a7.o;exact(ek.dQ (b:=(w:Nat)+1+1) Qu).to Qu (ae _)
end
def FK{h D:Type}{l:List h}{m:List D}{x:h}{y:D}(F:l[k]?=some x)(G:m[k]?=some y):(l.zip m).take (k+1)=(l.zip m).take k++[(x,y)]:=by rw[du,Aj (z:=(x,y)) |>.2 ⟨F,G⟩];rfl
def kp3{h p2 D a}(F:h.block≠a.block)(G:p2.block≠a.block)(H:D.block≠a.block)(t:w.cell? h=some v1/\w.cell? p2=some v2/\w.cell? D=some v3):(w.setCell a v).cell? h=some v1/\(w.setCell a v).cell? p2=some v2/\(w.setCell a v).cell? D=some v3:=⟨(cE F).t t.1,(cE G).t t.2.1,(cE H).t t.2.2⟩
def kp4{h p2 D F a}(G:h.block≠a.block)(H:p2.block≠a.block)(I:D.block≠a.block)(J:F.block≠a.block)(t:w.cell? h=some v1/\w.cell? p2=some v2/\w.cell? D=some v3/\w.cell? F=some v4):(w.setCell a v).cell? h=some v1/\(w.setCell a v).cell? p2=some v2/\(w.setCell a v).cell? D=some v3/\(w.setCell a v).cell? F=some v4:=⟨(cE G).t t.1,(cE H).t t.2.1,(cE I).t t.2.2.1,(cE J).t t.2.2.2⟩
def Cy v0 v1 v2 v3 v4 w:(Instr.field 204 (.agg #[v0,v1,v2,v3,v4]) 0).run prog w=.ok (.agg #[v0,v1,v2,v3]) w:=QT
def FL a b A1 A2 A3 D1 D2 D3 c1 c2 c3 d1 d2 d3 w(ha:px a)(hb:px b)(eo:a.o.length=b.i)(hG:jV w A1 A2 A3 a)(hH:jV w D1 D2 D3 b):az 121 (iV (bj a A1 c1 A2 c2 A3 c3) (bj b D1 d1 D2 d2 D3 d3)) w (xr (pK a b) w):=by
 refine NA fun JZ IY=>?_
 refine PX fun H7 q0 q1 q2=>?_
 have⟨ah,J⟩:=bJ ha hb;have g5:=ha.w;have cu:=hb.w;have g4:=ha.o;have⟨cW,es⟩:=aR ((fG a b).length);have⟨dl,dc⟩:=bJ es eo;clear hG hH ha hb es eo;go_enter func121,ntmps121
 go_upto_region 1 with(fail)
 generalize ((w.alloc _).alloc _).alloc _=gL at H7 q0 q1 q2 ⊢;have bv:=(bk.1 q2).1;have ca:=zH bv;have⟨T,be,U,bg⟩:=aB q0;have⟨y0,y1,y2,y3⟩:=aB q1;have⟨c6,d6,d7,d8⟩:=gG H7 q0 q1 q2;clear H7 q0 q1 q2 bv;go_upto_region 2 with(go_at_call 163;refine(JZ.o _ c6.o).x ?_;intro e h Y;obtain⟨b6,cj,Z,a9,av⟩:=Y;rw[<-dl.o]at Z;subst Z;have c8:=zH a9;have c7:=zH av;clear a9 av)
 have⟨bz,b2⟩:=bM h (.cells (CW ((a.w:Int)+(b.w:Int)) b6 cW cj) 54);clear T be U bg y0 y1 y2 y3;have⟨c9,a3⟩:=bJ (c8.ext bz (ae _)) (aT c7 bz);generalize h.alloc _=F at bz b2 c9 a3 ⊢;have dr:=zH b2;have b4:(h:Nat)<F:=(bk.1 b2).1;have⟨bp,cc,a6,ce,f5,bi⟩:=ny b4 c7.size (ai d6 a3) (ai d7 a3) (ai d8 a3) (aT c6 a3);clear bz b2 b4 c8 JZ d6 d7 d8;go_upto_region 3 with(fail)
 have dq:=zH (bw.lit 202 2 EPr F F (ae _));have b0:=aw F (.cells #[] 202);have c5:=zH b0;have⟨T,be,U,bg⟩:=aB (ai a6 b0);generalize F.alloc _=gR at dq c5 T be U bg b0 ⊢;clear b0;go_wp2;clear T be U bg;have⟨O,cq⟩:=aR (BV a b);obtain⟨cb,a5⟩:=bJ cq (by rw[cq];unfold BV;rw[List.length_zip,bs,<-dc.o,rX]:O.length=a.o);clear cq;go_loopw [6,16] (fun u i wr=>∃k:Nat,k<=a.o.length/\i=.int .i64 k/\bw 202 2 EPr wr F u (O.take k)/\ag F wr) (fun _ i _=>a.o.length-(intOf i).toNat)
 case atStart=>exact⟨0,aW _,rfl,dq,c5⟩
 case round=>
  obtain⟨k,a0,rfl,ab,I⟩:=hrel;have⟨bn,a4⟩:=bJ ab I;obtain⟨eb,ee⟩:=IY wr (aT bi I);by_cases FX:k<a.o.length
  .have⟨x,bb⟩:=aq FX;have cA:k<b.i.length:=by rw[<-dc.o];exact FX
   have⟨y,bc⟩:=aq cA;obtain⟨g1,hg,rfl,eg⟩:=eb.o.θ (k:=k) Se;obtain⟨bq,c0,rfl,ei⟩:=ee.i.θ (k:=k) (by rw[aS];exact cA);have f7:=eg k _ (dK bb);have e5:=zH (ei k _ (dK bc));have ej:af F bq (c0+k) (zI (y:Nat)):=by
    obtain⟨g0,hf,ap,gc⟩:=(IY F bi).2.i.θ (k:=k) (by rw[aS];exact cA);cases ap
    exact gc k _ (dK bc)
   have⟨z,H⟩:=aR (y+a.w);have gw:y<b.w:=J.o.inr y (ay (aU bc));have g7:IntKind.i64.wrap ((a.w:Int)+(y:Int))=(z:Int):=Rt;obtain⟨fs,Gu⟩:=bJ (by rw[cb.o];exact FK bb (by rw[bI,bc,H];rfl):O.take (k+1)=O.take k++[(x,z)]) (by rw[cQ,a5.o];omega:(O.take k).length=k);obtain⟨u0,f6,rfl,-⟩:=ab.p;rw[Gu.o]at bn ⊢;have Je:=zH FX;have q0:=ar I (aB a6).1;obtain⟨-,-,q1,-⟩:=aB (ai ce I);have D:=aQ q0 (aQ q1 e5.o);obtain⟨d0,fa,fb,fc⟩:=gG I.size (show(w:Nat)<F from(bk.1 a6).1) (show(w:Nat)+1<F from(bk.1 ce).1) (show bq < (F:Nat) from jB _ _ ej);clear ab I eb ee eg ei bb bc H gw q0 q1 ej;go_upto_region 6 with(fail)
   clear f7;go_region_held3 (fun V=>af V w 0 (zI (a.w:Nat))/\af V ((w:Nat)+1) 2 (.slice (some ⟨bq,c0,none⟩) b.i d2)/\af V bq (c0+k) (zI (y:Nat)))
    (first|with_reducible exact D|with_reducible exact jH (aC _) D|with_reducible exact jH (aw _ _) D|with_reducible exact jH (aw _ _).drew D|with_reducible exact d9)
    ((refine im zm9 rfl (.tmp 21) (.tmp 32) rfl F (wr.alloc (.cells (bC x z) 202)).drew (.slice u0 k f6) (O.take k) (x,z) [.int .i64 x,.int .i64 z] wr (bn.ext (aw _ _).drew) rfl SU (kn.d (bn.ext (aw _ _).drew) (by have:=d0.o;simp;omega) fun W=>rfl) R5 (by have:=d0.o;simp;omega) rfl rfl (ky _ _) ?_;intro br g3 hj cB gs ga a8;rw[Gu.o]at cB ⊢;have fl:=zH cB;have e2:=zH ((a4.t ((aw _ _).drew.x a4.size)).t a8);have d9:=aQ (Below.wy a8 (jH (aw _ _).drew D).1 fa) (aQ (Below.wy a8 (jH (aw _ _).drew D).2.1 fb) (Below.wy a8 (jH (aw _ _).drew D).2.2 fc));clear cB gs ga a8))
   clear D d9;go_wp2;go_roundw
   case rel=>exact⟨k+1,St,Qx,by rw[fs.o];exact fl,e2⟩
   case measure=>have:=Je.o;simp[intOf];omega
  .obtain rfl:k=a.o.length:=Qu;rw[cZ (by rw[a5.o];exact ae _)]at ab;obtain⟨c4,ea,rfl,-⟩:=ab.p;rw[a5.o]at ⊢;have fo:=zH ab;have cu:=aT bi I;have e3:=zH cu;have db:=zH (show ∀V,ag wr V->jV V A1 A2 A3 a/\jV V D1 D2 D3 b from fun V hV=>IY V (aT e3 hV));obtain⟨e6,fd⟩:=bJ (fun(V:aa) (hV:ag wr V)=>(by have:=qg A2 c2 (bD a.i) V (db V hV).1.i (by rw[aS];have:=ah.i;omega);rw[aS]at this;exact this:az 71 #[.slice A2 a.i c2] V fun e w'=>∃u,e=.returned u/\aE w' V u (bD a.i)/\ag V w')) (fun(bh:ax) (ci:Nat) (V:aa) (hV:ag wr V) (f9:aO V bh (bD (dd a.w b.w)))=>tk (bD (dd a.w b.w)) (fun x=>x+a.w) b.o bh ci b.w D3 d3 V QU f9 (db V hV).2.o Sa (by have:=J.o.o;omega) (fun x bb=>qM J.o.inr a.w x (au (ay bb))));obtain⟨T,-,U,-⟩:=aB (ai a6 I);obtain⟨y0,-,-,y3⟩:=aB (ai ce I);have D:=aQ T (aQ U (aQ y0 y3));obtain⟨am,an⟩:=bJ (show w.heap.size≠h.heap.size by have:=(bk.1 a6).1;have Z:=cc.o;have bu:=ca.o;omega) (show(w:Nat)+1≠h.heap.size by have Z:=cc.o;have bu:=ca.o;omega);clear ab I cu bn T U y0 y3;go_upto_region 8 with(fail)
   go_region_held3 (fun V=>af V w 0 (zI (a.w:Nat))/\af V w 2 (.slice A2 a.i c2)/\af V ((w:Nat)+1) 0 (zI (b.w:Nat))/\af V ((w:Nat)+1) 3 (.slice D3 b.o d3))
    (first|with_reducible exact D|with_reducible exact gS (aC _) D|with_reducible exact gS d4.o D|with_reducible exact gS bo.o D|with_reducible exact gS ao.o D|with_reducible exact kp4 am.o am.o an.o an.o (gS ao.o D)|with_reducible exact kp4 am.o am.o an.o an.o (kp4 am.o am.o an.o an.o (gS ao.o D)))
    ((first|(go_at_call 71;refine(e6.o _ (aC _)).x ?_;rintro e hk ⟨u1,rfl,b3,av⟩;obtain⟨ac,a1,rfl,-⟩:=b3.p;have d4:=zH ((aC wr).t (av.x (aC wr).size));have fx:=zH ((b3.fr av.size).to (lo':=wr.heap.size) Qt (ae _));rw[aS]at b3 ⊢;clear b3 av)|(go_at_call 66;refine(sJ a.w b.w _ Qu Qu).x ?_;rintro e hl ⟨u2,rfl,cK,cr⟩;obtain⟨bh,ci,rfl,em,-⟩:=cK.p;rw[aS,c_]at cK ⊢;have bo:=zH (aT d4 cr);have e9:=zH em;have d5:=zH cr;clear cK cr em)|(go_at_call 164;refine(fd bh ci _ bo e9).x ?_;rintro e bd ⟨ad,a2,rfl,ek,ct⟩;have ao:=zH (aT bo ct);have fz:=zH ct;have fy:=zH ek;have H:=ai (ai dr a4) ao;have⟨eA,eB,e0,e1⟩:=aB H;have⟨f0,f1,f2,f3⟩:=cN H;clear H ek ct)))
   have a7:=aT a4 ao;have ey:=ai dr a7;have cF:=bE bd h 2 _ _ (.slice ac a.i a1) ey;simp only[zA]at cF;have b1:=bE _ h.heap.size 3 _ _ (.slice ad b.o a2) cF;simp only[zA]at b1;have ba:∀k,k≠h.heap.size->((bd.setCell ⟨h,2,none⟩ (.slice ac a.i a1)).setCell ⟨h,3,none⟩ (.slice ad b.o a2)).heap[k]?=bd.heap[k]?:=fun k a0=>(a_ _ _ _ _ a0).t (a_ _ _ _ _ a0)
   have b4:=bp.o;have gA:=cc.o;have bv:=ca.o;have gv:=a4.size;have ck:=((c9.ext a7 (ix bp)).y (fun k _ a0=>ba k Qu)).D;have cn:=(((fx.ext d5 (ae _)).ext fz d5.size).y (fun k a0 _=>ba k Qu)).D;have gu:=bo.size;have co:=(fy.y (fun k a0 _=>ba k Qu)).D;have cp:=((fo.ext ao).setCell (a:=⟨h,2,none⟩) bp (.slice ac a.i a1)).setCell (a:=⟨h,3,none⟩) bp (.slice ad b.o a2);obtain⟨gC,g2,ap,br,-⟩:=cp.p;simp only[ep]at ap;obtain⟨rfl,-,rfl⟩:=ap;have cI:=(ba ((w:Nat)+1+1) Qu).t (ai f5 a7);have cz:Below w w ((bd.setCell ⟨h,2,none⟩ (.slice ac a.i a1)).setCell ⟨h,3,none⟩ (.slice ad b.o a2)):=((aT bi a7).setCell (p:=⟨h,2,none⟩) (by show(w:Nat)<=h;omega) _).setCell (p:=⟨h,3,none⟩) (by show(w:Nat)<=h;omega) _;generalize (bd.setCell ⟨h,2,none⟩ _).setCell ⟨h,3,none⟩ _=X at b1 ck cn co cp br cI cz ⊢;have⟨G,hG⟩:=aR (js (jD a b) O);obtain⟨dT,dO,e4⟩:=er (by rw[hG,cb.o];rfl:pK a b=G) cI cz;have e8:=zH (show az 165 #[.agg #[.int .i64 ((a.w:Int)+(b.w:Int)),.slice b6 cW cj,.slice ac a.i a1,.slice ad b.o a2],.slice c4 a.o ea] X (fun e w'=>∃A1 c1 A2 c2 A3 c3 b5 ez ch,e=.returned (.agg #[(G.w:Nat),.slice A1 G.es c1,.slice A2 G.i c2,.slice A3 G.o c3,.slice b5 ez ch])/\Fr w' X w' (fun W=>jV W A1 A2 A3 G)/\ag X w') from by
    have gb:∀e∈(jD a b).es,e.i.length<=65536/\e.o.length<=65536:=fun e gd=>by
     rcases dP.1 gd with Y|Y
     .have:=ah.el e Y;omega
     .obtain⟨ap,gi,rfl⟩:=cH.1 Y;have:=J.o.el ap gi;simp only[Ed.map,bs];omega
    have gn:(jD a b).es.length<=65536:=by
     show(fG a b).length<=65536
     unfold fG;rw[bm,bs];have:=ah.es;have:=J.o.es;omega
    have ev:(jD a b).o.length=b.o:=bs ..;have:=ziv (jD a b) O b6 ac ad c4 cj a1 a2 ea X ⟨ck,cn,co⟩ br (vw ah.inr J.o.inr) (by rw[cb.o];exact yX ah.inr J.o.inr) (by show a.w+b.w<=65536;omega) gn (by have:=ah.i;show a.i.length<=65536;omega) (by rw[ev];have:=J.o.o;omega) gb (by rw[a5.o];omega);rw[a5.o,show(jD a b).es.length=cW from dl.o.q,ev]at this;refine iB this fun e w' Y=>?_
    obtain⟨A1,c1,A2,c2,A3,c3,b5,ch,Z,bu,f8⟩:=Y;rw[<-hG]at Z bu;exact⟨A1,c1,A2,c2,A3,c3,b5,_,ch,Z,bu,f8⟩)
   have⟨T,be,U,bg⟩:=aB b1;clear a7 ey cF b1 ba b4 gA bv gv ck cn gu co cp br cI cz hG eA eB e0 e1 f0 f1 f2 f3 D;have g6:=Cy;go_wp2_with (go_at_call 165;refine e8.x ?_;rintro e hh ⟨b7,cO,b8,cR,b9,cV,gK,ez,he,rfl,a9,hb⟩;have H:=ai dO hb;have⟨eA,eB,e0,e1⟩:=aB H;have⟨g8,g9,hc,hd⟩:=cN H;have f4:=zH H;have e7:=zH a9;have JZ:=zH hb;clear H a9 hb)
   have y:=cP (v0:=.int .i64 (G.w:Nat)) (v1:=.slice b7 G.es cO) (v2:=.slice b8 G.i cR) (v3:=.slice b9 G.o cV) f4;refine O2 fun y0 y1 y2 y3=>?_
   refine aI (v:=.agg (bj G b7 cO b8 cR b9 cV)) (by simp[results,results121,go_sem, *]) rfl ⟨b7,cO,b8,cR,b9,cV,by rw[dT.o],?_,bY (aT e4 JZ) (b:=(w:Nat)+1+1) Qu _ _ _ _⟩;rw[dT.o];have gB:=(bk.1 dO).1;exact(e7.dQ (b:=(w:Nat)+1+1) gB).to Qu (gp eK.q)
def zfR D F A1 G c1 c2 H n2 n V(ac:aO V A1 (bD D))(ad:aO V G (bD F))(Y:H=D.length)(Z:n2=F.length)(ab:n=(D++F).length)(ap:H+n2<=1048576):az 65 #[.slice (bH V) 2 2] (V.alloc (.cells (nj A1 H c1 G n2 c2) 26)) fun e w'=>∃I T,e=.returned (.slice I n T)/\Fr w' V w' (fun W=>aO W I (bD (D++F)))/\ag V w':=by
 have J:=aw V (.cells (nj A1 H c1 G n2 c2) 26);obtain⟨an,ao,-,-⟩:=dD (aH V (.cells (nj A1 H c1 G n2 c2) 26) rfl);have ah:bt (V.alloc (.cells (nj A1 H c1 G n2 c2) 26)) (some ⟨V,0,none⟩) [bD D,bD F]:=au ⟨V,0,rfl,fun k r h=>by
  match k,h with
  |0,h=>simp at h;subst h;exact⟨A1,c1,by rw[aS,<-Y];exact an,ac.ext J⟩
  |1,h=>simp at h;subst h;exact⟨G,c2,by rw[aS,<-Z];exact ao,ad.ext J⟩
  |k+2,h=>simp at h⟩
 have:=ya [bD D,bD F] (some ⟨V,0,none⟩) 2 _ ah Qt (fun k _=>by
  match k with
  |0=>simp
  |1=>simp[aS];omega
  |k+2=>simp[aS];omega)
 refine iB this ?_;rintro e w' ⟨u,rfl,O,U⟩;have am:[bD D,bD F].flatten=bD (D++F):=by simp[jr]
 rw[am]at O;obtain⟨I,T,rfl,-⟩:=O.p;rw[aS,<-ab];rw[aS]at O;exact⟨I,T,rfl,(O.fr U.size).to J.size (ae _),aT J U⟩
def Fm a b A1 A2 A3 D1 D2 D3 c1 c2 c3 d1 d2 d3 w(ha:px a)(hb:px b)(hG:jV w A1 A2 A3 a)(hH:jV w D1 D2 D3 b):az 122 (iV (bj a A1 c1 A2 c2 A3 c3) (bj b D1 d1 D2 d2 D3 d3)) w (xr (ls a b) w):=by
 refine NA fun JZ IY=>?_
 refine PX fun H7 q0 q1 q2=>?_
 have⟨c8,an⟩:=bJ ha hb;have eB:=ha.w;have e1:=hb.w;have eA:=ha.o;have e0:=hb.i;have⟨be,cV⟩:=aR ((fG a b).length);have ch:=zH cV;clear cV;go_enter func122,ntmps122
 go_upto_region 1 with(fail)
 generalize ((w.alloc _).alloc _).alloc _=cz at H7 q0 q1 q2 ⊢;have a9:=(bk.1 q2).1;have ah:=zH a9;have⟨bg,c5,a3,a4⟩:=aB q0;have⟨y0,y1,y2,y3⟩:=aB q1;have⟨b7,cr,ct,cu⟩:=gG H7 q0 q1 q2;clear H7;go_upto_region 2 with(go_at_call 163;refine(JZ.o _ b7.o).x ?_;intro e h d8;obtain⟨a5,a7,a8,cB,ap⟩:=d8;rw[<-ch.o]at a8;subst a8;have ca:=zH cB;have b8:=zH ap)
 have⟨ba,bc⟩:=bM h (.cells (CW ((a.w:Int)+(b.w:Int)) a5 be a7) 54);clear y3;have⟨cb,am⟩:=bJ (ca.ext ba (ae _)) (aT b8 ba);generalize h.alloc _=d7 at ba bc cb am ⊢;have ck:=zH bc;have bd:(h:Nat)<d7:=(bk.1 bc).1;have⟨cp,bi⟩:=bJ bd b8.size;have⟨G,cW⟩:=aR ((a.i++b.i.map (fun x=>x+a.w)).length);have⟨H,c0⟩:=aR ((a.o++b.o.map (fun x=>x+a.w)).length);have⟨ci,cj⟩:=bJ cW c0;clear cW c0;have⟨bn,cq,d6,b9⟩:=gG (ai cr am) (ai ct am) (ai cu am) (aT b7 am);have ea:=aQ (aB bn).1 (aB cq).1;obtain⟨bg,y0⟩:=ea;clear ba;go_upto_region 3 with(go_at_call 66;refine(sJ a.w b.w _ Qu Qu).x ?_;rintro e wr ⟨u2,rfl,b0,av⟩;obtain⟨b6,cA,rfl,cR,-⟩:=b0.p;rw[aS,c_]at b0 ⊢;have U:=zH av;have ce:=zH cR)
 have c9:=zH (aT b9 U);have a6:=zH (show ∀V,ag wr V->jV V A1 A2 A3 a/\jV V D1 D2 D3 b from fun V hV=>IY V (aT c9 hV));obtain⟨dc,dl⟩:=bJ (fun(V:aa) (hV:ag wr V)=>tk (bD (dd a.w b.w)) (fun x=>x+a.w) b.i b6 cA b.w D2 d2 V QU (ce.ext hV) (a6 V hV).2.i Sa (by have:=an.i;omega) (fun x b1=>qM an.inr a.w x (ay b1))) (fun(V:aa) (hV:ag wr V)=>tk (bD (dd a.w b.w)) (fun x=>x+a.w) b.o b6 cA b.w D3 d3 V QU (ce.ext hV) (a6 V hV).2.o Sa (by have:=an.o.o;omega) (fun x b1=>qM an.inr a.w x (au (ay b1))));obtain⟨-,-,a3,a4⟩:=aB (ai bn U);obtain⟨-,-,y2,y3⟩:=aB (ai cq U);have D:=aQ a3 (aQ a4 (aQ y2 y3));obtain⟨Y,Z,dr,dO⟩:=gG (show w.heap.size≠h.heap.size by have:=(bk.1 bn).1;have a8:=bi.o;have d9:=ah.o;omega) (show(w:Nat)+1≠h.heap.size by have a8:=bi.o;have d9:=ah.o;omega) (show a.i.length+b.i<=1048576 by have:=c8.i;omega) (show a.o.length+b.o<=1048576 by have:=an.o.o;omega);go_region_held3 (fun V=>af V w 2 (.slice A2 a.i c2)/\af V w 3 (.slice A3 a.o c3)/\af V ((w:Nat)+1) 2 (.slice D2 b.i d2)/\af V ((w:Nat)+1) 3 (.slice D3 b.o d3))
  (first|with_reducible exact D|with_reducible exact gS (aC _) D|with_reducible exact gS ab.o D|with_reducible exact gS (ab.o.alloc ab.o.size _) D|with_reducible exact gS bh.o D|with_reducible exact gS ac.o D|with_reducible exact gS (ac.o.alloc ac.o.size _) D|with_reducible exact gS ad.o D|with_reducible exact kp4 Y.o Y.o Z.o Z.o (gS ad.o D)|with_reducible exact kp4 Y.o Y.o Z.o Z.o (kp4 Y.o Y.o Z.o Z.o (gS ad.o D)))
  ((first|(go_at_call 164;with_reducible refine(dc.o _ (aC _)).x ?_;rintro e b4 ⟨c6,eg,rfl,cF,ap⟩;have ab:=zH ((aC wr).t (ap.x (aC wr).size));have dT:=zH cF.D)|(go_at_call 65;with_reducible refine(zfR a.i (b.i.map (fun x=>x+a.w)) A2 c6 c2 eg a.i b.i G b4 (a6.o b4 ab.o).1.i dT.o rfl (bs ..).q ci.o dr.o).x ?_;rintro e ez ⟨I,O,rfl,cI,av⟩;have bh:=zH (aT ab.o av);have d0:=zH cI)|(go_at_call 164;with_reducible refine(dl.o _ bh.o).x ?_;rintro e b5 ⟨c7,ei,rfl,cK,br⟩;have ac:=zH (aT bh.o br);have d4:=zH cK.D;have cn:=zH br)|(go_at_call 65;with_reducible refine(zfR a.o (b.o.map (fun x=>x+a.w)) A3 c7 c3 ei a.o b.o H b5 (a6.o b5 ac.o).1.o d4.o rfl (bs ..).q cj.o dO.o).x ?_;rintro e F ⟨J,T,rfl,cO,bu⟩;have ad:=zH (aT ac.o bu);have co:=zH bu;have d5:=zH cO;have b3:=ai (ai ck.o U.o) ad.o;have⟨ej,ek,em,eo⟩:=aB b3;have⟨f0,f1,f2,f3⟩:=cN b3)))
 have ao:=aT U ad;have c4:=ai ck ao;have bz:=bE F h 2 _ _ (.slice I G O) c4;simp only[zA]at bz;have bb:=bE _ h.heap.size 3 _ _ (.slice J H T) bz;simp only[zA]at bb;have a1:∀k,k≠h.heap.size->((F.setCell ⟨h,2,none⟩ (.slice I G O)).setCell ⟨h,3,none⟩ (.slice J H T)).heap[k]?=F.heap[k]?:=fun k a0=>(a_ _ _ _ _ a0).t (a_ _ _ _ _ a0)
 have bd:=cp.o;have ee:=bi.o;have a9:=ah.o;have eb:=U.size;have ev:=ab.size;have ey:=ac.size;have es:=ad.size;have t3:=cn.size;have t4:=co.size;have b2:((F.setCell ⟨h,2,none⟩ (.slice I G O)).setCell ⟨h,3,none⟩ (.slice J H T):Nat)=F:=Qt;have bo:=((cb.ext ao (ix cp)).y (fun k _ a0=>a1 k Qu)).to (ae _) (Qu:(h:Nat)<=F);have bp:=(((d0.ext cn (ae _)).ext co t3).y (fun k a0 _=>a1 k Qu)).to (Qu:(cz:Nat)<=b4) (Qu:(ez:Nat)<=F);have bq:=(d5.y (fun k a0 _=>a1 k Qu)).to (Qu:(cz:Nat)<=b5) (ae _);have a2:=(a1 ((w:Nat)+1+1) Qu).t (ai d6 ao);have bv:Below w w ((F.setCell ⟨h,2,none⟩ (.slice I G O)).setCell ⟨h,3,none⟩ (.slice J H T)):=((aT b9 ao).setCell (p:=⟨h,2,none⟩) (by show(w:Nat)<=h;omega) _).setCell (p:=⟨h,3,none⟩) (by show(w:Nat)<=h;omega) _;generalize (F.setCell ⟨h,2,none⟩ _).setCell ⟨h,3,none⟩ _=X at bb bo bp bq a2 bv b2 ⊢;have cc:=zH (Fv (g:=ls a b) bo bp bq);rw[<-b2]at cc;have⟨dq,db⟩:=bJ a2 bv;have⟨bg,c5,a3,a4⟩:=aB bb;have⟨e2,e3,e4,e5⟩:=aB a2;have⟨e6,e7,e8,e9⟩:=cN a2;go_wp2;have y:=cP (v0:=.int .i64 ((a.w:Int)+(b.w:Int))) (v1:=.slice a5 be a7) (v2:=.slice I G O) (v3:=.slice J H T) dq;refine O2 fun y0 y1 y2 y3=>?_
 refine aI (v:=.agg (nh ((a.w:Int)+(b.w:Int)) a5 be a7 I G O J H T)) (by simp[results,results122,go_sem, *]) rfl ⟨a5,a7,I,O,J,T,by rw[show(ls a b).es.length=be from ch.o.q,show(ls a b).i.length=G from ci.o.q,show(ls a b).o.length=H from cj.o.q];rfl,?_,bY db (b:=(w:Nat)+1+1) Qu _ _ _ _⟩;exact(cc.dQ (b:=(w:Nat)+1+1) ah).to (by have:=ah.o;omega) (gp eK.q)
def zh4(D:e.jd=true):eU e.k 3 14=true/\gvB e.k e.v=true/\gwI e.k=(e.i:Nat)/\gwO e.k=(e.o:Nat):=by
 unfold Ed.jd at D;simp only[bN,cf]at D;obtain⟨I,U,hi,T⟩:=D;have J:e.k≠1:=Qu;have O:e.k≠2:=Qu;have h:=I;rw[<-ϝ]at h;unfold Ç at h;simp only[uN,lp,aj J,aj O]at h;have H:eU e.k 3 14=true:=by
  by_cases D:eU e.k 3 14=true
  .exact D
  .rw[aj D]at h;cases h
 rw[ak H]at h;have F:=(ϧ I).1;have G:=(ϧ I).2;unfold Ä at F;unfold Ã at G;simp only[uN,lp,aj J,aj O,ak H]at F G;exact⟨H,h,by rw[hi,F],by rw[T,G]⟩
def zfG e A1 D c1 c2 w(Y:e.jd=true):az 168 (cY (zj e A1 c1 D c2)) w fun r w'=>r=.returned (.bool true)/\ag w w':=by
 have⟨O,ab,I,J⟩:=zh4 Y;obtain⟨k,v,i,o⟩:=e;dsimp only at *;have⟨a,Z⟩:=aR i.length;have⟨b,h⟩:=aR o.length;rw[<-Z]at I ⊢;rw[<-h]at J ⊢;have G:3<=k/\k<=14:=by simpa[eU]using O
 obtain⟨ao,ap,an⟩:=er (fun(W:aa)=>(by have:=jt k W G.1 G.2;rw[I,J]at this;exact this:az 167 (bK k) W fun e w'=>e=.returned (.agg (iL a b))/\ag W w')) O ab;have⟨H,T⟩:=bM w (.cells (wW k v A1 a c1 D b c2) 155);clear I J Z h Y G O ab;go_enter func168,ntmps168
 go_upto_region 1 with(fail)
 generalize w.alloc _=W at H T ⊢;have⟨ac,av,ad,ah⟩:=aB T;have am:=zH H;clear H T;go_upto_region 3 with(first|(go_at_call 210;refine(Calls.cg (pz _ _) ap).x ?_;rintro e w' ⟨rfl,rfl⟩)|(go_at_call 211;refine(Calls.cg (pd _ _ _) an).x ?_;rintro e w' ⟨rfl,rfl⟩))
 have F:=aQ ac (aQ ad ah);clear ac av ad ah;go_region_held3 (fun V=>af V w 0 (zI k)/\af V w 2 (.slice A1 a c1)/\af V w 3 (.slice D b c2))
  (first|with_reducible exact F|with_reducible exact jH (aC _) F|with_reducible exact jH U.o F)
  ((go_at_call 167;refine(ao.o _).x ?_;rintro e a0 ⟨rfl,h⟩;have U:=zH ((aC W).t (h.x (aC W).size));clear h))
 go_wp2;go_ret
 exact⟨rfl,aT am U⟩
def u_:List Bool->Nat
 |[]=>0
 |b::l=>u_ l+if b=true then 1 else 0
def ľ:∀{l:Fg} {x:Nat},l[x]?=some false->u_ (l.set x true)=u_ l+1
 |[],x,h=>QO
 |b::l,0,h=>by simp at h;subst h;simp[u_]
 |b::l,x+1,h=>by have:=ľ (l:=l) (x:=x) Q_;simp only[xh,u_];omega
def zfN:∀l:Fg,u_ l<=l.length
 |[]=>ae _
 |b::l=>by have:=zfN l;simp only[u_,jT];split<;>omega
def zcH:∀{l:Fg},(∀b∈l,b=true)->u_ l=l.length
 |[],_=>rfl
 |b::l,h=>by
  have:=zcH (l:=l) fun b D=>h b (kC _ D)
  simp only[u_,jT,this,h b (kb ..),p_]
def zgP n:u_ (List.replicate n false)=0:=by
 induction n with
 |zero=>rfl
 |succ n ih=>rw[C7];simp[u_,ih]
def xY(h:x<n):(List.range n).getD x 0=x:=by simp[List.getD,h]
def kV(n:Nat)(d:List (List Nat)):List Bool:=mP n (List.range n) d
def zal:∀{l:Fg} {x:Nat} {b:Bool},l[x]?=some b->l.set x b=l
 |[],_,_,h=>QO
 |a::l,0,b,h=>by simp at h;subst h;rfl
 |a::l,x+1,b,h=>by rw[xh,zal (l:=l) Q_]
structure SI(n B bg ug s uc:Nat)(x1 x2 x3:aG)(d:List (List Nat))(V:aa):Prop where
 ne:bg<ug/\ug<s
 hg:bA V bg #[.int .i64 n,x1,x2,x3] 54
 hs:bA V s (bZ (bH ug) n uc) 209
 ho:bA V (s+1) #[.bool true] 4
 hc:bA V (s+1+1) (bK (u_ (kV n d):Nat)) 3
 us:V.ownsRow B 4 1 (.slice (bH ug) n uc) n ((kV n d).map Value.bool)
def SI.ext{ug G}{H I}{d}{F}(D:SI n B J ug s G T H I d V)(h:ag V F):SI n B J ug s G T H I d F:=⟨D.ne,ai D.hg h,ai D.hs h,ai D.ho h,ai D.hc h,jA D.us (row:=none) ⟨h.os,h.tape,h.output,h.size,fun k O _=>h.block k O⟩ SY⟩
def zam{d}(D:l[k]?=some x)(h:x<n):(kV n (d++[l.take k])).set x true=kV n (d++[l.take (k+1)]):=by have:=ť (n:=n) (C:=List.range n) (d:=d) D (by rw[xY h];exact h);rw[xY h]at this;exact this
def SI.Φ{ug D}{F G}{d}(h:SI n B J ug s D T F G (d++[l.take k]) V)(O:l[k]?=some x)(H:x<n)(I:(kV n (d++[l.take k]))[x]?=some true):SI n B J ug s D T F G (d++[l.take (k+1)]) V:=by have e:=zam (d:=d) O H;rw[zal I]at e;exact⟨h.ne,h.hg,h.hs,h.ho,by rw[<-e];exact h.hc,by rw[<-e];exact h.us⟩
def SI.Î{ug G}{H I}{d}(h:SI n B J ug s G T H I (d++[l.take k]) V)(ab:l[k]?=some x)(U:x<n)(Z:(kV n (d++[l.take k]))[x]?=some false):SI n B J ug s G T H I (d++[l.take (k+1)]) ((V.setCell ⟨ug,x,none⟩ (.bool true)).setCell ⟨s+1+1,0,none⟩ (zI ((u_ (kV n (d++[l.take k])):Nat)+1))):=by
 have e:=zam (d:=d) ab U;have D:=ľ Z;rw[e]at D;have F:=h.us.j x (.bool true);rw[<-eW,e]at F;have ac:=h.ne;have O:=bE (V.setCell ⟨ug,x,none⟩ (.bool true)) (s+1+1) 0 _ _ (zI ((u_ (kV n (d++[l.take k])):Nat)+1)) ((a_ _ _ _ _ (by show s+1+1≠ug;omega)).t h.hc);refine⟨h.ne,(a_ _ _ _ _ (by show J≠s+1+1;omega)).t ((a_ _ _ _ _ (by show J≠ug;omega)).t h.hg),(a_ _ _ _ _ (by show s≠s+1+1;omega)).t ((a_ _ _ _ _ (by show s≠ug;omega)).t h.hs),(a_ _ _ _ _ (by show s+1≠s+1+1;omega)).t ((a_ _ _ _ _ (by show s+1≠ug;omega)).t h.ho),?_,?_⟩
 .rw[O,D];simp
 .exact jA F.1 (row:=some (s+1+1)) ⟨rfl,rfl,rfl,Qt,fun k _ Y=>a_ _ _ _ _ (by show k≠s+1+1;intro e;exact Y Qv)⟩ (au TQ)
def zbl n B F ug s J O T U d l A ε V(h:SI n B F ug s J O T U d V)(ah:aO V A (bD l))(am:∀x∈l,x<n)(bc:n<=1048576)(bb:l.length<=1048576)(an:∀b o,A=some ⟨b,o,none⟩->0<l.length->b<ug):az 170 #[.slice A l ε,.pointer (bH F),.pointer (some ⟨s+1,0,none⟩),.pointer (bH s),.pointer (some ⟨s+1+1,0,none⟩)] V fun e ac=>e=.returned (.tuple #[])/\SI n B F ug s J O T U (d++[l]) ac/\b_ ug (s+1+1+1) V ac:=by
 have⟨ap,av,a0⟩:=er ah am an;have a1:=zH (show SI n B F ug s J O T U (d++[l.take 0]) V from by
  have e:kV n (d++[l.take 0])=kV n d:=by unfold kV mP pH;simp
  exact⟨h.ne,h.hg,h.hs,h.ho,by rw[e];exact h.hc,by rw[e];exact h.us⟩)
 clear h ah am an;go_enter func170,ntmps170
 go_wp2;go_loopw [10] (fun i wr=>∃k:Nat,k<=l.length/\i=.int .i64 k/\SI n B F ug s J O T U (d++[l.take k]) wr/\b_ ug (s+1+1+1) V wr) (fun i _=>l.length-(intOf i).toNat)
 case atStart=>exact⟨0,aW _,rfl,a1,b_.refl _ _ _⟩
 case round=>
  obtain⟨k,ba,rfl,hu,hw⟩:=hrel;by_cases FX:k<l.length
  .have⟨x,D⟩:=aq FX;obtain⟨b,o,rfl,Y⟩:=ap.θ (k:=k) Se;have bd:=a0 b o rfl Qu;have ao:=hu.ne;have a5:=hw.cell (Y k _ (dK D)) (by show b<ug∨s+1+1+1<=b;omega);have Z:=av x (aU D);obtain⟨q,hq⟩:=aq (by unfold kV;rw[lK];exact Z:x < (kV n (d++[l.take k])).length);have a6:af wr ug x (.bool q):=U9;have a8:=hu.us.g x;have a3:=aF hu.hg 0 rfl;have a4:=aF hu.hs 0 rfl;have ad:=aF hu.hc 0 rfl;have f3:=aK hu.hc 0;have a2:=zH hw;have be:IntKind.i64.wrap ((n:Int)-1)=(n:Int)-1:=Rt;have ab:=zH (RM:eU (x:Int) 0 ((n:Int)-1)=true);have H:=zfN (kV n (d++[l.take k]));unfold kV at H;rw[lK]at H;have⟨c,G⟩:=aR (u_ (kV n (d++[l.take k])));cases q
   .obtain⟨I,I3⟩:=bJ (hu.Î D Z hq) ((hw.xv (p:=⟨ug,x,none⟩) (v:=.bool true) (ae _) (by show ug<s+1+1+1;omega)).xv (p:=⟨s+1+1,0,none⟩) (v:=.int .i64 ((u_ (kV n (d++[l.take k])):Nat)+1)) (by show ug<=s+1+1;omega) (by show s+1+1<s+1+1+1;omega));have a9:(wr.setCell ⟨ug,x,none⟩ (.bool true)).cell? ⟨s+1+1,0,none⟩=some (.int .i64 (c:Nat)):=(cE (by show s+1+1≠ug;omega)).t (by rw[G];exact ad);rw[<-G]at I I3 ad;have a7:IntKind.i64.wrap ((c:Int)+1)=(c:Int)+1:=by
     have:c<=n:=by rw[G];exact H
     rw[bT];omega
    clear Y D hu hw hq H G ao;go_wp2_with (go_at_call 143;refine(Calls.cg (dC _ _ _ _) ab).x ?_;rintro e w' ⟨rfl,rfl⟩)
    go_roundw
    case rel=>exact⟨k+1,Qu,Qx,I,I3⟩
    case measure=>simp[intOf];omega
   .have I:=zH (hu.Φ D Z hq);clear Y D hu hw hq H G ao;go_wp2_with (go_at_call 143;refine(Calls.cg (dC _ _ _ _) ab).x ?_;rintro e w' ⟨rfl,rfl⟩)
    go_roundw
    case rel=>exact⟨k+1,Qu,Qx,I,a2⟩
    case measure=>simp[intOf];omega
  .exact Yl
def G1.el(h:g.G1):∀e∈g.es,e.i.length<=12/\e.o.length<=12:=fun e D=>by have:=h.fit e D;unfold Ed.jd at this;simp only[bN,cf]at this;obtain⟨F,_,hi,G⟩:=this;have:=tK F;omega
def G1.count(F:g.G1):u_ (kV g.w (ec g))=g.w:=by
 rw[zcH,show(kV g.w (ec g)).length=g.w from lK ..];intro b G;obtain⟨r,h⟩:=eH.1 G;have D:r<g.w:=by have:=(bG.1 h).1;rw[show(kV g.w (ec g)).length=g.w from lK ..]at this;exact this
 unfold kV at h;rw[nD _ _ D]at h;cases h
 obtain⟨l,H,I⟩:=(yA g r).2 (F.on r D);unfold pH;rw[nl];refine⟨l,H,?_⟩;rw[nl];exact⟨r,I,by rw[xY D];simp⟩
def qQ g A1 J O c1 c2 Y w(b0:jV w A1 J O g)(a0:g.G1)(b8:g.w<=65536)(U:g.es.length<=65536)(hi:g.i.length<=65536)(b4:g.o.length<=65536):az 124 (cY (bj g A1 c1 J c2 O Y)) w (dt w (jc g)):=by
 have bp:=zH (fun(v2 v3 v4:aG)=>FJ g A1 J O c1 c2 Y (.pointer (bH w)) v2 v3 v4);have⟨n,ad⟩:=aR g.w;have⟨F,an⟩:=aR g.es.length;have⟨H,a9⟩:=aR g.i.length;have⟨I,ba⟩:=aR g.o.length;obtain⟨G,cn,bn,bo⟩:=gG (by rw[ad,an,a9,ba];rfl:jc g=(decide (n<=100)&&(decide (F<=60)&&(decide (H<=12)&&decide (I<=12))))) (by rw[ad];exact G1.count a0:u_ (kV n (ec g))=n) b0 a0;have dq:n<=65536:=by rw[ad];exact b8
 have cp:=zH (show ∀l∈ec g,l.length<=65536 from zfL hi b4 fun e U=>by have:=G1.el a0 e U;omega);rw[<-ad,<-an,<-a9,<-ba]at bp ⊢;have⟨cq,cr⟩:=bJ ad an;have hq:=aH w (.cells (nh n A1 F c1 J H c2 O I Y) 54) rfl;have hB:=aw w (.cells (nh n A1 F c1 J H c2 O I Y) 54);have db:F<=65536:=by rw[an];exact U
 have cb:∀lo hi (W:aa),az 143 (gT n lo hi) W fun e w'=>e=.returned (.bool (eU n lo hi))/\W=w':=fun lo hi W=>dC _ _ _ _
 have Jq:=zH cb;clear ad an a9 ba cb;by_cases ah:n<=100
 .have T:eU (n:Int) 0 100=true:=RM;have E1:=zH T;by_cases ac:F<=60
  .by_cases am:H<=12
   .by_cases ao:I<=12
    .have a7:decide ((60:Int) < (F:Int))=false:=QW;have bu:decide ((12:Int) < (H:Int))=false:=QW;have cA:decide ((12:Int) < (I:Int))=false:=QW;rw[show jc g=true by rw[G.o];simp[ah,ac,am,ao]];go_enter func124,ntmps124
     go_upto_region 1 with(fail)
     generalize w.alloc _=W at hq hB ⊢;refine NQ fun x0 x1 x2 x3 HB HQ=>?_
     go_wp2_with (go_at_call 143;refine(Calls.cg (Jq.o _ _ _) E1).x ?_;rintro e w' ⟨rfl,rfl⟩)
     go_loopw [33] (fun i wr=>∃k:Nat,k<=F/\i=.int .i64 k/\ag W wr) (fun i _=>F-(intOf i).toNat)
     case atStart=>exact⟨0,aW _,rfl,al _ _⟩
     case round=>
      obtain⟨k,dc,rfl,Z⟩:=hrel;have ab:=aT HB Z;have a1:=ai HQ Z;by_cases cW:k<F
      .obtain⟨e,U⟩:=aq (by rw[<-cr.o];exact cW:k<g.es.length);obtain⟨c8,c9,be,d1,bg,d2,rfl,u0,u1,u2,u3,-,-⟩:=fU bn.es U;have bi:=zH (fun V=>zfG e be bg d1 d2 V (bo.fit e (aU U)));have bd:=ar ab u0;have a4:=ar ab u1;have z2:=ar ab u2;have ci:=ar ab u3;obtain⟨cF,cK,cB,cI⟩:=e;dsimp only at bd a4 z2 ci bi;have⟨a8,bb⟩:=bM wr (.cells (eh cF cK be cB d1 bg cI d2) 155);have bh:=zH (aT Z a8);go_upto_region 6 with(fail)
       generalize wr.alloc _=d3 at a8 bb bh ⊢;have⟨dr,dO,n2,dT⟩:=aB bb;go_wp2_with (go_at_call 168;refine(bi.o _).x ?_;rintro e d4 ⟨rfl,av⟩;have cj:=zH (aT bh av))
       go_roundw
       case rel=>exact⟨k+1,Qu,Qx,cj⟩
       case measure=>simp[intOf];omega
      .obtain rfl:k=F:=Qu;obtain⟨h,rfl⟩:∃h,h=wr:=⟨wr,rfl⟩;have⟨x0,x1,x2,x3⟩:=aB a1;have⟨br,a6⟩:=bJ a1 ab;have⟨ch,b3,cc,ce,FU⟩:=dp Ds;go_upto_region 10 with((at_make;refine jg _ rfl _ _ 209 rfl h.heap.size 4 ch (.bool false) 1 underlying209 b3 cc ce .i64 .i64 n n n rfl rfl rfl rfl RF SL (ae _) ?_;intro D b5 b2;have bq:=zH b5;have co:=zH (cy b2)))
       have b6:(h:Nat)<D:=(bS bq _ rfl).2;have b1:=ζ D (.cells (bZ (bH h) n n) 209) (.cells #[.bool true] 4) (.cells jz 3);have⟨t0,t1,t2⟩:=cD D (.cells (bZ (bH h) n n) 209) (.cells #[.bool true] 4) (.cells jz 3);have ap:=aT co b1;have ca:(w:Nat)<h:=(bk.1 br).1;have b7:D.ownsRow h 4 1 (.slice (bH h) n n) n ((kV n []).map Value.bool):=by have:=bq.o;rw[xW,<-AQ n (List.range n)]at this;exact this
       have a2:SI n h w h D n (.slice A1 k c1) (.slice J H c2) (.slice O I Y) [] (((D.alloc (.cells (bZ (bH h) n n) 209)).alloc (.cells #[.bool true] 4)).alloc (.cells jz 3)):=
        ⟨⟨ca,b6⟩,ai br ap,t0,t1,by rw[show kV n []=List.replicate n false from AQ _ _,zgP];exact t2,nm (nm (nm b7 _) _) _⟩
       have bc:(D:Nat)+1+1+1<=(((D.alloc (.cells (bZ (bH h) n n) 209)).alloc (.cells #[.bool true] 4)).alloc (.cells jz 3)):=Qt;generalize ((D.alloc _).alloc _).alloc _=c5 at ap a2 bc ⊢;have a5:=zH (aT a6 ap);have ck:=zH (bp (.pointer (some ⟨(D:Nat)+1,0,none⟩)) (.pointer (bH D)) (.pointer (some ⟨(D:Nat)+1+1,0,none⟩)) h ((D:Nat)+1+1+1) w c5 (fun d V=>SI n h w h D n (.slice A1 k c1) (.slice J H c2) (.slice O I Y) d V) bn Qu cp (fun d V c6 cO av=>cO.ext av) a5 a6.size bc a2 (fun d l A ε V cR bz Z c0 dl=>
        zbl n h w h D n (.slice A1 k c1) (.slice J H c2) (.slice O I Y) d l A ε V cR (bz.ext Z) (fun x c3=>by rw[cq.o];exact bo.inr x (c0 x c3)) Qu Qu (fun b o e bv=>by
         subst e;obtain⟨c7,d0,cz,cV⟩:=bz.θ (k:=0) (by rw[aS];exact bv);cases cz
         have⟨y,c4⟩:=aq bv;have ah:=jB _ _ (cV 0 _ (dK c4));have:b < (w:Nat):=ah;omega)))
       have⟨x0,x1,x2,x3⟩:=aB a2.hg;have cu:=zH a6.size;go_wp2_with (go_at_call 169;refine ck.x ?_;rintro e d5 ⟨rfl,a3,b9⟩;have bd:=aF a3.ho 0 rfl;have a4:=aF a3.hc 0 rfl;rw[cn.o]at a4;have z2:=aF a3.hg 0 rfl;have ct:=zH b9)
       go_ret
       exact⟨rfl,a5.t (ct.L (aZ cu (ae _)) a5.size)⟩
    .have a7:decide ((60:Int) < (F:Int))=false:=QW;have bu:decide ((12:Int) < (H:Int))=false:=QW;have cA:decide ((12:Int) < (I:Int))=true:=QW;rw[show jc g=false by rw[G.o];simp[ao]];exact Zg
   .have a7:decide ((60:Int) < (F:Int))=false:=QW;have bu:decide ((12:Int) < (H:Int))=true:=QW;rw[show jc g=false by rw[G.o];simp[am]];exact Zg
  .have a7:decide ((60:Int) < (F:Int))=true:=QW;rw[show jc g=false by rw[G.o];simp[ac]];exact Zg
 .have T:eU (n:Int) 0 100=false:=RM;have E1:=zH T;rw[show jc g=false by rw[G.o];simp[ah]];exact Zg
end Go.Proofs.YtpieilkmmiopfaaGreatDoor
