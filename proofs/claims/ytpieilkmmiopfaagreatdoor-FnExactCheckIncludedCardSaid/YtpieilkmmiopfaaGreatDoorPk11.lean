/- Parts of the walks. Conditions: as stated with each. -/
import Derived.Test.YtpieilkmmiopfaaGreatDoorPk6
import Derived.Test.YtpieilkmmiopfaaGreatDoorPk7
namespace Go.Proofs.YtpieilkmmiopfaaGreatDoor
open Go.RowKit Tryz
set_option linter.all false
set_option maxHeartbeats 4000000
set_option maxRecDepth 100000
variable{A:ax}{B b c d i j k n q s y:Nat}{C l:bP}{Q:gZ}{W w w':aa}{a:Act}{e:Ed}{g:Gr}{o:h_}{ops:iI}{ps:ng}{rest:List Oper}{t:dL}{u v v0 v1 v2 v3 z:aG}{xs:aL}
def vq x a b w(a9:pO w a x)(ba:pO w b x)(bb:vR 1048576 x):az 13 (iV (dy x a) (dy x b)) w (dt w true):=by
 have a1:=((al w w).alloc Qt (.cells (dy x a) 39)).alloc Qt (.cells (dy x b) 39);have am:=(bO (w.alloc (.cells (dy x a) 39)) (.cells (dy x b) 39) (k:=w.heap.size) Qt).t (aH w _ rfl);have an:=aH (w.alloc (.cells (dy x a) 39)) (.cells (dy x b) 39) (n:=(w:Nat)+1) Qt;have⟨ad,ah,D⟩:=er (fun V (a2:ag w V)=>a9.ext a2) (fun V (a2:ag w V)=>ba.ext a2) bb;go_enter func13,ntmps13
 go_upto_region 1 with(fail)
 generalize (w.alloc _).alloc _=W at a1 am an ⊢;have⟨ao,bd,bg⟩:=er a1 am an;obtain⟨⟨F,G,H,I,J,O⟩,-⟩:=gE am;obtain⟨⟨T,U,Y,Z,ab,ac⟩,-⟩:=gE an;go_upto_region 5 with(go_at_call 32;refine(zbz a.A b.A a.c b.c x.xs _ (ad.o _ ao.o).s (ah.o _ ao.o).s D.s D.ss).x ?_;rintro e bi ⟨rfl,h⟩;have ap:=zH (aJ ao h);have a3:=zH (ai bd h);have a6:=zH (ai bg h);obtain⟨⟨F,G,H,I,J,O⟩,-⟩:=gE a3;obtain⟨⟨T,U,Y,Z,ab,ac⟩,-⟩:=gE a6)
 go_upto_region 9 with(go_at_call 33;refine(Calls.bl (tR a.A3 b.A3 a.c3 b.c3 x.x3 x.x3 _ (ad.o _ ap.o).i3 (ah.o _ ap.o).i3 (oe D.i3) (oe D.i3)) (fT rfl)).x ?_;rintro e bn ⟨rfl,h⟩;have av:=zH (aJ ap h);have a4:=zH (ai a3 h);have a7:=zH (ai a6 h);obtain⟨⟨F,G,H,I,J,O⟩,-⟩:=gE a4;obtain⟨⟨T,U,Y,Z,ab,ac⟩,-⟩:=gE a7)
 go_upto_region 11 with(go_at_call 33;refine(Calls.bl (tR a.A4 b.A4 a.c4 b.c4 x.x4 x.x4 _ (ad.o _ av.o).i4 (ah.o _ av.o).i4 (oe D.i4) (oe D.i4)) (fT rfl)).x ?_;rintro e bo ⟨rfl,h⟩;have a0:=zH (aJ av h);have a5:=zH (ai a4 h);have a8:=zH (ai a7 h);obtain⟨⟨F,G,H,I,J,O⟩,-⟩:=gE a5;obtain⟨⟨T,U,Y,Z,ab,ac⟩,-⟩:=gE a8)
 go_upto_region 13 with(go_at_call 33;refine(Calls.bl (tR a.A5 b.A5 a.c5 b.c5 x.x5 x.x5 _ (ad.o _ a0.o).i5 (ah.o _ a0.o).i5 (oe D.i5) (oe D.i5)) (fT rfl)).x ?_;rintro e bp ⟨rfl,h⟩;have bc:=zH (aJ a0 h);have be:=zH (ai a5 h);have bh:=zH (ai a8 h);obtain⟨⟨F,G,H,I,J,O⟩,-⟩:=gE be;obtain⟨⟨T,U,Y,Z,ab,ac⟩,-⟩:=gE bh)
 go_wp2;go_ret
 exact⟨rfl,bc⟩
def qG v A ε Mn D J w(G:aO w A v)(F:aO w D Mn)(T:v.length<=1048576)(O:Mn.length<=1048576)(H:∀i∈Mn,0<=i/\i<v.length):az 82 (mv D Mn J A v ε) w fun e w'=>∃u,e=.returned u/\aE w' w u (nA v Mn)/\ag w w':=by
 have⟨HV,HA,HL⟩:=er G F H;clear G F H;go_enter func82,ntmps82
 go_wp2;go_loopw [5,7,10] (fun u _ i wr=>∃k:Nat,k<=Mn.length/\i=.int .i64 k/\aE wr w u ((nA v Mn).take k)/\ag w wr)
  (fun _ _ i _=>Mn.length-(intOf i).toNat)
 case atStart=>exact⟨0,aW _,rfl,S_,al _ _⟩
 case round=>
  obtain⟨k,hk,rfl,I,FW⟩:=hrel;have I5:=zH I;clear I
  by_cases FX:k<Mn.length
  .obtain⟨i,hi'⟩:=aq FX;obtain⟨hi1,hi2⟩:=HL.o i (aU hi');obtain⟨j,hj⟩:∃j:Nat,(j:Int)=i:=⟨i.toNat,by omega⟩;subst hj;have JT:j<v.length:=by omega
   obtain⟨x,hx⟩:=aq JT;obtain⟨b,o,rfl,hc⟩:=(HV.o.ext FW).θ JT;obtain⟨b2,o2,rfl,I4⟩:=(HA.o.ext FW).θ FX;have Mo:=hc _ _ hx;have Ms:=I4 _ _ hi';obtain⟨HS,Mp⟩:=bJ (DQ hi' (by simpa using hx)) (zat v Mn k hk);have Ge:=FW.size;clear hc I4 hx hi';go_wp2_with ((at_builtin;refine qm rfl _ _ rfl _ wr _ _ _ rfl rfl I5.o (by rw[Mp.o];omega) (by omega) ?_;intro u' w1 Ij _ Ik))
   go_roundw
   case rel=>exact⟨k+1,by omega,by go_num,by rw[HS.o];exact Ij,FW.t Ik⟩
   case measure=>simp[intOf];omega
  .go_wp2;go_ret
   exact⟨_,rfl,by have h:=I5.o;rwa[cZ (by simp[nA];omega)]at h,FW⟩
def zfe a b w:az 217 (bC a b) w fun e w'=>e=.returned (zI (max a b))/\w=w':=by
 by_cases h:b<=a
 .rw[Int.max_eq_left h];rcases Int.lt_or_eq_of_le h with D|rfl
  all_goals
   go_enter func217,ntmps217
   go_wp2;go_ret
   exact⟨rfl,rfl⟩
 .have D:a<b:=Qu;rw[Int.max_eq_right Qu];go_enter func217,ntmps217
  exact We
def zdN a b w:az 218 (bC a b) w fun e w'=>e=.returned (zI (min a b))/\w=w':=by
 by_cases h:a<=b
 .rw[Int.min_eq_left h];rcases Int.lt_or_eq_of_le h with D|rfl
  all_goals
   go_enter func218,ntmps218
   go_wp2;go_ret
   exact⟨rfl,rfl⟩
 .have D:b<a:=Qu;rw[Int.min_eq_right Qu];go_enter func218,ntmps218
  exact We
def zgs t f l A ε n h D w(H:n=t.length)(G:aO w A t)(F:aO w h (bD l))(I:t.length<=1048576)(hm:l.length<=1048576)(hl:∀x∈l,t[x]?=some ((f x:Nat):Int)):az 82 #[.slice h l D,.slice A n ε] w fun e w'=>∃A3 c3,e=.returned (.slice A3 l c3)/\Fr w' w w' (fun W=>aO W A3 (bD (l.map f)))/\ag w w':=by
 subst H;have:=qG t A ε (bD l) h D w G F I RZ (Du hl);refine Ng fun this w' hb A3 c3 hu=>?_
 exact⟨A3,c3,QV,hu.fr hb.size,hb⟩
def aE.frO(h:aE w B (.slice A n c) xs)(D:B<=(w:Nat)):Fr w B w (fun W=>aE W B (.slice A n c) xs):=tU (fun W F=>h.y F) (fun _ _ G h=>h.ext G) D
def zgt t f l A ε n h D B(w:aa)(H:B<=(w:Nat))(J:n=t.length)(I:aO w A t)(G:aO w h (bD l))(O:t.length<=1048576)(hm:l.length<=1048576)(hl:∀x∈l,t[x]?=some ((f x:Nat):Int)):az 82 #[.slice h l D,.slice A n ε] w fun e w'=>∃A3 c3,e=.returned (.slice A3 l c3)/\Fr w' w w' (fun W=>aE W B (.slice A3 l c3) (bD (l.map f)))/\(∀g,(Value.slice A3 l c3).ownBlock=some g->(w:Nat)<=g/\g < (w':Nat))/\ag w w':=by
 subst J;have:=qG t A ε (bD l) h D w I G O RZ (Du hl);refine Ng fun this w' hb A3 c3 hu=>?_
 have hl:(bD (l.map f)).length=l:=QV;rw[hl]at hu ⊢;exact⟨A3,c3,rfl,(hu.frO hb.size).E fun V F=>F.x H,fun g e=>bS hu g e,hb⟩
def ė{a e}(D:∀g,v2.ownBlock=some g->a<=g/\g<b)(F:∀g,v3.ownBlock=some g->c<=g/\g<d)(H:b<=c)(I:b<=d)(J:d<=e):(∀g,v2.ownBlock=some g->v3.ownBlock≠some g/\g<e)/\∀g,v3.ownBlock=some g->g<e:=⟨fun g h=>⟨fun G=>by have:=D g h;have:=F g G;omega,by have:=D g h;omega⟩,fun g h=>by have:=F g h;omega⟩
structure BH(B0 B:Nat)(V:aa)(A1:ax)(c1:Nat)(A2:ax)(c2:Nat)(A3:ax)(c3:Nat)(g:Gr):Prop where
 b:B0<=B
 s:B<=(V:Nat)
 i:aE V B0 (.slice A2 g.i c2) (bD g.i)
 o:aE V B0 (.slice A3 g.o c3) (bD g.o)
 d2:∀g',(Value.slice A2 g.i c2).ownBlock=some g'->(Value.slice A3 g.o c3).ownBlock≠some g'/\g'<B
 d3:∀g',(Value.slice A3 g.o c3).ownBlock=some g'->g'<B
 es:bw 155 4 Cl V B (.slice A1 g.es c1) g.es
def yB(g:Gr)(w:aa)(e:Ending)(w':aa):Prop:=∃A1 c1 h c2 D F B,e=.returned (.agg (bj g A1 c1 h c2 D F))/\BH w B w' A1 c1 h c2 D F g/\ag w w'
def BM g(J:Nat)t f A1 A2 A3 T c1 c2 c3 ab w(hG:jV w A1 A2 A3 g)(hT:aO w T t)(hl:ø t f g)(b0:t.length<=65536)(b8:g.w<=65536)(b6:J<=65536)(Y:g.es.length<=65536)(hi:g.i.length<=65536)(ho:g.o.length<=65536)(KI:∀e∈g.es,e.i.length<=65536/\e.o.length<=65536):az 199 #[.agg (bj g A1 c1 A2 c2 A3 c3),.slice T t ab,J] w (yB (g.map J f) w):=by
 obtain⟨gw,es,gi,go⟩:=g;refine PR fun LI LO hB hq hr HG HT KQ KM KB KV KA IJ KP=>?_;clear hT b0 hG hl hi ho KI
 go_enter func199,ntmps199
 go_upto_region 1 with(fail)
 generalize (w.alloc _).alloc _=W at hB hq hr HG HT ⊢;have⟨x0,x1,x2,x3⟩:=aB hq;obtain⟨a0,br,bq,GX,a4,a5⟩:=ny hB hr hq (show(w:Nat)+2<=W from(bk.1 hr).1) (fun(V:aa) (hV:ag W V)=>zgt t f gi T ab t A2 c2 W V hV.size rfl (HT.ext hV) (HG.i.ext hV) KA KB LI) (fun(V:aa) (hV:ag W V)=>zgt t f go T ab t A3 c3 W V hV.size rfl (HT.ext hV) (HG.o.o.ext hV) KA KV LO);have S0:=aQ x2 x3;clear hB hr hq x0 x1 x2 x3 LI LO;go_cut [7] from 10 (fun b1 V=>∃Z G H D F,b1=.pointer (bH Z)/\bA V Z #[.int .i64 J,.slice none 0 0,.slice G gi H,.slice D go F] 54/\(W:Nat)<=Z/\AN V W Z (fun av=>aE av W (.slice G gi H) (bD (gi.map f)))/\AN V W Z (fun av=>aE av W (.slice D go F) (bD (go.map f)))/\((∀g,(Value.slice G gi H).ownBlock=some g->(Value.slice D go F).ownBlock≠some g/\g < (V:Nat))/\∀g,(Value.slice D go F).ownBlock=some g->g < (V:Nat))/\ag W V)
 case first=>
  go_region_held3 (fun V=>af V w 2 (.slice A2 gi c2)/\af V w 3 (.slice A3 go c3))
   (first|with_reducible exact S0|with_reducible exact j6 (aC _) S0|with_reducible exact j6 (aw _ _).drew S0|with_reducible exact j6 GY.o S0|with_reducible exact j6 (GY.o.alloc GY.o.size _) S0|with_reducible exact j6 Hk.o S0|with_reducible exact j6 (Hk.o.alloc Hk.o.size _) S0|with_reducible exact j6 (bY Hk.o (ae _) _ _ _ _) S0|with_reducible exact j6 (bY Hk.o GY.o.size _ _ _ _) S0)
   ((first|(go_at_call 82;(with_reducible refine(a4.o _ VL).x ?_);rintro e w7 ⟨G,H,rfl,IB,bz,FR⟩;have ao:=zH bz;have GY:Hd (ag W w7):=VZ;have Iz:=zH IB;have G5:=zH FR;clear IB FR)|(go_at_call 82;(with_reducible refine(a5.o _ VR).x ?_);rintro e w8 ⟨D,F,rfl,Gf,am,Gg⟩;have ap:=zH am;have Hk:Hd (ag W w8):=V7;have KN:Hd (ag w7 w8):=VX;have Iv:=zH Gf;have b3:=zH Gg;(first|(have I:=ai (ai (ky W _) G5) Gg;have⟨bc,bd,be,bg⟩:=aB I;have⟨f0,f1,f2,f3⟩:=cN I;have HZ:=zH I;clear I)|(have I:=ai (aH w7 _ rfl) Gg;have⟨bc,bd,be,bg⟩:=aB I;have⟨f0,f1,f2,f3⟩:=cN I;have HZ:=zH I;clear I)|skip);clear Gf Gg)))
  all_goals
   go_wp2_with fail
   go_meet
   first
    |with_reducible exact⟨w8,G,H,D,F,rfl,aH w8 _ rfl,Hk.o.size,AN.mk ((Iz.o.ext KN.o (ae _)).ext (aw _ _) KN.o.size) (ae _) (aZ KN.o.size (aw _ _).size) (au KN.o.size),AN.mk (Iv.o.ext (aw _ _) (ae _)) GY.o.size (aw _ _).size (au (ae _)),ė ao.o ap.o Tx KN.o.size TX,Hk.o.alloc Hk.o.size _⟩
    |with_reducible exact⟨w7,G,H,D,F,rfl,cP HZ.o,GY.o.size,AN.mk4 (Iz.o.ext KN.o (ae _)) (ae _) KN.o.size (au (ae _)),AN.mk4 Iv.o (aZ GY.o.size (aw _ _).size) (ae _) (ay Qt),ė ao.o ap.o Tx KN.o.size TX,bY Hk.o GY.o.size _ _ _ _⟩
    |with_reducible exact⟨W,G,H,D,F,rfl,cP HZ.o,ae _,AN.mk4 (Iz.o.ext KN.o (ae _)) (aw _ _).drew.size KN.o.size (ay Qt),AN.mk4 Iv.o GY.o.size (ae _) (ay UN),ė ao.o ap.o Tx KN.o.size TX,bY Hk.o (ae _) _ _ _ _⟩
 case rest=>
  obtain⟨Z,G,H,D,F,rfl,I,a6,a8,a9,a7,ac⟩:=hcut;have⟨a3,bn,bo,a1,HZ,bu⟩:=ny a7 a8 a9 ac a6 (ai br ac);have bb:=(bk.1 I).1;have Kz:=zH bb;have S1:=(aB (ai bq ac)).2.1;have⟨z0,z1,z2,z3⟩:=aB I;have b2:=zH (HG.ext ac);clear a8 a9 ac a6 bb a7 a4 a5 S0 HG HT;go_wp2;go_loopw [23] (fun i wr=>∃k:Nat,k<=es.length/\i=.int .i64 k/\(∃C1 m1,bA wr Z #[.int .i64 J,.slice C1 k m1,.slice G gi H,.slice D go F] 54/\bw 155 4 Cl wr wc (.slice C1 k m1) ((es.map (Ed.map f)).take k))/\b_ Z (Z+1) wc wr) (fun i _=>es.length-(intOf i).toNat)
  case atStart=>exact⟨0,aW _,rfl,⟨none,0,I,bw.nil _ _ _ _ _⟩,b_.refl _ _ _⟩
  case round=>
   obtain⟨k,b7,rfl,⟨C1,m1,ad,FT⟩,O⟩:=hrel;clear z0 z1 z2 z3 I S1;have ah:ag w wr:=(aT a0 a1).t (O.L Uc (aT a0 a1).size);have IM:=O.size;by_cases bv:k<es.length
   .have⟨e,Y⟩:=aq bv;obtain⟨b4,b5,D1,d1,D2,d2,rfl,x0,x1,x2,x3,hi1,hi2⟩:=fU ((IJ.ext ah).es) Y;obtain⟨L1,L2⟩:=KQ e (aU Y);obtain⟨N1,N2⟩:=KM e (aU Y);have Gl:=zH (by rw[du,bI,Y];rfl:(es.map (Ed.map f)).take (k+1)=(es.map (Ed.map f)).take k++[e.map f]);have ba:((es.map (Ed.map f)).take k).length=k:=by rw[cQ,bs];omega
    have⟨Kx,a2,Jq,II,KS⟩:=pD ba ah O FT ad;have b9:=(bk.1 ad).1;obtain⟨ek,ev,ei,IN⟩:=e;dsimp only at x0 x1 x2 x3 hi1 hi2 L1 L2 N1 N2;have⟨Gm,G6⟩:=bM wr (.cells (eh ek ev D1 ei d1 D2 IN d2) 155);clear Y ba FT O ad ah;go_upto_region 5 with(fail)
    generalize wr.alloc _=w2 at Gm G6 ⊢;have⟨Ia,KT,Hf⟩:=er Gm (fun(V:aa) (hV:ag wr V)=>zgs t f ei T ab t D1 d1 V rfl (KP.ext (aT a2 hV)) (hi1.ext hV) KA Qu L1) (fun(V:aa) (hV:ag wr V)=>zgs t f IN T ab t D2 d2 V rfl (KP.ext (aT a2 hV)) (hi2.ext hV) KA Qu L2);exact Z8
   .obtain rfl:k=es.length:=Qu;have⟨z0,z1,z2,z3⟩:=aB ad;have an:=nL bu O (ay Uc);have⟨bc,bd,be,bg⟩:=aB an;have⟨f0,f1,f2,f3⟩:=cN an;have y:=cP (v0:=.int .i64 J) (v1:=.slice C1 es m1) (v2:=.slice G gi H) (v3:=.slice D go F) an;have⟨y0,y1,y2,y3⟩:=aB y;have⟨bi,Jq⟩:=bJ (bY ah (b:=(w:Nat)+1) Qu (zI J) (.slice C1 es m1) (.slice G gi H) (.slice D go F)) O;have am:bw 155 4 Cl wr wc (.slice C1 es m1) (es.map (Ed.map f)):=Wy;have bp:=zH am;clear y ad an O FT am;go_wp2;have ca:=GX.o;have bh:=HZ.o;have cb:=Kz.o;refine aI (v:=.agg (rI J C1 es m1 G gi H D go F)) (by simp[results,results199,go_sem, *]) rfl ⟨C1,m1,G,H,D,F,wc,?_,⟨?_,?_,?_,?_,?_,?_,?_⟩,bi⟩
    .show Ending.returned (Value.agg #[_,Value.slice C1 _ m1,Value.slice G _ H,Value.slice D _ F])=Ending.returned (Value.agg #[_,Value.slice C1 (es.map (Ed.map f)) m1,Value.slice G (gi.map f) H,Value.slice D (go.map f) F])
     rw[bs,bs,bs];rfl
    .omega
    .show(wc:Nat)<=(dQ wr ((w:Nat)+1) _ _ _ _)
     rw[eK];exact Jq.size
    .show aE _ _ (Value.slice G (gi.map f) H) (bD (gi.map f))
     rw[bs];exact((bn.late Jq bh).zfM (b:=(w:Nat)+1) Qu).all.D.x Qu
    .show aE _ _ (Value.slice D (go.map f) F) (bD (go.map f))
     rw[bs];exact((bo.late Jq bh).zfM (b:=(w:Nat)+1) Qu).all.D.x Qu
    .show ∀U,(Value.slice G (gi.map f) H).ownBlock=some U->(Value.slice D (go.map f) F).ownBlock≠some U/\U < (wc:Nat)
     rw[bs,bs];exact a3.1
    .show ∀U,(Value.slice D (go.map f) F).ownBlock=some U->U < (wc:Nat)
     rw[bs];exact a3.2
    .show bw _ _ _ _ _ (Value.slice C1 (es.map (Ed.map f)) m1) (es.map (Ed.map f))
     rw[bs];exact(((bp.setCell (a:=⟨(w:Nat)+1,0,none⟩) (by show(w:Nat)+1<_;omega) _).setCell (a:=⟨(w:Nat)+1,1,none⟩) (by show(w:Nat)+1<_;omega) _).setCell (a:=⟨(w:Nat)+1,2,none⟩) (by show(w:Nat)+1<_;omega) _).setCell (a:=⟨(w:Nat)+1,3,none⟩) (by show(w:Nat)+1<_;omega) _
section
variable{B0 B0' B:Nat}{V V':aa}{A1 A2 A3:ax}{c1 c2 c3:Nat}{g:Gr}
def aE.dQ{B}(D:aE V B v xs)(h:b<B):aE (dQ V b v0 v1 v2 v3) B v xs:=(((D.setCell (a:=⟨b,0,none⟩) h _).setCell (a:=⟨b,1,none⟩) h _).setCell (a:=⟨b,2,none⟩) h _).setCell (a:=⟨b,3,none⟩) h _
def BH.ext(h:BH B0 B V A1 c1 A2 c2 A3 c3 g)(D:ag V V'):BH B0 B V' A1 c1 A2 c2 A3 c3 g:=⟨h.b,aZ h.s D.size,h.i.ext D,h.o.ext D,h.d2,h.d3,h.es.ext D⟩
def BH.x(h:BH B0 B V A1 c1 A2 c2 A3 c3 g)(D:B0'<=B0):BH B0' B V A1 c1 A2 c2 A3 c3 g:=⟨aZ D h.b,h.s,h.i.x D,h.o.x D,h.d2,h.d3,h.es⟩
def BH.dQ(h:BH B0 B V A1 c1 A2 c2 A3 c3 g)(D:b<B0):BH B0 B (dQ V b v0 v1 v2 v3) A1 c1 A2 c2 A3 c3 g:=⟨h.b,by rw[eK];exact h.s,h.i.dQ D,h.o.dQ D,h.d2,h.d3,h.es.dQ (gm D h.b)⟩
def BH.fr(h:BH B0 B V A1 c1 A2 c2 A3 c3 g):Fr V B0 V (fun W=>jV W A1 A2 A3 g):=Fv ((h.es.fr (fun _ _ _ _ D h=>h.ext D) h.s).to h.b (ae _)) (h.i.fr (aZ h.b h.s)) (h.o.fr (aZ h.b h.s))
end
def yB.gr{g}{e}(h:yB g w e w'):xr g w e w':=by obtain⟨A1,c1,A2,c2,A3,c3,B,D,F,G⟩:=h;exact⟨A1,c1,A2,c2,A3,c3,D,F.fr,G⟩
def zlY{g}(h:px g)A1 A2 A3 D c1 c2 c3 F w(G:jV w A1 A2 A3 g)(H:aO w D (υ g.w)):az 199 #[.agg (bj g A1 c1 A2 c2 A3 c3),.slice D g.w F,(g.w:Nat)] w (yB g w):=by have:=BM g g.w (υ g.w) (fun x=>x) A1 A2 A3 D c1 c2 c3 F w G H (Fa h.inr) (by rw[dX];have:=h.w;omega) R_ R_ Sg R9 R7 (fun e he=>Tl);rw[dX]at this;rw[show g.map g.w (fun x=>x)=g by unfold Gr.map;simp[show(Ed.map fun x=>x)=id from funext fun e=>by simp[Ed.map]]]at this;exact this
def zlZ{g}(h:px g)a(I:a<=4096)A1 A2 A3 D c1 c2 c3 F w(G:jV w A1 A2 A3 g)(H:aO w D (bD (dd a g.w))):az 199 #[.agg (bj g A1 c1 A2 c2 A3 c3),.slice D g.w F,(g.w:Nat)] w (yB (g.map g.w (· +a)) w):=by have:=BM g g.w (bD (dd a g.w)) (fun x=>x+a) A1 A2 A3 D c1 c2 c3 F w G H (qM h.inr a) (by rw[aS,c_];have:=h.w;omega) R_ R_ Sg R9 R7 (fun e he=>Tl);rw[aS,c_]at this;exact this
def zhU g A1 A2 A3 c1 c2 c3 w(am:jV w A1 A2 A3 g)(J:px g):az 198 (cY (bj g A1 c1 A2 c2 A3 c3)) w (yB g w):=by
 have⟨bi,hi,bg,bh,FU⟩:=dp gD;refine Oq fun hB hq hr=>?_
 have Y:=zH (fun V (bd:ag w V) O ba (bc:aO V O (υ g.w))=>zlY J A1 A2 A3 O c1 c2 c3 ba V (am.ext bd) bc);have be:g.w<=4096:=J.w;have⟨n,ao⟩:=aR g.w;rw[<-ao]at Y be hq hr hB ⊢;clear am J ao;go_enter func198,ntmps198
 go_upto_region 1 with(fail)
 generalize (w.alloc _).alloc _=W at hB hq hr ⊢;have⟨a0,a1,a2,a3⟩:=aB hq;have⟨a5,a9,a8⟩:=er hB hr hq;clear hB hr hq;go_wp2_with ((at_make;refine jg _ rfl _ _ 26 rfl W.heap.size 3 bi (zI 0) 1 dR hi bg bh .i64 .i64 n n n rfl rfl rfl rfl RF SL (ae _) ?_;intro bn FT an))
 have T:=zH (cy an);rw[jn]at FT;have Z:=zH (by rw[iP,dX];exact FT:bn.ownsRow W 3 1 (.slice (bH W) n n) n ((eF (υ n) 0 0).map (Value.int .i64)));clear FT an a0 a1 a2 a3;go_loopw [4,10] (fun _ i wr=>∃k:Nat,k<=n/\i=.int .i64 k/\wr.ownsRow W 3 1 (.slice (bH W) n n) n ((eF (υ n) 0 k).map (Value.int .i64))/\ag W wr) (fun _ i _=>n-(intOf i).toNat)
 case atStart=>exact⟨0,aW _,rfl,Z,T.o⟩
 case round=>
  obtain⟨k,b1,rfl,FT,h⟩:=hrel;clear Z T;by_cases FX:k<n
  .have bz:af wr W k (zI 0):=Xg;have b0:=FT.g k;have GW:=(FT.j k (zI k)).1;rw[<-eW,jq _ _ _ _ (sM FX)]at GW;have⟨HS,Ho⟩:=bJ GW (h.setCell (p:=⟨W,k,none⟩) (ae _) (zI k));exact Ys
  .rw[jo _ _ _ Ru]at FT;have av:aE wr W (.slice (bH W) n n) (υ n):=by unfold aE;rw[dX];exact FT
   obtain⟨bu,bv,ac,ah,-⟩:=av.p;rw[dX]at ac;cases ac
   have⟨a4,U⟩:=bJ ah (aT a5 h);have⟨a0,a1,a2,a3⟩:=aB (ai a8 h);have ab:=zH (ai a9 h);have NB:=zH (show(w:Nat)+1<wr from(bk.1 ab).1);clear FT av ah h;go_wp2_with ((go_at_call 199;(with_reducible refine(Y.o _ U.o _ _ a4.o).x ?_);intro e b6 ad;unfold yB at ad;obtain⟨D,d1,F,d2,G,d3,B,bb,ap,I⟩:=ad;subst bb;have H:=ai ab I;have⟨b2,b3,b4,b5⟩:=aB H;have⟨f0,f1,f2,f3⟩:=cN H;have y:=cP (v0:=.int .i64 (g.w:Nat)) (v1:=.slice D g.es d1) (v2:=.slice F g.i d2) (v3:=.slice G g.o d3) H;have⟨bo,bp,bq,br⟩:=aB y;unfold dQ at bo bp bq br;have a7:=zH ap;have a6:=zH (bY (aT U I) (b:=(w:Nat)+1) Qu (zI (g.w:Nat)) (.slice D g.es d1) (.slice F g.i d2) (.slice G g.o d3));clear H y ap I))
   exact aI (v:=.agg (bj g D d1 F d2 G d3)) (by simp[results,results198,go_sem, *]) rfl ⟨D,d1,F,d2,G,d3,B,rfl,(a7.dQ NB).x SH,a6⟩
section
variable{J:Nat}{row:Option Nat}
def aE.o_(D:aE w B v xs)(F:w.grownBy w' row)(G:∀g,row=some g->v.ownBlock≠some g):aE w' B v xs:=
 D.kept F (by
  cases e:v.ownBlock with
  |none=>exact ay rfl
  |some g=>exact au fun h=>G g h.q e)
def ä(W:aa)b i v:W.grownBy (W.setCell ⟨b,i,none⟩ v) (some b):=⟨rfl,rfl,rfl,Qt,fun k _ h=>a_ _ _ _ _ (fun e=>h Qv)⟩
def ë(W:aa)(h:Nat)(o:Obj):World:={W with heap:=W.heap.setIfInBounds h o}
def ŏ{o}(h:J < (W:Nat)):(ë W J o).heap[J]?=some o:=by simp[ë,h]
def D_{o}(h:k≠J):(ë W J o).heap[k]?=W.heap[k]?:=by simp[ë,Array.getElem?_setIfInBounds_ne (k_ h)]
def zeY{p}(h:W.heap[p.block]?=w.heap[p.block]?):w.cell? p=W.cell? p:=by unfold World.cell?;rw[h]
def zhh{ab}(G:bA w J #[v0,v1,v2,v3] 54)(D:bw 155 4 Cl w B (.slice A n c) ab)(a3:∀x,v1≠.int .i64 x)(ac:B<=(w:Nat)):Fr (w.setCell ⟨J,1,none⟩ u) B w (fun V=>bR 4 Cl V A ab):=fun W O=>by
 have a1:=(bk.1 G).1;by_cases ap:B<=J
 rotate_left
 .exact(D.fr (fun _ _ _ _ T D=>D.ext T) ac) W fun k I F=>(O k I F).t (a_ _ _ _ _ (by show k≠J;omega))
 have y:=bE w J 1 _ _ u G;simp only[zA]at y;have ad:=(O J ap a1).t y;have ah:=(bk.1 ad).1;have F:=(D.fr (fun _ _ _ _ T D=>D.ext T) ac) (ë W J (.cells #[v0,v1,v2,v3] 54 (0,0))) fun k I F=>by
  by_cases e:k=J
  .subst e;rw[ŏ ah,G]
  .rw[D_ e];exact(O k I F).t (a_ _ _ _ _ e)
 have a2:=zem D G Qw;have am:∀p:dM,p.block≠J->W.cell? p=(ë W J (.cells #[v0,v1,v2,v3] 54 (0,0))).cell? p:=fun p Z=>zeY (D_ Z)
 have av:∀(b o:Nat) (x:Int),(ë W J (.cells #[v0,v1,v2,v3] 54 (0,0))).cell? ⟨b,o,none⟩=some (.int .i64 x)->af W b o (zI x):=fun b o x h=>by
  by_cases e:b=J
  .subst e;have Z:=ŏ (W:=W) (o:=.cells #[v0,v1,v2,v3] 54 (0,0)) ah;unfold World.cell? at h ⊢;rw[Z]at h;rw[ad];dsimp only at h ⊢
   match o,h with
   |0,h=>simpa using h
   |1,h=>simp at h;exact absurd h (a3 x)
   |2,h=>simpa using h
   |3,h=>simpa using h
   |o+4,h=>simp at h
  .rw[am _ e];exact h
 have an:∀(H:ax) (xs:aL),aO (ë W J (.cells #[v0,v1,v2,v3] 54 (0,0))) H xs->aO W H xs:=fun H xs D=>D.E id fun⟨b,o,e,U⟩=>⟨b,o,e,fun k x Y=>av _ _ _ (U k x Y)⟩
 rcases F with F|⟨b,o,e,U⟩
 .exact ay F
 .subst e;refine au ⟨b,o,rfl,fun k x Y=>?_⟩;obtain⟨c,d1,A1,c1,ao,c2,d2,d3,d4⟩:=U k x Y;refine⟨c,fun j y a0=>?_,A1,c1,ao,c2,d2,an _ _ d3,an _ _ d4⟩;rw[am _ (fun e=>a2 (by rw[show b=J from e];rfl))];exact d1 j y a0
def vA(G:o.guard=none)s x(I:o.op=.call {callee:=.builtin .append,args:=#[s,x],argTypes:=#[26,26]})B W v xs ys A n c(J:a.eval s=v)(hx:a.eval x=.slice A n c)(Z:n=ys.length)(FT:aE W B v xs)(Ha:aO W A ys)(am:xs.length+ys<=1099511627776)(T:B<=(W:Nat))(h:∀D w',aE w' B D (xs++ys)->W.grownBy w' v.ownBlock->(∀g,D.ownBlock=some g->v.ownBlock=some g∨g=(W:Nat))->Below B W w'->wpList prog ops Q rest (a.put o.dst D) w'):wpList prog ops Q (o::rest) a W:=by
 subst Z;have⟨i0,hi,ac,ad,ah⟩:=dp gD;cases A with
 |none=>
  have hy:ys=[]:=Wq;subst hy;refine l7 G fun K hK=>?_
  refine MZ fun J9 hx=>?_
  simp[execOp,I,resolve,invoke,builtin,J,hx,J9,Result.andThen];exact hK _ _ (h v W RJ ⟨rfl,rfl,rfl,ae _,fun _ _ _=>rfl⟩ (fun g e=>ay e) (al _ _))
 |some O=>
  refine AE W G s x 26 I B 3 i0 (zI 0) 1 8 dR hi ac ad ah rfl Qw v _ _ J FT O ys c (ys.map (Value.int .i64)) hx Qt ?_ ?_ ?_ ?_ ?_ ?_
  .exact YH
  .intro u ab;obtain⟨y,_,rfl⟩:=cH.1 ab;rfl
  .unfold maxLen;omega
  .omega
  .omega
  .intro D w' J_ H _ U;exact h D w' Ta H (fun g e=>U.elim (fun F=>ay (F ▸ e)) fun F=>au (by rw[e]at F;cases F;rfl)) ((al _ _).grown H T fun k Y=>(bS FT k Y).1)
def Co{T}{F}{bytes}{E}(hT:RT prog t F s z bytes)(U:o.guard=none)O x(Y:o.op=.call {callee:=.builtin .append,args:=#[O,x],argTypes:=#[t,t]})B G W v v2(xs ys:List T)(D:bw F s E W B v xs)(h2:bw F s E W G v2 ys)(hd:∀g,v.ownBlock=some g->g<G)(a7:B<=G)(a8:G<=(W:Nat))(Gb:xs.length+ys<=1048576)(Z:a.eval O=v)(hx:a.eval x=v2)(h:∀v' w',bw F s E w' B v' (xs++ys)->W.grownBy w' v.ownBlock->Below B W w'->wpList prog ops Q rest (a.put o.dst v') w'):wpList prog ops Q (o::rest) a W:=by
 have⟨ab,hi,ao,ap,av⟩:=dp hT.Ï;obtain⟨cs,D⟩:=D;obtain⟨ds,h2⟩:=h2;have ah:∀(k:Nat) (x:T) (c:cL),ys[k]?=some x->ds[k]?=some c->c.length=s/\(∀u∈c,u.oneCell'=true)/\kn E W B v x c:=fun k x c hx hc=>YK
 rcases h2.η.2 with⟨rfl,ac⟩|⟨g,ε,a0,rfl,bc,bb,bd,a9,ba,be⟩
 .have J:ys=[]:=iq ac;subst J;refine l7 U fun K hK=>?_
  have an:=iZ (P:=prog) (w:=W) B t o.type F ab s hT.und hi v _ 0 _ D.η;unfold Oper.wp;simp[execOp,Y,resolve,invoke,builtin,Z,hx,an,Result.andThen];exact hK _ _ (h v W ⟨cs,by simpa using D⟩ ⟨rfl,rfl,rfl,ae _,fun _ _ _=>rfl⟩ (al _ _))
 .have ad:=oz h2.η (g:=g) rfl;refine AE W U O x t Y B F ab z s bytes hT.und hi ao ap av hT.zs hT.pos v _ _ Z D.η ⟨g,0,none⟩ ys ε ds.flatten hx (by rw[mL h2.cl,h2.ι]) (fun j u am=>ad j u am) ?_ ?_ ?_ Qu ?_
  .intro u I;obtain⟨c,hc,I⟩:=uv.1 I;obtain⟨k,H⟩:=eH.1 hc;obtain⟨y,J⟩:=aq (by rw[<-h2.ι];exact(bG.1 H).1:k<ys.length);exact(h2.ν k y c J H).2.1 u I
  .unfold maxLen;omega
  .exact XL
  .refine OL fun v' w' FT Gx _ Ha hv=>?_
   exact h v' w' ⟨cs++ds,D.th h2.ι ah FT Gx hv⟩ Gx ((al _ _).grown Gx Qu fun k H=>(bS D.η k H).1)
def Ϡ(g:Gr)(w:aa)(e:Ending)(w':aa):Prop:=∃A1 c1 h c2 D F,e=.returned (.agg (bj g A1 c1 h c2 D F))/\(g.i.length<=c2/\g.o.length<=F)/\Fr w' w w' (fun W=>jV W A1 h D g)/\ag w w'
def zg a b A1 A2 A3 D1 D2 D3 c1 c2 c3 d1 d2 d3 w(a6:px a)(G:px b)(ga:jV w A1 A2 A3 a)(gb:jV w D1 D2 D3 b):az 154 (iV (bj a A1 c1 A2 c2 A3 c3) (bj b D1 d1 D2 d2 D3 d3)) w (Ϡ (ls a b) w):=by
 have⟨hL,hi,hI,hJ,FU⟩:=dp gD;have⟨hz,hu⟩:=bJ (fun(V:aa) (db:ag w V)=>zhU a A1 A2 A3 c1 c2 c3 V (ga.ext db) a6) (fun(V:aa) (db:ag w V) eo hF (hH:aO V eo (bD (dd a.w b.w)))=>zlZ G a.w a6.w D1 D2 D3 eo d1 d2 d3 hF V (gb.ext db) hH);refine PX fun H7 q0 q1 q2=>?_
 have hS:=a6.w;have hW:=G.w;have hQ:=a6.i;have hR:=a6.o;have hP:=a6.es;have hU:=G.i;have hV:=G.o;have hT:=G.es;have hZ:IntKind.i64.wrap ((a.w:Int)+(b.w:Int))=(a.w:Int)+(b.w:Int):=Rt;have co:=zH (show(b.map b.w (· +a.w)).es=b.es.map (Ed.map (· +a.w))/\(b.map b.w (· +a.w)).i=b.i.map (· +a.w)/\(b.map b.w (· +a.w)).o=b.o.map (· +a.w)/\(b.map b.w (· +a.w)).w=b.w from⟨rfl,rfl,rfl,rfl⟩);go_enter func154,ntmps154
 go_upto_region 1 with(fail)
 generalize ((w.alloc _).alloc _).alloc _=W at H7 q0 q1 q2 ⊢;have⟨y0,y1,y2,y3⟩:=aB q1;have⟨g7,fs,hD,hE⟩:=gG H7 q0 q1 q2;go_wp2_with ((at_make;refine jg _ rfl _ _ 26 rfl W.heap.size 3 hL (zI 0) 1 dR hi hI hJ .i64 .i64 b.w b.w b.w rfl rfl rfl rfl RF SL (ae _) ?_;intro hM FT gs))
 have e0:=zH (cy gs);rw[jn]at FT;have bz:=zH (QU:(bD (dd a.w b.w)).length=b.w);have e7:=zH (by rw[iP,bz.o];exact FT:hM.ownsRow W 3 1 (.slice (bH W) b.w b.w) b.w ((eF (bD (dd a.w b.w)) 0 0).map (Value.int .i64)));go_loopw [6,14] (fun _ i wr=>∃k:Nat,k<=b.w/\i=.int .i64 k/\wr.ownsRow W 3 1 (.slice (bH W) b.w b.w) b.w ((eF (bD (dd a.w b.w)) 0 k).map (Value.int .i64))/\ag W wr) (fun _ i _=>b.w-(intOf i).toNat)
 case atStart=>exact⟨0,aW _,rfl,e7,e0⟩
 case round=>
  obtain⟨k,gu,rfl,FT,a7⟩:=hrel;by_cases gv:k<b.w
  .have hX:af wr W k (zI 0):=by rw[FT.C k Qu,bI,lD _ _ _ (by rw[bz.o];exact gv)];rfl
   have dc:=FT.g k;have GW:=(FT.j k (zI ((k:Int)+(a.w:Int)))).1;rw[<-eW,jq _ _ _ _ (by rw[dK (qh gv)];simp:(bD (dd a.w b.w))[k]?=some ((k:Int)+(a.w:Int)))]at GW;have⟨HS,Ho⟩:=bJ GW (a7.setCell (p:=⟨W,k,none⟩) (ae _) (zI ((k:Int)+(a.w:Int))));have⟨ei,ej,ek,em⟩:=aB (ai fs a7);have hY:IntKind.i64.wrap ((k:Int)+(a.w:Int))=(k:Int)+(a.w:Int):=Rt;exact Ys
  .rw[jo _ _ _ (by rw[bz.o];omega)]at FT;have gw:aE wr W (.slice (bH W) b.w b.w) (bD (dd a.w b.w)):=by unfold aE;rw[bz.o];exact FT
   obtain⟨hN,hO,b4,f8,-⟩:=gw.p;rw[bz.o]at b4;cases b4
   have⟨fo,cn⟩:=bJ f8 (aT g7 a7);have⟨ei,ej,ek,em⟩:=aB (ai fs a7);have⟨c7,c8⟩:=bJ (ai hD a7) (ai hE a7);have⟨ck,gB⟩:=aR wr;rw[<-gB]at ei ej ek em c7 c8 cn fo ⊢;have fc:=zH (show(w:Nat)+1+1<ck from(bk.1 c8).1);clear gB;go_upto_region 8 with(go_at_call 198;(with_reducible refine(hz.o _ cn.o).x ?_);intro e D h;unfold yB at h;obtain⟨a9,bi,bq,e2,ba,ab,ah,hG,b6,gd⟩:=h;subst hG;have am:=zH b6;have a3:=zH gd)
   have ac:=aw D (.cells (bj a a9 bi bq e2 ba ab) 54);have⟨fa,e8,bb,Je⟩:=gG (aH D (.cells (bj a a9 bi bq e2 ba ab) 54) rfl) (am.ext ac) (aT a3 ac) (Qt:(D:Nat) < (D.alloc (.cells (bj a a9 bi bq e2 ba ab) 54)));have⟨cI,cK,z2,cO⟩:=aB (ai c7 bb);have⟨fl,eB⟩:=bJ (fo.ext bb) ac;generalize D.alloc _=h1 at fa e8 bb Je fl eB cI cK z2 cO ⊢;have hA:=zH (aT cn bb);go_upto_region 9 with(go_at_call 199;(with_reducible refine(hu.o _ hA.o _ _ fl.o).x ?_);intro e ad h;unfold yB at h;obtain⟨br,f1,bu,f2,bv,f3,es,f7,b6,gi⟩:=h;rw[co.o.1,co.o.2.1,co.o.2.2.1,co.o.2.2.2,bs,bs,bs]at f7;subst f7;have bd:=zH b6;have cR:=zH gi)
   have ac:=aw ad (.cells (bj b br f1 bu f2 bv f3) 54);have⟨cp,c4,a4,bc,e3⟩:=pD (aH ad (.cells (bj b br f1 bu f2 bv f3) 54) rfl) (bd.ext ac) (aT cR ac) (Qt:(ad:Nat) < (ad.alloc (.cells (bj b br f1 bu f2 bv f3) 54))) ac;generalize ad.alloc _=F at cp c4 a4 bc e3 ⊢;have⟨c5,e9,ha,g9⟩:=gG (ai fa a4) (e8.ext a4) (aT bb a4) (aT eB a4);have⟨a0,a1,p2,a2⟩:=aB c5;have⟨an,ao,ap,av⟩:=cN c5;have⟨cI,cK,z2,cO⟩:=aB ((ai c7 bb |> fun h=>ai h a4));go_upto_region 10 with(fail)
   have gc:ah<=(D:Nat):=am.s;obtain⟨be,bg,HZ7,Lf⟩:=gG (fun g (e:(Value.slice bq a.i e2).ownBlock=some g)=>am.d2 g e) (fun g (e:(Value.slice ba a.o ab).ownBlock=some g)=>am.d3 g e) gc (show(D:Nat)<F from gm Je a4.size);have b2:=bE F D 0 _ _ (zI ((a.w:Int)+(b.w:Int))) c5;simp only[zA]at b2;have cB:=ä F D 0 (zI ((a.w:Int)+(b.w:Int)));have d0:=e9.i.o_ cB (fun g e e2=>by cases e;have:=(be.o _ e2).2;omega);have d6:=e9.o.o.o_ cB (fun g e e2=>by cases e;have:=bg.o _ e2;omega);have b8:∀k,k≠D.heap.size->(F.setCell ⟨D,0,none⟩ (zI ((a.w:Int)+(b.w:Int)))).heap[k]?=F.heap[k]?:=fun k gu=>a_ _ _ _ _ gu
   have d9:(F.setCell ⟨D,0,none⟩ (zI ((a.w:Int)+(b.w:Int))):Nat)=F:=Qt;have ey:=zH (ha.setCell (p:=⟨D,0,none⟩) a3.size (zI ((a.w:Int)+(b.w:Int))));generalize F.setCell ⟨D,0,none⟩ _=ee at b2 cB d0 d6 b8 d9 ey ⊢;have fy:=(b8 ad (by have:=Je.o;have:=cR.size;omega)).t cp;have gA:(D:Nat)<ad:=gm Je cR.size;have HW24:=zH gA
   -- In
   have⟨a0,a1,p2,a2⟩:=aB b2;have⟨q0,q1,q2,bo⟩:=aB fy;have⟨hn,hw,hb,hq,bh⟩:=pD d0 d6 b2 b8 d9;have hC:=zH (show aO ee bu (bD (b.i.map (· +a.w))) from(c4.fr.E fun V h=>h.i) ee fun k a5 T=>b8 k St);have hs:=zH (by rw[bm,aS,aS,bs]:(bD a.i++bD (b.i.map (· +a.w))).length=a.i+b.i);have ht:=zH (by rw[bm,aS,aS,bs]:(bD a.o++bD (b.o.map (· +a.w))).length=a.o+b.o);go_upto_region 11 with((at_builtin;refine vA rfl (.tmp 39) (.tmp 41) rfl ck ee (.slice bq a.i e2) (bD a.i) (bD (b.i.map (· +a.w))) bu b.i f2 rfl rfl QV hn.o hC.o (by rw[aS,aS,bs];omega) (by have:=bh.o;have:=a3.size;have:=Lf.o;omega) ?_;intro v7 ci Y U b5 G;obtain⟨H,O,f6,-,dl,-⟩:=Y.p;rw[hs.o]at f6 dl;subst f6;have hf:=zH dl;have cu:=(U.block D (by have:=bh.o;have:=Lf.o;omega) (fun e=>by have:=(be.o _ e.q).2;have:=HZ7.o;omega)).t hb;have⟨ca,cb,ce,ch⟩:=aB cu;have⟨an,ao,ap,av⟩:=cN cu;have ho:=zH Y;have cW:=zH U;have eA:=zH b5;have hc:=zH cu;have g4:=zH (ey.t G)))
   have g1:=hw.o_ cW (fun g e e2=>(be g e).1 e2);have dr:∀g,(Value.slice H (a.i.length+b.i) O).ownBlock=some g->g<ah∨(F:Nat)<=g:=fun g e=>(eA g e).elim (fun e2=>ay (be g e2).2) fun e2=>au (by rw[e2,bh.o];exact ae _)
   have gn:∀g,(Value.slice H (a.i.length+b.i) O).ownBlock=some g->(Value.slice ba a.o ab).ownBlock≠some g:=fun g e ab=>(eA g e).elim (fun e2=>(be g e2).1 ab) fun e2=>by have:=bg g ab;have:=bh.o;have:=HZ7.o;have:=Lf.o;omega
   have b3:=bE ci D 2 _ _ (.slice H (a.i.length+b.i) O) hc;simp only[zA]at b3;have cF:=ä ci D 2 (.slice H (a.i.length+b.i) O);have d4:=ho.o_ cF (fun g e e2=>by cases e;have:=dr _ e2;have:=HZ7.o;have:=Lf.o;omega);have d7:=g1.o_ cF (fun g e e2=>by cases e;have:=bg.o _ e2;have:=HZ7.o;omega);have b9:∀k,ah<=k->k < (F:Nat)->k≠D.heap.size->(ci.setCell ⟨D,2,none⟩ (.slice H (a.i.length+b.i) O)).heap[k]?=F.heap[k]?:=fun k a5 T bn=>(a_ _ _ _ _ bn).t ((cW.block k (by rw[bh.o];exact T) (fun e=>by have:=(be.o _ e.q).2;omega)).t (hq k bn))
   have ea:(F:Nat)<=(ci.setCell ⟨D,2,none⟩ (.slice H (a.i.length+b.i) O)):=by have:=cW.size;rw[bh.o]at this;simpa using this
   have ez:=zH (g4.setCell (p:=⟨D,2,none⟩) a3.size (.slice H (a.i.length+b.i) O));generalize ci.setCell ⟨D,2,none⟩ _=eg at b3 cF d4 d7 b9 ea ez ⊢;have fz:=(b9 ad Um bc (by have:=HW24.o;omega)).t cp
   -- Out
   have⟨a0,a1,p2,a2⟩:=aB b3;have⟨q0,q1,q2,bo⟩:=aB fz;have⟨hp,hx,hd,hr,b0,HR7,hh⟩:=ß d4 d7 b3 b9 ea dr gn;have hB:=zH (show aO eg bv (bD (b.o.map (· +a.w))) from(c4.fr.E fun V h=>h.o) eg fun k a5 T=>b9 k Uf T St);go_upto_region 12 with((at_builtin;refine vA rfl (.tmp 45) (.tmp 47) rfl ck eg (.slice ba a.o ab) (bD a.o) (bD (b.o.map (· +a.w))) bv b.o f3 rfl rfl QV hx.o hB.o (by rw[aS,aS,bs];omega) (by have:=b0.o;have:=a3.size;have:=Lf.o;omega) ?_;intro v9 cj Y U b5 G;obtain⟨I,Z,b4,-,dq,-⟩:=Y.p;rw[ht.o]at b4 dq;subst b4;have hg:=zH dq;have cz:=(U.block D (by have:=b0.o;have:=Lf.o;omega) (fun e=>by have:=bg.o _ e.q;have:=HZ7.o;omega)).t hd;have⟨ca,cb,ce,ch⟩:=aB cz;have⟨an,ao,ap,av⟩:=cN cz;have hy:=zH Y;have c0:=zH U;have g6:=zH b5;have he:=zH cz;have g5:=zH (ez.t G)))
   have gL:=hp.o_ c0 (fun g e e2=>hh g e2 e);have dO:∀g,(Value.slice I (a.o.length+b.o) Z).ownBlock=some g->g<ah∨(F:Nat)<=g:=fun g e=>(g6 g e).elim (fun e2=>ay (bg g e2)) fun e2=>au (by rw[e2];exact b0)
   have b1:=bE cj D 3 _ _ (.slice I (a.o.length+b.o) Z) he;simp only[zA]at b1;have cA:=ä cj D 3 (.slice I (a.o.length+b.o) Z);have dT:=gL.o_ cA (fun g e e2=>VG);have d5:=hy.o_ cA (fun g e e2=>by cases e;have:=dO _ e2;have:=HZ7.o;have:=Lf.o;omega);have b7:∀k,ah<=k->k < (F:Nat)->k≠D.heap.size->(cj.setCell ⟨D,3,none⟩ (.slice I (a.o.length+b.o) Z)).heap[k]?=F.heap[k]?:=fun k a5 T bn=>(a_ _ _ _ _ bn).t ((c0.block k (gm T b0) (fun e=>by have:=bg.o _ e.q;omega)).t (hr k a5 T bn))
   have d8:(F:Nat)<=(cj.setCell ⟨D,3,none⟩ (.slice I (a.o.length+b.o) Z)):=by have:=c0.size;have:=b0.o;simp;omega
   have ev:=zH (g5.setCell (p:=⟨D,3,none⟩) a3.size (.slice I (a.o.length+b.o) Z));generalize cj.setCell ⟨D,3,none⟩ _=eb at b1 cA dT d5 b7 d8 ev ⊢;have fx:=(b7 ad Um bc (by have:=HW24.o;omega)).t cp
   -- Edges
   have f0:bw 155 4 Cl eb ah (.slice a9 a.es bi) a.es:=am.es.y (fun k a5 T=>(b7 k a5 (by have:=Lf.o;omega) Qu).t (g9.block k T)) (by have:=Lf.o;omega);have f10:bw 155 4 Cl eb es (.slice br b.es f1) (b.es.map (Ed.map (· +a.w))):=by have:=bd.es;rw[show(b.map b.w (· +a.w)).es.length=b.es from bs ..]at this;refine this.y (fun k a5 T=>?_) (by have:=bc.o;omega);have bn:=bd.b;exact(b7 k Uf (by have:=bc.o;omega) St).t (e3.block k T)
   have cq:=zH (show ∀g,(Value.slice a9 a.es bi).ownBlock=some g->ah<=g/\g < (D:Nat) from fun g e=>by obtain⟨cs,h⟩:=am.es;exact bS h.η g e)
   have⟨a0,a1,p2,a2⟩:=aB b1;have⟨q0,q1,q2,bo⟩:=aB fx;obtain⟨hm,hv,g8,c6,fb,hj,hl,e6⟩:=ð dT d5 b1 d8 dO f0 f10 (by unfold fG;rw[bm,bs]:(fG a b).length=a.es+b.es);go_upto_region 13 with((at_builtin;refine Co Ć rfl (.tmp 51) (.tmp 53) rfl ah es eb (.slice a9 a.es bi) (.slice br b.es f1) a.es (b.es.map (Ed.map (· +a.w))) hj.o hl.o (fun g e=>by have:=(cq g e).2;have:=Je.o;have:=bd.b;omega) (by have:=HZ7.o;have:=Je.o;have:=bd.b;omega) (by have:=bd.s;have:=bc.o;have:=c6.o;omega) (by rw[bs];omega) rfl rfl ?_;intro v11 a8 Y U G;obtain⟨G1,J,f4,-⟩:=Y.p;rw[show(a.es++b.es.map (Ed.map (· +a.w))).length=a.es+b.es from e6.o]at f4;subst f4;have cr:=(U.block D (by have:=c6.o;have:=Lf.o;omega) (fun e=>by have:=(cq.o _ e.q).2;omega)).t g8;have⟨ca,cb,ce,ch⟩:=aB cr;have⟨an,ao,ap,av⟩:=cN cr;have hk:=zH Y;have cV:=zH U;have e1:=zH cr;have g3:=zH (ev.t (G.x am.b))))
   have gC:=hm.o_ cV (fun g e e2=>by have:=cq g e;have:=HR7 g e2;have:=Lf.o;omega);have gR:=hv.o_ cV (fun g e e2=>by have:=cq g e;have:=fb g e2;have:=Lf.o;omega);have ct:=bE a8 D 1 _ _ (.slice G1 (a.es.length+b.es) J) e1;simp only[zA]at ct;have c9:=ä a8 D 1 (.slice G1 (a.es.length+b.es) J);have gK:=gC.o_ c9 (fun g e e2=>VG);have g0:=gR.o_ c9 (fun g e e2=>by cases e;have:=fb.o _ e2;have:=HZ7.o;have:=Lf.o;omega);have f9:=hk.o;have f5:=zhh (u:=.slice G1 (a.es.length+b.es) J) (A:=G1) (n:=a.es.length+b.es) (c:=J) e1 f9 (fun x h=>Qy) (by have:=cV.size;have:=c6.o;have:=Lf.o;have:=HZ7.o;omega);have bp:=g3.setCell (p:=⟨D,1,none⟩) a3.size (.slice G1 (a.es.length+b.es) J);have g2:(a8.setCell ⟨D,1,none⟩ (.slice G1 (a.es.length+b.es) J):Nat)=a8:=Qt;have dc:Fr (a8.setCell ⟨D,1,none⟩ (.slice G1 (a.es.length+b.es) J)) ck (a8.setCell ⟨D,1,none⟩ (.slice G1 (a.es.length+b.es) J)) (fun V=>jV V G1 H I (ls a b)):=
    Fv (g:=ls a b) (f5.to am.b (gp g2.q)) ((gK.fr bp.size).E fun V h=>by show aO V H (bD (a.i++b.i.map (· +a.w)));rw[jr];exact h) ((g0.fr bp.size).E fun V h=>by show aO V I (bD (a.o++b.o.map (· +a.w)));rw[jr];exact h)
   have cc:=(bp.block _ fc.o).t c8;obtain⟨e5,e4,fd⟩:=er dc (aT cn bp) (show(w:Nat)+1+1<ck from fc.o);generalize a8.setCell ⟨D,1,none⟩ _=h0 at ct cc e5 e4 ⊢;have⟨a0,a1,p2,a2⟩:=aB ct;have⟨q0,q1,q2,bo⟩:=aB cc;have⟨an,ao,ap,av⟩:=cN cc;have y:=cP (v0:=.int .i64 ((a.w:Int)+(b.w:Int))) (v1:=.slice G1 (a.es.length+b.es) J) (v2:=.slice H (a.i.length+b.i) O) (v3:=.slice I (a.o.length+b.o) Z) cc;refine O2 fun y0 y1 y2 y3=>?_
   go_wp2;refine aI (v:=.agg (nh ((a.w:Int)+(b.w:Int)) G1 (a.es.length+b.es) J H (a.i.length+b.i) O I (a.o.length+b.o) Z)) (by simp[results,results154,go_sem, *]) rfl ⟨G1,J,H,O,I,Z,?_,⟨by show(a.i++b.i.map (· +a.w)).length<=O;rw[bm,bs];exact hf,by show(a.o++b.o.map (· +a.w)).length<=Z;rw[bm,bs];exact hg⟩,(e5.dQ (b:=(w:Nat)+1+1) fd).to (by have:=fd.o;omega) (gp eK.q),bY e4 (b:=(w:Nat)+1+1) Qu _ _ _ _⟩;rw[<-e6.o]
   show _=Ending.returned (Value.agg #[.int .i64 ((a.w+b.w:Nat):Int),.slice G1 (fG a b) J,.slice H (a.i++b.i.map (· +a.w)) O,.slice I (a.o++b.o.map (· +a.w)) Z])
   rw[bm,bm,bs,bs,C3]
def zhi a b A1 A2 A3 D1 D2 D3 c1 c2 c3 d1 d2 d3 w(ad:px a)(ah:px b)(Z:jV w A1 A2 A3 a)(ab:jV w D1 D2 D3 b):az 109 (iV (bj a A1 c1 A2 c2 A3 c3) (bj b D1 d1 D2 d2 D3 d3)) w (xr (ls a b) w):=by
 have U:=zH (fun(V:aa) (ac:ag w V)=>zg a b A1 A2 A3 D1 D2 D3 c1 c2 c3 d1 d2 d3 V ad ah (Z.ext ac) (ab.ext ac));refine PX fun H7 q0 q1 q2=>?_
 have⟨g,an⟩:=aR (ls a b);rw[<-an]at U ⊢;clear an;go_enter func109,ntmps109
 go_upto_region 1 with(fail)
 generalize ((w.alloc _).alloc _).alloc _=W at H7 q0 q1 q2 ⊢;have⟨a9,ba,bb,bc⟩:=aB q0;have⟨bd,be,bg,bh⟩:=aB q1;obtain⟨T,av,GX⟩:=er H7 q2 (show(w:Nat)+1+1<W from(bk.1 q2).1);go_wp2_with ((go_at_call 154;(with_reducible refine(U.o _ T.o).x ?_);intro e a8 Y;unfold Ϡ at Y;obtain⟨h,G,D,H,F,I,a0,-,am,O⟩:=Y;subst a0;have J:=ai av O;have⟨a4,a5,a6,a7⟩:=aB J;have⟨f0,f1,f2,f3⟩:=cN J;have y:=cP (v0:=.int .i64 (g.w:Nat)) (v1:=.slice h g.es G) (v2:=.slice D g.i H) (v3:=.slice F g.o I) J;have⟨a1,a2,z2,a3⟩:=aB y;unfold dQ at a1 a2 z2 a3;have ap:=zH am;have ao:=zH (bY (aT T.o O) (b:=(w:Nat)+1+1) Qu (zI (g.w:Nat)) (.slice h g.es G) (.slice D g.i H) (.slice F g.o I))))
 exact aI (v:=.agg (bj g h G D H F I)) (by simp[results,results109,go_sem, *]) rfl ⟨h,G,D,H,F,I,rfl,(ap.dQ (b:=(w:Nat)+1+1) GX).to SJ (gp eK.q),ao⟩
end
def zh2:(ByteArray.mk #[]).toList.isEmpty=true:=by first|decide|(unfold ByteArray.toList;unfold ByteArray.toList.loop;rfl)|simp[ByteArray.toList,ByteArray.toList.loop]
def vU{k v}(F:3<=k):pC ⟨k,v,true⟩=BB k/\sC ⟨k,v,true⟩=BC k:=by unfold pC sC BB BC;have h:¬k=1:=Qu;have D:¬k=2:=Qu;simp only[h,D,lp,false_or];exact⟨trivial,trivial⟩
def Ϫ(h:∀x∈l,x<n):((bD l).all fun x=>eU x 0 ((n:Int)-1))=true:=by rw[eD];intro x D;obtain⟨y,F,rfl⟩:=cH.1 D;have:=h y F;rw[dx];omega
def zfD e n A1 D c1 c2 w(ao:aO w A1 (bD e.i))(ap:aO w D (bD e.o))(Y:e.jd=true)(hi:∀x∈e.i,x<n)(a0:∀x∈e.o,x<n)(bn:n<=1048576):az 196 #[.agg (zj e A1 c1 D c2),(n:Nat)] w fun bc w'=>bc=.returned (.bool true)/\ag w w':=by
 obtain⟨k,v,am,an⟩:=e;unfold Ed.jd at Y;simp only[bN,cf]at Y;dsimp only at *;obtain⟨h,av,ab,ac⟩:=Y;have bg:=tK h;have be:k<=14:=by
  unfold dI at h;dsimp only at h;rw[aj Qu]at h;by_cases bd:k=7∨k=13
  .omega
  .rw[aj bd]at h;simp only[bN,cf]at h;omega
 have Z:=vU (v:=v) av;rw[Z.1]at ab;rw[Z.2]at ac;have F:=zH (fun W=>yv k W);rw[<-ab,<-ac]at F;obtain⟨a8,a9⟩:=bJ (fun W=>Calls.cg (aX k 3 14 W) (by rw[dx];omega)) (fun W=>Calls.bl (y:=true) (EM k v (ByteArray.mk #[]) W) (by rw[zh2];exact h));have bo:IntKind.i64.wrap ((n:Int)-1)=(n:Int)-1:=Rt;have⟨bh,ad⟩:=aR am.length;have⟨bi,ah⟩:=aR an.length;have J:=fun W (I:ag w W)=>Calls.cg (nP 0 ((n:Int)-1) A1 c1 (bD am) W (ao.ext I) TU) (Ϫ hi)
 have O:=fun W (I:ag w W)=>Calls.cg (nP 0 ((n:Int)-1) D c2 (bD an) W (ap.ext I) TU) (Ϫ a0)
 rw[aS,<-ad]at J;rw[aS,<-ah]at O;rw[<-ad]at F ⊢;rw[<-ah]at F ⊢;have⟨a5,a6⟩:=bJ J O;have⟨T,G⟩:=bM w (.cells (wW k v A1 bh c1 D bi c2) 155);clear ao ap hi a0 h av ab ac be Z ad ah J O bg;go_enter func196,ntmps196
 go_upto_region 1 with(fail)
 generalize w.alloc _=W at T G ⊢;have⟨a7,ba⟩:=bJ T G;have⟨a1,a2,a3,a4⟩:=aB G;clear T G;go_upto_region 3 with((first|(go_at_call 92;(refine(a8.o _).x ?_);rintro e w' ⟨rfl,rfl⟩)|(go_at_call 193;(refine(a9.o _).x ?_);rintro e bp ⟨rfl,U⟩;have H:=zH (aT a7 U);have bb:=zH (ai ba U);clear U)))
 clear a1 a2 a3 a4;have⟨a1,a2,a3,a4⟩:=aB bb;go_wp2_with ((first|(go_at_call 151;(refine(F.o _).x ?_);rintro e w' ⟨rfl,rfl⟩)|(go_at_call 114;(with_reducible refine(a5.o _ H.o).x ?_);rintro e w' ⟨rfl,rfl⟩)|(go_at_call 114;(with_reducible refine(a6.o _ H.o).x ?_);rintro e w' ⟨rfl,rfl⟩)))
 go_ret
 exact⟨rfl,H⟩
section
variable{x:Nat}
def Fk(n:Nat)(l:bP):List Nat:=(List.range n).map fun x=>l.count x
def oT{n}{l}:(Fk n l).length=n:=by simp[Fk]
def yK{n}{l}(h:x<n):(Fk n l)[x]?=some (l.count x):=by simp[Fk,h]
def ziz n:bD (Fk n [])=List.replicate n 0:=by
 apply gk;intro k;simp only[bD,Fk,nr,bI,fI];by_cases h:k<n
 .simp[h]
 .simp[h]
def zgM{n}{l}:(bD (Fk n l)).set x ((l.count x:Int)+1)=bD (Fk n (l++[x])):=by
 apply gk;intro k;by_cases h:k<n
 .by_cases e:x=k
  .subst e;rw[gl (by rw[aS,oT];exact h),dK (yK h),List.count_append];simp
  .rw[gI e,dK (yK h),dK (yK h),List.count_append];have:List.count k [x]=0:=by rw[List.count_eq_zero];simp;omega
   rw[this];simp
 .rw[eP (by rw[iW,aS,oT];omega),eP (by rw[aS,oT];omega)]
structure pG(B n ga gb:Nat)(l m:bP)(V:aa):Prop where
 a:aE V B (.slice (bH ga) n n) (bD (Fk n l))
 b:aE V B (.slice (bH gb) n n) (bD (Fk n m))
 ne:ga≠gb
 la:B<=ga
 lb:B<=gb
section
variable{B n ga gb:Nat}{l m:bP}{V V':aa}
def pG.ext(h:pG B n ga gb l m V)(D:ag V V'):pG B n ga gb l m V':=⟨h.a.ext D,h.b.ext D,h.ne,h.la,h.lb⟩
def pG.J(h:pG B n ga gb l m V):pG B n gb ga m l V:=⟨h.b,h.a,fun e=>h.ne e.q,h.lb,h.la⟩
def aE.row{n}(h:aE w B (.slice A n c) xs)(D:xs.length=n):w.ownsRow B 3 1 (.slice A n c) n (xs.map (Value.int .i64)):=by unfold aE at h;rw[D]at h;exact h
def pG.at(D:pG B n ga gb l m V)(F:x<n):af V ga x (zI (l.count x:Nat))/\V.frozen? ⟨ga,x,none⟩=false:=by have h:=D.a.row (by rw[aS,oT]);refine⟨?_,h.g x⟩;rw[h.C x Qu,bI,dK (yK F)];rfl
def pG.Ν(h:pG B n ga gb l m V)x:pG B n ga gb (l++[x]) m (V.setCell ⟨ga,x,none⟩ (zI ((l.count x:Int)+1))):=by have D:=(h.a.row (by rw[aS,oT])).j x (zI ((l.count x:Int)+1)) |>.1;rw[<-eW,zgM]at D;exact⟨by unfold aE;rw[aS,oT];exact D,h.b.o_ (ä V ga x _) (fun g e F=>by cases e;cases F;exact h.ne rfl),h.ne,h.la,h.lb⟩
end
def fB(h:List Ed):List Nat:=(h.map (·.o)).flatten
def lq(h:List Ed):List Nat:=(h.map (·.i)).flatten
def zcF{h:List Ed}(D:h[k]?=some e):fB (h.take (k+1))=fB (h.take k)++e.o:=by rw[du,D];simp[fB]
def zgN{h:List Ed}(D:h[k]?=some e):lq (h.take (k+1))=lq (h.take k)++e.i:=by rw[du,D];simp[lq]
def zgO h m:(fB (h.take m)).length<=(fB h):=by
 have D:fB h=fB (h.take m)++fB (h.drop m):=by rw[fB,fB,fB,<-Ĩ,<-kA,Ķ]
 rw[D,bm];omega
def zkf h m:(lq (h.take m)).length<=(lq h):=by
 have D:lq h=lq (h.take m)++lq (h.drop m):=by rw[lq,lq,lq,<-Ĩ,<-kA,Ķ]
 rw[D,bm];omega
def jl{h:Type}{l:List h}{x}(D:l[k]?=some x):l.take (k+1)=l.take k++[x]:=by rw[du,D];rfl
def Ĝ(g:Gr)(w:aa)(e:Ending)(w':aa):Prop:=∃ga gb,e=.returned (.tuple #[.slice (bH ga) g.w g.w,.slice (bH gb) g.w g.w])/\pG w g.w ga gb (g.i++fB g.es) (g.o++lq g.es) w'/\ag w w'
def yL g A1 a5 a6 c1 c2 bo w(co:jV w A1 a5 a6 g)(a9:g.In)(ez:g.w<=65536)(T:g.es.length<=65536)(cu:(g.i++fB g.es).length<=33554432)(cz:(g.o++lq g.es).length<=33554432):az 197 (cY (bj g A1 c1 a5 c2 a6 bo)) w (Ĝ g w):=by
 have⟨cO,hi,cF,cI,FU⟩:=dp gD;obtain⟨n,h,D,go⟩:=g;dsimp only at *;have⟨dT,d0,ce,be,bg,bh⟩:=ny (fun x (hx:x∈D)=>(a9 x (ay hx):x<n)) (fun x (hx:x∈go)=>(a9 x (au (ay hx)):x<n)) (fun e (T:e∈h) x (hx:x∈e.i∨x∈e.o)=>(a9 x (au (au ⟨e,T,hx⟩)):x<n)) (fun(V:aa) (d7:ag w V)=>co.ext d7) cu cz;have⟨bv,a3⟩:=bM w (.cells (fw n A1 h c1 a5 D c2 a6 go bo) 54);go_enter func197,ntmps197
 go_upto_region 1 with(fail)
 generalize w.alloc _=W at bv a3 ⊢;have⟨ac,cj⟩:=bJ bv a3;have d9:=(bk.1 a3).1;have⟨U,Y,Z,ab⟩:=aB a3;go_upto_region 2 with((at_make;refine jg _ rfl _ _ 26 rfl W.heap.size 3 cO (zI 0) 1 dR hi cF cI .i64 .i64 n n n rfl rfl rfl rfl RF SL (ae _) ?_;intro b5 a2 a0;have ci:=zH a2;have dr:=zH a0))
 have ap:=zH (cy dr);have b4:=ai cj ap;have⟨U,Y,Z,ab⟩:=aB b4;have d2:=zH b4;go_upto_region 3 with((at_make;refine jg _ rfl _ _ 26 rfl W.heap.size 3 cO (zI 0) 1 dR hi cF cI .i64 .i64 n n n rfl rfl rfl rfl RF SL ap.o.size ?_;intro eg a2 a0;have d1:=zH a2;have dO:=zH a0))
 have bc:=zH (cy dO);clear Y Z ab;have⟨U,Y,Z,ab⟩:=aB (ai d2 bc);have d8:(W:Nat)<b5:=by
  have J:=ci.o;rcases J.2 with⟨e,-⟩|⟨g,ε,ei,e,ad,O,-⟩
  .cases e
  .cases e;exact(bk.1 O).1
 have b9:=zH (show pG W n W b5 [] [] eg from by have ad:=ci.o;have O:=d1.o;rw[jn,<-ziz]at ad O;exact⟨aE.ext (by unfold aE;rw[aS,oT];exact ad) bc,by unfold aE;rw[aS,oT];exact O,Qu,ae _,ap.size⟩)
 have cV:=zH (aT ap bc);have⟨ga,cr⟩:=aR W.heap.size;have⟨gb,ct⟩:=aR b5.heap.size;have ck:=zH (show ∀V,ag W V->bA V w (fw n A1 h c1 a5 D c2 a6 go bo) 54 from fun V J=>ai cj J);clear d8;obtain⟨av,KY⟩:=bJ (Qu:(W:Nat)<=ga) (show(W:Nat)<=gb by have:=ap.size;omega);rw[<-cr,<-ct]at b9 ⊢;have em:D.length<=33554432:=by have:=bg.o;rw[bm]at this;omega
 have ey:go.length<=33554432:=by have:=bh.o;rw[bm]at this;omega
 clear cr ct;go_wp2;go_loopw [7,25] (fun _ i wr=>∃k:Nat,k<=D.length/\i=.int .i64 k/\pG ga n ga gb ([]++D.take k) ([]) wr/\ag W wr) (fun _ i _=>D.length-(intOf i).toNat)
 case atStart=>exact⟨0,aW _,rfl,by rw[oq,lZ];exact b9,cV⟩
 case round=>
  obtain⟨k,ao,rfl,hc,FW⟩:=hrel;by_cases I:k<D.length
  .have⟨x,hx⟩:=aq I;obtain⟨bi,bn,rfl,Jz⟩:=((be wr (aT ac FW)).i).θ (Rn:0 < (bD D).length);have bz:=Jz _ _ (dK hx);have an:=dT x (aU hx);obtain⟨am,b0⟩:=hc.at an;have hs:=(hc.Ν x);have ah:([]++D.take k).count x<=33554432:=by refine aZ rQ ?_;have:=bg.o;exact Wh
   have⟨c,J7⟩:=aR (([]++D.take k).count x);rw[<-J7]at am hs ah;rw[fJ ([]) (D.take k),<-jl hx]at hs;have hwc:IntKind.i64.wrap ((c:Int)+1)=(c:Int)+1:=Rt;obtain⟨HS,HBS⟩:=bJ hs (FW.setCell (p:=⟨ga,x,none⟩) (by have:=hc.la;exact av) (zI ((c:Int)+1)));clear Jz hx J7 hs hc FW;go_wp2;go_roundw
   case rel=>exact⟨k+1,Qu,Qx,HS,HBS⟩
   case measure=>simp[intOf];omega
  .obtain rfl:k=D.length:=Qu;rw[uA]at hc;have⟨ca,b7⟩:=bJ hc FW;have⟨U,Y,Z,ab⟩:=aB (ck.o _ FW);have⟨eB,cA⟩:=aR wr;rw[<-cA]at ca b7 U Y Z ab ⊢;clear hc FW I ao cA;go_wp2;go_loopw [9,39] (fun _ i wr=>∃k:Nat,k<=go.length/\i=.int .i64 k/\pG ga n ga gb (([]++D)) ([]++go.take k) wr/\ag W wr) (fun _ i _=>go.length-(intOf i).toNat)
   case atStart=>exact⟨0,aW _,rfl,by rw[oq,lZ];exact ca,b7⟩
   case round=>
    obtain⟨k,ao,rfl,hc,FW⟩:=hrel;by_cases I:k<go.length
    .have⟨x,hx⟩:=aq I;obtain⟨bi,bn,rfl,Jz⟩:=((be wr (aT ac FW)).o).θ (Rn:0 < (bD go).length);have bz:=Jz _ _ (dK hx);have an:=d0 x (aU hx);obtain⟨am,b0⟩:=hc.J.at an;have hs:=(hc.J.Ν x).J;have ah:([]++go.take k).count x<=33554432:=by refine aZ rQ ?_;have:=bh.o;exact Wh
     have⟨c,J7⟩:=aR (([]++go.take k).count x);rw[<-J7]at am hs ah;rw[fJ ([]) (go.take k),<-jl hx]at hs;exact Zm
    .obtain rfl:k=go.length:=Qu;rw[uA]at hc;have⟨cb,b8⟩:=bJ hc FW;have⟨U,Y,Z,ab⟩:=aB (ck.o _ FW);have⟨e0,cB⟩:=aR wr;rw[<-cB]at cb b8 U Y Z ab ⊢;clear cB;go_wp2;go_loopw [13,15,53] (fun _ _ i wr=>∃k:Nat,k<=h.length/\i=.int .i64 k/\pG ga n ga gb (([]++D)++fB (h.take k)) (([]++go)++lq (h.take k)) wr/\ag W wr) (fun _ _ i _=>h.length-(intOf i).toNat)
     case atStart=>exact⟨0,aW _,rfl,by rw[oq];simp only[fB,lq,rU,List.flatten_nil,lZ];simpa using cb.o,b8⟩
     case round=>
      obtain⟨F,eo,rfl,hc,FW⟩:=hrel;by_cases I:F<h.length
      .have⟨e,T⟩:=aq I;obtain⟨ej,ek,ba,bp,bb,bq,rfl,u0,u1,u2,u3,b1,b2⟩:=fU (be w (al _ _)).es T;have a4:=aT ac FW
       replace u0:=ar a4 u0;replace u1:=ar a4 u1;replace u2:=ar a4 u2;replace u3:=ar a4 u3
       have a7:=zcF T;have a8:=zgN T;obtain⟨br,bu,H,G⟩:=e;dsimp only at u0 u1 u2 u3 b1 b2 a7 a8;have b3:=aU T;have⟨db,dc,c8,c9,dl,dq⟩:=ny (fun x (hx:x∈H)=>(ce.o _ b3 x (ay hx):x<n)) (fun x (hx:x∈G)=>(ce.o _ b3 x (au hx):x<n)) (fun V (J:ag w V)=>b1.ext J) (fun V (J:ag w V)=>b2.ext J) a7 a8;have bd:=zH (show(D++(fB (h.take F)++G)).length<=33554432/\(go++(lq (h.take F)++H)).length<=33554432 from by have ad:=zgO h (F+1);have O:=zkf h (F+1);have d5:=bg.o;have d6:=bh.o;rw[a7]at ad;rw[a8]at O;simp only[bm]at ad O d5 d6 ⊢;omega)
       have ch:=zH (show G.length<=33554432/\H.length<=33554432 from by have J:=bd.o;simp only[bm]at J;omega)
       have⟨cp,a1⟩:=bM wr (.cells (eh br bu ba H bp bb G bq) 155);have⟨b6,cc⟩:=bJ (FW.alloc FW.size (.cells (eh br bu ba H bp bb G bq) 155)) (hc.ext cp);have cn:=zH (show wr.heap.size≠ga/\wr.heap.size≠gb from by have ad:=bS hc.a ga rfl;have O:=bS hc.b gb rfl;omega)
       clear T FW hc;go_upto_region 16 with(fail)
       generalize wr.alloc _=eA at a1 b6 cc ⊢;have⟨cR,cK⟩:=aR wr.heap.size;rw[<-cK]at a1 cn ⊢;have⟨d3,d4⟩:=bJ a1 cn.1;have ev:=ch.1;have es:=ch.2;have⟨ea,eb,n2,ee⟩:=aB a1;clear u2 u3 a1 cK;go_wp2;go_loopw [13,60] (fun _ i wr=>∃k:Nat,k<=G.length/\i=.int .i64 k/\pG ga n ga gb ((([]++D)++fB (h.take F))++G.take k) ((([]++go)++lq (h.take F))) wr/\ag W wr/\Hd (bA wr cR (eh br bu ba H bp bb G bq) 155)) (fun _ i _=>G.length-(intOf i).toNat)
       case atStart=>exact⟨0,aW _,rfl,by rw[oq,lZ];exact cc,b6,d3⟩
       case round=>
        obtain⟨k,ao,rfl,hc,FW,cq⟩:=hrel;by_cases I:k<G.length
        .have⟨x,hx⟩:=aq I;obtain⟨bi,bn,rfl,Jz⟩:=(c9 wr (aT ac FW)).θ (Rn:0 < (bD G).length);have bz:=Jz _ _ (dK hx);have an:=dc x (aU hx);obtain⟨am,b0⟩:=hc.at an;have hs:=(hc.Ν x);have ah:((([]++D)++fB (h.take F))++G.take k).count x<=33554432:=by refine aZ rQ ?_;have:=bd.1;exact Wh
         have⟨c,J7⟩:=aR (((([]++D)++fB (h.take F))++G.take k).count x);rw[<-J7]at am hs ah;rw[fJ ((([]++D)++fB (h.take F))) (G.take k),<-jl hx]at hs;have hwc:IntKind.i64.wrap ((c:Int)+1)=(c:Int)+1:=Rt;obtain⟨HS,HBS,c3⟩:=er hs (FW.setCell (p:=⟨ga,x,none⟩) (by have:=hc.la;exact av) (zI ((c:Int)+1))) ((a_ wr ⟨ga,x,none⟩ (zI ((c:Int)+1)) cR d4).t cq);clear Jz hx J7 hs hc;go_wp2;go_roundw
         case rel=>exact⟨k+1,Qu,Qx,HS,HBS,c3⟩
         case measure=>simp[intOf];omega
        .obtain rfl:k=G.length:=Qu;rw[uA]at hc;have⟨c5,c0⟩:=bJ hc FW;have⟨ea,eb,n2,ee⟩:=aB cq;go_wp2;go_loopw [15,74] (fun _ i wr=>∃k:Nat,k<=H.length/\i=.int .i64 k/\pG ga n ga gb (((([]++D)++fB (h.take F))++G)) ((([]++go)++lq (h.take F))++H.take k) wr/\ag W wr) (fun _ i _=>H.length-(intOf i).toNat)
         case atStart=>exact⟨0,aW _,rfl,by rw[oq,lZ];exact c5,c0⟩
         case round=>
          obtain⟨k,ao,rfl,hc,FW⟩:=hrel;by_cases I:k<H.length
          .have⟨x,hx⟩:=aq I;obtain⟨bi,bn,rfl,Jz⟩:=(c8 wr (aT ac FW)).θ (Rn:0 < (bD H).length);have bz:=Jz _ _ (dK hx);have an:=db x (aU hx);obtain⟨am,b0⟩:=hc.J.at an;have hs:=(hc.J.Ν x).J;have ah:((([]++go)++lq (h.take F))++H.take k).count x<=33554432:=by refine aZ rQ ?_;have:=bd.2;exact Wh
           have⟨c,J7⟩:=aR (((([]++go)++lq (h.take F))++H.take k).count x);rw[<-J7]at am hs ah;rw[fJ ((([]++go)++lq (h.take F))) (H.take k),<-jl hx]at hs;exact Zm
          .obtain rfl:k=H.length:=Qu;rw[uA]at hc;have⟨c7,c4⟩:=bJ hc FW;go_wp2;go_roundw
           case rel=>exact⟨F+1,Qu,Qx,by rw[dl.o,dq.o,<-fJ,<-fJ];exact c7,c4⟩
           case measure=>simp[intOf];omega
      .obtain rfl:F=h.length:=Qu;rw[uA]at hc;have c6:=zH (show pG w n ga gb (D++fB h) (go++lq h) wr from by
        have hx:=ac.size;refine⟨?_,?_,hc.ne,aZ hx av,aZ hx KY⟩
        .exact hc.a.x (aZ hx av)
        .exact hc.b.x (aZ hx av))
       have cW:=zH (aT ac FW);go_wp2;exact aI (v:=.tuple (nj (bH ga) n n (bH gb) n n)) (by simp[results,results197,go_sem, *]) rfl ⟨ga,gb,rfl,c6,cW⟩
end
section
variable{x:Nat}
def zc0(h:g.On x):0 < (g.i++fB g.es).count x+(g.o++lq g.es).count x:=by
 have F:x∈g.i++fB g.es∨x∈g.o++lq g.es:=by
  rcases h with h|h|⟨e,D,h|h⟩
  .exact ay (oD _ h)
  .exact au (oD _ h)
  .exact au (kE _ (uv.2 ⟨e.i,cH.2 ⟨e,D,rfl⟩,h⟩))
  .exact ay (kE _ (uv.2 ⟨e.o,cH.2 ⟨e,D,rfl⟩,h⟩))
 rcases F with h|h
 .have:=List.count_pos_iff.2 h;omega
 .have:=List.count_pos_iff.2 h;omega
def sL{D:Type}(f:D->List Nat)m:∀(L:List D),(∀e∈L,(f e).length<=m)->((L.map f).flatten).length<=L*m
 |[],_=>Qt
 |e::L,h=>by
  rw[se,uH,bm,jT,AF];have:=h e (kb ..);have:=sL f m L fun e F=>h e (kC _ F)
  omega
def BP g A1 ah am c1 c2 a0 w(an:jV w A1 ah am g)(a1:g.G1)(H:px g):az 153 (cY (bj g A1 c1 ah c2 am a0)) w (dt w (jc g)):=by
 have ba:=G1.el a1;have dr:=H.w;have cq:=H.es;have dl:=H.i;have dq:=H.o;have⟨cR,c0⟩:=bJ a1.fit (fun x (I:x<g.w)=>zc0 (a1.on x I));have c7:(fB g.es).length<=4096*12:=aZ (sL (·.o) 12 g.es fun e F=>(ba e F).2) (Am _ cq);have c8:(lq g.es).length<=4096*12:=aZ (sL (·.i) 12 g.es fun e F=>(ba e F).1) (Am _ cq);have cn:(g.i++fB g.es).length<=65536/\(g.o++lq g.es).length<=65536:=by rw[bm,bm];omega
 have⟨bu,cK,cW,br,bp,bq⟩:=ny cn (fun V (G:ag w V)=>yL g A1 ah am c1 c2 a0 V (an.ext G) H.inr Qu Qu Qu Qu) (fun V (G:ag w V)=>an.ext G) H.inr (fun V (G:ag w V)=>Calls.cg (nP 0 ((g.w:Int)-1) ah c2 (bD g.i) V (an.ext G).i TU) (Ϫ fun x I=>H.inr x (ay I))) (fun V (G:ag w V)=>Calls.cg (nP 0 ((g.w:Int)-1) am a0 (bD g.o) V (an.ext G).o TU) (Ϫ fun x I=>H.inr x (au (ay I))));rw[aS]at bp bq;have O:=zH (show jc g=(decide (g.w<=100)&&(decide (g.es.length<=60)&&(decide (g.i.length<=12)&&decide (g.o.length<=12)))) from rfl);obtain⟨n,h,J,go⟩:=g;dsimp only at *;have⟨av,cp⟩:=aR (jc ⟨n,h,J,go⟩);rw[<-cp]at O ⊢;have⟨a9,a2⟩:=bM w (.cells (fw n A1 h c1 ah J c2 am go a0) 54);have dO:IntKind.i64.wrap ((n:Int)-1)=(n:Int)-1:=Rt;clear an a1 H ba c7 c8 cn cp;go_enter func153,ntmps153
 go_upto_region 1 with(fail)
 generalize w.alloc _=W at a9 a2 ⊢;have⟨HB,bv⟩:=bJ a9 a2;have⟨Z,ab,ac,ad⟩:=aB a2;clear a9 a2;by_cases b5:n<=100
 .have HLI:=zH (fun V=>Calls.cg (y:=true) (aX (n:Int) 0 100 V) (by rw[dx];omega));by_cases b6:h.length<=60
  .have d2:decide ((60:Int) < (h:Int))=false:=QW;by_cases b7:J.length<=12
   .have d3:decide ((12:Int) < (J:Int))=false:=QW;by_cases b8:go.length<=12
    .have d4:decide ((12:Int) < (go:Int))=false:=QW;obtain rfl:av=true:=by rw[O.o];simp[b5,b6,b7,b8]
     go_upto_region 3 with((first|(go_at_call 92;(refine(HLI.o _).x ?_);rintro e w' ⟨rfl,rfl⟩)|(go_at_call 114;(with_reducible refine(bp.o _ HB.o).x ?_);rintro e w' ⟨rfl,rfl⟩)|(go_at_call 114;(with_reducible refine(bq.o _ HB.o).x ?_);rintro e w' ⟨rfl,rfl⟩)))
     clear d2 d3 d4;have⟨cB,cO,cV⟩:=er (al W W) (fun k e (F:h[k]?=some e)=>fU (cW w (al _ _)).es F) (fun e (F:e∈h) A B T U V (hi:aO V A (bD e.i)) (c9:aO V B (bD e.o))=>zfD e n A B T U V hi c9 (cR e F) (fun x I=>br x (au (au ⟨e,F,ay I⟩))) (fun x I=>br x (au (au ⟨e,F,au I⟩))) Qu);go_wp2;go_loopw [51] (fun i wr=>∃k:Nat,k<=h.length/\i=.int .i64 k/\ag W wr) (fun i _=>h.length-(intOf i).toNat)
     case atStart=>exact⟨0,aW _,rfl,cB⟩
     case round=>
      obtain⟨k,ci,rfl,D⟩:=hrel;have⟨Z,ab,ac,ad⟩:=aB (ai bv D);by_cases Y:k<h.length
      .have⟨e,F⟩:=aq Y;have co:=aU F;obtain⟨db,dc,a3,a7,a4,a8,rfl,u0,u1,u2,u3,ce,ch⟩:=cO.o _ _ F;have ap:=aT HB D
       replace u0:=ar ap u0;replace u1:=ar ap u1;replace u2:=ar ap u2;replace u3:=ar ap u3
       have bd:=fun V (ca:ag w V)=>cV e co a3 a4 a7 a8 V (ce.ext ca) (ch.ext ca)
       obtain⟨b2,b4,b1,b3⟩:=e;dsimp only at u0 u1 u2 u3 bd;have cI:=zH bd;have bg:=aH wr (.cells (eh b2 b4 a3 b1 a7 a4 b3 a8) 155) rfl;have bb:=aw wr (.cells (eh b2 b4 a3 b1 a7 a4 b3 a8) 155);have⟨a5,bz⟩:=bJ (aT D bb) (ai (ai bv D) bb);go_upto_region 6 with(fail)
       generalize wr.alloc _=d7 at bg a5 bz ⊢;clear u2 u3 Z ab ac ad;have⟨d1,d5,n2,d6⟩:=aB bg;have⟨Z,ab,ac,ad⟩:=aB bz;have c4:=zH (aT HB a5);clear bg;go_wp2_with (go_at_call 196;(with_reducible refine(cI.o _ c4.o).x ?_);rintro e d8 ⟨rfl,ao⟩;have ct:=zH (aT a5 ao);clear ao)
       go_roundw
       case rel=>exact⟨k+1,Qu,Qx,ct⟩
       case measure=>simp[intOf];omega
      .obtain rfl:k=h.length:=Qu;have⟨cz,a6⟩:=bJ D (aT HB D);clear D Y ci;have⟨d9,cr⟩:=aR wr;rw[<-cr]at cz a6 Z ab ac ad ⊢;clear cr;go_wp2_with (go_at_call 197;(with_reducible refine(cK.o _ a6.o).x ?_);intro e bo G;unfold Ĝ at G;obtain⟨c5,c6,b9,bc,ao⟩:=G;dsimp only at b9 bc;subst b9;have cF:=zH bc;have cu:=zH (aT a6 ao);clear bc ao)
       clear Z ab ac ad;have c3:=zH (al bo bo);go_loopw [7,68] (fun _ i wr=>∃k:Nat,k<=n/\i=.int .i64 k/\ag bo wr) (fun _ i _=>n-(intOf i).toNat)
       case atStart=>exact⟨0,aW _,rfl,c3⟩
       case round=>
        obtain⟨k,ci,rfl,D⟩:=hrel;by_cases Y:k<n
        .have be:=cF.ext D;have bh:=c0 k Y;have bi:=(be.at Y).1;have bn:=(be.J.at Y).1;have cj:=aZ rQ bu.1 (n:=List.count k (J++fB h));have ck:=aZ rQ bu.2 (n:=List.count k (go++lq h));have⟨T,cb⟩:=aR ((J++fB h).count k);have⟨U,cc⟩:=aR ((go++lq h).count k);rw[<-cb]at bi bh cj;rw[<-cc]at bn bh ck;have dT:IntKind.i64.wrap ((T:Int)+(U:Int))=(T:Int)+(U:Int):=Rt;have d0:((T:Int)+(U:Int)==0)=false:=by rw[<-Al,pT];omega
         have cA:=zH D;have b0:=aQ bi bn;clear be cb cc D bh cj ck;go_upto_region 13 with(fail)
         clear bi bn;go_region_held3 (fun V=>af V c5 k (zI (T:Nat))/\af V c6 k (zI (U:Nat)))
          (first|with_reducible exact b0|with_reducible exact j6 (aC _) b0)
          ((fail))
         go_wp2;go_roundw
         case rel=>exact⟨k+1,Qu,Qx,cA.drew⟩
         case measure=>simp[intOf];omega
        .obtain rfl:k=n:=Qu;go_wp2;go_ret
         exact⟨rfl,aT cu D⟩
    .have d4:decide ((12:Int) < (go:Int))=true:=QW;obtain rfl:av=false:=by rw[O.o];simp[b8]
     exact X6
   .have d3:decide ((12:Int) < (J:Int))=true:=QW;obtain rfl:av=false:=by rw[O.o];simp[b7]
    exact X6
  .have d2:decide ((60:Int) < (h:Int))=true:=QW;obtain rfl:av=false:=by rw[O.o];simp[b6]
   exact X6
 .have HLI:=zH (fun V=>Calls.cg (y:=false) (aX (n:Int) 0 100 V) (by rw[<-Al,dx];omega));obtain rfl:av=false:=by rw[O.o];simp[b5]
  exact X6
end
def zmD(g:Gr)(A1:ax)(c1:Nat)(h:ax)(c2:Nat)(D:ax)(F:Nat)(w:aa)(e:Ending)(w':aa):Prop:=
 ((jc g=false/\e=.returned (.tuple (dz cw)))∨
 (jc g=true/\e=.returned (.tuple (fH (bj g A1 c1 h c2 D F)))))/\ag w w'
def zdr g A1 h D c1 c2 F w(an:jV w A1 h D g)(ao:g.G1)(ap:px g):az 107 (cY (bj g A1 c1 h c2 D F)) w (zmD g A1 c1 h c2 D F w):=by
 have ah:=zH (fun V (a9:ag w V)=>BP g A1 h D c1 c2 F V (an.ext a9) ao ap);obtain⟨n,G,H,go⟩:=g;dsimp only at *;have U:=((al w w).alloc (ae _) (.cells (fw n A1 G c1 h H c2 D go F) 54)).alloc Qt (.cells cw 54);have J:=(bO (w.alloc (.cells (fw n A1 G c1 h H c2 D go F) 54)) (.cells cw 54) (k:=w.heap.size) Qt).t (aH w _ rfl);have Z:=aH (w.alloc (.cells (fw n A1 G c1 h H c2 D go F) 54)) (.cells cw 54) (n:=(w:Nat)+1) Qt;clear an ao ap;go_enter func107,ntmps107
 go_upto_region 1 with(fail)
 generalize (w.alloc _).alloc _=W at U J Z ⊢;have⟨ab,a7,a8⟩:=er U J Z;have⟨bb,bc,bd,be⟩:=aB J;clear U J Z;unfold zmD;cases Y:jc ⟨n,G,H,go⟩
 all_goals
  rw[Y]at ah;have ad:=zH Y;clear Y;go_wp2_with (go_at_call 153;(with_reducible refine(ah.o _ ab.o).x ?_);rintro e ba ⟨rfl,I⟩;have ac:=zH (aT ab I);have O:=ai a8 I;have⟨a3,a4,a5,a6⟩:=aB O;have⟨f0,f1,f2,f3⟩:=cN O;have av:=ai a7 I;have⟨a0,a1,p2,a2⟩:=aB av;have am:=zH O;clear O av I)
 .have y:=cP (v0:=()) (v1:=dE) (v2:=dE) (v3:=dE) am;refine O2 fun y0 y1 y2 y3=>?_
  have T:=zH (bY ac (b:=(w:Nat)+1) Qu (zI 0) (.slice none 0 0) (.slice none 0 0) (.slice none 0 0));clear y a3 a4 a5 a6 f0 f1 f2 f3 a0 a1 p2 a2;exact aI (v:=.tuple (dz cw)) Uv rfl ⟨ay ⟨ad,rfl⟩,T.o⟩
 .have y:=cP (v0:=.int .i64 (n:Nat)) (v1:=.slice A1 G c1) (v2:=.slice h H c2) (v3:=.slice D go F) am;refine O2 fun y0 y1 y2 y3=>?_
  have T:=zH (bY ac (b:=(w:Nat)+1) Qu (zI (n:Nat)) (.slice A1 G c1) (.slice h H c2) (.slice D go F));clear y a3 a4 a5 a6 f0 f1 f2 f3 a0 a1 p2 a2;exact aI (v:=.tuple (fH (fw n A1 G c1 h H c2 D go F))) Uv rfl ⟨au ⟨ad,rfl⟩,T.o⟩
section
variable{J x:Nat}
structure FQ(B n ga:Nat)(l:bP)(V:aa):Prop where
 a:aE V B (.slice (bH ga) n n) (bD l)
 ι:l.length=n
 la:B<=ga
section
variable{B n ga:Nat}{l:bP}{V V':aa}
def FQ.ext(h:FQ B n ga l V)(D:ag V V'):FQ B n ga l V':=⟨h.a.ext D,h.ι,h.la⟩
def FQ.row(h:FQ B n ga l V):V.ownsRow B 3 1 (.slice (bH ga) n n) n ((bD l).map (Value.int .i64)):=h.a.row (by rw[aS,h.ι])
def FQ.at(h:FQ B n ga l V)(D:l[x]?=some y):af V ga x (zI (y:Nat))/\V.frozen? ⟨ga,x,none⟩=false:=by have F:=(bG.1 D).1;refine⟨?_,h.row.g x⟩;rw[h.row.C x (by have:=h.ι;omega),bI,dK D];rfl
def FQ.put(h:FQ B n ga l V)x y:FQ B n ga (l.set x y) (V.setCell ⟨ga,x,none⟩ (zI (y:Nat))):=by
 have D:=(h.row.j x (zI (y:Nat))).1;rw[<-eW]at D;have e:(bD l).set x ((y:Nat):Int)=bD (l.set x y):=by simp only[bD];rw[eW]
 rw[e]at D;refine⟨by unfold aE;rw[aS,iW,h.ι];exact D,SM,h.la⟩
end
def jC(x y q:Nat):Nat:=if q=max x y then min x y else q
def zgu c a b:mI c a b=c.map (jC (c.getD a 0) (c.getD b 0)):=rfl
def AP(f:gN)(c:bP)(j:Nat):List Nat:=(c.take j).map f++c.drop j
def zgv f c:AP f c 0=c:=by simp[AP]
def zif f c:AP f c c=c.map f:=by simp[AP]
def Dm f{c}(h:j<c.length):(AP f c j)[j]?=c[j]?:=by unfold AP;rw[fi QW,fQ,bs,cQ,iw Qu,pR,jf]
def zaa f{c}(h:c[j]?=some q):(AP f c j).set j (f q)=AP f c (j+1):=by
 have D:=(bG.1 h).1;have F:c.drop j=q::c.drop (j+1):=by
  rw[uu D];congr 1
  exact(bG.1 h).2
 unfold AP;rw[du,h,F,kA,om _ _ (by simp;exact Nat.min_le_left _ _)];simp[iw (ix D)]
def zgw f{c}(h:c[j]?=some q)(F:f q=q):AP f c j=AP f c (j+1):=by
 rw[<-zaa f h,F];have D:=(Dm f (bG.1 h).1).t h;apply gk;intro k;by_cases e:j=k
 .subst e;rw[gl (bG.1 D).1,D]
 .rw[gI e]
def zj5{us h:bP}{a}(D:us[k]?=some a)(F:h[k]?=some b):(us.zip h)[k]?=some (a,b):=by rw[Aj];exact⟨D,F⟩
def zlf{us D:bP}{n}(F:∀x∈us,x<n)(G:∀x∈D,x<n):∀q∈us.zip D,q.1<n/\q.2<n:=fun q h=>by obtain⟨H,I⟩:=q;exact⟨F _ (pS h).1,G _ (pS h).2⟩
def zj6{n}(h:∀q∈ps,q.1<n/\q.2<n):l9 n (jF n ps):=Ef ps _ (qx n) h
def FQ.Α{B n ga}{l}{V}(h:FQ B n ga l V)(F:b≠ga)i v:FQ B n ga l (V.setCell ⟨b,i,none⟩ v):=⟨h.a.o_ (ä V b i v) (fun g e D=>by cases e;cases D;exact F rfl),h.ι,h.la⟩
def pG.Α{B n ga}{l m}{V}(h:pG B n ga J l m V)(F:b≠ga)(G:b≠J)i v:pG B n ga J l m (V.setCell ⟨b,i,none⟩ v):=⟨h.a.o_ (ä V b i v) (fun g e D=>by cases e;cases D;exact F rfl),h.b.o_ (ä V b i v) (fun g e D=>by cases e;cases D;exact G rfl),h.ne,h.la,h.lb⟩
structure xU(B n ga:Nat)(l:Fg)(V:aa):Prop where
 row:V.ownsRow B 4 1 (.slice (bH ga) n n) n (l.map Value.bool)
 ι:l.length=n
 la:B<=ga
section
variable{B n ga:Nat}{l:Fg}{V V':aa}
def xU.ext(D:xU B n ga l V)(h:ag V V'):xU B n ga l V':=⟨jA D.row (row:=none) ⟨h.os,h.tape,h.output,h.size,fun k F _=>h.block k F⟩ (au SY),D.ι,D.la⟩
def xU.at(h:xU B n ga l V){y}(hx:l[x]?=some y):af V ga x (.bool y)/\V.frozen? ⟨ga,x,none⟩=false:=Yd
def xU.put(h:xU B n ga l V)x y:xU B n ga (l.set x y) (V.setCell ⟨ga,x,none⟩ (.bool y)):=by have D:=(h.row.j x (.bool y)).1;rw[<-eW]at D;exact⟨D,SM,h.la⟩
end
def uZ(g:Gr)(C:bP)(k:Nat):List Bool:=(List.range g.w).map fun r=>(List.range k).any fun x=>g.O x&&decide (C.getD x 0=r)
def vh g C k:(uZ g C k).length=g.w:=by simp[uZ]
def zig g C:uZ g C 0=List.replicate g.w false:=by
 apply gk;intro r;unfold uZ;rw[bI,fI];by_cases h:r<g.w
 .rw[iy h,ak h];rfl
 .rw[eP QW,aj h];rfl
def Ĺ r:((List.range (k+1)).any fun x=>g.O x&&decide (C.getD x 0=r))=(((List.range k).any fun x=>g.O x&&decide (C.getD x 0=r))||(g.O k&&decide (C.getD k 0=r))):=by rw[nk,CY];simp
def zih(h:g.O k=false):uZ g C k=uZ g C (k+1):=by
 unfold uZ;refine kB fun r _=>?_
 rw[Ĺ,h];simp
def zj7(F:g.O k=true):(uZ g C k).set (C.getD k 0) true=uZ g C (k+1):=by
 apply gk;intro r;by_cases h:r<g.w
 .have D:(uZ g C (k+1))[r]?=some ((List.range (k+1)).any fun x=>g.O x&&decide (C.getD x 0=r)):=by unfold uZ;rw[bI,iy h];rfl
  rw[D,Ĺ,F];by_cases e:C.getD k 0=r
  .rw[e,gl (by rw[vh];exact h)];simp
  .rw[gI e,fR e];unfold uZ;rw[bI,iy h];simp
 .rw[eP (by rw[iW,vh];omega),eP (by rw[vh];omega)]
def zii(F:g.In):uZ g C g.w=mP g.w C (ec g):=by
 unfold uZ mP;refine kB fun r _=>?_
 rw[jQ,EJ,nl];constructor
 .rintro⟨x,D,h⟩;rw[bN,cf]at h;exact⟨x,Gr.lO.1 h.1,h.2⟩
 .rintro⟨x,D,h⟩;exact⟨x,fj.2 (F x D),by rw[Gr.lO.2 D];simpa using h⟩
def zgx:(g.i++fB g.es).count x+(g.o++lq g.es).count x=0↔g.O x=false:=by
 constructor
 .intro h;rw[<-Al,Gr.lO];intro H;have:=zc0 H;omega
 .intro h;have J:¬g.On x:=fun H=>by rw[Gr.lO.2 H]at h;cases h
  have O:x∉g.i++fB g.es:=fun G=>J (by
   rcases dP.1 G with h|h
   .exact ay h
   .obtain⟨l,F,I⟩:=uv.1 h;obtain⟨e,D,rfl⟩:=cH.1 F;exact au (au ⟨e,D,au I⟩))
  have T:x∉g.o++lq g.es:=fun G=>J (by
   rcases dP.1 G with h|h
   .exact au (ay h)
   .obtain⟨l,F,I⟩:=uv.1 h;obtain⟨e,D,rfl⟩:=cH.1 F;exact au (au ⟨e,D,ay I⟩))
  rw[List.count_eq_zero.2 O,List.count_eq_zero.2 T]
structure nC(B n ga:Nat)(l:aL)(V:aa):Prop where
 a:aE V B (.slice (bH ga) n n) l
 ι:l.length=n
 la:B<=ga
section
variable{B n ga:Nat}{l:aL}{V V':aa}
def nC.ext(h:nC B n ga l V)(D:ag V V'):nC B n ga l V':=⟨h.a.ext D,h.ι,h.la⟩
def nC.row(h:nC B n ga l V):V.ownsRow B 3 1 (.slice (bH ga) n n) n (l.map (Value.int .i64)):=h.a.row h.ι
def nC.at(h:nC B n ga l V){y}(hx:l[x]?=some y):af V ga x (zI y)/\V.frozen? ⟨ga,x,none⟩=false:=Yd
def nC.put(h:nC B n ga l V)x y:nC B n ga (l.set x y) (V.setCell ⟨ga,x,none⟩ (zI y)):=by have D:=(h.row.j x (zI y)).1;rw[<-eW]at D;exact⟨by unfold aE;rw[iW,h.ι];exact D,SM,h.la⟩
def xU.Α{l}(h:xU B n ga l V)(D:b≠ga)i v:xU B n ga l (V.setCell ⟨b,i,none⟩ v):=⟨jA h.row (row:=some b) (ä V b i v) (au TQ),h.ι,h.la⟩
end
def ti(g:Gr)(C:bP)(j:Nat):List Int:=(List.range g.w).map fun x=>if x<j/\C.getD x 0=x/\pH C (ec g) x=true then(nS g C x:Int) else 0
def sE g C j:(ti g C j).length=g.w:=by simp[ti]
def vj(h:x<g.w):(ti g C j)[x]?=some (if x<j/\C.getD x 0=x/\pH C (ec g) x=true then(nS g C x:Int) else 0):=by simp[ti,h]
def zij g C:ti g C 0=List.replicate g.w 0:=by
 apply gk;intro r;by_cases h:r<g.w
 .rw[vj h,fI,ak h,aj Qu]
 .rw[eP (by rw[sE];omega),fI,aj h]
def zcr(h:¬(C.getD j 0=j/\pH C (ec g) j=true)):ti g C j=ti g C (j+1):=by
 unfold ti;refine kB fun x _=>?_
 by_cases e:x=j
 .subst e;rw[aj Qu,aj (fun D=>h D.2)]
 .have:x<j↔x<j+1:=Qu;simp only[this]
def zj8(D:C.getD j 0=j)(F:pH C (ec g) j=true):(ti g C j).set j (nS g C j:Int)=ti g C (j+1):=by
 apply gk;intro r;by_cases h:r<g.w
 .rw[vj h];by_cases e:j=r
  .subst e;rw[gl (by rw[sE];exact h),ak ⟨Qu,D,F⟩]
  .rw[gI e,vj h];have:r<j↔r<j+1:=Qu;simp only[this]
 .rw[eP (by rw[iW,sE];omega),eP (by rw[sE];omega)]
def vk(a b:aL)(j:Nat):List Int:=a.take j++b.drop j
def zgy a b:vk a b 0=b:=by simp[vk]
def zik{a b}(h:i<j)(D:j<=a.length):(vk a b j)[i]?=a[i]?:=by unfold vk;rw[dU Rv,iM,ak h]
def zil{a b}(h:j<=a.length):(vk a b j)[j]?=b[j]?:=by unfold vk;rw[fi Rv,fQ,cQ,iw h,pR,jf]
def ş{a b:aL}{v}(h:a[j]?=some v)(F:a.length=b):(vk a b j).set j v=vk a b (j+1):=by have G:=(bG.1 h).1;have D:b.drop j=b[j]'Qu::b.drop (j+1):=uu Qu;unfold vk;rw[du,h,D,om _ _ Rv,cQ,iw Qu,pR];simp only[fJ,rO,Option.toList_some,wZ,rP]
def zim{a b}(h:a.length=j)(D:b.length=j):vk a b j=a:=by unfold vk;rw[cZ Qu,jR Qu,lZ]
def zin{a b}{n}(h:a.length=n)(D:b.length=n)(F:j<=n):(vk a b j).length=n:=by unfold vk;rw[bm,cQ,fS];omega
def Ħ(g:Gr)(ps:ng)(w:aa)(e:Ending)(w':aa):Prop:=∃A1 c1 h c2 D F B G I H,e=.returned (.tuple #[.agg (nh ((js g ps).w:Nat) A1 (js g ps).es c1 h (js g ps).i c2 D (js g ps).o F),.slice G I H])/\BH w B w' A1 c1 h c2 D F (js g ps)/\ag w w'
def zcs g(us I:bP)A1 a4 a5 ee eg c1 c2 bc hF hG w(c5:jV w A1 a4 a5 g)(F:px g)(db:us.length=I)(hM:us.length<=4096)(fy:aO w ee (bD us))(fz:aO w eg (bD I))(be:∀x∈us,x<g.w)(bg:∀x∈I,x<g.w):az 200 #[.agg (bj g A1 c1 a4 c2 a5 bc),.slice ee us hF,.slice eg I hG] w (Ħ g (us.zip I) w):=by
 have⟨g2,hi,g0,g1,FU⟩:=dp gD;have b0:=zH F;have hQ:=F.w;have hg:=zH (fun V (a7:ag w V)=>c5.ext a7);have hS:(fB g.es).length<=4096*4096:=aZ (sL (·.o) 4096 g.es fun e bd=>(F.el e bd).2) (Am _ F.es);have hT:(lq g.es).length<=4096*4096:=aZ (sL (·.i) 4096 g.es fun e bd=>(F.el e bd).1) (Am _ F.es);have hV:=F.i;have hW:=F.o;have hU:=F.es;have ci:(g.i++fB g.es).length<=33554432/\(g.o++lq g.es).length<=33554432:=by rw[bm,bm];omega
 have⟨e1,eA⟩:=bJ ci (fun V (a7:ag w V)=>yL g A1 a4 a5 c1 c2 bc V (c5.ext a7) F.inr Qu Qu ci.1 ci.2);clear hS hT hV hW hU ci;have⟨hl,hm⟩:=bJ (fun V (a7:ag w V)=>fy.ext a7) (fun V (a7:ag w V)=>fz.ext a7);have⟨n,dT⟩:=aR g.w;have T:=zH dT;rw[<-dT]at be bg hQ eA ⊢;have⟨e9,hp,hq⟩:=er (zlf be bg) be bg;have⟨m,am⟩:=aR us.length;obtain⟨cr,cA⟩:=bJ (show us.length=m from am.q) (show I.length=m from db.q.t am.q);rw[<-db,<-am];rw[<-am]at hM;have c3:=((al w w).alloc (ae _) (.cells (fw n A1 g.es c1 a4 g.i c2 a5 g.o bc) 54)).alloc Qt (.cells cw 54);have Z:=(bO (w.alloc (.cells (fw n A1 g.es c1 a4 g.i c2 a5 g.o bc) 54)) (.cells cw 54) (k:=w.heap.size) Qt).t (aH w _ rfl);have d5:=aH (w.alloc (.cells (fw n A1 g.es c1 a4 g.i c2 a5 g.o bc) 54)) (.cells cw 54) (n:=(w:Nat)+1) Qt;clear c5 F fy fz be bg dT am db;go_enter func200,ntmps200
 go_upto_region 1 with(fail)
 generalize (w.alloc _).alloc _=W at c3 Z d5 ⊢;have⟨ab,ac,ad,ah⟩:=aB Z;have⟨ek,hw,hv⟩:=er c3 d5 Z;clear c3 d5 Z;go_upto_region 2 with((at_make;refine jg _ rfl _ _ 26 rfl W.heap.size 3 g2 (zI 0) 1 dR hi g0 g1 .i64 .i64 n n n rfl rfl rfl rfl RF SL (ae _) ?_;intro h2 FT a1;have e6:=zH FT;have hk:=zH a1;clear FT a1))
 have g6:=zH (cy hk);have⟨ga,dl⟩:=aR W.heap.size;obtain⟨ht,cI⟩:=bJ (show h2.ownsRow W 3 1 (.slice (bH ga) n n) n ((eF (υ n) 0 0).map (Value.int .i64)) by have FT:=e6.o;rw[jn]at FT;rw[iP,dX,dl];exact FT) (Qu:(W:Nat)<=ga);clear ab ac ad ah e6;rw[<-dl];clear dl;go_wp2;go_loopw [9,28] (fun _ i wr=>∃k:Nat,k<=n/\i=.int .i64 k/\wr.ownsRow W 3 1 (.slice (bH ga) n n) n ((eF (υ n) 0 k).map (Value.int .i64))/\ag W wr) (fun _ i _=>n-(intOf i).toNat)
 case atStart=>exact⟨0,aW _,rfl,ht,g6⟩
 case round=>
  obtain⟨k,a8,rfl,FT,h⟩:=hrel;by_cases FX:k<n
  .have id:af wr ga k (zI 0):=Xg;have i3:=FT.g k;have d6:=(FT.j k (zI k)).1;rw[<-eW,jq _ _ _ _ (sM FX)]at d6;have⟨hy,a6⟩:=bJ d6 (h.setCell (p:=⟨ga,k,none⟩) cI (zI k));clear d6 FT;go_wp2;go_roundw
   case rel=>exact⟨k+1,Qu,Qx,hy,a6⟩
   case measure=>simp[intOf];omega
  .obtain rfl:k=n:=Qu;rw[jo _ _ _ Ru]at FT;obtain⟨hd,g8⟩:=bJ (show FQ W k ga (jF k []) wr from⟨by unfold aE;rw[show bD (jF k [])=υ k from rfl,dX];exact FT,fK,cI⟩) h;clear FT h FX a8;go_wp2;go_loopw [10,11,12,13,38] (fun _ _ _ _ i wr=>∃j:Nat,j<=m/\i=.int .i64 j/\FQ W k ga (jF k ((us.zip I).take j)) wr/\ag W wr) (fun _ _ _ _ i _=>m-(intOf i).toNat)
   case atStart=>exact⟨0,aW _,rfl,hd,g8⟩
   case round=>
    obtain⟨j,dO,rfl,D,h⟩:=hrel;by_cases FX:j<m
    .obtain⟨a,ha⟩:=aq (by rw[cr.o];exact FX:j<us.length);obtain⟨b,hb⟩:=aq (by rw[cA.o];exact FX:j<I.length);have ea:=aT ek h;obtain⟨hB,hC,rfl,f4⟩:=(hl wr ea).θ (by rw[aS,cr.o];omega:0 < (bD us).length);obtain⟨hD,hE,rfl,f5⟩:=(hm wr ea).θ (by rw[aS,cA.o];omega:0 < (bD I).length);have bn:=f4 _ _ (dK ha);have bo:=f5 _ _ (dK hb);have hN:=hp a (aU ha);have hO:=hq b (aU hb);have co:jF k ((us.zip I).take (j+1))=(jF k ((us.zip I).take j)).map (jC ((jF k ((us.zip I).take j)).getD a 0) ((jF k ((us.zip I).take j)).getD b 0)):=by rw[jl (zj5 ha hb),ū,zgu]
     have⟨C,fx⟩:=aR (jF k ((us.zip I).take j));rw[<-fx]at D co;have Gb:=D.ι;have⟨x,eb⟩:=aq (Qu:a<C.length);have⟨y,H⟩:=aq (Qu:b<C.length);rw[bf,bf,eb,H]at co;have gA:=(D.at eb).1;have b6:=(D.at H).1;obtain⟨hx,ez,es,H8⟩:=gG (show jF k ((us.zip I).take (j+1))=C.map (jC x y) from co) D h Gb;have S0:=aQ bn (aQ bo (aQ gA b6));clear ea f4 f5 bn bo ha hb co fx Gb eb H gA b6 D h;go_upto_region 10 with(fail)
     go_region_held3 (fun V=>af V hB (hC+j) (zI (a:Nat))/\af V hD (hE+j) (zI (b:Nat))/\af V ga a (zI (x:Nat))/\af V ga b (zI (y:Nat)))
      (first|with_reducible exact S0|with_reducible exact gS (aC _) S0)
      ((fail))
     have⟨ey,em⟩:=bJ (ez.ext (aC wr)) es.drew;clear S0;have⟨cO,e0⟩:=bJ (fun V=>zfe (x:Int) (y:Int) V) (fun V=>zdN (x:Int) (y:Int) V);have⟨M,c7⟩:=aR (max (x:Int) (y:Int));have⟨N,c8⟩:=aR (min (x:Int) (y:Int));rw[<-c7]at cO;rw[<-c8]at e0;have⟨e3,hr⟩:=bJ c7 c8;have⟨j3,gK⟩:=aR wr.drew;rw[<-gK]at ey em ⊢;clear c7 c8 gK ez es hN hO;go_wp2;go_loopw [13,57] (fun _ i wr=>∃t:Nat,t<=k/\i=.int .i64 t/\FQ W k ga (AP (jC x y) C t) wr/\ag W wr) (fun _ i _=>k-(intOf i).toNat)
     case atStart=>exact⟨0,aW _,rfl,by rw[zgv];exact ey,em⟩
     case round=>
      obtain⟨t,gn,rfl,D,h⟩:=hrel;by_cases JO:t<k
      .have⟨q,Z⟩:=aq (Tk:t<C.length);have ba:=(D.at ((Dm (jC x y) Tk).t Z));obtain⟨ba,f7⟩:=ba;by_cases d4:q=max x y
       .have av:((q:Int)==M)=true:=by rw[pT,e3.o];omega
        have it:=((D.ext (aC wr)).at ((Dm (jC x y) Tk).t Z)).2;have O:=(D.ext (aC wr)).put t (jC x y q);rw[zaa _ Z,show((jC x y q:Nat):Int)=N by rw[hr.o,show jC x y q=min x y from ak d4];omega]at O;have⟨HP,HBP⟩:=bJ O ((h.drew.setCell (p:=⟨ga,t,none⟩) cI (zI N)));clear D O h Z d4;go_upto_region 14 with(fail)
        go_region_held3 (fun V=>af V ga t (zI (q:Nat)))
         (first|with_reducible exact ba|with_reducible exact ar (aC _) ba)
         ((go_at_call 217;(with_reducible refine(cO.o _).x ?_);rintro e w' ⟨rfl,rfl⟩))
        clear ba f7;go_wp2_with (go_at_call 218;(with_reducible refine(e0.o _).x ?_);rintro e w' ⟨rfl,rfl⟩)
        exact X_
       .have av:((q:Int)==M)=false:=by rw[<-Al,pT,e3.o];omega
        have O:=D;rw[zgw (jC x y) Z (aj d4)]at O;have⟨HP,HBP⟩:=bJ (O.ext (aC _)) h.drew;clear D O h Z;go_upto_region 14 with(fail)
        go_region_held3 (fun V=>af V ga t (zI (q:Nat)))
         (first|with_reducible exact ba|with_reducible exact ar (aC _) ba)
         ((go_at_call 217;(with_reducible refine(cO.o _).x ?_);rintro e w' ⟨rfl,rfl⟩))
        go_wp2;exact X_
      .obtain rfl:t=k:=Qu;rw[show AP (jC x y) C t=C.map (jC x y) by have:=zif (jC x y) C;rw[H8.o]at this;exact this]at D;have⟨HP,HBP⟩:=bJ D h;clear D h;go_wp2;go_roundw
       case rel=>exact⟨j+1,Qu,Qx,by rw[hx.o];exact HP,HBP⟩
       case measure=>simp[intOf];omega
    .obtain rfl:j=m:=Qu;rw[cZ (by rw[List.length_zip,cr.o,cA.o];omega)]at D;have cb:=zH (show l9 k (jF k (us.zip I)) from zj6 e9);have⟨C,c4⟩:=aR (jF k (us.zip I));rw[<-c4]at D cb;have⟨he,cB⟩:=bJ c4 D;have bi:=ai hv h;have⟨ab,ac,ad,ah⟩:=aB bi;have⟨cc,fa,c0,g9⟩:=gG bi (ai hw h) (aT ek h) h;have⟨a2,gB⟩:=aR wr;rw[<-gB]at cB ab ac ad ah cc fa c0 g9 ⊢;clear D h FX dO bi gB c4;go_upto_region 19 with(go_at_call 197;(with_reducible refine(eA.o _ c0.o).x ?_);intro e bq Y;unfold Ĝ at Y;obtain⟨gc,gd,fo,D,hb⟩:=Y;rw[<-T.o]at fo D;subst fo;have cF:=zH D;have bu:=zH hb;clear D hb)
     clear ab ac ad ah;have⟨ab,ac,ad,ah⟩:=aB (ai cc bu);have⟨h1,hR,hX,hY,hZ⟩:=dp Ds;go_upto_region 20 with((at_make;refine jg _ rfl _ _ 209 rfl bq.heap.size 4 h1 (.bool false) 1 underlying209 hR hX hY .i64 .i64 k k k rfl rfl rfl rfl (by rw[hZ];omega) SL (ae _) ?_;intro cp FT a1;have e7:=zH FT;have ct:=zH (cy a1);clear FT a1))
     clear ab ac ad ah;have⟨ge,dq⟩:=aR bq.heap.size;obtain⟨hz,g3,hn⟩:=er (show xU bq k ge (uZ g C 0) cp from⟨by rw[zig,<-T.o,dq];have Y:=e7.o;rw[xW]at Y;exact Y,by rw[vh];exact T.o.q,Qu⟩) (show FQ W k ga C cp from(cB.ext bu).ext ct) (show pG a2 k gc gd (g.i++fB g.es) (g.o++lq g.es) cp from cF.ext ct);have cK:=zH (show ge≠ga/\ge≠gc/\ge≠gd from by have hI:=bS cB.o.row ga rfl;have hJ:=bS cF.o.a gc rfl;have hL:=bS cF.o.b gd rfl;have ia:=bu.size;omega)
     obtain⟨g7,hj⟩:=bJ (show ag a2 cp from aT bu ct) (show(a2:Nat)<=ge from by have:=bu.size;omega);rw[<-dq];clear dq e7;go_wp2;go_loopw [17,18,86] (fun _ _ i wr=>∃t:Nat,t<=k/\i=.int .i64 t/\xU bq k ge (uZ g C t) wr/\FQ W k ga C wr/\pG a2 k gc gd (g.i++fB g.es) (g.o++lq g.es) wr/\ag a2 wr) (fun _ _ i _=>k-(intOf i).toNat)
     case atStart=>exact⟨0,aW _,rfl,hz,g3,hn,g7⟩
     case round=>
      obtain⟨t,gn,rfl,G,ha,a8,h⟩:=hrel;by_cases JO:t<k
      .have⟨y,H⟩:=aq (Tj:t<C.length);have hyk:C.getD t 0=y:=by rw[bf,H];rfl
       have h0:y<=t:=by have:=cb.le t JO;omega
       have b6:=(ha.at H).1;have bn:=(a8.at JO).1;have bo:=(a8.J.at JO).1;obtain⟨j1,gu⟩:=aq (by rw[vh,<-T.o];omega:y < (uZ g C t).length);obtain⟨ib,f7⟩:=(G.ext (aC wr)).at gu;have be:=aZ rQ e1.1 (n:=List.count t (g.i++fB g.es));have bg:=aZ rQ e1.2 (n:=List.count t (g.o++lq g.es));have bp:=zgx (g:=g) (x:=t);have⟨na,f9⟩:=aR ((g.i++fB g.es).count t);have⟨nb,gb⟩:=aR ((g.o++lq g.es).count t);rw[<-f9]at bn be bp;rw[<-gb]at bo bg bp;have i5:IntKind.i64.wrap ((na:Int)+(nb:Int))=(na:Int)+(nb:Int):=Rt;have S0:=aQ bn bo;have⟨ev,ej,eB,fc⟩:=gG h.drew (ha.ext (aC wr)) (a8.ext (aC wr)) (G.ext (aC wr));have i7:y<k:=Qu;clear bn bo f9 gb gu G ha a8 h H h0;cases a9:g.O t
       .have av:decide ((0:Int) < (na:Int)+(nb:Int))=false:=by have:=bp.2 a9;simp;omega
        have e5:=zH (zih (C:=C) a9);clear a9 bp;refine Nj ?_;go_roundw
        case rel=>exact⟨t+1,Qu,Qx,by rw[<-e5.o];exact fc,ej,eB,ev⟩
        case measure=>simp[intOf];omega
       .have av:decide ((0:Int) < (na:Int)+(nb:Int))=true:=by
         have:¬(na+nb=0):=fun Y=>by rw[bp.1 Y]at a9;cases a9
         simp;omega
        have cn:=zj7 (C:=C) a9;rw[hyk]at cn;have e5:=zH cn;have O:=fc.put y true;rw[cn]at O;have⟨HP,g5,ho,HBP⟩:=gG O (ej.Α cK.1 y (.bool true)) (eB.Α cK.2.1 cK.2.2 y (.bool true)) (ev.setCell (p:=⟨ge,y,none⟩) hj (.bool true));clear a9 bp cn O;refine Nj ?_;go_roundw
        case rel=>exact⟨t+1,Qu,Qx,HP,g5,ho,HBP⟩
        case measure=>simp[intOf];omega
      .obtain rfl:t=k:=Qu;have gs:uZ g C t=mP t C (ec g):=by rw[T.o];exact zii b0.inr
       rw[gs]at G;have⟨cW,cq,cu⟩:=er G ha h;have bi:=ai cc h;have⟨ab,ac,ad,ah⟩:=aB bi;have⟨a3,gC⟩:=aR wr;rw[<-gC]at cW cq cu ab ac ad ah ⊢;clear G ha a8 h bi gC gs JO gn;go_upto_region 27 with((at_make;refine jg _ rfl _ _ 26 rfl a3.heap.size 3 g2 (zI 0) 1 dR hi g0 g1 .i64 .i64 t t t rfl rfl rfl rfl RF SL (ae _) ?_;intro h3 FT a1;have e8:=zH FT;have cz:=zH (cy a1);clear FT a1))
       clear ab ac ad ah;have⟨U,dr⟩:=aR a3.heap.size;have hs:=zH (show nC a3 t U (ti g C 0) h3 from by have Y:=e8.o;rw[jn]at Y;refine⟨?_,by rw[sE];exact T.o.q,Qu⟩;unfold aE;rw[zij,fA,<-T.o,dr];exact Y)
       have⟨g4,hA,hc⟩:=er (cq.ext cz) (cW.ext cz) (aT cu cz);have ao:=zH (show U≠ga/\U≠ge/\(a2:Nat)<=U from by have hI:=bS cq.o.row ga rfl;have hJ:=bS cW.o.row ge rfl;have hL:=cu.size;omega)
       rw[<-dr];clear dr e8;go_wp2;go_loopw [20,21,110] (fun u _ i wr=>∃j:Nat,j<=t/\i=.int .i64 j/\u=.int .i64 (nS g C j:Nat)/\nC a3 t U (ti g C j) wr/\xU bq t ge (mP t C (ec g)) wr/\FQ W t ga C wr/\ag a2 wr) (fun _ _ i _=>t-(intOf i).toNat)
       case atStart=>exact⟨0,aW _,rfl,rfl,hs,hA,g4,hc⟩
       case round=>
        obtain⟨j,dO,rfl,rfl,J,G,ha,h⟩:=hrel;by_cases JO:j<t
        .have⟨y,H⟩:=aq (Tj:j<C.length);have hyk:C.getD j 0=y:=by rw[bf,H];rfl
         have b6:=(ha.at H).1;obtain⟨gv,-⟩:=G.at (nD C (ec g) JO);have hP:=wL g C j;have h8:=zH hyk;by_cases e:y=j
         .subst e;cases hb:pH C (ec g) y
          .rw[hb]at gv;have b4:=zcr (g:=g) (C:=C) (j:=y) (fun ch=>by rw[hb]at ch;cases ch.2);have ap:=zG (C:=C) (k:=y) b0.inr (ay Sf);obtain⟨bz,bv,b1,br,a6⟩:=pD (by rw[<-b4];exact J:nC a3 t U (ti g C (y+1)) wr) ap G ha h;clear b4 ap J G ha h hb hyk H;go_wp2;go_roundw
           case rel=>exact⟨y+1,Qu,Qx,by rw[bv.o],bz,b1,br,a6⟩
           case measure=>simp[intOf];omega
          .rw[hb]at gv;have ap:=zgg (C:=C) (k:=y) b0.inr Sf hyk;obtain⟨ip,i2⟩:=J.at (vj (C:=C) (j:=y) (by rw[<-T.o];exact JO:y<g.w));have O:=J.put y (nS g C y:Int);rw[zj8 hyk hb]at O;have⟨b2,f6⟩:=aR (nS g C y);rw[<-f6]at O hP ap ⊢;have d9:IntKind.i64.wrap ((b2:Int)+1)=(b2:Int)+1:=Rt;have⟨bz,bv,b1,br,a6⟩:=pD O ap (G.Α ao.2.1 y (zI (b2:Nat))) (ha.Α ao.1 y (zI (b2:Nat))) (h.setCell (p:=⟨U,y,none⟩) ao.2.2 (zI (b2:Nat)));clear O ap J G ha h hb hyk H f6;go_wp2;go_roundw
           case rel=>exact⟨y+1,Qu,Qx,by rw[bv.o];rfl,bz,b1,br,a6⟩
           case measure=>simp[intOf];omega
         .have av:((y:Int)==(j:Int))=false:=by rw[<-Al,pT];omega
          have b4:=zcr (g:=g) (C:=C) (j:=j) (fun ch=>e (by rw[<-hyk];exact ch.1));have ap:=zG (C:=C) (k:=j) b0.inr (au (by rw[hyk];exact e));obtain⟨bz,bv,b1,br,a6⟩:=pD (by rw[<-b4];exact J:nC a3 t U (ti g C (j+1)) wr) ap G ha h;clear b4 ap J G ha h hyk H;go_wp2;go_roundw
          case rel=>exact⟨j+1,Qu,Qx,by rw[bv.o],bz,b1,br,a6⟩
          case measure=>simp[intOf];omega
        .obtain rfl:j=t:=Qu;obtain⟨fb,ei,eo,a0,ca,e4⟩:=ny G ha h (show(Υ g C).length=j from(CO g C).t T.o.q) (show(ti g C j).length=j from(sE g C j).t T.o.q) (by rw[zgy];exact J:nC a3 j U (vk (Υ g C) (ti g C j) 0) wr);have⟨wc,d9⟩:=aR wr;rw[<-d9]at fb ei eo e4 ⊢;clear G ha h J d9 JO dO;go_wp2;go_loopw [22,134] (fun _ i wr=>∃m:Nat,m<=j/\i=.int .i64 m/\nC a3 j U (vk (Υ g C) (ti g C j) m) wr/\xU bq j ge (mP j C (ec g)) wr/\FQ W j ga C wr/\ag a2 wr) (fun _ i _=>j-(intOf i).toNat)
         case atStart=>exact⟨0,aW _,rfl,e4,fb,ei,eo⟩
         case round=>
          obtain⟨m,am,rfl,J,G,ha,h⟩:=hrel;by_cases JO:m<j
          .have⟨y,H⟩:=aq (Tj:m<C.length);have hyk:C.getD m 0=y:=by rw[bf,H];rfl
           have gR:y<=m:=by have:=cb.le m JO;omega
           have cj:m<g.w:=by rw[<-T.o];exact JO
           have Gb:=zin (j:=m) a0 ca am;have⟨v0,bb⟩:=aq (RN:y < (vk (Υ g C) (ti g C j) m).length);have⟨v1,d7⟩:=aq (RN:m < (vk (Υ g C) (ti g C j) m).length);have d8:pH C (ec g) y=true->v0=Æ g C m:=fun hb=>by
            by_cases e:y<m
            .rw[zik e (by rw[a0.o];exact am),wK C Qu]at bb;cases bb
             rw[zge (k:=m) (by rw[<-T.o];exact cb) cj,hyk]
            .obtain rfl:y=m:=Qu;rw[zil (by rw[a0.o];exact am),vj cj,ak ⟨JO,hyk,hb⟩]at bb;cases bb
             rw[Ŵ Sf hyk]
           have b6:=(ha.at H).1;obtain⟨is,-⟩:=J.at bb;obtain⟨ii,i0⟩:=J.at d7;have b3:=ha.Α ao.1 m (zI v0);have b5:=G.Α ao.2.1 m (zI v0);have bh:=J.put m v0;have ce:=h.setCell (p:=⟨U,m,none⟩) ao.2.2 (zI v0);have i4:=(b3.at H).1;have gw:=(b5.at (nD C (ec g) (Qu:y<j))).1;have i6:y<j:=Qu;cases hb:pH C (ec g) y
           .rw[hb]at gw;obtain⟨io,i1⟩:=bh.at (x:=m) (y:=v0) (by rw[gl (by rw[Gb];exact JO)]);have d0:=bh.put m (-1);rw[List.set_set,ş (by rw[wK C cj,Ŋ Sf]) (by rw[a0.o,ca.o])]at d0;have⟨HN3,HA3,HU3,FZ⟩:=gG d0 (b3.Α ao.1 m (zI (-1))) (b5.Α ao.2.1 m (zI (-1))) (ce.setCell (p:=⟨U,m,none⟩) ao.2.2 (zI (-1)));clear b3 b5 bh ce d0 d8 bb d7 H hyk gR Gb J G ha h hb;exact Yv
           .rw[hb]at gw;rw[ş (by rw[wK C cj,<-d8 hb]) (by rw[a0.o,ca.o])]at bh;have⟨HN3,HA3,HU3,FZ⟩:=gG bh b3 b5 ce;clear b3 b5 bh ce d8 bb d7 H hyk gR Gb J G ha h hb;exact Yv
          .obtain rfl:m=j:=Qu;rw[zim a0 ca]at J;obtain⟨h7,h9,fl,fs,-⟩:=J.a.p;rw[a0.o]at fl;cases fl
           have c9:=aT c0 h;have F:=b0.o;have ck:=BM g (nS g C g.w) (Υ g C) (DD g C) A1 a4 a5 (some ⟨U,0,none⟩) c1 c2 bc m wr (hg wr c9) fs (zaW F.inr) (by rw[CO];have:=F.w;omega) (by have:=F.w;omega) (by have:=wL g C g.w;have:=F.w;omega) (by have:=F.es;omega) (by have:=F.i;omega) (by have:=F.o;omega) (fun e bd=>⟨by have:=(F.el e bd).1;omega,by have:=(F.el e bd).2;omega⟩);have f8:g.map (nS g C m) (DD g C)=js g (us.zip I):=by rw[zJ F.inr (by rw[<-T.o];exact e9),<-T.o,<-he.o]
           rw[a0.o,<-T.o,f8]at ck;have⟨an,c6⟩:=aR (js g (us.zip I));rw[<-c6]at ck;have⟨e2,hh⟩:=bJ ck c6;have⟨ab,ac,ad,ah⟩:=aB (ai cc h);have⟨cR,fd⟩:=bJ (ai fa h) c9;have cV:=zH (show(w:Nat)+1<wr from(bk.1 cR).1);clear J G ha h JO am fs c9 F ck f8 c6;have⟨kc,gL⟩:=aR wr;rw[<-gL]at e2 ab ac ad ah cR fd cV ⊢;clear gL;go_wp2_with ((go_at_call 199;(with_reducible refine e2.o.x ?_);intro e j2 Y;unfold yB at Y;obtain⟨b7,d1,b8,d2,b9,d3,B,hH,gi,dc⟩:=Y;subst hH;have av:=ai cR dc;have⟨i8,i9,jp,j0⟩:=aB av;have⟨f0,f1,f2,f3⟩:=cN av;have y:=cP (v0:=.int .i64 (an.w:Nat)) (v1:=.slice b7 an.es d1) (v2:=.slice b8 an.i d2) (v3:=.slice b9 an.o d3) av;have⟨h4,h5,z2,h6⟩:=aB y;unfold dQ at h4 h5 z2 h6;have hu:=zH gi;have hf:=zH (bY (aT fd dc) (b:=(w:Nat)+1) Qu (zI (an.w:Nat)) (.slice b7 an.es d1) (.slice b8 an.i d2) (.slice b9 an.o d3));clear av y gi dc))
           exact aI (v:=.tuple #[.agg (bj an b7 d1 b8 d2 b9 d3),.slice (bH U) m m]) (by simp[results,results200,go_sem, *]) rfl (by unfold Ħ;rw[<-hh.o];exact⟨b7,d1,b8,d2,b9,d3,B,some ⟨U,0,none⟩,m,m,rfl,(hu.dQ cV).x (ix (pU cV)),hf⟩)
end
section
variable{J:Nat}
def Bd(D:bP)(r h:aL):Nat->List Int
 |0=>h
 |k+1=>(Bd D r h k).set (D.getD k 0) (r.getD k 0)
def yT D r h:∀k,(Bd D r h k).length=h
 |0=>rfl
 |k+1=>by unfold Bd;rw[iW,yT D r h k]
def ì(n:Nat)(h:bP)(r:aL):List Int:=Bd h r (List.replicate n 0) r
def kT(n:Nat)(h:bP)(rows:aP):List (List Int):=rows.map (ì n h)
def mB n h rows:(kT n h rows).length=rows:=by simp[kT]
def Ņ{v}{r}(H:r.length=v+J)(Y:v<=s)(U:s+J<=n):ì n (dd 0 v++dd s J) r=r.take v++List.replicate (s-v) 0++r.drop v++List.replicate (n-s-J) 0:=by
 have F:∀k,k<=v->Bd (dd 0 v++dd s J) r (List.replicate n 0) k=r.take k++List.replicate (n-k) 0:=by
  intro k;induction k with
  |zero=>intro _;simp[Bd]
  |succ k ih=>
   intro T;unfold Bd;rw[ih Qu];have e:(dd 0 v++dd s J).getD k 0=k:=by rw[bf,dU (by rw[c_];omega),qh Qu];simp
   have⟨x,h⟩:=aq (Qu:k<r.length);rw[e,bf,h,om _ _ Rv,cQ,iw Qu,pR,du,h];rw[show n-k=(n-(k+1))+1 by omega,C7,rO];simp
 have G:∀j,j<=J->Bd (dd 0 v++dd s J) r (List.replicate n 0) (v+j)=r.take v++List.replicate (s-v) 0++(r.drop v).take j++List.replicate (n-s-j) 0:=by
  intro j;induction j with
  |zero=>
   intro _;rw[jf,F v (ae _)];simp only[oq,lZ,fJ];rw[List.replicate_append_replicate];congr 2
   omega
  |succ j ih=>
   intro O;rw[<-ow];unfold Bd;rw[ih Qu];have e:(dd 0 v++dd s J).getD (v+j) 0=s+j:=by rw[bf,fi (by rw[c_];omega),c_,show v+j-v=j by omega,qh Qu];exact uI j s
   have⟨x,h⟩:=aq (Qu:v+j<r.length);have I:(r.drop v)[j]?=some x:=by rw[fQ];exact h
   have D:(r.take v++List.replicate (s-v) 0++(r.drop v).take j).length=s+j:=by simp only[bm,cQ,fA,fS];omega
   rw[e,bf,h,om _ _ (by rw[D];exact ae _),D,pR];rw[show n-s-j=(n-s-(j+1))+1 by omega,C7,rO,du,I];simp
 unfold ì;rw[H,G J (ae _),cZ (l:=r.drop v) Ro]
def DM rows A ε n h an b2 w(a5:bt w A rows)(a4:aO w an (bD h))(ct:rows.length<=1048576)(cB:n<=1048576)(be:∀r∈rows,r.length=h.length)(bc:∀i∈h,i<n)(cz:h.length<=1048576):az 63 #[.slice A rows ε,(n:Nat),.slice an h b2] w fun e w'=>∃u,e=.returned u/\aY w' w u (kT n h rows)/\ag w w':=by
 have⟨bv,bo,br,bq⟩:=gG a5 a4 be bc;clear a5 a4 be bc;go_enter func63,ntmps63
 go_wp2;have⟨a2,J⟩:=bJ (show aY (w.alloc (.cells #[] 26)) w (.slice (bH w) 0 0) [] from aY.empty (Db w #[] 0 (ae _) Qw rfl)) ((al w w).alloc (ae _) (.cells #[] 26));go_loopw [7,16] (fun u i wr=>∃k:Nat,k<=rows.length/\i=.int .i64 k/\aY wr w u ((kT n h rows).take k)/\ag w wr)
  (fun _ i _=>rows.length-(intOf i).toNat)
 case atStart=>exact⟨0,aW _,rfl,a2,J.o⟩
 case round=>
  obtain⟨k,cr,rfl,bg,G⟩:=hrel;have⟨ab,a0⟩:=bJ bg G;clear bg a2 J;by_cases bd:k<rows.length
  .have⟨r,U⟩:=aq bd;obtain⟨cc,o,rfl,a7⟩:=(bv.ext G).θ bd;obtain⟨b9,ch,ba,bb⟩:=a7 k r U;have⟨a1,Im,b1,ap⟩:=gG bb (br r (aU U)) (by rw[du];simp[kT,U]:(kT n h rows).take (k+1)=(kT n h rows).take k++[ì n h r]) (bo.ext G);have bh:=G.size;have bu:=zH (by simp[kT];omega:((kT n h rows).take k).length+1<=1073741824);have⟨m,ad⟩:=aR r.length;have Z:=zH ad;rw[<-ad]at ba Im;have cu:m<=1048576:=SK;clear U a7 bb ad G;have⟨I,bi⟩:=aR wr;rw[<-bi]at ab a0 a1 ap ba bh ⊢;clear bi;go_upto_region 6 with(go_at_call 98;refine(kO n _ Qu).x ?_;rintro e b8 ⟨u,rfl,am,a6⟩;obtain⟨Y,ac,rfl,-⟩:=am.p;rw[fA];have O:=zH am;have av:=zH a6;clear am a6)
   have H:=O.o;unfold aE at H;rw[fA]at H;have ao:=zH H;clear H O;go_wp2;go_loopw [24] (fun i wr=>∃j:Nat,j<=m/\i=.int .i64 j/\wr.ownsRow I 3 1 (.slice Y n ac) n ((Bd h r (List.replicate n 0) j).map (Value.int .i64))/\ag I wr)
    (fun i _=>m-(intOf i).toNat)
   case atStart=>exact⟨0,aW _,rfl,ao,av⟩
   case round=>
    obtain⟨j,cp,rfl,D,F⟩:=hrel;clear ao av;by_cases cq:j<m
    .have⟨x,hx⟩:=aq (show j<r.length by have:=Z.o;omega);have⟨d,T⟩:=aq (show j<h.length by have:=Im.o;omega);have b6:d<n:=bq d (aU T);obtain⟨ca,cF,rfl,a8⟩:=(a1.ext F).θ (k:=j) (by have:=Z.o;omega);have cn:=a8 j x hx;obtain⟨cb,cI,rfl,a9⟩:=(ap.ext F).θ (k:=j) (by rw[aS];have:=Im.o;omega);have cj:=a9 j (d:Int) (dK T);have cA:j<h.length:=SK;obtain⟨g,rfl⟩:∃g,Y=some ⟨g,0,none⟩:=by
      rcases D.2 with⟨_,H⟩|⟨g,ce,ci,e,_⟩
      .omega
      .cases e;exact⟨g,rfl⟩
     have ah:=(D.j d (zI x)).1;rw[<-eW]at ah;have b0:=zH (show(wr.setCell ⟨g,d,none⟩ (zI x)).ownsRow I 3 1 (.slice (bH g) n ac) n ((Bd h r (List.replicate n 0) (j+1)).map (Value.int .i64)) from by
      have b3:h.getD j 0=d:=by rw[bf,T];rfl
      have b4:r.getD j 0=x:=RL;unfold Bd;rw[b3,b4];exact ah)
     have co:=D.g d;have⟨z,bn⟩:=aq (by rw[yT];simpa using b6:d < (Bd h r (List.replicate n 0) j).length);have ck:af wr g d (zI z):=by rw[D.C d Qu,bI,bn];rfl
     have J:=zH (F.setCell (p:=⟨g,d,none⟩) ((bS D g rfl).1) (zI x));clear ah D hx T a8 a9 bn F;go_wp2;go_roundw
     case rel=>exact⟨j+1,Qu,Qx,b0,J.o⟩
     case measure=>simp[intOf];omega
    .obtain rfl:j=m:=Qu;have⟨bz,bp⟩:=bJ D F;clear D F;have O:=zH (show aE wr I (.slice Y n ac) (ì n h r) from by unfold aE ì;rw[yT,fA,<-Z.o];exact bz)
     go_wp2_with (at_builtin;refine m7 rfl _ _ rfl w I _ _ _ _ _ ab bp.o O.o bu.o bh rfl rfl ?_;intro cK b8 b7 b5)
     go_roundw
     case rel=>exact⟨k+1,Qu,Qx,by rw[b1.o];exact b7,a0.t b5⟩
     case measure=>simp[intOf];omega
  .go_wp2;go_ret
   have a3:=ab.o;rw[cZ (by rw[mB];omega)]at a3;exact⟨_,rfl,a3,G⟩
end
end Go.Proofs.YtpieilkmmiopfaaGreatDoor
