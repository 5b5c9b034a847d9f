/- Parts of the walks. Conditions: as stated with each. -/
import Derived.Test.YtpieilkmmiopfaaGreatDoorPk18
import Derived.Test.YtpieilkmmiopfaaGreatDoorPk20
namespace Go.Proofs.YtpieilkmmiopfaaGreatDoor
open Go.RowKit Tryz
set_option linter.all false
set_option maxHeartbeats 4000000
set_option maxRecDepth 100000
variable{A:ax}{B b c d n:Nat}{v2 v3:aG}{w:aa}{xs:aL}
def vq x a b w(a9:pO w a x)(ba:pO w b x)(bb:vR 1048576 x):az 13 (iV (dy x a) (dy x b)) w (dt w true):=by
 have a1:=((al w w).alloc Qt (.cells (dy x a) 39)).alloc Qt (.cells (dy x b) 39);have am:=(bO (w.alloc (.cells (dy x a) 39)) (.cells (dy x b) 39) (k:=w.heap.size) Qt).t (aH w _ rfl);have an:=aH (w.alloc (.cells (dy x a) 39)) (.cells (dy x b) 39) (n:=(w:Nat)+1) Qt;have⟨ad,ah,D⟩:=er (fun V (a2:ag w V)=>a9.ext a2) (fun V (a2:ag w V)=>ba.ext a2) bb;go_enter func13,ntmps13
 go_upto_region 1 with(fail)
 generalize (w.alloc _).alloc _=W at a1 am an ⊢;have⟨ao,bd,bg⟩:=er a1 am an;obtain⟨⟨F,G,H,I,J,O⟩,-⟩:=gE am;obtain⟨⟨T,U,Y,Z,ab,ac⟩,-⟩:=gE an;go_upto_region 5 with(go_at_call 32;refine(zbz a.A b.A a.c b.c x.xs _ (ad.o _ ao.o).s (ah.o _ ao.o).s D.s D.ss).x ?_;rintro e bi ⟨rfl,h⟩;have ap:=zH (aJ ao h);have a3:=zH (ai bd h);have a6:=zH (ai bg h);obtain⟨⟨F,G,H,I,J,O⟩,-⟩:=gE a3;obtain⟨⟨T,U,Y,Z,ab,ac⟩,-⟩:=gE a6)
 go_upto_region 9 with(go_at_call 33;refine(Calls.bl (tR a.A3 b.A3 a.c3 b.c3 x.x3 x.x3 _ (ad.o _ ap.o).i3 (ah.o _ ap.o).i3 (oe D.i3) (oe D.i3)) (fT rfl)).x ?_;rintro e bn ⟨rfl,h⟩;have av:=zH (aJ ap h);have a4:=zH (ai a3 h);have a7:=zH (ai a6 h);obtain⟨⟨F,G,H,I,J,O⟩,-⟩:=gE a4;obtain⟨⟨T,U,Y,Z,ab,ac⟩,-⟩:=gE a7)
 go_upto_region 11 with(go_at_call 33;refine(Calls.bl (tR a.A4 b.A4 a.c4 b.c4 x.x4 x.x4 _ (ad.o _ av.o).i4 (ah.o _ av.o).i4 (oe D.i4) (oe D.i4)) (fT rfl)).x ?_;rintro e bo ⟨rfl,h⟩;have a0:=zH (aJ av h);have a5:=zH (ai a4 h);have a8:=zH (ai a7 h);obtain⟨⟨F,G,H,I,J,O⟩,-⟩:=gE a5;obtain⟨⟨T,U,Y,Z,ab,ac⟩,-⟩:=gE a8)
 go_upto_region 13 with(go_at_call 33;refine(Calls.bl (tR a.A5 b.A5 a.c5 b.c5 x.x5 x.x5 _ (ad.o _ a0.o).i5 (ah.o _ a0.o).i5 (oe D.i5) (oe D.i5)) (fT rfl)).x ?_;rintro e bp ⟨rfl,h⟩;have bc:=zH (aJ a0 h);have be:=zH (ai a5 h);have bh:=zH (ai a8 h);obtain⟨⟨F,G,H,I,J,O⟩,-⟩:=gE be;obtain⟨⟨T,U,Y,Z,ab,ac⟩,-⟩:=gE bh)
 go_wp2;go_ret
 exact⟨rfl,bc⟩
def qG v A ε Mn D J w(G:aO w A v)(F:aO w D Mn)(T:v.length<=1048576)(O:Mn.length<=1048576)(H:∀i∈Mn,0<=i/\i<v.length):az 82 (mv D Mn J A v ε) w fun e w'=>∃u,e=.returned u/\aE w' w u (nA v Mn)/\ag w w':=by
 have⟨HV,HA,HL⟩:=er G F H;clear G F H;go_enter func82,ntmps82
 go_wp2;go_loopw [5,7,10] (fun u _ i wr=>∃k:Nat,k<=Mn.length/\i=.int .i64 k/\aE wr w u ((nA v Mn).take k)/\ag w wr)
  (fun _ _ i _=>Mn.length-(intOf i).toNat)
 case atStart=>exact⟨0,aW _,rfl,S_,al _ _⟩
 case round=>
  obtain⟨k,hk,rfl,I,FW⟩:=hrel;have I5:=zH I;clear I
  by_cases FX:k<Mn.length
  .obtain⟨i,hi'⟩:=aq FX;obtain⟨hi1,hi2⟩:=HL.o i (aU hi');obtain⟨j,hj⟩:∃j:Nat,(j:Int)=i:=⟨i.toNat,by omega⟩;subst hj;have JT:j<v.length:=by omega
   obtain⟨x,hx⟩:=aq JT;obtain⟨b,o,rfl,hc⟩:=(HV.o.ext FW).θ JT;obtain⟨b2,o2,rfl,I4⟩:=(HA.o.ext FW).θ FX;have Mo:=hc _ _ hx;have Ms:=I4 _ _ hi';obtain⟨HS,Mp⟩:=bJ (DQ hi' (by simpa using hx)) (zat v Mn k hk);have Ge:=FW.size;clear hc I4 hx hi';go_wp2_with ((at_builtin;refine qm rfl _ _ rfl _ wr _ _ _ rfl rfl I5.o (by rw[Mp.o];omega) (by omega) ?_;intro u' w1 Ij _ Ik))
   go_roundw
   case rel=>exact⟨k+1,by omega,by go_num,by rw[HS.o];exact Ij,FW.t Ik⟩
   case measure=>simp[intOf];omega
  .go_wp2;go_ret
   exact⟨_,rfl,by have h:=I5.o;rwa[cZ (by simp[nA];omega)]at h,FW⟩
def zfe a b w:az 217 (bC a b) w fun e w'=>e=.returned (zI (max a b))/\w=w':=by
 by_cases h:b<=a
 .rw[Int.max_eq_left h];rcases Int.lt_or_eq_of_le h with D|rfl
  all_goals
   go_enter func217,ntmps217
   go_wp2;go_ret
   exact⟨rfl,rfl⟩
 .have D:a<b:=Qu;rw[Int.max_eq_right Qu];go_enter func217,ntmps217
  exact We
def zdN a b w:az 218 (bC a b) w fun e w'=>e=.returned (zI (min a b))/\w=w':=by
 by_cases h:a<=b
 .rw[Int.min_eq_left h];rcases Int.lt_or_eq_of_le h with D|rfl
  all_goals
   go_enter func218,ntmps218
   go_wp2;go_ret
   exact⟨rfl,rfl⟩
 .have D:b<a:=Qu;rw[Int.min_eq_right Qu];go_enter func218,ntmps218
  exact We
def zgs t f l A ε n h D w(H:n=t.length)(G:aO w A t)(F:aO w h (bD l))(I:t.length<=1048576)(hm:l.length<=1048576)(hl:∀x∈l,t[x]?=some ((f x:Nat):Int)):az 82 #[.slice h l D,.slice A n ε] w fun e w'=>∃A3 c3,e=.returned (.slice A3 l c3)/\Fr w' w w' (fun W=>aO W A3 (bD (l.map f)))/\ag w w':=by
 subst H;have:=qG t A ε (bD l) h D w G F I RZ (Du hl);refine Ng fun this w' hb A3 c3 hu=>?_
 exact⟨A3,c3,QV,hu.fr hb.size,hb⟩
def aE.frO(h:aE w B (.slice A n c) xs)(D:B<=(w:Nat)):Fr w B w (fun W=>aE W B (.slice A n c) xs):=tU (fun W F=>h.y F) (fun _ _ G h=>h.ext G) D
def zgt t f l A ε n h D B(w:aa)(H:B<=(w:Nat))(J:n=t.length)(I:aO w A t)(G:aO w h (bD l))(O:t.length<=1048576)(hm:l.length<=1048576)(hl:∀x∈l,t[x]?=some ((f x:Nat):Int)):az 82 #[.slice h l D,.slice A n ε] w fun e w'=>∃A3 c3,e=.returned (.slice A3 l c3)/\Fr w' w w' (fun W=>aE W B (.slice A3 l c3) (bD (l.map f)))/\(∀g,(Value.slice A3 l c3).ownBlock=some g->(w:Nat)<=g/\g < (w':Nat))/\ag w w':=by
 subst J;have:=qG t A ε (bD l) h D w I G O RZ (Du hl);refine Ng fun this w' hb A3 c3 hu=>?_
 have hl:(bD (l.map f)).length=l:=QV;rw[hl]at hu ⊢;exact⟨A3,c3,rfl,(hu.frO hb.size).E fun V F=>F.x H,fun g e=>bS hu g e,hb⟩
def zl3{a e}(D:∀g,v2.ownBlock=some g->a<=g/\g<b)(F:∀g,v3.ownBlock=some g->c<=g/\g<d)(H:b<=c)(I:b<=d)(J:d<=e):(∀g,v2.ownBlock=some g->v3.ownBlock≠some g/\g<e)/\∀g,v3.ownBlock=some g->g<e:=⟨fun g h=>⟨fun G=>by have:=D g h;have:=F g G;omega,by have:=D g h;omega⟩,fun g h=>by have:=F g h;omega⟩
structure BH(B0 B:Nat)(V:aa)(A1:ax)(c1:Nat)(A2:ax)(c2:Nat)(A3:ax)(c3:Nat)(g:Gr):Prop where
 b:B0<=B
 s:B<=(V:Nat)
 i:aE V B0 (.slice A2 g.i c2) (bD g.i)
 o:aE V B0 (.slice A3 g.o c3) (bD g.o)
 d2:∀g',(Value.slice A2 g.i c2).ownBlock=some g'->(Value.slice A3 g.o c3).ownBlock≠some g'/\g'<B
 d3:∀g',(Value.slice A3 g.o c3).ownBlock=some g'->g'<B
 es:bw 155 4 Cl V B (.slice A1 g.es c1) g.es
def yB(g:Gr)(w:aa)(e:Ending)(w':aa):Prop:=∃A1 c1 h c2 D F B,e=.returned (.agg (bj g A1 c1 h c2 D F))/\BH w B w' A1 c1 h c2 D F g/\ag w w'
def BM g(J:Nat)t f A1 A2 A3 T c1 c2 c3 ab w(hG:jV w A1 A2 A3 g)(hT:aO w T t)(hl:zcA t f g)(b0:t.length<=65536)(b8:g.w<=65536)(b6:J<=65536)(Y:g.es.length<=65536)(hi:g.i.length<=65536)(ho:g.o.length<=65536)(KI:∀e∈g.es,e.i.length<=65536/\e.o.length<=65536):az 199 #[.agg (bj g A1 c1 A2 c2 A3 c3),.slice T t ab,J] w (yB (g.map J f) w):=by
 obtain⟨gw,es,gi,go⟩:=g;refine PR fun LI LO hB hq hr HG HT KQ KM KB KV KA IJ KP=>?_;clear hT b0 hG hl hi ho KI
 go_enter func199,ntmps199
 go_upto_region 1 with(fail)
 generalize (w.alloc _).alloc _=W at hB hq hr HG HT ⊢;have⟨x0,x1,x2,x3⟩:=aB hq;obtain⟨a0,br,bq,GX,a4,a5⟩:=ny hB hr hq (show(w:Nat)+2<=W from(bk.1 hr).1) (fun(V:aa) (hV:ag W V)=>zgt t f gi T ab t A2 c2 W V hV.size rfl (HT.ext hV) (HG.i.ext hV) KA KB LI) (fun(V:aa) (hV:ag W V)=>zgt t f go T ab t A3 c3 W V hV.size rfl (HT.ext hV) (HG.o.o.ext hV) KA KV LO);have S0:=aQ x2 x3;clear hB hr hq x0 x1 x2 x3 LI LO;go_cut [7] from 10 (fun b1 V=>∃Z G H D F,b1=.pointer (bH Z)/\bA V Z #[.int .i64 J,.slice none 0 0,.slice G gi H,.slice D go F] 54/\(W:Nat)<=Z/\AN V W Z (fun av=>aE av W (.slice G gi H) (bD (gi.map f)))/\AN V W Z (fun av=>aE av W (.slice D go F) (bD (go.map f)))/\((∀g,(Value.slice G gi H).ownBlock=some g->(Value.slice D go F).ownBlock≠some g/\g < (V:Nat))/\∀g,(Value.slice D go F).ownBlock=some g->g < (V:Nat))/\ag W V)
 case first=>
  go_region_held3 (fun V=>af V w 2 (.slice A2 gi c2)/\af V w 3 (.slice A3 go c3))
   (first|with_reducible exact S0|with_reducible exact j6 (aC _) S0|with_reducible exact j6 (aw _ _).drew S0|with_reducible exact j6 GY.o S0|with_reducible exact j6 (GY.o.alloc GY.o.size _) S0|with_reducible exact j6 Hk.o S0|with_reducible exact j6 (Hk.o.alloc Hk.o.size _) S0|with_reducible exact j6 (bY Hk.o (ae _) _ _ _ _) S0|with_reducible exact j6 (bY Hk.o GY.o.size _ _ _ _) S0)
   ((first|(go_at_call 82;(with_reducible refine(a4.o _ VL).x ?_);rintro e w7 ⟨G,H,rfl,IB,bz,FR⟩;have ao:=zH bz;have GY:Hd (ag W w7):=VZ;have Iz:=zH IB;have G5:=zH FR;clear IB FR)|(go_at_call 82;(with_reducible refine(a5.o _ VR).x ?_);rintro e w8 ⟨D,F,rfl,Gf,am,Gg⟩;have ap:=zH am;have Hk:Hd (ag W w8):=V7;have KN:Hd (ag w7 w8):=VX;have Iv:=zH Gf;have b3:=zH Gg;(first|(have I:=ai (ai (ky W _) G5) Gg;have⟨bc,bd,be,bg⟩:=aB I;have⟨f0,f1,f2,f3⟩:=cN I;have HZ:=zH I;clear I)|(have I:=ai (aH w7 _ rfl) Gg;have⟨bc,bd,be,bg⟩:=aB I;have⟨f0,f1,f2,f3⟩:=cN I;have HZ:=zH I;clear I)|skip);clear Gf Gg)))
  all_goals
   go_wp2_with fail
   go_meet
   first
    |with_reducible exact⟨w8,G,H,D,F,rfl,aH w8 _ rfl,Hk.o.size,AN.mk ((Iz.o.ext KN.o (ae _)).ext (aw _ _) KN.o.size) (ae _) (aZ KN.o.size (aw _ _).size) (au KN.o.size),AN.mk (Iv.o.ext (aw _ _) (ae _)) GY.o.size (aw _ _).size (au (ae _)),zl3 ao.o ap.o Tx KN.o.size TX,Hk.o.alloc Hk.o.size _⟩
    |with_reducible exact⟨w7,G,H,D,F,rfl,cP HZ.o,GY.o.size,AN.mk4 (Iz.o.ext KN.o (ae _)) (ae _) KN.o.size (au (ae _)),AN.mk4 Iv.o (aZ GY.o.size (aw _ _).size) (ae _) (ay Qt),zl3 ao.o ap.o Tx KN.o.size TX,bY Hk.o GY.o.size _ _ _ _⟩
    |with_reducible exact⟨W,G,H,D,F,rfl,cP HZ.o,ae _,AN.mk4 (Iz.o.ext KN.o (ae _)) (aw _ _).drew.size KN.o.size (ay Qt),AN.mk4 Iv.o GY.o.size (ae _) (ay UN),zl3 ao.o ap.o Tx KN.o.size TX,bY Hk.o (ae _) _ _ _ _⟩
 case rest=>
  obtain⟨Z,G,H,D,F,rfl,I,a6,a8,a9,a7,ac⟩:=hcut;have⟨a3,bn,bo,a1,HZ,bu⟩:=ny a7 a8 a9 ac a6 (ai br ac);have bb:=(bk.1 I).1;have Kz:=zH bb;have S1:=(aB (ai bq ac)).2.1;have⟨z0,z1,z2,z3⟩:=aB I;have b2:=zH (HG.ext ac);clear a8 a9 ac a6 bb a7 a4 a5 S0 HG HT;go_wp2;go_loopw [23] (fun i wr=>∃k:Nat,k<=es.length/\i=.int .i64 k/\(∃C1 m1,bA wr Z #[.int .i64 J,.slice C1 k m1,.slice G gi H,.slice D go F] 54/\bw 155 4 Cl wr wc (.slice C1 k m1) ((es.map (Ed.map f)).take k))/\b_ Z (Z+1) wc wr) (fun i _=>es.length-(intOf i).toNat)
  case atStart=>exact⟨0,aW _,rfl,⟨none,0,I,bw.nil _ _ _ _ _⟩,b_.refl _ _ _⟩
  case round=>
   obtain⟨k,b7,rfl,⟨C1,m1,ad,FT⟩,O⟩:=hrel;clear z0 z1 z2 z3 I S1;have ah:ag w wr:=(aT a0 a1).t (O.L Uc (aT a0 a1).size);have IM:=O.size;by_cases bv:k<es.length
   .have⟨e,Y⟩:=aq bv;obtain⟨b4,b5,D1,d1,D2,d2,rfl,x0,x1,x2,x3,hi1,hi2⟩:=fU ((IJ.ext ah).es) Y;obtain⟨L1,L2⟩:=KQ e (aU Y);obtain⟨N1,N2⟩:=KM e (aU Y);have Gl:=zH (by rw[du,bI,Y];rfl:(es.map (Ed.map f)).take (k+1)=(es.map (Ed.map f)).take k++[e.map f]);have ba:((es.map (Ed.map f)).take k).length=k:=by rw[cQ,bs];omega
    have⟨Kx,a2,Jq,II,KS⟩:=pD ba ah O FT ad;have b9:=(bk.1 ad).1;obtain⟨ek,ev,ei,IN⟩:=e;dsimp only at x0 x1 x2 x3 hi1 hi2 L1 L2 N1 N2;have⟨Gm,G6⟩:=bM wr (.cells (eh ek ev D1 ei d1 D2 IN d2) 155);clear Y ba FT O ad ah;go_upto_region 5 with(fail)
    generalize wr.alloc _=w2 at Gm G6 ⊢;have⟨Ia,KT,Hf⟩:=er Gm (fun(V:aa) (hV:ag wr V)=>zgs t f ei T ab t D1 d1 V rfl (KP.ext (aT a2 hV)) (hi1.ext hV) KA Qu L1) (fun(V:aa) (hV:ag wr V)=>zgs t f IN T ab t D2 d2 V rfl (KP.ext (aT a2 hV)) (hi2.ext hV) KA Qu L2);exact Z8
   .obtain rfl:k=es.length:=Qu;have⟨z0,z1,z2,z3⟩:=aB ad;have an:=nL bu O (ay Uc);have⟨bc,bd,be,bg⟩:=aB an;have⟨f0,f1,f2,f3⟩:=cN an;have y:=cP (v0:=.int .i64 J) (v1:=.slice C1 es m1) (v2:=.slice G gi H) (v3:=.slice D go F) an;have⟨y0,y1,y2,y3⟩:=aB y;have⟨bi,Jq⟩:=bJ (bY ah (b:=(w:Nat)+1) Qu (zI J) (.slice C1 es m1) (.slice G gi H) (.slice D go F)) O;have am:bw 155 4 Cl wr wc (.slice C1 es m1) (es.map (Ed.map f)):=Wy;have bp:=zH am;clear y ad an O FT am;go_wp2;have ca:=GX.o;have bh:=HZ.o;have cb:=Kz.o;refine aI (v:=.agg (rI J C1 es m1 G gi H D go F)) (by simp[results,results199,go_sem, *]) rfl ⟨C1,m1,G,H,D,F,wc,?_,⟨?_,?_,?_,?_,?_,?_,?_⟩,bi⟩
    .show Ending.returned (Value.agg #[_,Value.slice C1 _ m1,Value.slice G _ H,Value.slice D _ F])=Ending.returned (Value.agg #[_,Value.slice C1 (es.map (Ed.map f)) m1,Value.slice G (gi.map f) H,Value.slice D (go.map f) F])
     rw[bs,bs,bs];rfl
    .omega
    .show(wc:Nat)<=(dQ wr ((w:Nat)+1) _ _ _ _)
     rw[eK];exact Jq.size
    .show aE _ _ (Value.slice G (gi.map f) H) (bD (gi.map f))
     rw[bs];exact((bn.late Jq bh).zfM (b:=(w:Nat)+1) Qu).all.D.x Qu
    .show aE _ _ (Value.slice D (go.map f) F) (bD (go.map f))
     rw[bs];exact((bo.late Jq bh).zfM (b:=(w:Nat)+1) Qu).all.D.x Qu
    .show ∀U,(Value.slice G (gi.map f) H).ownBlock=some U->(Value.slice D (go.map f) F).ownBlock≠some U/\U < (wc:Nat)
     rw[bs,bs];exact a3.1
    .show ∀U,(Value.slice D (go.map f) F).ownBlock=some U->U < (wc:Nat)
     rw[bs];exact a3.2
    .show bw _ _ _ _ _ (Value.slice C1 (es.map (Ed.map f)) m1) (es.map (Ed.map f))
     rw[bs];exact(((bp.setCell (a:=⟨(w:Nat)+1,0,none⟩) (by show(w:Nat)+1<_;omega) _).setCell (a:=⟨(w:Nat)+1,1,none⟩) (by show(w:Nat)+1<_;omega) _).setCell (a:=⟨(w:Nat)+1,2,none⟩) (by show(w:Nat)+1<_;omega) _).setCell (a:=⟨(w:Nat)+1,3,none⟩) (by show(w:Nat)+1<_;omega) _
end Go.Proofs.YtpieilkmmiopfaaGreatDoor
