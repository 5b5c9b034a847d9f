/- Parts of the walks. Conditions: as stated with each. -/
import Derived.Test.YtdpgblncijojiaaGreatDoorPk23
namespace Go.Proofs.YtdpgblncijojiaaGreatDoor
open Go.RowKit Tryz
set_option linter.all false
set_option maxHeartbeats 4000000
set_option maxRecDepth 100000
variable{A:an}{B b c d n:Nat}{v2 v3:au}{w:aa}{xs:aG}
def zb_(t:aG)(f:gF)(l:bX)(A:an)(cap n:Nat)(A2:an)(D:Nat)(w:aa)(O:n=t.length)(I:aT w A t)(H:aT w A2 (bF l))(Q:t.length<=1048576)(J:l.length<=1048576)(F:∀x∈l,t[x]?=some ((f x:Nat):Int)):aw 171 #[.slice A2 l D,.slice A n cap] w fun e w'=>∃A3 c3,e=.returned (.slice A3 l c3)/\Fr w' w w' (fun W=>aT W A3 (bF (l.map f)))/\ai w w':=by subst O;have:=yw t A cap (bF l) A2 D w I H Q (by rw[bj];exact J) (DY F);rw[bj]at this;refine this.mono ?_;rintro e w' ⟨u,rfl,z,E⟩;rw[za F]at z;obtain⟨A3,c3,rfl,-⟩:=z.view;exact⟨A3,c3,Sj,z.fr E.size,E⟩
def ar.frO(h:ar w B (.slice A n c) xs)(z:B<=(w:Nat)):Fr w B w (fun W=>ar W B (.slice A n c) xs):=nH (fun W D=>h.same D) (fun _ _ E h=>h.ext E) z
def zca(t:aG)(f:gF)(l:bX)(A:an)(cap n:Nat)(A2:an)(E:Nat)(B:Nat)(w:aa)(I:B<=(w:Nat))(Q:n=t.length)(J:aT w A t)(H:aT w A2 (bF l))(R:t.length<=1048576)(O:l.length<=1048576)(D:∀x∈l,t[x]?=some ((f x:Nat):Int)):aw 171 #[.slice A2 l E,.slice A n cap] w fun e w'=>∃A3 c3,e=.returned (.slice A3 l c3)/\Fr w' w w' (fun W=>ar W B (.slice A3 l c3) (bF (l.map f)))/\(∀g,(Value.slice A3 l c3).ownBlock=some g->(w:Nat)<=g/\g < (w':Nat))/\ai w w':=by subst Q;have:=yw t A cap (bF l) A2 E w J H R (by rw[bj];exact O) (DY D);rw[bj]at this;refine this.mono ?_;rintro e w' ⟨u,rfl,z,F⟩;rw[za D]at z;obtain⟨A3,c3,rfl,-⟩:=z.view;have D:(bF (l.map f)).length=l:=Sj;rw[D]at z ⊢;exact⟨A3,c3,rfl,(z.frO F.size).imp fun V h=>h.mono I,fun g e=>bZ z g e,F⟩
def zhS{a e:Nat}(z:∀g,v2.ownBlock=some g->a<=g/\g<b)(D:∀g,v3.ownBlock=some g->c<=g/\g<d)(E:b<=c)(F:b<=d)(H:d<=e):(∀g,v2.ownBlock=some g->v3.ownBlock≠some g/\g<e)/\∀g,v3.ownBlock=some g->g<e:=⟨fun g h=>⟨fun h'=>by have:=z g h;have:=D g h';omega,by have:=z g h;omega⟩,fun g h=>by have:=D g h;omega⟩
structure tZ(B0 B:Nat)(V:aa)(A1:an)(c1:Nat)(A2:an)(c2:Nat)(A3:an)(c3:Nat)(g:Gr):Prop where
 b:B0<=B
 s:B<=(V:Nat)
 i:ar V B0 (.slice A2 g.i c2) (bF g.i)
 o:ar V B0 (.slice A3 g.o c3) (bF g.o)
 d2:∀g',(Value.slice A2 g.i c2).ownBlock=some g'->(Value.slice A3 g.o c3).ownBlock≠some g'/\g'<B
 d3:∀g',(Value.slice A3 g.o c3).ownBlock=some g'->g'<B
 es:bN 166 4 EEd V B (.slice A1 g.es c1) g.es
def mP(g:Gr)(w:aa)(e:Ending)(w':aa):Prop:=∃A1 c1 A2 c2 A3 c3 B,e=.returned (.agg (bI g A1 c1 A2 c2 A3 c3))/\tZ w B w' A1 c1 A2 c2 A3 c3 g/\ai w w'
def rE(g:Gr)(a4:Nat)(t:aG)(f:gF)(A1 A2 A3 At:an)(c1 c2 c3 bz:Nat)(w:aa)(d3:nX w A1 A2 A3 g)(d4:aT w At t)(b2:DX t f g)(hj:t.length<=65536)(ht:g.w<=65536)(hr:a4<=65536)(be:g.es.length<=65536)(hi:g.i.length<=65536)(b4:g.o.length<=65536)(fa:∀e∈g.es,e.i.length<=65536/\e.o.length<=65536):aw 161 #[.agg (bI g A1 c1 A2 c2 A3 c3),.slice At t bz,a4] w (mP (g.map a4 f) w):=by
 obtain⟨d0,D,F,go⟩:=g;dsimp only at *;have e3:∀x∈F,t[x]?=some ((f x:Nat):Int):=fun x bb=>b2 x (aF bb)
 have e4:∀x∈go,t[x]?=some ((f x:Nat):Int):=fun x bb=>b2 x (aA (aF bb))
 have LE:∀e∈D,(∀x∈e.i,t[x]?=some ((f x:Nat):Int))/\∀x∈e.o,t[x]?=some ((f x:Nat):Int):=fun e fl=>⟨fun x bb=>b2 x (aA (aA ⟨e,fl,aF bb⟩)),fun x bb=>b2 x (aA (aA ⟨e,fl,aA bb⟩))⟩
 have b0:=((aj w w).alloc (ag _) (.cells (xJ d0 A1 D c1 A2 F c2 A3 go c3) 151)).alloc RS (.cells cw 151);have ct:=(b_ (w.alloc (.cells (xJ d0 A1 D c1 A2 F c2 A3 go c3) 151)) (.cells cw 151) (k:=w.heap.size) RS).trans (az w _ rfl);have cu:=az (w.alloc (.cells (xJ d0 A1 D c1 A2 F c2 A3 go c3) 151)) (.cells cw 151) (n:=(w:Nat)+1) RS;obtain⟨bm,ce,gB,gn⟩:=fU (d3.ext b0) (d4.ext b0) LE fa;have hf:F.length<=1048576:=RU;have hg:go.length<=1048576:=RU;have cn:t.length<=1048576:=RU;obtain⟨gA,eA⟩:=bS d3 d4;clear d3 d4 b2 LE fa hi b4 hj;go_enter func161,ntmps161
 go_upto_region 1 with(fail)
 generalize (w.alloc _).alloc _=W at b0 ct cu bm ce ⊢;obtain⟨cz,cF,b9,ca⟩:=aK ct;obtain⟨eb,g4,g3,EV,em,en⟩:=mA b0 cu ct (show(w:Nat)+2<=W from(aM.1 cu).1) (fun(V:aa) (Q:ai W V)=>zca t f F At bz t A2 c2 W V Q.size rfl (ce.ext Q) (bm.i.ext Q) cn hf e3) (fun(V:aa) (Q:ai W V)=>zca t f go At bz t A3 c3 W V Q.size rfl (ce.ext Q) (bm.o.o.ext Q) cn hg e4);have ab:=bn b9 ca;clear b0 cu ct cz cF b9 ca e3 e4;go_cut [7] from 10 (fun hm V=>∃O I J E H,hm=.pointer (aY O)/\aU V O #[.int .i64 a4,.slice none 0 0,.slice I F J,.slice E go H] 151/\(W:Nat)<=O/\uo V W O (fun dc=>ar dc W (.slice I F J) (bF (F.map f)))/\uo V W O (fun dc=>ar dc W (.slice E go H) (bF (go.map f)))/\((∀g,(Value.slice I F J).ownBlock=some g->(Value.slice E go H).ownBlock≠some g/\g < (V:Nat))/\∀g,(Value.slice E go H).ownBlock=some g->g < (V:Nat))/\ai W V)
 case first=>
  go_region_held3 (fun V=>ah V w 2 (.slice A2 F c2)/\ah V w 3 (.slice A3 go c3))
   (first|with_reducible exact ab|with_reducible exact mC (aI _) ab|with_reducible exact mC (aD _ _).drew ab|with_reducible exact mC z.o ab|with_reducible exact mC (z.o.alloc z.o.size _) ab|with_reducible exact mC Z.o ab|with_reducible exact mC (Z.o.alloc Z.o.size _) ab|with_reducible exact mC (de Z.o (ag _) _ _ _ _) ab|with_reducible exact mC (de Z.o z.o.size _ _ _ _) ab)
   ((first|(go_at_call 171;(with_reducible refine(em.o _ (by first|with_reducible exact aI _|with_reducible exact(aD _ _).drew)).mono ?_);rintro e b8 ⟨I,J,rfl,b5,hh,a7⟩;have c4:=zH hh;have z:Hd (ai W b8):=(by first|with_reducible exact zH ((aI _).trans (a7.mono (aI _).size))|with_reducible exact zH ((aD _ _).drew.trans (a7.mono (aD _ _).drew.size)));have bo:=zH b5;have es:=zH a7;clear b5 a7)|(go_at_call 171;(with_reducible refine(en.o _ (by first|with_reducible exact z.o|with_reducible exact z.o.alloc z.o.size _)).mono ?_);rintro e am ⟨E,H,rfl,b6,co,ad⟩;have c5:=zH co;have Z:Hd (ai W am):=(by first|with_reducible exact zH (cC z.o ad)|with_reducible exact zH ((z.o.alloc z.o.size _).trans (ad.mono (z.o.alloc z.o.size _).size)));have U:Hd (ai b8 am):=(by first|with_reducible exact zH ad|with_reducible exact zH ((aD _ _).trans (ad.mono (aD _ _).size)));have bp:=zH b6;have ho:=zH ad;(first|(have ac:=ak (ak (zaX W _) es) ad;obtain⟨f6,f7,f8,f9⟩:=aK ac;obtain⟨f0,f1,f2,f3⟩:=cP ac;have HZ:=zH ac;clear ac)|(have ac:=ak (az b8 _ rfl) ad;obtain⟨f6,f7,f8,f9⟩:=aK ac;obtain⟨f0,f1,f2,f3⟩:=cP ac;have HZ:=zH ac;clear ac)|skip);clear b6 ad)))
  all_goals
   go_wp2_with fail
   go_meet
   first
    |with_reducible exact⟨am,I,J,E,H,rfl,az am _ rfl,Z.o.size,uo.mk ((bo.o.ext U.o (ag _)).ext (aD _ _) U.o.size) (ag _) (bc U.o.size (aD _ _).size) (aA U.o.size),uo.mk (bp.o.ext (aD _ _) (ag _)) z.o.size (aD _ _).size (aA (ag _)),zhS c4.o c5.o Ut U.o.size UY,Z.o.alloc Z.o.size _⟩
    |with_reducible exact⟨b8,I,J,E,H,rfl,cT HZ.o,z.o.size,uo.mk4 (bo.o.ext U.o (ag _)) (ag _) U.o.size (aA (ag _)),uo.mk4 bp.o (bc z.o.size (aD _ _).size) (ag _) (aF RS),zhS c4.o c5.o Ut U.o.size UY,de Z.o z.o.size _ _ _ _⟩
    |with_reducible exact⟨W,I,J,E,H,rfl,cT HZ.o,ag _,uo.mk4 (bo.o.ext U.o (ag _)) (aD _ _).drew.size U.o.size (aF RS),uo.mk4 bp.o z.o.size (ag _) (aF (by have:=es.o.size;simp at this;omega)),zhS c4.o c5.o Ut U.o.size UY,de Z.o (ag _) _ _ _ _⟩
 case rest=>
  obtain⟨O,I,J,E,H,rfl,ac,e7,fb,fd,e9,b1⟩:=hcut;obtain⟨ej,gs,gw,eg,HZ,g5⟩:=mA e9 fb fd b1 e7 (ak g4 b1);have fo:=(aM.1 ac).1;have e2:=zH fo;have bv:=(aK (ak g3 b1)).2.1;obtain⟨cI,cb,z2,cO⟩:=aK ac;have hn:=zH (bm.ext b1);clear fb fd b1 e7 fo e9 em en ab bm ce;go_wp2;go_loopw [23] (fun i wr=>∃k:Nat,k<=D.length/\i=.int .i64 k/\(∃R Y,aU wr O #[.int .i64 a4,.slice R k Y,.slice I F J,.slice E go H] 151/\bN 166 4 EEd wr wc (.slice R k Y) ((D.map (Ed.map f)).take k))/\dh O (O+1) wc wr) (fun i _=>D.length-(intOf i).toNat)
  case atStart=>exact⟨0,bf _,rfl,⟨none,0,ac,bN.nil _ _ _ _ _⟩,dh.refl _ _ _⟩
  case round=>
   obtain⟨k,hs,rfl,⟨R,Y,b7,cr⟩,ba⟩:=hrel;clear cI cb z2 cO ac bv;have ck:ai w wr:=(cC eb eg).trans (ba.below Vf (cC eb eg).size);have fn:=ba.size;by_cases he:k<D.length
   .obtain⟨e,be⟩:=aB he;obtain⟨hp,hq,cR,d1,c0,d2,rfl,cz,cF,b9,ca,d5,d6⟩:=pt ((gA.ext ck).es) be;obtain⟨c9,da⟩:=gB e (a_ be);obtain⟨e5,e6⟩:=gn e (a_ be);have g7:=zH (by rw[gK,cp,be];rfl:(D.map (Ed.map f)).take (k+1)=(D.map (Ed.map f)).take k++[e.map f]);have fi:((D.map (Ed.map f)).take k).length=k:=by rw[dH,bt];omega
    obtain⟨ek,ei,br,c7,hc⟩:=lv fi ck ba cr b7;have hu:=(aM.1 b7).1;obtain⟨a0,a1,ao,ap⟩:=e;dsimp only at cz cF b9 ca d5 d6 c9 da e5 e6;obtain⟨cj,d7⟩:=dK wr (.cells (ju a0 a1 cR ao d1 c0 ap d2) 166);clear be fi cr ba b7 ck;go_upto_region 5 with(fail)
    generalize wr.alloc _=hk at cj d7 ⊢;obtain⟨cc,gC,gL⟩:=d_ cj (fun(V:aa) (Q:ai wr V)=>zb_ t f ao At bz t cR d1 V rfl (eA.ext (cC ei Q)) (d5.ext Q) cn RU c9) (fun(V:aa) (Q:ai wr V)=>zb_ t f ap At bz t c0 d2 V rfl (eA.ext (cC ei Q)) (d6.ext Q) cn RU da);obtain⟨fs,fz,n2,f4⟩:=aK d7;have ea:=ak hc cj;have ha:=zH ea;obtain⟨-,f5,-,-⟩:=aK ea;have ab:=bn f5 (bn fs (bn fz (bn n2 f4)));clear cz cF b9 ca d5 d6 c9 da e5 e6 cj d7 fs fz n2 f4 ea f5;refine bJ (S:=fun V=>ah V O 1 (.slice R k Y)/\ah V wr 0 (zI a0)/\ah V wr 1 (zI a1)/\ah V wr 2 (.slice cR ao d1)/\ah V wr 3 (.slice c0 ap d2)) 18 Si ab (fun hHeld=>?_);refine aC 0 ?_;refine aC 1 ?_;refine aC 2 ?_;refine aC 3 ?_;refine aC 4 ?_;refine aC 5 ?_;refine aC 6 ?_;refine aC 7 ?_;refine aC 8 ?_;refine aC 10 ?_;refine aC 11 ?_;refine aC 12 ?_;refine bM 9 fun K hK=>?_
    go_simp;refine(gC.o _ (cc.drew)).mono ?_;rintro e b8 ⟨a2,a5,rfl,b5,a7⟩;obtain⟨z,e0,bo⟩:=d_ (cc.drew.trans (a7.mono cc.size)) ((aI hk).trans a7) (b5.to (lo':=wr.heap.size) cc.size (ag _));clear b5 a7;go_simp;have bv:=ze0 e0 ab;refine hK.out _ _ (fun _=>bv) (fun hHeld=>?_);clear hK K hHeld;try simp only[Act.put,zA]
    refine bM 13 fun K hK=>?_
    go_simp;refine(gL.o _ z.o).mono ?_;rintro e am ⟨a3,a6,rfl,b6,ad⟩;obtain⟨Z,U,bp,hb⟩:=fU (cC z ad) ad (b6.to (lo':=wr.heap.size) z.size (ag _)) (ak (ak ha e0) ad);clear b6 ad;go_simp;have ci:=ze0 U.o bv;refine hK.out _ _ (fun _=>ci) (fun hHeld=>?_);clear hK K hHeld;try simp only[Act.put,zA]
    refine bM 14 fun K hK=>?_
    go_simp;refine hK.out _ _ (fun _=>ci) (fun hHeld=>?_);clear hK K hHeld;try simp only[Act.put,zA]
    refine bM 15 fun K hK=>?_
    go_simp;have a9:=ze0 (aD am (.cells (ju a0 a1 a2 ao a5 a3 ap a6) 166)) ci;refine hK.out _ _ (fun _=>a9) (fun hHeld=>?_);clear hK K hHeld;try simp only[Act.put,zA]
    obtain⟨eo,a8⟩:=bS (az am (.cells (ju a0 a1 a2 ao a5 a3 ap a6) 166) rfl) (aD am (.cells (ju a0 a1 a2 ao a5 a3 ap a6) 166));have c6:=zH ((c7.ext Z.o).ext a8);have e1:=zH (show jS EEd (am.alloc (.cells (ju a0 a1 a2 ao a5 a3 ap a6) 166)) wc (.slice R k Y) (Ed.map f ⟨a0,a1,ao,ap⟩) [.int .i64 a0,.int .i64 a1,.slice a2 ao a5,.slice a3 ap a6] from by
     obtain⟨cs,b4⟩:=c7.o;refine⟨wr,am,fn,a8.size,fun g e=>aF ((bZ b4.outer g e).2),?_⟩;refine Fr.imp (((bo.ext U.o (ag _)).to (ag _) U.o.size |>.and bp.o).ext a8 (ag _)) fun V Q=>⟨a2,a5,a3,a6,?_,Q.1,Q.2⟩
     simp[Ed.map])
    obtain⟨ev,ch⟩:=bS (show(wc:Nat)<=(am.alloc (.cells (ju a0 a1 a2 ao a5 a3 ap a6) 166)) from bc fn (bc Z.o.size a8.size)) (ak hb a8);generalize am.alloc _=hl at eo a8 c6 e1 ev ch a9 ⊢;have gV:=zH (zfq c6 ch RX);refine bM 16 fun K hK=>?_
    refine nJ zhJ rfl (.tmp 28) (.tmp 42) rfl wc hl (.slice R k Y) ((D.map (Ed.map f)).take k) (Ed.map f ⟨a0,a1,ao,ap⟩) [.int .i64 a0,.int .i64 a1,.slice a2 ao a5,.slice a3 ap a6] am c6.o rfl T4 e1.o (by rw[ek.o];omega) ev.o rfl rfl eo.o ?_;intro dT dl gb d8 bi hd e8;rw[ek.o]at d8 ⊢;obtain⟨g1,c8,g8⟩:=d_ d8 ((bi.block O (aM.1 ch).1 (fun e=>gV e.symm)).trans ch) (show dh O (O+1) wc gb from(br.trans (dh.iL (cC Z.o a8))).low e8);obtain⟨cI,cb,z2,cO⟩:=aK c8;obtain⟨gc,gd,gf,gi⟩:=cP c8;have b3:some wr.heap.size≠(Value.slice R k Y).ownBlock:=fun e=>by obtain⟨cs,b4⟩:=c7.o;have:=(bZ b4.outer _ e.symm).2;omega
    have db:=bn cb (bn (xW bi a9.2.1 b3) (bn (xW bi a9.2.2.1 b3) (bn (xW bi a9.2.2.2.1 b3) (xW bi a9.2.2.2.2 b3))));clear d8 bi hd e8 b3;refine hK.out _ _ (fun _=>db) (fun hHeld=>?_);clear hK K hHeld;try simp only[Act.put,zA]
    refine bM 17 fun K hK=>?_
    go_simp;refine hK.out _ _ (fun _=>db) (fun hHeld=>?_);clear hK K hHeld;try simp only[Act.put,zA]
    refine bM 18 fun K hK=>?_
    go_simp;refine hK.out _ _ (fun h=>absurd h RX) (fun _=>?_);clear hK K;try simp only[Act.put,zA]
    refine eC Si ?_ _;have d9:=bs gb O 1 _ _ (.slice (aY dT) (k+1) dl) c8;simp only[zA]at d9;obtain⟨g6,g2,g9⟩:=d_ d9 (g1.setCell (a:=⟨O,1,none⟩) (by have:=e2.o;exact this) (.slice (aY dT) (k+1) dl)) (g8.zjm (p:=⟨O,1,none⟩) (v:=.slice (aY dT) (k+1) dl) (ag _) (iV _));clear d9 ab bv ci a9 db cI cb z2 cO gc gd gf gi;go_wp2;go_roundw
    case rel=>exact⟨k+1,RU,RW,⟨_,_,g6,by rw[g7.o];exact g2⟩,g9⟩
    case measure=>simp[intOf];omega
   .obtain rfl:k=D.length:=RU;obtain⟨cI,cb,z2,cO⟩:=aK b7;have cy:=zhD g5 ba (aF Vf);obtain⟨f6,f7,f8,f9⟩:=aK cy;obtain⟨f0,f1,f2,f3⟩:=cP cy;have y:=cT (v0:=.int .i64 a4) (v1:=.slice R D Y) (v2:=.slice I F J) (v3:=.slice E go H) cy;obtain⟨gc,gd,gf,gi⟩:=aK y;obtain⟨gm,br⟩:=bS (de ck (b:=(w:Nat)+1) RU (zI a4) (.slice R D Y) (.slice I F J) (.slice E go H)) ba;have co:bN 166 4 EEd wr wc (.slice R D Y) (D.map (Ed.map f)):=by have:=cr;rwa[gq (by rw[bt];exact ag _)]at this
    have g0:=zH co;clear y b7 cy ba cr co;go_wp2;have hv:=EV.o;have ga:=HZ.o;have hw:=e2.o;refine ax (v:=.agg (xJ a4 R D Y I F J E go H)) (by simp[results,results161,go_sem, *]) rfl ⟨R,Y,I,J,E,H,wc,?_,⟨?_,?_,?_,?_,?_,?_,?_⟩,gm⟩
    .show Ending.returned (Value.agg #[_,Value.slice R _ Y,Value.slice I _ J,Value.slice E _ H])=Ending.returned (Value.agg #[_,Value.slice R (D.map (Ed.map f)) Y,Value.slice I (F.map f) J,Value.slice E (go.map f) H])
     rw[bt,bt,bt];rfl
    .omega
    .show(wc:Nat)<=(eh wr ((w:Nat)+1) _ _ _ _)
     rw[ey];exact br.size
    .show ar _ _ (Value.slice I (F.map f) J) (bF (F.map f))
     rw[bt];exact((gs.late br ga).zhm (b:=(w:Nat)+1) RU).all.now.mono RU
    .show ar _ _ (Value.slice E (go.map f) H) (bF (go.map f))
     rw[bt];exact((gw.late br ga).zhm (b:=(w:Nat)+1) RU).all.now.mono RU
    .show ∀bd,(Value.slice I (F.map f) J).ownBlock=some bd->(Value.slice E (go.map f) H).ownBlock≠some bd/\bd < (wc:Nat)
     rw[bt,bt];exact ej.1
    .show ∀bd,(Value.slice E (go.map f) H).ownBlock=some bd->bd < (wc:Nat)
     rw[bt];exact ej.2
    .show bN _ _ _ _ _ (Value.slice R (D.map (Ed.map f)) Y) (D.map (Ed.map f))
     rw[bt];exact(((g0.setCell (a:=⟨(w:Nat)+1,0,none⟩) (by show(w:Nat)+1<_;omega) _).setCell (a:=⟨(w:Nat)+1,1,none⟩) (by show(w:Nat)+1<_;omega) _).setCell (a:=⟨(w:Nat)+1,2,none⟩) (by show(w:Nat)+1<_;omega) _).setCell (a:=⟨(w:Nat)+1,3,none⟩) (by show(w:Nat)+1<_;omega) _
end Go.Proofs.YtdpgblncijojiaaGreatDoor
