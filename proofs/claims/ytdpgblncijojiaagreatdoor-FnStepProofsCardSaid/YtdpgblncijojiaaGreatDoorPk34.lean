/- Parts of the walks. Conditions: as stated with each. -/
import Derived.Test.YtdpgblncijojiaaGreatDoorPk25
namespace Go.Proofs.YtdpgblncijojiaaGreatDoor
open Go.RowKit Tryz
set_option linter.all false
set_option maxHeartbeats 8000000
set_option maxRecDepth 100000
variable{A:aq}{D N d i n:Nat}{M:aC}{p:Int}{us:bN}{wr:aa}
structure PAt(p:Int)(N n cap:Nat)(A:aq)(M:aC)(w wr:aa)(c:Nat)(z:Nat×(List (List Int)×List (List Int))):Prop where
 c1:c<=n
 c2:z.1<=N
 el:jW p (n-c) c z=gp p n M (List.replicate N [])
 own:∃us,a_ wr w (.slice A N cap) z.2.1 us
 s1:gZ p N n z.2.1
 s2:gZ p N 0 z.2.2
 be:aj w wr
def pD{cap:Nat}(h:a_ wr D (.slice A N cap) M us)(s:gZ p N n M)(hi:i<N)(R:d<n):∃g z c,A=some ⟨g,0,none⟩/\af wr g i (.slice (aX z) n c)/\af wr z d (zI (eM M i d))/\us[i]?=some (.slice (aX z) n c):=by obtain⟨r,hr⟩:=aw (by rw[s.1];exact hi:i<M.length);have J:=s.row r (aR hr);obtain⟨x,hx⟩:=aw (Ry:d<r.length);have I:eM M i d=x:=VP;obtain⟨g,O,c,rfl,B,F,_⟩:=h.at hr;obtain⟨z,Q,E,H,_⟩:=h.fB hr hx;rw[B]at E;simp only[dt,ez]at E;obtain⟨rfl,_,rfl⟩:=E;rw[J]at F B;rw[I];exact⟨g,z,c,rfl,F,H,B⟩
def vc(p:Int)(M:aC)(d7:aq)(gL N n:Nat)(w:aa)(b5:cP p=true)(e2:aL w d7 M)(s:gZ p N n M)(hF:N<=1048576)(hn:n<=1048576):ax 141 (dp p n d7 N gL) w (yv (jM p n M) w):=by
 obtain⟨p2,ht⟩:=et b5;obtain⟨d1,hp⟩:=zag b5 s;have da:jM p n M=(gp p n M (List.replicate N [])).2.1.take (gp p n M (List.replicate N [])).1:=by unfold jM;rw[s.1]
 obtain⟨Z,cK⟩:=aK (gp p n M (List.replicate N []));rw[<-cK]at d1 hp da;obtain⟨HZ,Ku,IF,gi⟩:=fS cK da d1 (show ∀r∈M,r.length<=1048576 from fun r hr=>Ue);have g2:=s.1;subst g2;obtain⟨gm,ga⟩:=bL s b5;clear cK da d1 s b5;go_enter func141,ntmps141
 go_wp2;go_loopw [7,21] (fun u i wr=>∃k:Nat,k<=M.length/\i=.int .i64 k/\aI wr w u (M.take k)/\aj w wr)
  (fun _ i _=>M.length-(intOf i).toNat)
 case atStart=>exact⟨0,aT _,rfl,aI.empty (kX _ _ _ _),ai _ _⟩
 case round=>
  obtain⟨k,hc,rfl,D,Ey⟩:=hrel;have cj:=zH D;clear D;by_cases a6:k<M.length
  .obtain⟨r,hr⟩:=aw a6;obtain⟨hx,o,rfl,H⟩:=(e2.ext Ey).here a6;obtain⟨hv,hB,hH,ha⟩:=H k r hr;obtain⟨gc,HT⟩:=bL (show r.length<=1099511627776 by have:=gi r (aR hr);omega) (by rw[fZ,hr];rfl:M.take (k+1)=M.take k++[r]);have hj:=Ey.size;have gd:=zH (RX:(M.take k).length+1<=1073741824);clear hr H e2;go_wp2_with (first|(go_at_call 80;refine(ig _ _ _ _ ha gc).mono ?_;rintro e w' ⟨u2,rfl,e9,g3⟩;obtain⟨A2,c2,rfl,_⟩:=e9.view)|(at_builtin;refine j5 rfl _ _ rfl w wr _ _ _ _ _ cj g3 e9 gd.o hj rfl rfl ?_;intro hT hV Fe Ff))
   exact YG
  .have D:=cj.o;rw[fO Ry]at D;obtain⟨A,cap,rfl,_⟩:=D.view;obtain⟨ej,d9,Ko⟩:=dD D Ey (xl D);clear D cj Ey;go_wp2;clear hc a6;go_loopw [10,11] (fun u9 u11 wr=>∃(c:Nat) (fs:Nat×(List (List Int)×List (List Int))),u9=.int .i64 (fs.1:Nat)/\u11=.int .i64 c/\PAt p M n cap A M w wr c fs)
    (fun _ u _=>n-(intOf u).toNat)
   case atStart=>exact⟨0,(0,(M,List.replicate M [])),rfl,rfl,⟨aT _,aT _,rfl,ej,gm,yE p M,d9⟩⟩
   case round=>
    obtain⟨c,⟨r,z1,z2⟩,rfl,rfl,b3⟩:=hrel;clear ej d9;have hG:=b3.c1;have hh:r<=M.length:=b3.c2;have HP:=zH b3;clear b3;by_cases H:c<n
    .by_cases hr:r<M.length
     .have b6:z1.length=M:=HP.s1.1;obtain⟨f1,f2,f3,f4⟩:=xv z1 c r Ry;have ee:=zH (BI (p:=p) (z2:=z2) H hr b6);obtain⟨K,hK⟩:=aK (qj z1 c r);rw[<-hK]at f1 f2 f3 f4;have eg:=zH hK;rw[b6]at f2 f4;obtain⟨d8,f6,bz⟩:=dD f3 f4 b6;clear f3 f4 hK b6;by_cases be:K=M.length
      .go_wp2;go_loopw [12] (fun u d4=>∃k:Nat,r<=k/\k<=M.length/\u=.int .i64 k/\d4=wr) (fun u _=>M.length-(intOf u).toNat)
       case atStart=>exact⟨r,ah _,Ry,rfl,rfl⟩
       case round=>
        obtain⟨k,c6,hd,rfl,rfl⟩:=hrel;by_cases a6:k<M.length
        .obtain⟨us,D⟩:=HP.own;obtain⟨g,R,gR,rfl,co,a3,-⟩:=pD D HP.s1 a6 H;rw[d8.o k c6 Ry]at a3;clear D;have ei:=zH be;clear be;exact Yp
        .obtain⟨ei,hf⟩:=bL be (Ry:k=M.length);have hM:(M:Int)<=k:=Ry;obtain rfl:k=M.length:=hf.o;clear be;go_wp2;go_roundw
         case rel=>exact⟨c+1,(r,z1,z2),rfl,RB,⟨Ry,hh,by have:=HP.el;rw[ee.o,<-eg.o,ar ei.o]at this;exact this,HP.own,HP.s1,HP.s2,HP.be⟩⟩
         case measure=>simp[intOf];omega
      .have a4:K<M.length:=Ry;have fl:=f6 a4;obtain⟨fn,d5⟩:=HP.s1.2.2 K c a4 H;obtain⟨x,d0⟩:=aK (eM z1 K c);rw[<-d0]at fl fn d5;have e0:=zH d0;have hQ:(x==0)=false:=by simpa using fl
       clear d0;go_wp2;go_loopw [12] (fun u d4=>∃k:Nat,r<=k/\k<=K/\u=.int .i64 k/\d4=wr) (fun u _=>K-(intOf u).toNat)
       case atStart=>exact⟨r,ah _,Ry,rfl,rfl⟩
       case round=>
        obtain⟨k,c6,hd,rfl,rfl⟩:=hrel;obtain⟨us,D⟩:=HP.own;by_cases a6:k<K
        .obtain⟨g,R,gR,rfl,co,a3,-⟩:=pD D HP.s1 (Ry:k<M.length) H;rw[d8.o k c6 Ry]at a3;clear D;exact Yp
        .obtain rfl:k=K:=Ry;obtain⟨hR,c7⟩:=aw (show k<z1.length by have:=bz.o;omega);obtain⟨hS,c8⟩:=aw (show r<z1.length by have:=bz.o;omega);obtain⟨g,bd,a9,rfl,co,a3,dl⟩:=pD D HP.s1 a4 H;obtain⟨bb,g1,gK,Q,gV,g0,dT⟩:=pD D HP.s1 hr H;cases Q
         rw[<-e0.o]at a3;have ch:=bz.o;have b7:wr.ownsRow w 27 1 (.slice (aX g) M cap) M us:=by have:=D.outer;dsimp only at this;rw[ch]at this;exact this
         have db:=b7.stored r (.slice (aX bd) n a9);have fz:(wr.setCell ⟨g,r,none⟩ (.slice (aX bd) n a9)).cell? ⟨g,k,none⟩=some (.slice (aX bd) n a9):=by
          rw[db.1.cellAt k Ry];by_cases e:r=k
          .subst e;rw[dJ (bs.1 dT).1]
          .rw[df e,dl]
         have f0:(wr.setCell ⟨g,r,none⟩ (.slice (aX bd) n a9)).frozen? ⟨g,k,none⟩=false:=db.1.frozenAt k;have hu:wr.frozen? ⟨g,r,none⟩=false:=b7.frozenAt r;have e8:=D.swap ch.symm dT dl c8 c7;obtain⟨eA,Kl⟩:=bL (by unfold tq;rw[getD_some c7,getD_some c8];exact e8:a_ _ w.heap.size _ (tq z1 r k) _) (HP.be);have e3:(w:Nat)<=g:=(b_ b7 g rfl).1;have e7:eM (tq z1 r k) r c=x:=by rw[rM HP.s1 hr a4,lE];exact e0.symm
         obtain⟨gb,ci,ao,eo⟩:=fS (show qj z1 c r=k from eg.symm) e7 (sI HP.s1 hr a4) (sI HP.s2 hr a4);clear b7 db e8 c7 c8 dl dT D e7 ch;go_upto_region 17 with(fail)
         clear hu co a3 gV g0;obtain⟨gw,ap⟩:=aK (wr.setCell ⟨g,r,none⟩ (.slice (aX bd) n a9));rw[<-ap]at fz f0 ⊢;have gn:=zH ap;clear ap;go_upto_region 18 with(fail)
         clear fz f0;obtain⟨gA,b4⟩:=aK (gw.setCell ⟨g,k,none⟩ (.slice (aX g1) n gK));rw[<-b4];have ap:=gn.o;obtain⟨b1,ea⟩:=bL (by have:=eA.o;rw[<-ap,<-b4]at this;exact this) (by rw[b4,ap];exact((Kl.setCell (p:=⟨g,r,none⟩) e3 _).setCell (p:=⟨g,k,none⟩) e3 _):aj w gA);clear ap b4 eA Kl;obtain⟨Y,cF⟩:=aK (tq z1 r k);obtain⟨e1,cI⟩:=aK (tq z2 r k);have ce:=zH (by unfold ts;dsimp only;rw[bz.o,ci.o,cF,cI]:ts p r k c (z1,z2)=fV p r c M (yM p (ec p x) Y r,yM p (ec p x) e1 r));rw[<-cF]at b1 ci ao;rw[<-cI]at eo;clear cF cI;obtain⟨F,ct⟩:=aK (ec p x);obtain⟨hk,hl,hm⟩:=iW ga (Ry:1<=x) d5;have gs:=zH (fun w=>(by rw[ct];exact so p x w p2 ht fn d5:ax 103 (bI p x) w fun e w'=>e=.returned (zI F)/\w=w'));rw[<-ct]at hl hm ce;clear ct hk;obtain⟨ac,b9⟩:=aw (show r<Y.length by have:=ao.1;omega);have e6:=ao.row ac (aR b9);have gf:=zH (ao.el ac (aR b9));obtain⟨bb,hD,hA,Q,cr,ba,-⟩:=pD b1 ao hr H;cases Q
         rw[ci.o]at ba;obtain⟨em,b2⟩:=bL b9 e6;clear b9 e6;go_wp2_with ((go_at_call 103;refine(gs.o _).mono ?_;rintro e w' ⟨rfl,rfl⟩))
         clear cr ba;go_loopw [92] (fun u am=>∃j:Nat,j<=n/\u=.int .i64 j/\(∃us,a_ am w (.slice (aX g) M cap) (Y.set r (kD p F ac j)) us)/\aj w am) (fun u _=>n-(intOf u).toNat)
         case atStart=>exact⟨0,aT _,rfl,⟨_,by rw[qd,jy em];exact b1⟩,ea⟩
         case round=>
          obtain⟨j,hb,rfl,⟨d3,E⟩,a0⟩:=hrel;clear b1 ea;by_cases hN:j<n
          .have bo:(kD p F ac j).length=n:=by have:=b2.o;simp[kD];omega
           have a1:(Y.set r (kD p F ac j))[r]?=some (kD p F ac j):=dJ (by have:=ao.1;omega);obtain⟨y,T⟩:=aw (show j<ac.length by have:=b2.o;omega);have bi:(kD p F ac j)[j]?=some y:=by rw[sC _ _ _ _ (by have:=b2.o;omega),T]
           obtain⟨bb,f5,cn,Q,br,cO,_⟩:=E.at a1;cases Q
           obtain⟨R,gB,a2,g5,g6,c4,g7,g8,bp⟩:=E.fB a1 bi;rw[br]at a2;simp only[dt,ez]at a2;obtain⟨rfl,-,rfl⟩:=a2;rw[bo]at cO;obtain⟨d6,fo⟩:=gf y (aR T);obtain⟨ad,d2⟩:=bp (y*F%p);rw[th,sD _ _ _ _ _ T]at ad;obtain⟨S1,S2⟩:=bL ad (a0.setCell (p:=⟨R,j,none⟩) c4 (zI (y*F%p)));clear bo a1 T bi br bp ad d2 E;go_wp2_with fail
           refine bk (S:=fun W=>af W g r (.slice (aX R) n cn)/\af W R j (zI y)) 16 RU RI (fun hHeld=>?_);refine ay 0 ?_;refine ay 1 ?_;refine ay 2 ?_;refine ay 3 ?_;refine ay 4 ?_;refine ay 5 ?_;refine ay 6 ?_;refine ay 7 ?_;refine ay 8 ?_;refine ay 9 ?_;refine ay 10 ?_;refine ay 11 ?_;refine ay 12 ?_;refine ay 13 ?_;refine bu 14 fun K hK=>?_
           go_simp;refine(nJ p y F _ Ry Ry d6 Ry Ry Ry).mono ?_;rintro e w' ⟨rfl,rfl⟩;go_simp;refine hK.out _ _ (fun _=>hHeld) (fun hHeld=>?_);clear hK K;try simp only[Act.put,zA]
           have hHeld:=hHeld RC;refine bu 15 fun K hK=>?_
           go_simp;refine hK.out _ _ (fun _=>hHeld) (fun hHeld=>?_);clear hK K;try simp only[Act.put,zA]
           have hHeld:=hHeld RC;refine bu 16 fun K hK=>?_
           exact Zf
          .have a8:=zH (show a_ wr w (.slice (aX g) M cap) (yM p F Y r) d3 from by rw[sB _ _ _ _ (by have:=b2.o;omega)]at E;unfold yM;rw[getD_some em];exact E)
           obtain⟨bv,es,ev⟩:=dD a0 (sJ (f:=F) p2 ao hr) (sJ (f:=F) p2 eo hr);have c0:=ce.o;obtain⟨z,cu⟩:=aK (yM p F Y r);obtain⟨B,cz⟩:=aK (yM p F e1 r);rw[<-cu,<-cz]at c0;rw[<-cu]at a8 es;rw[<-cz]at ev;have f7:=zH c0;clear E a0 c0 cu cz ce;go_wp2;go_loopw [114] (fun u am=>∃i:Nat,i<=M.length/\u=.int .i64 i/\(∃us,a_ am w (.slice (aX g) M cap) (fV p r c i (z,B)).1 us)/\aj w am) (fun u _=>M.length-(intOf u).toNat)
           case atStart=>exact⟨0,aT _,rfl,⟨_,a8⟩,bv⟩
           case round=>
            obtain⟨i,hi,rfl,⟨hU,U⟩,a5⟩:=hrel;clear a8 bv;have cR:=AD (r:=r) (c:=c) (q:=(z,B)) p2 es ev hr H i hi;obtain⟨O,eb⟩:=bL cR.s1 cR.s2;clear cR;by_cases e4:i<M.length
            .have ab:fV p r c (i+1) (z,B)=if i≠r/\eM (fV p r c i (z,B)).1 i c≠0 then
               ((fV p r c i (z,B)).1.set i (cV p (-(eM (fV p r c i (z,B)).1 i c)) ((fV p r c i (z,B)).1.getD i []) ((fV p r c i (z,B)).1.getD r [])),
                (fV p r c i (z,B)).2.set i (cV p (-(eM (fV p r c i (z,B)).1 i c)) ((fV p r c i (z,B)).2.getD i []) ((fV p r c i (z,B)).2.getD r [])))
               else fV p r c i (z,B):=rfl
             obtain⟨q,e5⟩:=aK (fV p r c i (z,B));rw[<-e5]at ab U O eb;clear e5;by_cases c5:i=r
             .obtain⟨IE,Kv,Kr⟩:=dD (show fV p r c (i+1) (z,B)=q by rw[ab,ak (fun h=>h.1 c5)]) U a5;clear ab U a5;exact YI
             .obtain⟨v,fb⟩:=aK (eM q.1 i c);obtain⟨bb,hE,hC,Q,cr,ba,-⟩:=pD U O e4 H;cases Q
              obtain⟨v1,v2⟩:=O.2.2 i c e4 H;rw[<-fb]at ba v1 v2 ab;clear fb;have hL:((i:Int)==(r:Int))=false:=RX;obtain⟨Kv,Kr⟩:=bL U a5;clear U a5;by_cases cc:v=0
              .have IE:=zH (show fV p r c (i+1) (z,B)=q by rw[ab,ak (fun h=>h.2 cc)]);subst cc;clear ab;exact YI
              .have IE:=zH (by rw[ab,ar ⟨c5,cc⟩]:fV p r c (i+1) (z,B)=(q.1.set i (cV p (-v) (q.1.getD i []) (q.1.getD r [])),q.2.set i (cV p (-v) (q.2.getD i []) (q.2.getD r []))));have hP:(v==0)=false:=by simpa using cc
               clear ab;go_wp2;clear cr ba;obtain⟨J,b8⟩:=aw (show i<q.1.length by have:=O.1;omega);obtain⟨I,ca⟩:=aw (show r<q.1.length by have:=O.1;omega);obtain⟨ek,en,b0,a7,f8,f9⟩:=lq b8 ca (O.row J (aR b8)) (O.row I (aR ca)) (O.el J (aR b8)) (O.el I (aR ca));clear b8 ca;go_loopw [142] (fun u am=>∃j:Nat,j<=n/\u=.int .i64 j/\(∃us,a_ am w (.slice (aX g) M cap) (q.1.set i (kN p (-v) J I j)) us)/\aj w am) (fun u _=>n-(intOf u).toNat)
               case atStart=>exact⟨0,aT _,rfl,⟨_,by rw[um,jy ek];exact Kv⟩,Kr⟩
               case round=>
                obtain⟨j,hb,rfl,⟨d3,E⟩,a0⟩:=hrel;clear Kv Kr;have bm:J.length=I:=by rw[b0.o,a7.o]
                by_cases hO:j<n
                .have bo:(kN p (-v) J I j).length=n:=by rw[zd6 _ _ _ _ _ bm (by have:=b0.o;omega)];exact b0
                 have a1:(q.1.set i (kN p (-v) J I j))[i]?=some (kN p (-v) J I j):=dJ (by have:=O.1;omega);have c9:(q.1.set i (kN p (-v) J I j))[r]?=some I:=by rw[df c5];exact en
                 obtain⟨y,T⟩:=aw (show j<J.length by have:=b0.o;omega);obtain⟨t,cb⟩:=aw (show j<I.length by have:=a7.o;omega);have bi:(kN p (-v) J I j)[j]?=some y:=by rw[xp _ _ _ _ _ (by have:=a7.o;omega) bm,T]
                 obtain⟨bb,f5,cn,Q,br,cO,_⟩:=E.at a1;cases Q
                 obtain⟨bb,hw,gC,Q,fa,g4,_⟩:=E.at c9;cases Q
                 obtain⟨R,gB,a2,g5,g6,c4,g7,g8,bp⟩:=E.fB a1 bi;rw[br]at a2;simp only[dt,ez]at a2;obtain⟨rfl,-,rfl⟩:=a2;obtain⟨gr,hy,dc,hI,_⟩:=E.fB c9 cb;rw[fa]at dc;simp only[dt,ez]at dc;obtain⟨rfl,-,rfl⟩:=dc;rw[bo]at cO;rw[a7.o]at g4;obtain⟨d6,fo⟩:=f8 y (aR T);obtain⟨t1,t2⟩:=f9 t (aR cb);obtain⟨ad,d2⟩:=bp ((y+p-v*t)%p);rw[th]at ad;have fd:(y+p-v*t)%p=(y + -v*t)%p:=by rw[show y+p-v*t=(y + -v*t)+p*1 by rw[lN];omega,DI]
                 rw[show(kN p (-v) J I j).set j ((y+p-v*t)%p)=kN p (-v) J I (j+1) by rw[fd];exact xq _ _ _ _ _ _ _ T cb]at ad;obtain⟨S1,S2⟩:=bL ad (a0.setCell (p:=⟨R,j,none⟩) c4 (zI ((y+p-v*t)%p)));have hq:=gI (v*t) (Ry:p≠0);have hs:=gJ (v*t) (Ry:0<p);clear bo a1 c9 T cb bi br fa bp ad d2 E fd bm;go_wp2_with fail
                 refine bk (S:=fun W=>af W g i (.slice (aX R) n cn)/\af W g r (.slice (aX gr) n gC)/\af W R j (zI y)/\af W gr j (zI t)) 25 RU RI (fun hHeld=>?_);refine ay 0 ?_;refine ay 1 ?_;refine ay 2 ?_;refine ay 3 ?_;refine ay 4 ?_;refine ay 5 ?_;refine ay 6 ?_;refine ay 7 ?_;refine ay 8 ?_;refine ay 9 ?_;refine ay 10 ?_;refine ay 11 ?_;refine ay 12 ?_;refine ay 13 ?_;refine ay 14 ?_;refine ay 15 ?_;refine ay 16 ?_;refine ay 17 ?_;refine ay 18 ?_;refine ay 19 ?_;refine ay 20 ?_;refine ay 21 ?_;refine bu 22 fun K hK=>?_
                 go_simp;refine(nJ p v t _ Ry Ry v1 Ry t1 Ry).mono ?_;rintro e w' ⟨rfl,rfl⟩;go_simp;refine hK.out _ _ (fun _=>hHeld) (fun hHeld=>?_);clear hK K;try simp only[Act.put,zA]
                 have hHeld:=hHeld RC;refine bu 23 fun K hK=>?_
                 go_simp;refine(zdJ p y (v*t%p) _ Ry Ry d6 fo hq hs).mono ?_;rintro e w' ⟨rfl,rfl⟩;go_simp;refine hK.out _ _ (fun _=>hHeld) (fun hHeld=>?_);clear hK K;try simp only[Act.put,zA]
                 have hHeld:=hHeld RC;refine bu 24 fun K hK=>?_
                 go_simp;refine hK.out _ _ (fun _=>hHeld) (fun hHeld=>?_);clear hK K;try simp only[Act.put,zA]
                 have hHeld:=hHeld RC;refine bu 25 fun K hK=>?_
                 exact Zf
                .have a8:=zH (show a_ wr w (.slice (aX g) M cap) (fV p r c (i+1) (z,B)).1 d3 from by rw[xo _ _ _ _ bm _ (by have:=a7.o;omega)]at E;rw[IE.o,getD_some ek,getD_some en];exact E)
                 have bv:=zH a0;clear E a0 bm;go_wp2;go_roundw
                 case rel=>exact⟨i+1,Ry,RB,⟨_,a8⟩,bv⟩
                 case measure=>simp[intOf];omega
            .obtain⟨Kv,Kr,g9⟩:=dD U a5 (Ry:i=M.length);clear U a5;go_wp2;go_roundw
             case rel=>exact⟨c+1,(r+1,fV p r c i (z,B)),RB,RB,⟨Ry,Ry,by have:=HP.el;rw[ee.o,gb.o,ak be,f7.o,show fV p r c M (z,B)=fV p r c i (z,B) by rw[g9.o]]at this;exact this,⟨_,Kv⟩,O,eb,Kr⟩⟩
             case measure=>simp[intOf];omega
     .have he:=zH (show gp p n M (List.replicate M [])=(r,z1,z2) by rw[<-HP.o.el];obtain⟨m,hg⟩:∃m,n-c=m+1:=⟨n-c-1,Ry⟩;rw[hg,jW];dsimp only;rw[ak (by rw[HP.o.s1.1];exact hr)])
      exact ZM
    .have he:=zH (show gp p n M (List.replicate M [])=(r,z1,z2) by rw[<-HP.o.el,show n-c=0 by omega];rfl);exact ZM
end Go.Proofs.YtdpgblncijojiaaGreatDoor
