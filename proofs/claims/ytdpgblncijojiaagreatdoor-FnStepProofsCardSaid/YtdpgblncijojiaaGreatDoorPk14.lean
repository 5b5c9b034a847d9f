/- Parts of the walks. Conditions: as stated with each. -/
import Derived.Test.YtdpgblncijojiaaGreatDoorPk11
import Derived.Test.YtdpgblncijojiaaGreatDoorPk13
namespace Go.Proofs.YtdpgblncijojiaaGreatDoor
open Go.RowKit Tryz
set_option linter.all false
set_option maxHeartbeats 8000000
set_option maxRecDepth 100000
variable{A:aq}{B' D N c n r:Nat}{U:aC}{p:Int}{w:aa}
def zi3(p:Int)(B F H z N n D E:Nat)(A1 A2:aq)(M X:aC)(w:aa)(e:Ending)(w':aa):Prop:=
 e=.returned (zI ((gp p n M X).1:Nat))/\Has w' B F (.slice A1 N D) (gp p n M X).2.1/\Has w' H z (.slice A2 N E) (gp p n M X).2.2/\dd B z w w'
structure RAt(p:Int)(lo1 hi1 lo2 hi2 N n n2 cap1 cap2:Nat)(A1 A2:aq)(M X:aC)(w wr:aa)(c:Nat)(z:Nat×(List (List Int)×List (List Int))):Prop where
 c1:c<=n
 c2:z.1<=N
 el:jW p (n-c) c z=gp p n M X
 st:wU p lo1 hi1 lo2 hi2 N n n2 cap1 cap2 A1 A2 z.2.1 z.2.2 w wr
def BI{z2:aC}(D:c<n)(E:r<N)(z:U.length=N):jW p (n-c) c (r,U,z2)=jW p (n-(c+1)) (c+1) (if qj U c r=N then(r,U,z2) else(r+1,ts p r (qj U c r) c (U,z2))):=by obtain⟨m,B⟩:∃m,n-c=m+1:=⟨n-c-1,Ry⟩;rw[B,jW];dsimp only;rw[ar Ry,z,show n-(c+1)=m by omega]
def tG(p:Int)(Z J R O N n n2 D E:Nat)(A1 A2:aq)(M X:aC)(w:aa)(ab:cP p=true)(b7:Has w Z J (.slice A1 N D) M)(b8:Has w R O (.slice A2 N E) X)(cn:gZ p N n M)(co:gZ p N n2 X)(c9:J<=R)(dc:Z<=J)(dl:R<=O)(da:O<=(w:Nat))(ea:N<=1048576)(cb:n<=1048576)(cc:n2<=1048576):ax 112 #[p,.slice A1 N D,n,.slice A2 N E] w (zi3 p Z J R O N n D E A1 A2 M X w):=by
 obtain⟨p2,ek⟩:=et ab;obtain⟨cF,cI,cR,c0,cz⟩:=l_ b7 b8 cn co ab;clear b7 b8 cn co ab;go_enter func112,ntmps112
 go_upto_region 3 with(fail)
 obtain⟨be,bi,bm⟩:=cv w (.cells (bc p) 3) (.cells (ey A1 N D) 24) (.cells (ey A2 N E) 24);have am:=below_alloc3 w (.cells (bc p) 3) (.cells (ey A1 N D) 24) (.cells (ey A2 N E) 24);have cj:(w:Nat)+3=(((w.alloc (.cells (bc p) 3)).alloc (.cells (ey A1 N D) 24)).alloc (.cells (ey A2 N E) 24)):=Rx;obtain⟨ad,ca⟩:=aK (((w.alloc (.cells (bc p) 3)).alloc (.cells (ey A1 N D) 24)).alloc (.cells (ey A2 N E) 24));rw[<-ca]at be bi bm am cj ⊢;clear ca;have bp:=aV be 0;have a0:=aV bi 0;have ac:=aV bm 0;simp only[dg]at bp a0 ac;obtain⟨T,b2,HB⟩:=dD (show Ah p Z J R O N D E w ((w:Nat)+1) ((w:Nat)+1+1) A1 A2 ad from⟨bp,a0,ac,da,Ry,Ry,c9,dc,dl,Ry,cz⟩) (show wU p Z J R O N n n2 D E A1 A2 M X ad ad from⟨cF.ext am,cI.ext am,cR,c0,dd.refl _ _ _⟩) am;clear be bi bm bp a0 ac cj am;go_wp2;go_loopw [9,11] (fun u9 u11 wr=>∃(c:Nat) (cr:Nat×(List (List Int)×List (List Int))),u9=.int .i64 (cr.1:Nat)/\u11=.int .i64 c/\RAt p Z J R O N n n2 D E A1 A2 M X ad wr c cr)
  (fun _ u _=>n-(intOf u).toNat)
 case atStart=>exact⟨0,(0,(M,X)),rfl,rfl,⟨aT _,aT _,rfl,b2⟩⟩
 case round=>
  obtain⟨c,⟨r,F,z2⟩,rfl,rfl,ap⟩:=hrel;clear b2;have eb:=ap.c1;have d0:r<=N:=ap.c2;have HR:=zH ap;obtain⟨-,d1,-⟩:=T.cells ap.st;clear ap;by_cases I:c<n
  .by_cases U:r<N
   .have a3:F.length=N:=HR.st.s1.1;obtain⟨f1,f2,f3,f4⟩:=xv F c r Ry;have br:=zH (BI (p:=p) (z2:=z2) I U a3);obtain⟨K,hK⟩:=aK (qj F c r);rw[<-hK]at f1 f2 f3 f4;have bv:=zH hK;rw[a3]at f2 f4;obtain⟨F3,ct,cO⟩:=dD f3 f4 a3;clear f3 f4 hK a3;by_cases b9:K=N
    .subst b9;go_wp2;go_loopw [12] (fun u bo=>∃k:Nat,r<=k/\k<=K/\u=.int .i64 k/\bo=wr) (fun u _=>K-(intOf u).toNat)
     case atStart=>exact⟨r,ah _,Ry,rfl,rfl⟩
     case round=>
      obtain⟨k,Fp,db,rfl,rfl⟩:=hrel;by_cases EC:k<K
      .obtain⟨g,b6,b4,rfl,a5,e2⟩:=HR.st.at1 EC I;exact YM
      .obtain rfl:k=K:=Ry;go_wp2;go_roundw
       case rel=>exact⟨c+1,(r,F,z2),rfl,RB,⟨Ry,d0,by have:=HR.el;rw[br.o,<-bv.o,ar rfl]at this;exact this,HR.st⟩⟩
       case measure=>simp[intOf];omega
    .have ao:K<N:=Ry;have ci:=ct ao;obtain⟨a0,ac⟩:=HR.st.s1.2.2 K c ao I;obtain⟨x,bd⟩:=aK (eM F K c);rw[<-bd]at ci a0 ac;have b1:=zH bd;have ei:(x==0)=false:=by simpa using ci
     clear bd;go_wp2;go_loopw [12] (fun u bo=>∃k:Nat,r<=k/\k<=K/\u=.int .i64 k/\bo=wr) (fun u _=>K-(intOf u).toNat)
     case atStart=>exact⟨r,ah _,Ry,rfl,rfl⟩
     case round=>
      obtain⟨k,Fp,db,rfl,rfl⟩:=hrel;by_cases EC:k<K
      .obtain⟨g,b6,b4,rfl,a5,e2⟩:=HR.st.at1 (Ry:k<N) I;exact YM
      .obtain rfl:k=K:=Ry;obtain⟨g,b6,b4,rfl,a5,e2⟩:=HR.st.at1 ao I;rw[<-b1.o]at e2;have bb:eM (tq F r k) r c=x:=by rw[rM HR.st.s1 U ao,lE];exact b1.symm
       have ab:=bv.o;have cK:=zH (show qj F c r=k from ab.symm);clear ab;go_wp2_with fail
       refine(wU.ex T HR.st U ao).mono ?_;rintro e em ⟨rfl,a1⟩;obtain⟨-,d2,-⟩:=T.cells a1;obtain⟨c8,d8,d6,a6,c6,b5⟩:=a1.at1 U I;cases a6
       rw[bb]at b5;obtain⟨bz,c5⟩:=bL a1 bb;clear a1 bb d1 a5 e2;go_wp2_with fail
       refine(wU.dv T bz U (Ry:1<=x) ac cb cc).mono ?_;rintro e en ⟨rfl,a2⟩;obtain⟨z,a7⟩:=aK (yM p (ec p x) (tq F r k) r);obtain⟨B,a8⟩:=aK (yM p (ec p x) (tq z2 r k) r);rw[<-a7,<-a8]at a2;have cu:=zH (by unfold ts;dsimp only;rw[cO.o,c5.o,a7,a8]:ts p r k c (F,z2)=fV p r c N (z,B));obtain⟨-,d3,-⟩:=T.cells a2;have b0:=zH a2;clear a2 a7 a8 bz d2 c6 b5;go_wp2;go_loopw [65] (fun u d4=>∃i:Nat,i<=N/\u=.int .i64 i/\wU p Z J R O N n n2 D E (some ⟨g,0,none⟩) A2 (fV p r c i (z,B)).1 (fV p r c i (z,B)).2 ad d4) (fun u _=>N-(intOf u).toNat)
       case atStart=>exact⟨0,aT _,rfl,b0⟩
       case round=>
        obtain⟨i,hi,rfl,H⟩:=hrel;clear b0 d3;obtain⟨-,ej,-⟩:=T.cells H;by_cases ba:i<N
        .have Q:fV p r c (i+1) (z,B)=if i≠r/\eM (fV p r c i (z,B)).1 i c≠0 then
           ((fV p r c i (z,B)).1.set i (cV p (-(eM (fV p r c i (z,B)).1 i c)) ((fV p r c i (z,B)).1.getD i []) ((fV p r c i (z,B)).1.getD r [])),
            (fV p r c i (z,B)).2.set i (cV p (-(eM (fV p r c i (z,B)).1 i c)) ((fV p r c i (z,B)).2.getD i []) ((fV p r c i (z,B)).2.getD r [])))
           else fV p r c i (z,B):=rfl
         obtain⟨q,ce⟩:=aK (fV p r c i (z,B));rw[<-ce]at Q H;clear ce;have FA:=zH H;by_cases a9:i=r
         .have IE:=zH (show fV p r c (i+1) (z,B)=q by rw[Q,ak (fun h=>h.1 a9)]);clear Q H;exact YB
         .obtain⟨v,ch⟩:=aK (eM q.1 i c);obtain⟨c8,d9,d5,a6,d7,c7⟩:=H.at1 ba I;cases a6
          obtain⟨v1,v2⟩:=H.s1.2.2 i c ba I;rw[<-ch]at c7 v1 v2 Q;clear ch H;by_cases a4:v=0
          .have IE:=zH (show fV p r c (i+1) (z,B)=q by rw[Q,ak (fun h=>h.2 a4)]);subst a4;clear Q;exact YB
          .have IE:=zH (by rw[Q,ar ⟨a9,a4⟩]:fV p r c (i+1) (z,B)=(q.1.set i (cV p (-v) (q.1.getD i []) (q.1.getD r [])),q.2.set i (cV p (-v) (q.2.getD i []) (q.2.getD r []))));have eg:(v !=0)=true:=by simpa using a4
           have ee:((i:Int)!=(r:Int))=true:=RX;clear Q;go_wp2_with fail
           refine(wU.sb T FA ba U a9 v1 v2 cb cc).mono ?_;rintro e eo ⟨rfl,b3⟩;have c4:=zH b3;clear b3 FA;go_wp2;go_roundw
           case rel=>exact⟨i+1,Ry,RB,by rw[IE.o];exact c4⟩
           case measure=>simp[intOf];omega
        .obtain rfl:i=N:=Ry;have FA:=zH H;clear H;go_wp2;go_roundw
         case rel=>exact⟨c+1,(r+1,fV p r c i (z,B)),RB,RB,⟨Ry,Ry,by have:=HR.el;rw[br.o,cK.o,ak b9,cu.o]at this;exact this,FA⟩⟩
         case measure=>simp[intOf];omega
   .have he:=zH (show gp p n M X=(r,F,z2) by rw[<-HR.o.el];obtain⟨m,dT⟩:∃m,n-c=m+1:=⟨n-c-1,Ry⟩;rw[dT,jW];dsimp only;rw[ak (by rw[HR.o.st.s1.1];exact U)])
    exact YF
  .have he:=zH (show gp p n M X=(r,F,z2) by rw[<-HR.o.el,show n-c=0 by omega];rfl);exact YF
section
variable{M:aC}
def jh(w:aa)(A:aq)(rows:aC):Prop:=
 rows=[]∨∃b o,A=some ⟨b,o,none⟩/\∀k r,rows[k]?=some r->∃z cap,af w b (o+k) (.slice z r.length cap)/\r.length<=cap/\aU w z r
def jh.at{rows:aC}(h:jh w A rows):aL w A rows:=h.imp id fun⟨b,o,e,E⟩=>⟨b,o,e,fun k r F=>by obtain⟨z,cap,B,_,D⟩:=E k r F;exact⟨z,cap,B,D⟩⟩
def jh.take{rows:aC}(h:jh w A rows)(q:Nat):jh w A (rows.take q):=YR
def aI.cap{rows:aC}(h:aI w D (.slice A n c) rows):jh w A rows:=by
 obtain⟨us,h⟩:=h;rcases zj rows with z|z
 .exact aG (fw z)
 .obtain⟨g,O,e,_⟩:=h.form z;simp only[ez]at e;obtain⟨rfl,rfl,rfl⟩:=e;refine aB ⟨g,0,rfl,fun k r B=>?_⟩;obtain⟨u,J,I⟩:=h.get B;obtain⟨E,F,rfl,hi,H,_⟩:=I.view;have Q:=(bs.1 B).1;exact⟨E,F,by rw[fY,h.outer.cellAt _ Ry,J],H,hi⟩
def er(w:aa)(z:Nat)(A:aq)(rows:aC):Prop:=∀W:aa,(∀k,z<=k->W.heap[k]?=w.heap[k]?)->jh W A rows
def er.cap{rows:aC}(h:er w D A rows):jh w A rows:=h w fun _ _=>rfl
def er.at{rows:aC}(h:er w D A rows):aL w A rows:=h.cap.at
def er.mono{rows:aC}(h:er w D A rows)(B:B'<=D):er w B' A rows:=fun W z=>h W fun k E=>z k Ry
def er.setCell{rows:aC}(h:er w D A rows){a:dw}(E:a.block<D)(v:av):er (w.setCell a v) D A rows:=fun W z=>h W fun k B=>(z k B).trans (bx _ _ _ _ Ry)
def aI.from{rows:aC}(h:aI w D (.slice A n c) rows):er w D A rows:=fun W z=>(h.same z).cap
def er.take{w:aa}{z:Nat}{A:aq}{rows:aC}(h:er w z A rows)(q:Nat):er w z A (rows.take q):=fun W B=>(h W B).take q
def yv(rows:aC)(w:aa)(e:Ending)(w':aa):Prop:=∃A c,e=.returned (.slice A rows c)/\er w' w A rows/\aj w w'
def zdY{g cap:Nat}{rows:aC}(h:aL w (some ⟨g,0,none⟩) rows)(hc:rows.length<=cap)(q:Nat):∃A:dw,(if cap=q then some (⟨g,0,none⟩:dw) else some ⟨g,q,none⟩)=some A/\aL w (some A) (rows.drop q):=Zg
def xl{rows:aC}(h:aI w D (.slice A n c) rows):(A=none/\n=0/\c=0/\rows=[])∨(∃g,A=some ⟨g,0,none⟩/\n=rows.length/\n<=c/\c<=maxLen):=by
 obtain⟨us,h⟩:=h;rcases h.outer.2 with⟨e,z⟩|⟨g,cap,cur,e,F,H,B,E,_⟩
 .simp only[ez]at e;exact aG ⟨e.1,e.2.1,e.2.2,fw z⟩
 .simp only[ez]at e;obtain⟨rfl,rfl,rfl⟩:=e;exact aB ⟨g,rfl,rfl,B,E⟩
def zag(z:cP p=true)(s:gZ p N n M):(jM p n M).length=(gp p n M (List.replicate N [])).1/\(gp p n M (List.replicate N [])).1<=N:=by have B:=(et z).1;obtain⟨c,l,e,D,_,_⟩:=qk (n2:=0) z B s (yE p N);unfold jM;rw[s.1,dX,e.s1.1];exact⟨Ry,D⟩
def rD(p:Int)(M:aC)(A:aq)(cap N n:Nat)(w:aa)(J:cP p=true)(bb:aL w A M)(s:gZ p N n M)(ad:N<=1048576)(hn:n<=1048576):ax 82 #[p,.slice A N cap,n] w (yv (jM p n M) w):=by
 obtain⟨bm,hi,z,bi,Ev⟩:=cM jf;obtain⟨R,bo⟩:=zag J s;have O:jM p n M=(gp p n M (List.replicate N [])).2.1.take (gp p n M (List.replicate N [])).1:=by unfold jM;rw[s.1]
 obtain⟨B,H⟩:=aK (gp p n M (List.replicate N []));rw[<-H]at R bo O;obtain⟨a8,Z,T,a6⟩:=fS H O R (show ∀r∈M,r.length<=1048576 from fun r hr=>Ue);have ba:=s.1;subst ba;obtain⟨a7,a5⟩:=bL s J;clear H O R s J;go_enter func82,ntmps82
 go_wp2_with fail
 refine(uT _ _ M _ bb ad a6).mono ?_;rintro e E ⟨u,rfl,Q,I⟩;obtain⟨A1,c1,rfl,_,br,bv⟩:=Q.view;obtain⟨ab,a4⟩:=bL Q I;have a0:=I.size;clear Q I;go_wp2_with ((at_make;refine iJ _ rfl _ _ 24 rfl E.heap.size 27 bm (.slice none 0 0) 1 gE hi z bi .i64 .i64 M.length M.length M.length rfl rfl rfl rfl SB TB (ah _) ?_;intro a2 ap am))
 have D:=bT am;have ao:=a_.made ap;have be:=D.size;refine(tG p w E E a2 M n 0 c1 M A1 (some ⟨E,0,none⟩) M (List.replicate M []) a2 a5 ((Has.of ab).ext D) (Has.of ⟨_,ao⟩) a7 (yE p M) (ah _) a0 be (ah _) ad hn Ry).mono ?_;rintro e a3 ⟨rfl,F,_,a1⟩;rw[<-a8.o]at F ⊢;obtain⟨ac,U⟩:=bL (show aj w a3 from(a4.trans (D.mono a0)).trans (a1.below (ah _) Ry)) (show er a3 w A1 (B.2.1.take B.1) from F.own.from.take _);have bd:=xl ab;clear F a1 D ao ap am;rcases bd with⟨rfl,bp,rfl,_⟩|⟨g,rfl,_,_,_⟩
 .have z:B.1=0:=Ry;have a9:=zH z;rw[z];clear z;go_wp2;go_ret
  exact⟨none,0,by rw[T.o,a9.o];rfl,by rw[Z.o];exact U.o,ac⟩
 .go_wp2;go_ret
  exact⟨some ⟨g,0,none⟩,B.1,by rw[T.o];rfl,by rw[Z.o];exact U.o,ac⟩
end
end Go.Proofs.YtdpgblncijojiaaGreatDoor
