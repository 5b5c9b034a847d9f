/- Parts of the walks. Conditions: as stated with each. -/
import Derived.Test.YtdpgblncijojiaaGreatDoorPk18
import Derived.Test.YtdpgblncijojiaaGreatDoorPk19
namespace Go.Proofs.YtdpgblncijojiaaGreatDoor
open Go.RowKit Tryz
set_option linter.all false
set_option maxHeartbeats 8000000
set_option maxRecDepth 100000
variable{A:an}{B B' N c n r:Nat}{Y:aE}{p:Int}{w:aa}
def ziG(p:Int)(D H I z N n E F:Nat)(A1 A2:an)(M X:aE)(w:aa)(e:Ending)(w':aa):Prop:=
 e=.returned (zI ((iB p n M X).1:Nat))/\Has w' D H (.slice A1 N E) (iB p n M X).2.1/\Has w' I z (.slice A2 N F) (iB p n M X).2.2/\dh D z w w'
structure RAt(p:Int)(lo1 hi1 lo2 hi2 N n n2 cap1 cap2:Nat)(A1 A2:an)(M X:aE)(w wr:aa)(c:Nat)(z:Nat×(List (List Int)×List (List Int))):Prop where
 c1:c<=n
 c2:z.1<=N
 el:sU p (n-c) c z=iB p n M X
 st:vO p lo1 hi1 lo2 hi2 N n n2 cap1 cap2 A1 A2 z.2.1 z.2.2 w wr
def zc4{z2:aE}(E:c<n)(F:r<N)(z:Y.length=N):sU p (n-c) c (r,Y,z2)=sU p (n-(c+1)) (c+1) (if uu Y c r=N then(r,Y,z2) else(r+1,Av p r (uu Y c r) c (Y,z2))):=by obtain⟨m,D⟩:∃m,n-c=m+1:=⟨n-c-1,RU⟩;rw[D,sU];dsimp only;rw[ay RU,z,show n-(c+1)=m by omega]
def sL(p:Int)(Z O U Q N n n2 E F:Nat)(A1 A2:an)(M X:aE)(w:aa)(ab:dr p=true)(b7:Has w Z O (.slice A1 N E) M)(b8:Has w U Q (.slice A2 N F) X)(ck:iO p N n M)(cn:iO p N n2 X)(c8:O<=U)(db:Z<=O)(dc:U<=Q)(c9:Q<=(w:Nat))(d9:N<=1048576)(cb:n<=1048576)(cc:n2<=1048576):aw 112 #[p,.slice A1 N E,n,.slice A2 N F] w (ziG p Z O U Q N n E F A1 A2 M X w):=by
 obtain⟨p2,ek⟩:=eY ab;obtain⟨cy,cz,cO,cR,cu⟩:=lv b7 b8 ck cn ab;clear b7 b8 ck cn ab;go_enter func112,ntmps112
 go_upto_region 3 with(fail)
 obtain⟨be,bi,bm⟩:=cA w (.cells (bg p) 3) (.cells (eG A1 N E) 24) (.cells (eG A2 N F) 24);have am:=below_alloc3 w (.cells (bg p) 3) (.cells (eG A1 N E) 24) (.cells (eG A2 N F) 24);have cj:(w:Nat)+3=(((w.alloc (.cells (bg p) 3)).alloc (.cells (eG A1 N E) 24)).alloc (.cells (eG A2 N F) 24)):=RS;obtain⟨ad,ca⟩:=aO (((w.alloc (.cells (bg p) 3)).alloc (.cells (eG A1 N E) 24)).alloc (.cells (eG A2 N F) 24));rw[<-ca]at be bi bm am cj ⊢;clear ca;have bp:=aW be 0;have a0:=aW bi 0;have ac:=aW bm 0;simp only[dt]at bp a0 ac;obtain⟨B,b2,HB⟩:=d_ (show yV p Z O U Q N E F w ((w:Nat)+1) ((w:Nat)+1+1) A1 A2 ad from⟨bp,a0,ac,c9,RU,RU,c8,db,dc,RU,cu⟩) (show vO p Z O U Q N n n2 E F A1 A2 M X ad ad from⟨cy.ext am,cz.ext am,cO,cR,dh.refl _ _ _⟩) am;clear be bi bm bp a0 ac cj am;go_wp2;go_loopw [9,11] (fun u9 u11 wr=>∃(c:Nat) (co:Nat×(List (List Int)×List (List Int))),u9=.int .i64 (co.1:Nat)/\u11=.int .i64 c/\RAt p Z O U Q N n n2 E F A1 A2 M X ad wr c co)
  (fun _ u _=>n-(intOf u).toNat)
 case atStart=>exact⟨0,(0,(M,X)),rfl,rfl,⟨bf _,bf _,rfl,b2⟩⟩
 case round=>
  obtain⟨c,⟨r,H,z2⟩,rfl,rfl,ap⟩:=hrel;clear b2;have ea:=ap.c1;have dT:r<=N:=ap.c2;have HR:=zH ap;obtain⟨-,d0,-⟩:=B.o.cells ap.st;clear ap;by_cases J:c<n
  .by_cases Y:r<N
   .have a3:H.length=N:=HR.st.s1.1;obtain⟨f1,f2,f3,f4⟩:=Bt H c r RU;have br:=zH (zc4 (p:=p) (z2:=z2) J Y a3);obtain⟨K,hK⟩:=aO (uu H c r);rw[<-hK]at f1 f2 f3 f4;have bv:=zH hK;rw[a3]at f2 f4;obtain⟨F3,cr,cI⟩:=d_ f3 f4 a3;clear f3 f4 hK a3;by_cases b9:K=N
    .subst b9;go_wp2;go_loopw [12] (fun u bo=>∃k:Nat,r<=k/\k<=K/\u=.int .i64 k/\bo=wr) (fun u _=>K-(intOf u).toNat)
     case atStart=>exact⟨r,ag _,RU,rfl,rfl⟩
     case round=>
      obtain⟨k,E4,da,rfl,rfl⟩:=hrel;by_cases Ez:k<K
      .obtain⟨g,b6,b4,rfl,a5,e2⟩:=HR.st.at1 Ez J;exact YV
      .obtain rfl:k=K:=RU;go_wp2;go_roundw
       case rel=>exact⟨c+1,(r,H,z2),rfl,RW,⟨RU,dT,by have:=HR.el;rw[br.o,<-bv.o,ay rfl]at this;exact this,HR.st⟩⟩
       case measure=>simp[intOf];omega
    .have ao:K<N:=RU;have ci:=cr ao;obtain⟨a0,ac⟩:=HR.st.s1.2.2 K c ao J;obtain⟨x,bd⟩:=aO (eM H K c);rw[<-bd]at ci a0 ac;have b1:=zH bd;have ei:(x==0)=false:=by simpa using ci
     clear bd;go_wp2;go_loopw [12] (fun u bo=>∃k:Nat,r<=k/\k<=K/\u=.int .i64 k/\bo=wr) (fun u _=>K-(intOf u).toNat)
     case atStart=>exact⟨r,ag _,RU,rfl,rfl⟩
     case round=>
      obtain⟨k,E4,da,rfl,rfl⟩:=hrel;by_cases Ez:k<K
      .obtain⟨g,b6,b4,rfl,a5,e2⟩:=HR.st.at1 (RU:k<N) J;exact YV
      .obtain rfl:k=K:=RU;obtain⟨g,b6,b4,rfl,a5,e2⟩:=HR.st.at1 ao J;rw[<-b1.o]at e2;have bb:eM (zP H r k) r c=x:=by rw[sV HR.st.s1 Y ao,mo];exact b1.symm
       have ab:=bv.o;have cF:=zH (show uu H c r=k from ab.symm);clear ab;go_wp2_with fail
       refine(vO.ex B.o HR.st Y ao).mono ?_;rintro e em ⟨rfl,a1⟩;obtain⟨-,d1,-⟩:=B.o.cells a1;obtain⟨c7,d7,d5,a6,c5,b5⟩:=a1.at1 Y J;cases a6
       rw[bb]at b5;obtain⟨bz,c4⟩:=bS a1 bb;clear a1 bb d0 a5 e2;go_wp2_with fail
       refine(vO.dv B.o bz Y (RU:1<=x) ac cb cc).mono ?_;rintro e en ⟨rfl,a2⟩;obtain⟨z,a7⟩:=aO (scL p (fD p x) (zP H r k) r);obtain⟨D,a8⟩:=aO (scL p (fD p x) (zP z2 r k) r);rw[<-a7,<-a8]at a2;have ct:=zH (by unfold Av;dsimp only;rw[cI.o,c4.o,a7,a8]:Av p r k c (H,z2)=kr p r c N (z,D));obtain⟨-,d2,-⟩:=B.o.cells a2;have b0:=zH a2;clear a2 a7 a8 bz d1 c5 b5;go_wp2;go_loopw [65] (fun u d3=>∃i:Nat,i<=N/\u=.int .i64 i/\vO p Z O U Q N n n2 E F (some ⟨g,0,none⟩) A2 (kr p r c i (z,D)).1 (kr p r c i (z,D)).2 ad d3) (fun u _=>N-(intOf u).toNat)
       case atStart=>exact⟨0,bf _,rfl,b0⟩
       case round=>
        obtain⟨i,hi,rfl,I⟩:=hrel;clear b0 d2;obtain⟨-,ej,-⟩:=B.o.cells I;by_cases ba:i<N
        .have R:kr p r c (i+1) (z,D)=if i≠r/\eM (kr p r c i (z,D)).1 i c≠0 then
           ((kr p r c i (z,D)).1.set i (dw p (-(eM (kr p r c i (z,D)).1 i c)) ((kr p r c i (z,D)).1.getD i []) ((kr p r c i (z,D)).1.getD r [])),
            (kr p r c i (z,D)).2.set i (dw p (-(eM (kr p r c i (z,D)).1 i c)) ((kr p r c i (z,D)).2.getD i []) ((kr p r c i (z,D)).2.getD r [])))
           else kr p r c i (z,D):=rfl
         obtain⟨q,ce⟩:=aO (kr p r c i (z,D));rw[<-ce]at R I;clear ce;have GB:=zH I;by_cases a9:i=r
         .have Kt:=zH (show kr p r c (i+1) (z,D)=q by rw[R,al (fun h=>h.1 a9)]);clear R I;exact YK
         .obtain⟨v,ch⟩:=aO (eM q.1 i c);obtain⟨c7,d8,d4,a6,d6,c6⟩:=I.at1 ba J;cases a6
          obtain⟨v1,v2⟩:=I.s1.2.2 i c ba J;rw[<-ch]at c6 v1 v2 R;clear ch I;by_cases a4:v=0
          .have Kt:=zH (show kr p r c (i+1) (z,D)=q by rw[R,al (fun h=>h.2 a4)]);subst a4;clear R;exact YK
          .have Kt:=zH (by rw[R,ay ⟨a9,a4⟩]:kr p r c (i+1) (z,D)=(q.1.set i (dw p (-v) (q.1.getD i []) (q.1.getD r [])),q.2.set i (dw p (-v) (q.2.getD i []) (q.2.getD r []))));have eg:(v !=0)=true:=by simpa using a4
           have eb:((i:Int)!=(r:Int))=true:=Sk;clear R;go_wp2_with fail
           refine(vO.sb B.o GB ba Y a9 v1 v2 cb cc).mono ?_;rintro e eo ⟨rfl,b3⟩;have c0:=zH b3;clear b3 GB;go_wp2;go_roundw
           case rel=>exact⟨i+1,RU,RW,by rw[Kt.o];exact c0⟩
           case measure=>simp[intOf];omega
        .obtain rfl:i=N:=RU;have GB:=zH I;clear I;go_wp2;go_roundw
         case rel=>exact⟨c+1,(r+1,kr p r c i (z,D)),RW,RW,⟨RU,RU,by have:=HR.el;rw[br.o,cF.o,al b9,ct.o]at this;exact this,GB⟩⟩
         case measure=>simp[intOf];omega
   .have he:=zH (show iB p n M X=(r,H,z2) by rw[<-HR.o.el];obtain⟨m,dl⟩:∃m,n-c=m+1:=⟨n-c-1,RU⟩;rw[dl,sU];dsimp only;rw[al (by rw[HR.o.st.s1.1];exact Y)])
    exact YP
  .have he:=zH (show iB p n M X=(r,H,z2) by rw[<-HR.o.el,show n-c=0 by omega];rfl);exact YP
section
variable{M:aE}
def jX(w:aa)(A:an)(rows:aE):Prop:=
 rows=[]∨∃b o,A=some ⟨b,o,none⟩/\∀k r,rows[k]?=some r->∃z cap,ah w b (o+k) (.slice z r.length cap)/\r.length<=cap/\aT w z r
def jX.at{rows:aE}(h:jX w A rows):aX w A rows:=h.imp id fun⟨b,o,e,F⟩=>⟨b,o,e,fun k r H=>by obtain⟨z,cap,D,_,E⟩:=F k r H;exact⟨z,cap,D,E⟩⟩
def jX.take{rows:aE}(h:jX w A rows)(q:Nat):jX w A (rows.take q):=Y0
def aJ.cap{rows:aE}(h:aJ w B (.slice A n c) rows):jX w A rows:=by
 obtain⟨us,h⟩:=h;rcases pP rows with z|z
 .exact aF (eS z)
 .obtain⟨g,O,e,_⟩:=h.form z;simp only[fO]at e;obtain⟨rfl,rfl,rfl⟩:=e;refine aA ⟨g,0,rfl,fun k r D=>?_⟩;obtain⟨u,J,I⟩:=h.get D;obtain⟨E,F,rfl,hi,H,_⟩:=I.view;have Q:=(bA.1 D).1;exact⟨E,F,by rw[iw,h.outer.cellAt _ RU,J],H,hi⟩
def eE(w:aa)(B:Nat)(A:an)(rows:aE):Prop:=∀W:aa,(∀k,B<=k->W.heap[k]?=w.heap[k]?)->jX W A rows
def eE.cap{rows:aE}(h:eE w B A rows):jX w A rows:=h w fun _ _=>rfl
def eE.at{rows:aE}(h:eE w B A rows):aX w A rows:=h.cap.at
def eE.mono{rows:aE}(h:eE w B A rows)(D:B'<=B):eE w B' A rows:=fun W z=>h W fun k E=>z k RU
def eE.setCell{rows:aE}(h:eE w B A rows){a:dD}(E:a.block<B)(v:au):eE (w.setCell a v) B A rows:=fun W z=>h W fun k D=>(z k D).trans (bw _ _ _ _ RU)
def aJ.from{rows:aE}(h:aJ w B (.slice A n c) rows):eE w B A rows:=fun W z=>(h.same z).cap
def eE.take{w:aa}{B:Nat}{A:an}{rows:aE}(h:eE w B A rows)(q:Nat):eE w B A (rows.take q):=fun W z=>(h W z).take q
def zba(rows:aE)(w:aa)(e:Ending)(w':aa):Prop:=∃A c,e=.returned (.slice A rows c)/\eE w' w A rows/\ai w w'
def zdn{g cap:Nat}{rows:aE}(h:aX w (some ⟨g,0,none⟩) rows)(hc:rows.length<=cap)(q:Nat):∃A:dD,(if cap=q then some (⟨g,0,none⟩:dD) else some ⟨g,q,none⟩)=some A/\aX w (some A) (rows.drop q):=Zk
def Bg{rows:aE}(h:aJ w B (.slice A n c) rows):(A=none/\n=0/\c=0/\rows=[])∨(∃g,A=some ⟨g,0,none⟩/\n=rows.length/\n<=c/\c<=maxLen):=by
 obtain⟨us,h⟩:=h;rcases h.outer.2 with⟨e,z⟩|⟨g,cap,cur,e,F,H,D,E,_⟩
 .simp only[fO]at e;exact aF ⟨e.1,e.2.1,e.2.2,eS z⟩
 .simp only[fO]at e;obtain⟨rfl,rfl,rfl⟩:=e;exact aA ⟨g,rfl,rfl,D,E⟩
def zfc(z:dr p=true)(s:iO p N n M):(qy p n M).length=(iB p n M (List.replicate N [])).1/\(iB p n M (List.replicate N [])).1<=N:=by have D:=(eY z).1;obtain⟨c,l,e,E,_,_⟩:=pD (n2:=0) z D s (Cg p N);unfold qy;rw[s.1,dH,e.s1.1];exact⟨RU,E⟩
def qM(p:Int)(M:aE)(A:an)(cap N n:Nat)(w:aa)(O:dr p=true)(be:aX w A M)(s:iO p N n M)(am:N<=1048576)(ap:n<=1048576):aw 82 #[p,.slice A N cap,n] w (zba (qy p n M) w):=by
 obtain⟨br,hi,z,bp,Es⟩:=cU i_;obtain⟨U,bv⟩:=zfc O s;have Q:qy p n M=(iB p n M (List.replicate N [])).2.1.take (iB p n M (List.replicate N [])).1:=by unfold qy;rw[s.1]
 obtain⟨D,I⟩:=aO (iB p n M (List.replicate N []));rw[<-I]at U bv Q;obtain⟨ba,ab,Y,a8⟩:=fU I Q U (show ∀r∈M,r.length<=1048576 from fun r bm=>by rw[s.row r bm];exact ap);have bd:=s.1;subst bd;obtain⟨a9,a7⟩:=bS s O;clear I Q U s O;go_enter func82,ntmps82
 go_wp2_with fail
 refine(tI _ _ M _ be am a8).mono ?_;rintro e F ⟨u,rfl,R,J⟩;obtain⟨A1,c1,rfl,_,b0,b1⟩:=R.view;obtain⟨ac,a6⟩:=bS R J;have a2:=J.size;clear R J;go_wp2_with ((at_make;refine jg _ rfl _ _ 24 rfl F.heap.size 27 br (.slice none 0 0) 1 gx hi z bp .i64 .i64 M.length M.length M.length rfl rfl rfl rfl SW TS (ag _) ?_;intro a4 a1 ao))
 have E:=cd ao;have a0:=bh.made a1;have bo:=E.size;refine(sL p w F F a4 M n 0 c1 M A1 (some ⟨F,0,none⟩) M (List.replicate M []) a4 a7 ((Has.of ac).ext E) (Has.of ⟨_,a0⟩) a9 (Cg p M) (ag _) a2 bo (ag _) am ap RU).mono ?_;rintro e a5 ⟨rfl,H,_,a3⟩;rw[<-ba.o]at H ⊢;obtain⟨ad,Z⟩:=bS (show ai w a5 from(a6.trans (E.mono a2)).trans (a3.below (ag _) RU)) (show eE a5 w A1 (D.2.1.take D.1) from H.own.from.take _);have bi:=Bg ac;clear H a3 E a0 a1 ao;rcases bi with⟨rfl,bz,rfl,_⟩|⟨g,rfl,_,_,_⟩
 .have z:D.1=0:=RU;have bb:=zH z;rw[z];clear z;go_wp2;go_ret
  exact⟨none,0,by rw[Y.o,bb.o];rfl,by rw[ab.o];exact Z.o,ad⟩
 .go_wp2;go_ret
  exact⟨some ⟨g,0,none⟩,D.1,by rw[Y.o];rfl,by rw[ab.o];exact Z.o,ad⟩
end
end Go.Proofs.YtdpgblncijojiaaGreatDoor
