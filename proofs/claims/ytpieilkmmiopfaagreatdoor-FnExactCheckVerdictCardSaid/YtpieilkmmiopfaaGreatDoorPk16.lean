/- Parts of the walks. Conditions: as stated with each. -/
import Derived.Test.YtpieilkmmiopfaaGreatDoorPk14
import Derived.Test.YtpieilkmmiopfaaGreatDoorPk15
namespace Go.Proofs.YtpieilkmmiopfaaGreatDoor
open Go.RowKit Tryz
set_option linter.all false
set_option maxHeartbeats 8000000
set_option maxRecDepth 100000
variable{A:ax}{B B' N c n r:Nat}{M rows:aP}{p:Int}{w:aa}
def zmC(p:Int)(D I J h N n G H:Nat)(A1 F:ax)(M X:aP)(w:aa)(e:Ending)(w':aa):Prop:=
 e=.returned (zI ((gY p n M X).1:Nat))/\Κ w' D I (.slice A1 N G) (gY p n M X).2.1/\Κ w' J h (.slice F N H) (gY p n M X).2.2/\b_ D h w w'
structure RAt(p:Int)(lo1 hi1 lo2 hi2 N n n2 cap1 cap2:Nat)(A1 A2:ax)(M X:aP)(w wr:aa)(c:Nat)(z:Nat×(List (List Int)×List (List Int))):Prop where
 c1:c<=n
 c2:z.1<=N
 el:pc p (n-c) c z=gY p n M X
 st:AO p lo1 hi1 lo2 hi2 N n n2 cap1 cap2 A1 A2 z.2.1 z.2.2 w wr
def zaQ{h z2}(G:c<n)(H:r<N)(D:h.length=N):pc p (n-c) c (r,h,z2)=pc p (n-(c+1)) (c+1) (if py h c r=N then(r,h,z2) else(r+1,sx p r (py h c r) c (h,z2))):=by obtain⟨m,F⟩:∃m,n-c=m+1:=⟨n-c-1,Qu⟩;rw[F,pc];dsimp only;rw[ak Qu,D,show n-(c+1)=m by omega]
def xI p ac T Z U N n n2 G H A1 F M X w(ad:bV p=true)(b2:Κ w ac T (.slice A1 N G) M)(b3:Κ w Z U (.slice F N H) X)(cc:eV p N n M)(ce:eV p N n2 X)(cF:T<=Z)(cO:ac<=T)(cR:Z<=U)(cI:U<=(w:Nat))(dc:N<=1048576)(b6:n<=1048576)(b7:n2<=1048576):az 213 #[p,.slice A1 N G,n,.slice F N H] w (zmC p ac T Z U N n G H A1 F M X w):=by
 have⟨p2,d0⟩:=cv ad;have⟨ck,cn,cq,cr,cj⟩:=pD b2 b3 cc ce ad;clear b2 b3 cc ce ad;go_enter func213,ntmps213
 go_upto_region 3 with(fail)
 have⟨bd,be,bg⟩:=cD w (.cells (bK p) 3) (.cells (bZ A1 N G) 55) (.cells (bZ F N H) 55);have an:=ζ w (.cells (bK p) 3) (.cells (bZ A1 N G) 55) (.cells (bZ F N H) 55);have cb:(w:Nat)+3=(((w.alloc (.cells (bK p) 3)).alloc (.cells (bZ A1 N G) 55)).alloc (.cells (bZ F N H) 55)):=Qt;have⟨am,b5⟩:=aR (((w.alloc (.cells (bK p) 3)).alloc (.cells (bZ A1 N G) 55)).alloc (.cells (bZ F N H) 55));rw[<-b5]at bd be bg an cb ⊢;clear b5;have bi:=bB bd 0;have av:=bB be 0;have ah:=bB bg 0;simp only[dA]at bi av ah;have⟨B,bu,HB⟩:=er (show EA p ac T Z U N G H w ((w:Nat)+1) ((w:Nat)+1+1) A1 F am from⟨bi,av,ah,cI,Qu,Qu,cF,cO,cR,Qu,cj⟩) (show AO p ac T Z U N n n2 G H A1 F M X am am from⟨ck.ext an,cn.ext an,cq,cr,b_.refl _ _ _⟩) an;clear bd be bg bi av ah cb an;go_wp2;go_loopw [9,11] (fun u9 u11 wr=>∃(c:Nat) (z:Nat×(List (List Int)×List (List Int))),u9=.int .i64 (z.1:Nat)/\u11=.int .i64 c/\RAt p ac T Z U N n n2 G H A1 F M X am wr c z)
  (fun _ u _=>n-(intOf u).toNat)
 case atStart=>exact⟨0,(0,(M,X)),rfl,rfl,⟨aW _,aW _,rfl,bu⟩⟩
 case round=>
  obtain⟨c,⟨r,I,z2⟩,rfl,rfl,ap⟩:=hrel;clear bu;have dl:=ap.c1;have cW:r<=N:=ap.c2;have HR:=zH ap;obtain⟨-,c0,-⟩:=B.o.cells ap.st;clear ap;by_cases O:c<n
  .by_cases ab:r<N
   .have a2:I.length=N:=HR.st.s1.1;have⟨f1,f2,f3,f4⟩:=Bk I c r Qu;have bn:=zH (zaQ (p:=p) (z2:=z2) O ab a2);have⟨K,hK⟩:=aR (py I c r);rw[<-hK]at f1 f2 f3 f4;have bo:=zH hK;rw[a2]at f2 f4;have⟨F3,ch,cp⟩:=er f3 f4 a2;clear f3 f4 hK a2;by_cases b4:K=N
    .subst b4;go_wp2;go_loopw [12] (fun u bh=>∃k:Nat,r<=k/\k<=K/\u=.int .i64 k/\bh=wr) (fun u _=>K-(intOf u).toNat)
     case atStart=>exact⟨r,ae _,Qu,rfl,rfl⟩
     case round=>
      obtain⟨k,Mm,cK,rfl,rfl⟩:=hrel;by_cases FX:k<K
      .obtain⟨g,b1,bz,rfl,a4,e2⟩:=HR.st.at1 FX O;exact YL
      .obtain rfl:k=K:=Qu;go_wp2;go_roundw
       case rel=>exact⟨c+1,(r,I,z2),rfl,Qx,⟨Qu,cW,by have:=HR.el;rw[bn.o,<-bo.o,ak rfl]at this;exact this,HR.st⟩⟩
       case measure=>simp[intOf];omega
    .have ao:K<N:=Qu;have ca:=ch ao;obtain⟨av,ah⟩:=HR.st.s1.2.2 K c ao O;have⟨x,bc⟩:=aR (eM I K c);rw[<-bc]at ca av ah;have br:=zH bc;have dO:(x==0)=false:=by simpa using ca
     clear bc;go_wp2;go_loopw [12] (fun u bh=>∃k:Nat,r<=k/\k<=K/\u=.int .i64 k/\bh=wr) (fun u _=>K-(intOf u).toNat)
     case atStart=>exact⟨r,ae _,Qu,rfl,rfl⟩
     case round=>
      obtain⟨k,Mm,cK,rfl,rfl⟩:=hrel;by_cases FX:k<K
      .obtain⟨g,b1,bz,rfl,a4,e2⟩:=HR.st.at1 (Qu:k<N) O;exact YL
      .obtain rfl:k=K:=Qu;obtain⟨g,b1,bz,rfl,a4,e2⟩:=HR.st.at1 ao O;rw[<-br.o]at e2;have bb:eM (Bm I r k) r c=x:=by rw[vD HR.st.s1 ab ao,m8];exact br.q
       have ad:=bo.o;have co:=zH (show py I c r=k from ad.q);clear ad;go_wp2_with fail
       refine(AO.ex B.o HR.st ab ao).x ?_;rintro e d1 ⟨rfl,a0⟩;obtain⟨-,c3,-⟩:=B.o.cells a0;obtain⟨cB,c9,c7,a5,cz,b0⟩:=a0.at1 ab O;cases a5
       rw[bb]at b0;have⟨bp,cu⟩:=bJ a0 bb;clear a0 bb c0 a4 e2;go_wp2_with fail
       refine(AO.dv B.o bp ab (Qu:1<=x) ah b6 b7).x ?_;rintro e d2 ⟨rfl,a1⟩;have⟨h,a7⟩:=aR (Μ p (lu p x) (Bm I r k) r);have⟨D,a8⟩:=aR (Μ p (lu p x) (Bm z2 r k) r);rw[<-a7,<-a8]at a1;have ci:=zH (by unfold sx;dsimp only;rw[cp.o,cu.o,a7,a8]:sx p r k c (I,z2)=iu p r c N (h,D));obtain⟨-,c4,-⟩:=B.o.cells a1;have bq:=zH a1;clear a1 a7 a8 bp c3 cz b0;go_wp2;go_loopw [65] (fun u c5=>∃i:Nat,i<=N/\u=.int .i64 i/\AO p ac T Z U N n n2 G H (some ⟨g,0,none⟩) F (iu p r c i (h,D)).1 (iu p r c i (h,D)).2 am c5) (fun u _=>N-(intOf u).toNat)
       case atStart=>exact⟨0,aW _,rfl,bq⟩
       case round=>
        obtain⟨i,hi,rfl,J⟩:=hrel;clear bq c4;obtain⟨-,dT,-⟩:=B.o.cells J;by_cases ba:i<N
        .have Y:iu p r c (i+1) (h,D)=if i≠r/\eM (iu p r c i (h,D)).1 i c≠0 then
           ((iu p r c i (h,D)).1.set i (dw p (-(eM (iu p r c i (h,D)).1 i c)) ((iu p r c i (h,D)).1.getD i []) ((iu p r c i (h,D)).1.getD r [])),
            (iu p r c i (h,D)).2.set i (dw p (-(eM (iu p r c i (h,D)).1 i c)) ((iu p r c i (h,D)).2.getD i []) ((iu p r c i (h,D)).2.getD r [])))
           else iu p r c i (h,D):=rfl
         have⟨q,b8⟩:=aR (iu p r c i (h,D));rw[<-b8]at Y J;clear b8;have IS:=zH J;by_cases a9:i=r
         .have Gj:=zH (show iu p r c (i+1) (h,D)=q by rw[Y,aj (fun a6=>a6.1 a9)]);clear Y J;exact Yu
         .have⟨v,b9⟩:=aR (eM q.1 i c);obtain⟨cB,db,c6,a5,c8,cA⟩:=J.at1 ba O;cases a5
          obtain⟨v1,v2⟩:=J.s1.2.2 i c ba O;rw[<-b9]at cA v1 v2 Y;clear b9 J;by_cases a3:v=0
          .have Gj:=zH (show iu p r c (i+1) (h,D)=q by rw[Y,aj (fun a6=>a6.2 a3)]);subst a3;clear Y;exact Yu
          .have Gj:=zH (by rw[Y,ak ⟨a9,a3⟩]:iu p r c (i+1) (h,D)=(q.1.set i (dw p (-v) (q.1.getD i []) (q.1.getD r [])),q.2.set i (dw p (-v) (q.2.getD i []) (q.2.getD r []))));have dr:(v !=0)=true:=by simpa using a3
           have dq:((i:Int)!=(r:Int))=true:=QW;clear Y;go_wp2_with fail
           refine(AO.sb B.o IS ba ab a9 v1 v2 b6 b7).x ?_;rintro e d3 ⟨rfl,bv⟩;have ct:=zH bv;clear bv IS;go_wp2;go_roundw
           case rel=>exact⟨i+1,Qu,Qx,by rw[Gj.o];exact ct⟩
           case measure=>simp[intOf];omega
        .obtain rfl:i=N:=Qu;have IS:=zH J;clear J;go_wp2;go_roundw
         case rel=>exact⟨c+1,(r+1,iu p r c i (h,D)),Qx,Qx,⟨Qu,Qu,by have:=HR.el;rw[bn.o,co.o,aj b4,ci.o]at this;exact this,IS⟩⟩
         case measure=>simp[intOf];omega
   .have he:=zH (show gY p n M X=(r,I,z2) by rw[<-HR.o.el];obtain⟨m,cV⟩:∃m,n-c=m+1:=⟨n-c-1,Qu⟩;rw[cV,pc];dsimp only;rw[aj (by rw[HR.o.st.s1.1];exact ab)])
    exact Yy
  .have he:=zH (show gY p n M X=(r,I,z2) by rw[<-HR.o.el,show n-c=0 by omega];rfl);exact Yy
def cS(w:aa)(A:ax)(rows:aP):Prop:=
 rows=[]∨∃b o,A=some ⟨b,o,none⟩/\∀k r,rows[k]?=some r->∃h ε,af w b (o+k) (.slice h r.length ε)/\r.length<=ε/\aO w h r
def cS.at(D:cS w A rows):bt w A rows:=D.E id fun⟨b,o,e,H⟩=>⟨b,o,e,fun k r I=>by obtain⟨h,ε,F,_,G⟩:=H k r I;exact⟨h,ε,F,G⟩⟩
def cS.take(h:cS w A rows)q:cS w A (rows.take q):=YP
def aY.ε(h:aY w B (.slice A n c) rows):cS w A rows:=by
 obtain⟨us,h⟩:=h;rcases AH rows with D|D
 .exact ay (iq D)
 .obtain⟨g,T,e,_⟩:=h.form D;simp only[ep]at e;obtain⟨rfl,rfl,rfl⟩:=e;refine au ⟨g,0,rfl,fun k r F=>?_⟩;obtain⟨u,O,J⟩:=h.F F;obtain⟨G,H,rfl,hi,I,_⟩:=J.p;have U:=(bG.1 F).1;exact⟨G,H,by rw[jU,h.η.C _ Qu,O],I,hi⟩
def ig(w:aa)(B:Nat)(A:ax)(rows:aP):Prop:=∀W:aa,(∀k,B<=k->W.heap[k]?=w.heap[k]?)->cS W A rows
def ig.ε(h:ig w B A rows):cS w A rows:=h w fun _ _=>rfl
def ig.at(h:ig w B A rows):bt w A rows:=h.ε.at
def ig.x(h:ig w B A rows)(F:B'<=B):ig w B' A rows:=fun W D=>h W fun k G=>D k Qu
def aY.from(h:aY w B (.slice A n c) rows):ig w B A rows:=fun W D=>(h.y D).ε
def ig.take{w}{B}{A}{rows}(h:ig w B A rows)q:ig w B A (rows.take q):=fun W D=>(h W D).take q
def Ct(rows:aP)(w:aa)(e:Ending)(w':aa):Prop:=∃A c,e=.returned (.slice A rows c)/\ig w' w A rows/\ag w w'
def zhw{g ε}(h:bt w (some ⟨g,0,none⟩) rows)(hc:rows.length<=ε)q:∃A:dM,(if ε=q then some (⟨g,0,none⟩:dM) else some ⟨g,q,none⟩)=some A/\bt w (some A) (rows.drop q):=Zk
def Bv(h:aY w B (.slice A n c) rows):(A=none/\n=0/\c=0/\rows=[])∨(∃g,A=some ⟨g,0,none⟩/\n=rows.length/\n<=c/\c<=maxLen):=by
 obtain⟨us,h⟩:=h;rcases h.η.2 with⟨e,D⟩|⟨g,ε,H,e,I,J,F,G,_⟩
 .simp only[ep]at e;exact ay ⟨e.1,e.2.1,e.2.2,iq D⟩
 .simp only[ep]at e;obtain⟨rfl,rfl,rfl⟩:=e;exact au ⟨g,rfl,rfl,F,G⟩
def Eu(h:bV p=true)(s:eV p N n M):(j5 p n M).length=(gY p n M (List.replicate N [])).1/\(gY p n M (List.replicate N [])).1<=N:=by have D:=(cv h).1;have⟨c,l,e,F,_,_⟩:=nN (n2:=0) h D s (yH p N);unfold j5;rw[s.1,cQ,e.s1.1];exact⟨Qu,F⟩
def vI p M A ε N n w(hf:bV p=true)(a1:bt w A M)(s:eV p N n M)(U:N<=1048576)(hn:n<=1048576):az 214 #[p,.slice A N ε,n] w (Ct (j5 p n M) w):=by
 have⟨a5,hi,h,a4,FU⟩:=dp kX;refine Oj fun Z My l2 l1 hZ HZ Mw H8 Im MA=>?_
 subst MA;have⟨av,ap⟩:=bJ s hf;clear hZ My l1 s hf;go_enter func214,ntmps214
 go_wp2_with fail
 refine(yg _ _ M _ a1 U Im).x ?_;rintro e F ⟨u,rfl,I,H⟩;obtain⟨A1,c1,rfl,_,a7,a8⟩:=I.p;have⟨O,ao⟩:=bJ I H;have ad:=H.size;clear I H;go_wp2_with ((at_make;refine jg _ rfl _ _ 55 rfl F.heap.size 26 a5 (.slice none 0 0) 1 iA hi h a4 .i64 .i64 M.length M.length M.length rfl rfl rfl rfl RF SL (ae _) ?_;intro am ac Y))
 have D:=cy Y;have ab:=bL.made ac;have a3:=D.size;refine(xI p w F F am M n 0 c1 M A1 (some ⟨F,0,none⟩) M (List.replicate M []) am ap ((Κ.of O).ext D) (Κ.of ⟨_,ab⟩) av (yH p M) (ae _) ad a3 (ae _) U hn Qu).x ?_;rintro e an ⟨rfl,G,_,ah⟩;rw[<-HZ.o]at G ⊢;have⟨T,J⟩:=bJ (show ag w an from(ao.t (D.x ad)).t (ah.L (ae _) Qu)) (show ig an w A1 (Z.2.1.take Z.1) from G.μ.from.take _);have a2:=Bv O;clear G ah D ab ac Y;rcases a2 with⟨rfl,a6,rfl,_⟩|⟨g,rfl,_,_,_⟩
 .have h:Z.1=0:=Qu;have a0:=zH h;rw[h];clear h;go_wp2;go_ret
  exact⟨none,0,by rw[H8.o,a0.o];rfl,by rw[Mw.o];exact J.o,T.o⟩
 .go_wp2;go_ret
  exact⟨some ⟨g,0,none⟩,Z.1,by rw[H8.o];rfl,by rw[Mw.o];exact J.o,T.o⟩
end Go.Proofs.YtpieilkmmiopfaaGreatDoor
