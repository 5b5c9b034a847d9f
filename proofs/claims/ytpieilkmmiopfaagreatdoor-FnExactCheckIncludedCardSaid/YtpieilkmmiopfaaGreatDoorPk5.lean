/- Parts of the walks. Conditions: as stated with each. -/
import Derived.Test.YtpieilkmmiopfaaGreatDoorPk3
import Derived.Test.YtpieilkmmiopfaaGreatDoorPk4
namespace Go.Proofs.YtpieilkmmiopfaaGreatDoor
open Go.RowKit Tryz
set_option linter.all false
set_option maxHeartbeats 8000000
set_option maxRecDepth 100000
variable{A A1:ax}{B B' N b c hi k lo lo' m n r s:Nat}{Jq rows:aP}{K:pt}{Q:gZ}{S S':List Tm}{T v v0 v1 v2 v3 v4 v5 z2:aG}{V w w':aa}{a:Act}{cs:gg}{e:Ed}{g:Gr}{l:bP}{o:h_}{ops:iI}{rest:List Oper}{row:Option Nat}{t:dL}{xs:aL}
structure DI(w:aa)(lo hi:Nat)(v:aG)(xs:List j8)(us:cL):Prop where
 μ:ff w lo v xs us
 up:∀b,v.ownBlock=some b->b<hi
 Í:∀u∈us,∀b,u.ownBlock=some b->b<hi
def xq(w:aa)(lo hi:Nat)(v:aG)(xs:List j8):Prop:=∃us,DI w lo hi v xs us
section
variable{w w':aa}{lo hi lo' hi':Nat}{v:aG}{xs:List j8}{us:cL}
def xq.of(h:tg w B v xs):xq w B w v xs:=by obtain⟨us,h⟩:=h;refine⟨us,h,fun b hb=>(h.lt b hb).2,fun u hu b hb=>?_⟩;exact Xl
def DI.ext(h:DI w lo hi v xs us)(D:ag w w'):DI w' lo hi v xs us:=⟨h.μ.ext D,h.up,h.Í⟩
def xq.ext(h:xq w lo hi v xs)(D:ag w w'):xq w' lo hi v xs:=by obtain⟨us,h⟩:=h;exact⟨us,h.ext D⟩
def DI.u(h:DI w lo hi v xs us)(hw:b_ lo' hi' w w')(hd:hi<=lo'∨hi'<=lo):DI w' lo hi v xs us:=by refine⟨⟨h.μ.ι,⟨h.μ.η.1,h.μ.η.2.E id fun⟨g,ε,H,a1,F,D,G⟩=>⟨g,ε,H,a1,F,(hw.block g (bk.1 D).1 UL).t D,G⟩⟩,fun k u r hu hr=>?_,h.μ.apart⟩,h.up,h.Í⟩;exact WI
def xq.u(h:xq w lo hi v xs)(F:b_ lo' hi' w w')(D:hi<=lo'∨hi'<=lo):xq w' lo hi v xs:=by obtain⟨us,h⟩:=h;exact⟨us,h.u F D⟩
def xq.μ(h:xq w lo hi v xs):tg w lo v xs:=by obtain⟨us,h⟩:=h;exact⟨us,h.μ⟩
def ziP(h:tg w B (.slice A n c) xs):iS w A xs:=XM
end
def wh.le2{l r}{xs}(h:wh l r xs)(D:l<=1048576):r<=1048576:=by rcases h with h|h<;>omega
section
variable{p:Int}
def zmC(p:Int)(D I J h N n G H:Nat)(A1 F:ax)(M X:aP)(w:aa)(e:Ending)(w':aa):Prop:=
 e=.returned (zI ((gY p n M X).1:Nat))/\Κ w' D I (.slice A1 N G) (gY p n M X).2.1/\Κ w' J h (.slice F N H) (gY p n M X).2.2/\b_ D h w w'
structure RAt(p:Int)(lo1 hi1 lo2 hi2 N n n2 cap1 cap2:Nat)(A1 A2:ax)(M X:aP)(w wr:aa)(c:Nat)(z:Nat×(List (List Int)×List (List Int))):Prop where
 c1:c<=n
 c2:z.1<=N
 el:pc p (n-c) c z=gY p n M X
 st:AO p lo1 hi1 lo2 hi2 N n n2 cap1 cap2 A1 A2 z.2.1 z.2.2 w wr
def zaQ{h z2}(G:c<n)(H:r<N)(D:h.length=N):pc p (n-c) c (r,h,z2)=pc p (n-(c+1)) (c+1) (if py h c r=N then(r,h,z2) else(r+1,sx p r (py h c r) c (h,z2))):=by obtain⟨m,F⟩:∃m,n-c=m+1:=⟨n-c-1,Qu⟩;rw[F,pc];dsimp only;rw[ak Qu,D,show n-(c+1)=m by omega]
def xI p ac T Z U N n n2 G H A1 F M X w(ad:bV p=true)(b2:Κ w ac T (.slice A1 N G) M)(b3:Κ w Z U (.slice F N H) X)(cc:eV p N n M)(ce:eV p N n2 X)(cF:T<=Z)(cO:ac<=T)(cR:Z<=U)(cI:U<=(w:Nat))(dc:N<=1048576)(b6:n<=1048576)(b7:n2<=1048576):az 213 #[p,.slice A1 N G,n,.slice F N H] w (zmC p ac T Z U N n G H A1 F M X w):=by
 have⟨p2,d0⟩:=cv ad;have⟨ck,cn,cq,cr,cj⟩:=pD b2 b3 cc ce ad;clear b2 b3 cc ce ad;go_enter func213,ntmps213
 go_upto_region 3 with(fail)
 have⟨bd,be,bg⟩:=cD w (.cells (bK p) 3) (.cells (bZ A1 N G) 55) (.cells (bZ F N H) 55);have an:=ζ w (.cells (bK p) 3) (.cells (bZ A1 N G) 55) (.cells (bZ F N H) 55);have cb:(w:Nat)+3=(((w.alloc (.cells (bK p) 3)).alloc (.cells (bZ A1 N G) 55)).alloc (.cells (bZ F N H) 55)):=Qt;have⟨am,b5⟩:=aR (((w.alloc (.cells (bK p) 3)).alloc (.cells (bZ A1 N G) 55)).alloc (.cells (bZ F N H) 55));rw[<-b5]at bd be bg an cb ⊢;clear b5;have bi:=bB bd 0;have av:=bB be 0;have ah:=bB bg 0;simp only[dA]at bi av ah;have⟨B,bu,HB⟩:=er (show EA p ac T Z U N G H w ((w:Nat)+1) ((w:Nat)+1+1) A1 F am from⟨bi,av,ah,cI,Qu,Qu,cF,cO,cR,Qu,cj⟩) (show AO p ac T Z U N n n2 G H A1 F M X am am from⟨ck.ext an,cn.ext an,cq,cr,b_.refl _ _ _⟩) an;clear bd be bg bi av ah cb an;go_wp2;go_loopw [9,11] (fun u9 u11 wr=>∃(c:Nat) (z:Nat×(List (List Int)×List (List Int))),u9=.int .i64 (z.1:Nat)/\u11=.int .i64 c/\RAt p ac T Z U N n n2 G H A1 F M X am wr c z)
  (fun _ u _=>n-(intOf u).toNat)
 case atStart=>exact⟨0,(0,(M,X)),rfl,rfl,⟨aW _,aW _,rfl,bu⟩⟩
 case round=>
  obtain⟨c,⟨r,I,z2⟩,rfl,rfl,ap⟩:=hrel;clear bu;have dl:=ap.c1;have cW:r<=N:=ap.c2;have HR:=zH ap;obtain⟨-,c0,-⟩:=B.o.cells ap.st;clear ap;by_cases O:c<n
  .by_cases ab:r<N
   .have a2:I.length=N:=HR.st.s1.1;have⟨f1,f2,f3,f4⟩:=Bk I c r Qu;have bn:=zH (zaQ (p:=p) (z2:=z2) O ab a2);have⟨K,hK⟩:=aR (py I c r);rw[<-hK]at f1 f2 f3 f4;have bo:=zH hK;rw[a2]at f2 f4;have⟨F3,ch,cp⟩:=er f3 f4 a2;clear f3 f4 hK a2;by_cases b4:K=N
    .subst b4;go_wp2;go_loopw [12] (fun u bh=>∃k:Nat,r<=k/\k<=K/\u=.int .i64 k/\bh=wr) (fun u _=>K-(intOf u).toNat)
     case atStart=>exact⟨r,ae _,Qu,rfl,rfl⟩
     case round=>
      obtain⟨k,Mm,cK,rfl,rfl⟩:=hrel;by_cases FX:k<K
      .obtain⟨g,b1,bz,rfl,a4,e2⟩:=HR.st.at1 FX O;exact YL
      .obtain rfl:k=K:=Qu;go_wp2;go_roundw
       case rel=>exact⟨c+1,(r,I,z2),rfl,Qx,⟨Qu,cW,by have:=HR.el;rw[bn.o,<-bo.o,ak rfl]at this;exact this,HR.st⟩⟩
       case measure=>simp[intOf];omega
    .have ao:K<N:=Qu;have ca:=ch ao;obtain⟨av,ah⟩:=HR.st.s1.2.2 K c ao O;have⟨x,bc⟩:=aR (eM I K c);rw[<-bc]at ca av ah;have br:=zH bc;have dO:(x==0)=false:=by simpa using ca
     clear bc;go_wp2;go_loopw [12] (fun u bh=>∃k:Nat,r<=k/\k<=K/\u=.int .i64 k/\bh=wr) (fun u _=>K-(intOf u).toNat)
     case atStart=>exact⟨r,ae _,Qu,rfl,rfl⟩
     case round=>
      obtain⟨k,Mm,cK,rfl,rfl⟩:=hrel;by_cases FX:k<K
      .obtain⟨g,b1,bz,rfl,a4,e2⟩:=HR.st.at1 (Qu:k<N) O;exact YL
      .obtain rfl:k=K:=Qu;obtain⟨g,b1,bz,rfl,a4,e2⟩:=HR.st.at1 ao O;rw[<-br.o]at e2;have bb:eM (Bm I r k) r c=x:=by rw[vD HR.st.s1 ab ao,m8];exact br.q
       have ad:=bo.o;have co:=zH (show py I c r=k from ad.q);clear ad;go_wp2_with fail
       refine(AO.ex B.o HR.st ab ao).x ?_;rintro e d1 ⟨rfl,a0⟩;obtain⟨-,c3,-⟩:=B.o.cells a0;obtain⟨cB,c9,c7,a5,cz,b0⟩:=a0.at1 ab O;cases a5
       rw[bb]at b0;have⟨bp,cu⟩:=bJ a0 bb;clear a0 bb c0 a4 e2;go_wp2_with fail
       refine(AO.dv B.o bp ab (Qu:1<=x) ah b6 b7).x ?_;rintro e d2 ⟨rfl,a1⟩;have⟨h,a7⟩:=aR (Μ p (lu p x) (Bm I r k) r);have⟨D,a8⟩:=aR (Μ p (lu p x) (Bm z2 r k) r);rw[<-a7,<-a8]at a1;have ci:=zH (by unfold sx;dsimp only;rw[cp.o,cu.o,a7,a8]:sx p r k c (I,z2)=iu p r c N (h,D));obtain⟨-,c4,-⟩:=B.o.cells a1;have bq:=zH a1;clear a1 a7 a8 bp c3 cz b0;go_wp2;go_loopw [65] (fun u c5=>∃i:Nat,i<=N/\u=.int .i64 i/\AO p ac T Z U N n n2 G H (some ⟨g,0,none⟩) F (iu p r c i (h,D)).1 (iu p r c i (h,D)).2 am c5) (fun u _=>N-(intOf u).toNat)
       case atStart=>exact⟨0,aW _,rfl,bq⟩
       case round=>
        obtain⟨i,hi,rfl,J⟩:=hrel;clear bq c4;obtain⟨-,dT,-⟩:=B.o.cells J;by_cases ba:i<N
        .have Y:iu p r c (i+1) (h,D)=if i≠r/\eM (iu p r c i (h,D)).1 i c≠0 then
           ((iu p r c i (h,D)).1.set i (dw p (-(eM (iu p r c i (h,D)).1 i c)) ((iu p r c i (h,D)).1.getD i []) ((iu p r c i (h,D)).1.getD r [])),
            (iu p r c i (h,D)).2.set i (dw p (-(eM (iu p r c i (h,D)).1 i c)) ((iu p r c i (h,D)).2.getD i []) ((iu p r c i (h,D)).2.getD r [])))
           else iu p r c i (h,D):=rfl
         have⟨q,b8⟩:=aR (iu p r c i (h,D));rw[<-b8]at Y J;clear b8;have IS:=zH J;by_cases a9:i=r
         .have Gj:=zH (show iu p r c (i+1) (h,D)=q by rw[Y,aj (fun a6=>a6.1 a9)]);clear Y J;exact Yu
         .have⟨v,b9⟩:=aR (eM q.1 i c);obtain⟨cB,db,c6,a5,c8,cA⟩:=J.at1 ba O;cases a5
          obtain⟨v1,v2⟩:=J.s1.2.2 i c ba O;rw[<-b9]at cA v1 v2 Y;clear b9 J;by_cases a3:v=0
          .have Gj:=zH (show iu p r c (i+1) (h,D)=q by rw[Y,aj (fun a6=>a6.2 a3)]);subst a3;clear Y;exact Yu
          .have Gj:=zH (by rw[Y,ak ⟨a9,a3⟩]:iu p r c (i+1) (h,D)=(q.1.set i (dw p (-v) (q.1.getD i []) (q.1.getD r [])),q.2.set i (dw p (-v) (q.2.getD i []) (q.2.getD r []))));have dr:(v !=0)=true:=by simpa using a3
           have dq:((i:Int)!=(r:Int))=true:=QW;clear Y;go_wp2_with fail
           refine(AO.sb B.o IS ba ab a9 v1 v2 b6 b7).x ?_;rintro e d3 ⟨rfl,bv⟩;have ct:=zH bv;clear bv IS;go_wp2;go_roundw
           case rel=>exact⟨i+1,Qu,Qx,by rw[Gj.o];exact ct⟩
           case measure=>simp[intOf];omega
        .obtain rfl:i=N:=Qu;have IS:=zH J;clear J;go_wp2;go_roundw
         case rel=>exact⟨c+1,(r+1,iu p r c i (h,D)),Qx,Qx,⟨Qu,Qu,by have:=HR.el;rw[bn.o,co.o,aj b4,ci.o]at this;exact this,IS⟩⟩
         case measure=>simp[intOf];omega
   .have he:=zH (show gY p n M X=(r,I,z2) by rw[<-HR.o.el];obtain⟨m,cV⟩:∃m,n-c=m+1:=⟨n-c-1,Qu⟩;rw[cV,pc];dsimp only;rw[aj (by rw[HR.o.st.s1.1];exact ab)])
    exact Yy
  .have he:=zH (show gY p n M X=(r,I,z2) by rw[<-HR.o.el,show n-c=0 by omega];rfl);exact Yy
end
section
variable{M:aP}{p:Int}
def cS(w:aa)(A:ax)(rows:aP):Prop:=
 rows=[]∨∃b o,A=some ⟨b,o,none⟩/\∀k r,rows[k]?=some r->∃h ε,af w b (o+k) (.slice h r.length ε)/\r.length<=ε/\aO w h r
def cS.at(D:cS w A rows):bt w A rows:=D.E id fun⟨b,o,e,H⟩=>⟨b,o,e,fun k r I=>by obtain⟨h,ε,F,_,G⟩:=H k r I;exact⟨h,ε,F,G⟩⟩
def cS.take(h:cS w A rows)q:cS w A (rows.take q):=YP
def aY.ε(h:aY w B (.slice A n c) rows):cS w A rows:=by
 obtain⟨us,h⟩:=h;rcases AH rows with D|D
 .exact ay (iq D)
 .obtain⟨g,T,e,_⟩:=h.form D;simp only[ep]at e;obtain⟨rfl,rfl,rfl⟩:=e;refine au ⟨g,0,rfl,fun k r F=>?_⟩;obtain⟨u,O,J⟩:=h.F F;obtain⟨G,H,rfl,hi,I,_⟩:=J.p;have U:=(bG.1 F).1;exact⟨G,H,by rw[jU,h.η.C _ Qu,O],I,hi⟩
def ig(w:aa)(B:Nat)(A:ax)(rows:aP):Prop:=∀W:aa,(∀k,B<=k->W.heap[k]?=w.heap[k]?)->cS W A rows
def ig.ε(h:ig w B A rows):cS w A rows:=h w fun _ _=>rfl
def ig.at(h:ig w B A rows):bt w A rows:=h.ε.at
def ig.x(h:ig w B A rows)(F:B'<=B):ig w B' A rows:=fun W D=>h W fun k G=>D k Qu
def aY.from(h:aY w B (.slice A n c) rows):ig w B A rows:=fun W D=>(h.y D).ε
def ig.take{w}{B}{A}{rows}(h:ig w B A rows)q:ig w B A (rows.take q):=fun W D=>(h W D).take q
def Ct(rows:aP)(w:aa)(e:Ending)(w':aa):Prop:=∃A c,e=.returned (.slice A rows c)/\ig w' w A rows/\ag w w'
def zhw{g ε}(h:bt w (some ⟨g,0,none⟩) rows)(hc:rows.length<=ε)q:∃A:dM,(if ε=q then some (⟨g,0,none⟩:dM) else some ⟨g,q,none⟩)=some A/\bt w (some A) (rows.drop q):=Zk
def Bv(h:aY w B (.slice A n c) rows):(A=none/\n=0/\c=0/\rows=[])∨(∃g,A=some ⟨g,0,none⟩/\n=rows.length/\n<=c/\c<=maxLen):=by
 obtain⟨us,h⟩:=h;rcases h.η.2 with⟨e,D⟩|⟨g,ε,H,e,I,J,F,G,_⟩
 .simp only[ep]at e;exact ay ⟨e.1,e.2.1,e.2.2,iq D⟩
 .simp only[ep]at e;obtain⟨rfl,rfl,rfl⟩:=e;exact au ⟨g,rfl,rfl,F,G⟩
def Eu(h:bV p=true)(s:eV p N n M):(j5 p n M).length=(gY p n M (List.replicate N [])).1/\(gY p n M (List.replicate N [])).1<=N:=by have D:=(cv h).1;have⟨c,l,e,F,_,_⟩:=nN (n2:=0) h D s (yH p N);unfold j5;rw[s.1,cQ,e.s1.1];exact⟨Qu,F⟩
def vI p M A ε N n w(hf:bV p=true)(a1:bt w A M)(s:eV p N n M)(U:N<=1048576)(hn:n<=1048576):az 214 #[p,.slice A N ε,n] w (Ct (j5 p n M) w):=by
 have⟨a5,hi,h,a4,FU⟩:=dp kX;refine Oj fun Z My l2 l1 hZ HZ Mw H8 Im MA=>?_
 subst MA;have⟨av,ap⟩:=bJ s hf;clear hZ My l1 s hf;go_enter func214,ntmps214
 go_wp2_with fail
 refine(yg _ _ M _ a1 U Im).x ?_;rintro e F ⟨u,rfl,I,H⟩;obtain⟨A1,c1,rfl,_,a7,a8⟩:=I.p;have⟨O,ao⟩:=bJ I H;have ad:=H.size;clear I H;go_wp2_with ((at_make;refine jg _ rfl _ _ 55 rfl F.heap.size 26 a5 (.slice none 0 0) 1 iA hi h a4 .i64 .i64 M.length M.length M.length rfl rfl rfl rfl RF SL (ae _) ?_;intro am ac Y))
 have D:=cy Y;have ab:=bL.made ac;have a3:=D.size;refine(xI p w F F am M n 0 c1 M A1 (some ⟨F,0,none⟩) M (List.replicate M []) am ap ((Κ.of O).ext D) (Κ.of ⟨_,ab⟩) av (yH p M) (ae _) ad a3 (ae _) U hn Qu).x ?_;rintro e an ⟨rfl,G,_,ah⟩;rw[<-HZ.o]at G ⊢;have⟨T,J⟩:=bJ (show ag w an from(ao.t (D.x ad)).t (ah.L (ae _) Qu)) (show ig an w A1 (Z.2.1.take Z.1) from G.μ.from.take _);have a2:=Bv O;clear G ah D ab ac Y;rcases a2 with⟨rfl,a6,rfl,_⟩|⟨g,rfl,_,_,_⟩
 .have h:Z.1=0:=Qu;have a0:=zH h;rw[h];clear h;go_wp2;go_ret
  exact⟨none,0,by rw[H8.o,a0.o];rfl,by rw[Mw.o];exact J.o,T.o⟩
 .go_wp2;go_ret
  exact⟨some ⟨g,0,none⟩,Z.1,by rw[H8.o];rfl,by rw[Mw.o];exact J.o,T.o⟩
end
def Fr(w:aa)(lo hi:Nat)(P:j4):Prop:=∀W:aa,(∀k,lo<=k->k<hi->W.heap[k]?=w.heap[k]?)->P W
section
variable{w w':aa}{lo hi lo' hi':Nat}{P Q:j4}
def Fr.D(h:Fr w lo hi P):P w:=h w fun _ _ _=>rfl
def Fr.x(h:Fr w lo hi P)(F:lo'<=lo)(G:hi<=hi'):Fr w lo' hi' P:=fun W D=>h W fun k a b=>D k Qu Qu
def Fr.E(h:Fr w lo hi P)(f:∀W,P W->Q W):Fr w lo hi Q:=fun W D=>f W (h W D)
def Fr.and(D:Fr w lo hi P)(F:Fr w lo hi Q):Fr w lo hi (fun W=>P W/\Q W):=fun W h=>⟨D W h,F W h⟩
def Fr.all(h:∀W,P W):Fr w lo hi P:=fun W _=>h W
def Fr.y(h:Fr w lo hi P)(F:∀k,lo<=k->k<hi->w'.heap[k]?=w.heap[k]?):Fr w' lo hi P:=fun W D=>h W fun k a b=>(D k a b).t (F k a b)
def Fr.ext(h:Fr w lo hi P)(D:ag w w')(F:hi<=(w:Nat)):Fr w' lo hi P:=h.y fun k _ b=>D.block k Qu
def Fr.grown(h:Fr w lo hi P)(D:w.grownBy w' row)(G:hi<=(w:Nat))(F:∀g,row=some g->g<lo∨hi<=g):Fr w' lo hi P:=h.y fun k a b=>D.block k Qu fun e=>by have:=F k e.q;omega
end
def zbd{w:aa}(D:n<=(w:Nat)):(w.heap.extract 0 n)[k]?=if k<n then w.heap[k]? else none:=by
 by_cases h:k<n
 .rw[ak h,Array.getElem?_extract];simp;omega
 .rw[aj h,AM QW]
def tU{w:aa}{B}{P}(F:∀W:aa,(∀k,B<=k->W.heap[k]?=w.heap[k]?)->P W)(I:∀a b:aa,ag a b->P a->P b)(J:B<=(w:Nat)):Fr w B w P:=fun W G=>by
 by_cases H:(w:Nat)<=W
 .have D:=F {W with heap:=W.heap.extract 0 w} fun k h=>by
   show(W.heap.extract 0 w)[k]?=_
   rw[zbd H];split
   .exact G k h QR
   .rw[AM Qu]
  refine I {W with heap:=W.heap.extract 0 w} W ⟨rfl,rfl,rfl,?_,fun k h=>?_⟩ D
  .show(W.heap.extract 0 w).size<=(W:Nat)
   rw[Array.size_extract];omega
  .replace h:k < (W.heap.extract 0 w).size:=h
   rw[Array.size_extract]at h
   show W.heap[k]?=(W.heap.extract 0 w)[k]?
   rw[zbd H,ak Qu]
 .refine F W fun k h=>?_
  by_cases D:k < (w:Nat)
  .exact G k h D
  .rw[AM Qu,AM Qu]
def aE.fr{w}{B}{xs}(h:aE w B (.slice A n c) xs)(F:B<=(w:Nat)):Fr w B w (fun W=>aO W A xs):=tU (fun W G=>by obtain⟨I,J,e,D,_⟩:=(h.y G).p;cases e;exact D) (fun _ _ H h=>h.ext H) F
def ig.fr{w}{B}(h:ig w B A rows)(D:B<=(w:Nat)):Fr w B w (fun W=>bt W A rows):=tU (fun W F=>(h W F).at) (fun _ _ G h=>h.ext G) D
def zec{w:aa}{B s ε}{T}{xs}(h:w.ownsRow B T s (.slice A m ε) m xs)(O:n<=m):w.ownsRow B T s (.slice A n ε) n (xs.take (n*s)):=by
 have U:n*s<=m*s:=Am _ O;refine⟨by rw[cQ,h.1];omega,?_⟩;rcases h.2 with⟨e,Y⟩|⟨g,c,D,e,F,G,Z,H,I,J⟩
 .left;obtain rfl:n=0:=Qu;cases e
  exact⟨rfl,rfl⟩
 .right;cases e
  refine⟨g,ε,D,rfl,F,G,Qu,H,I,?_⟩;rw[<-J,nt,iw U]
def rE{α:Type}{l:List α}{x}(h:(l.take n)[k]?=some x):l[k]?=some x:=by
 rw[iM]at h;split at h
 .exact h
 .cases h
def bR{α:Type}(s:Nat)(E:World->α->List Value->Prop)(w:aa)(A:ax)(xs:List α):Prop:=
 xs=[]∨∃b o,A=some ⟨b,o,none⟩/\∀(k:Nat) (x:α),xs[k]?=some x->∃c,(∀(j:Nat) (y:aG),c[j]?=some y->af w b (o+k*s+j) y)/\E w x c
def bR.ext{α}{s}{E}{w w'}{xs:List α}(G:∀x c,E w x c->E w' x c)(h:bR s E w A xs)(H:ag w w'):bR s E w' A xs:=
 h.E id fun⟨b,o,e,I⟩=>⟨b,o,e,fun k x O=>by obtain⟨c,D,F⟩:=I k x O;exact⟨c,fun j y J=>ar H (D j y J),G x c F⟩⟩
def bR.θ{α}{s}{E}{w}{xs}(h:bR s E w A xs)(D:k<xs.length):∃b o,A=some ⟨b,o,none⟩/\∀(k:Nat) (x:α),xs[k]?=some x->∃c,(∀(j:Nat) (y:aG),c[j]?=some y->af w b (o+k*s+j) y)/\E w x c:=by
 rcases h with h|h
 .simp[h]at D
 .exact h
def kn{α:Type}(E:World->α->List Value->Prop)(w:aa)(B:Nat)(v:aG)(x:α)(c:cL):Prop:=
 ∃lo hi,B<=lo/\hi<=(w:Nat)/\(∀g,v.ownBlock=some g->g<lo∨hi<=g)/\Fr w lo hi (fun W=>E W x c)
structure nf{α:Type}(T:dL)(s:Nat)(E:World->α->List Value->Prop)(w:aa)(B:Nat)(v:aG)(xs:List α)(cs:List (List Value)):Prop where
 η:w.ownsRow B T s v xs.length cs.flatten
 ι:cs.length=xs
 ν:∀(k:Nat) (x:α) (c:cL),xs[k]?=some x->cs[k]?=some c->c.length=s/\(∀u∈c,u.oneCell'=true)/\kn E w B v x c
def bw{α:Type}(T:dL)(s:Nat)(E:World->α->List Value->Prop)(w:aa)(B:Nat)(v:aG)(xs:List α):Prop:=∃cs,nf T s E w B v xs cs
def mM{s}:∀{cs:List (List Value)} {k j:Nat} {c:cL},(∀c∈cs,c.length=s)->cs[k]?=some c->j<s->cs.flatten[k*s+j]?=c[j]?
 |[],k,j,c,_,h,_=>QO
 |d::cs,0,j,c,D,h,G=>by simp at h;subst h;have:=D d (kb ..);rw[uH,dU Qu];simp
 |d::cs,k+1,j,c,D,h,G=>by
  have F:=D d (kb ..);have:=mM (cs:=cs) (k:=k) (j:=j) (c:=c) (fun c H=>D c (kC _ H)) Q_ G;rw[uH,fi (by rw[F,AF];omega),F,<-this];congr 1
  rw[AF];omega
def zZ{s}:∀{cs:List (List Value)} (n:Nat),(∀c∈cs,c.length=s)->(cs.take n).flatten=cs.flatten.take (n*s)
 |[],n,_=>Qt
 |c::cs,0,_=>Qt
 |c::cs,n+1,h=>by have D:=h c (kb ..);rw[w_,uH,uH,zZ n fun c F=>h c (kC _ F),AF,uI,<-D,List.take_length_add_append]
section
variable{α:Type}{T:dL}{s:Nat}{E:World->α->List Value->Prop}{w w':aa}{B:Nat}{v:aG}{xs:List α}{cs:List (List Value)}
def kn.kept{H}{x}{c}(h:kn E w B v x c)(G:w.grownBy w' row)(O:∀g,row=some g->v.ownBlock=some g)(U:∀g,H.ownBlock=some g->v.ownBlock=some g∨(w:Nat)<=g):kn E w' B H x c:=by obtain⟨lo,hi,I,D,F,J⟩:=h;exact⟨lo,hi,I,aZ D G.size,fun g e=>(U g e).elim (F g) fun h=>Qu,J.grown G D fun g e=>F g (O g e)⟩
def kn.ext{x}{c}(F:kn E w B v x c)(D:ag w w'):kn E w' B v x c:=by obtain⟨lo,hi,G,h,H,I⟩:=F;exact⟨lo,hi,G,aZ h D.size,H,I.ext D h⟩
def nf.cl(h:nf T s E w B v xs cs):∀c∈cs,c.length=s:=fun c F=>by obtain⟨k,D⟩:=eH.1 F;have⟨x,G⟩:=aq (by rw[<-h.ι];exact(bG.1 D).1:k<xs.length);exact(h.ν k x c G D).1
def nf.ext(D:nf T s E w B v xs cs)(h:ag w w'):nf T s E w' B v xs cs:=
 ⟨jA D.η (row:=none) ⟨h.os,h.tape,h.output,h.size,fun k J _=>h.block k J⟩ TC,D.ι,fun k x c O I=>by obtain⟨F,G,H⟩:=D.ν k x c O I;exact⟨F,G,H.ext h⟩⟩
def bw.ext(h:bw T s E w B v xs)(D:ag w w'):bw T s E w' B v xs:=by obtain⟨cs,h⟩:=h;exact⟨cs,h.ext D⟩
def bw.nil T s(E:World->α->List Value->Prop)w B:bw T s E w B (.slice none 0 0) []:=⟨[],rT _ _ _ _,rfl,fun k x c h=>by simp at h⟩
def bw.lit T s(E:World->α->List Value->Prop)(W:aa)B(h:B<=(W:Nat)):bw T s E (W.alloc (.cells #[] T)) B (.slice (bH W) 0 0) []:=⟨[],World.ownsRow_made W #[] 0 h Qw Qt,rfl,fun k x c D=>by simp at D⟩
def bw.p(h:bw T s E w B v xs):∃A ε,v=.slice A xs ε/\bR s E w A xs/\xs.length<=ε/\ε<=maxLen:=by
 obtain⟨cs,h⟩:=h;have I:=fun g=>oz h.η (g:=g)
 rcases h.η.2 with⟨rfl,hn⟩|⟨g,ε,O,rfl,U,Y,hn,hm,Z⟩
 .exact WH
 .refine MG fun k x hk=>?_
  have⟨c,D⟩:=aq (by rw[h.ι];exact(bG.1 hk).1:k<cs.length);obtain⟨G,_,lo,hi,_,_,_,H⟩:=h.ν k x c hk D;refine⟨c,fun j y F=>?_,H.D⟩;have J:j<s:=by rw[<-G];exact(bG.1 F).1
  have:=I g rfl (k*s+j) y (by rw[mM h.cl D J];exact F);rwa[dF,<-ow]at this
def bw.form(h:bw T s E w B v xs)(D:0<xs.length):∃g ε,v=.slice (bH g) xs ε/\B<=g/\g < (w:Nat):=by obtain⟨cs,h⟩:=h;exact pW h.η D
def bw.x(h:bw T s E w B v xs)(ab:B'<=B):bw T s E w B' v xs:=by obtain⟨cs,h⟩:=h;refine⟨cs,⟨h.η.1,h.η.2.E id fun⟨g,ε,G,D,Y,F⟩=>⟨g,ε,G,D,Qu,F⟩⟩,h.ι,fun k x c U O=>?_⟩;obtain⟨H,I,lo,hi,Z,J⟩:=h.ν k x c U O;exact⟨H,I,lo,hi,Qu,J⟩
def bw.y(h:bw T s E w B v xs)(G:∀k,B<=k->k < (w:Nat)->w'.heap[k]?=w.heap[k]?)(am:(w:Nat)<=w'):bw T s E w' B v xs:=by obtain⟨cs,h⟩:=h;refine⟨cs,⟨h.η.1,h.η.2.E id fun⟨g,ε,J,H,D,F,I⟩=>⟨g,ε,J,H,D,by rw[G g D (bk.1 F).1];exact F,I⟩⟩,h.ι,fun k x c ad ac=>?_⟩;obtain⟨O,U,lo,hi,Y,ah,Z,ab⟩:=h.ν k x c ad ac;exact⟨O,U,lo,hi,Y,Qu,Z,ab.y fun k a b=>G k Qu Qu⟩
def bw.setCell(h:bw T s E w B v xs){a}(D:a.block<B)u:bw T s E (w.setCell a u) B v xs:=h.y (fun k F _=>a_ _ _ _ _ Qu) Qt
def bw.fr(D:bw T s E w B (.slice A n c) xs)(Y:∀a b x c,ag a b->E a x c->E b x c)(U:B<=(w:Nat)):Fr w B w (fun W=>bR s E W A xs):=by
 intro W G;by_cases H:(w:Nat)<=W
 .obtain⟨I,J,e,F,_⟩:=(D.y G H).p;cases e
  exact F
 .rcases AH xs with h|h
  .exact ay (iq h)
  .obtain⟨g,ε,e,F,O⟩:=D.form h;have:=G ((w:Nat)-1) Qu Qu;rw[AM Qu,Array.getElem?_eq_getElem (Qu:(w:Nat)-1<w)]at this;cases this
def bw.pop{ε}(h:bw T s E w B (.slice A m ε) xs)(Y:m=xs.length)(Z:n<=m):bw T s E w B (.slice A n ε) (xs.take n):=by
 obtain⟨cs,h⟩:=h;subst Y;have D:(xs.take n).length=n:=Rv;refine⟨cs.take n,?_,by rw[cQ,D,h.ι];omega,fun k x c ab U=>?_⟩;rotate_left
 .obtain⟨F,G,lo,hi,H,I,J,O⟩:=h.ν k x c (rE ab) (rE U);exact⟨F,G,lo,hi,H,I,fun g e=>J g (by cases A with|none=>simp[Value.ownBlock]at e|some a=>simpa[Value.ownBlock]using e),O⟩
 rw[D,zZ n h.cl];exact zec h.η Z
def nf.th{J}{ys:List α}{ds:List (List Value)}(h:nf T s E w B v xs cs)(ab:ds.length=ys)(Z:∀(k:Nat) (x:α) (c:cL),ys[k]?=some x->ds[k]?=some c->c.length=s/\(∀u∈c,u.oneCell'=true)/\kn E w B v x c)(ac:w'.ownsRow B T s J (xs.length+ys) (cs.flatten++ds.flatten))(O:w.grownBy w' v.ownBlock)(Y:∀g,J.ownBlock=some g->v.ownBlock=some g∨(w:Nat)<=g):nf T s E w' B J (xs++ys) (cs++ds):=by
 refine⟨by rw[bm,Ĩ];exact ac,by rw[bm,bm,h.ι,ab],fun k x c F D=>?_⟩;by_cases U:k<cs.length
 .rw[dU U]at D;rw[dU (by rw[<-h.ι];exact U)]at F;obtain⟨G,H,I⟩:=h.ν k x c F D;exact⟨G,H,I.kept O (fun g e=>e) Y⟩
 .rw[fi Qu]at D;rw[fi (by rw[<-h.ι];omega),<-h.ι]at F;obtain⟨G,H,I⟩:=Z _ x c F D;exact⟨G,H,I.kept O (fun g e=>e) Y⟩
end
def kn.d{α}{T}{s}{E}{w}{B}{v}{xs}{x:α}{c}(h:bw T s E w B v xs)(D:B<=(w:Nat))(F:∀W,E W x c):kn E w B v x c:=by obtain⟨cs,h⟩:=h;exact⟨B,B,ae _,D,fun g e=>au (bS h.η g e).1,Fr.all F⟩
structure RT(P:jk)(t T:dL)(s:Nat)(z:aG)(bytes:Nat):Prop where
 und:P.underlying t=some (.slice T)
 Ï:(P.info? T).map (fun i=>(i.zero,i.size,i.bytes))=some (some z,s,bytes)
 zs:z.cells.size=s
 pos:0<s
 bts:bytes<=1000
section
variable{α:Type}{t T:dL}{s bytes:Nat}{z:aG}{E:World->α->List Value->Prop}
def z_(h:RT prog t T s z bytes){Q}U x(am:o.op=.call {callee:=.builtin .append,args:=#[U,x],argTypes:=#[t,t]})B W v xs y c J(F:bw T s E W B v xs)(ac:c.length=s)(ab:∀u∈c,u.oneCell'=true)(a0:kn E W B v y c)(ah:xs.length+1<=1048576)(Y:B<=(W:Nat))(ao:a.eval U=v)(av:a.eval x=.slice (bH J) 1 1)(an:bA W J c.toArray T)(H:∀g ε w',bw T s E w' B (.slice (bH g) (xs.length+1) ε) (xs++[y])->W.grownBy w' v.ownBlock->(v.ownBlock=some g∨g=(W:Nat))->Below B W w'->K (a.put o.dst (.slice (bH g) (xs.length+1) ε)) w'):o.wp prog a W K Q:=by
 have⟨a4,hi,a1,a2,a3⟩:=dp h.Ï;obtain⟨cs,F⟩:=F;refine wp_append_lies (w:=W) U x t am B T a4 z s bytes h.und hi a1 a2 a3 h.zs h.pos v _ _ ao F.η ⟨J,0,none⟩ 1 1 c av Qu (World.news_of_block an) ab Qw ?_ ?_ Y _ rfl ?_
 .unfold maxLen;omega
 .have:=h.bts;have:(xs.length+1)*bytes<=1048576*1000:=Nat.mul_le_mul ah h.bts;omega
 .intro g ε w' FT O Z _;have ap:∀G,(Value.slice (bH g) (xs.length+1) ε).ownBlock=some G->v.ownBlock=some G∨(W:Nat)<=G:=fun G e=>by
   cases e
   rcases Z with H|H
   .exact ay H
   .exact au (by show(W:Nat)<=g;omega)
  refine H g ε w' ⟨cs++[c],F.th (ys:=[y]) (ds:=[c]) rfl ?_ RJ O ap⟩ O Z ((al _ _).grown O Y fun k ad=>(bS F.η k ad).1);intro k a6 a5 D I
  match k,D,I with
  |0,D,I=>simp at D I;subst D I;exact⟨ac,ab,a0⟩
  |k+1,D,_=>simp at D
def de(U:RT prog t T s z bytes){Q}(ab:o.guard=none)D x(ad:o.op=.call {callee:=.builtin .append,args:=#[D,x],argTypes:=#[t,t]})B W v xs y c h(Y:bw T s E W B v xs)(Z:c.length=s)(ah:∀u∈c,u.oneCell'=true)(ap:kn E W B v y c)(ac:xs.length+1<=1048576)(O:B<=(W:Nat))(an:a.eval D=v)(ao:a.eval x=.slice (bH h) 1 1)(am:bA W h c.toArray T)(F:∀g ε w',bw T s E w' B (.slice (bH g) (xs.length+1) ε) (xs++[y])->W.grownBy w' v.ownBlock->(v.ownBlock=some g∨g=(W:Nat))->Below B W w'->wpList prog ops Q rest (a.put o.dst (.slice (bH g) (xs.length+1) ε)) w'):wpList prog ops Q (o::rest) a W:=l7 ab fun _ hK=>z_ U D x ad B W v xs y c h Y Z ah ap ac O an ao am fun g ε w' G H I J=>hK _ _ (F g ε w' G H I J)
def im(I:RT prog t T s z bytes){Q}{F}(Jf:o.guard=none)D x(Y:o.op=.call {callee:=.builtin .append,args:=#[D,x],argTypes:=#[t,t]})B W v xs y c h(J:bw T s E W B v xs)(O:c.length=s)(Z:∀u∈c,u.oneCell'=true)(am:kn E W B v y c)(U:xs.length+1<=1048576)(H:B<=(W:Nat))(ac:a.eval D=v)(ah:a.eval x=.slice (bH h) 1 1)(ab:bA W h c.toArray T)(G:∀g ε w',bw T s E w' B (.slice (bH g) (xs.length+1) ε) (xs++[y])->W.grownBy w' v.ownBlock->(v.ownBlock=some g∨g=(W:Nat))->Below B W w'->K (a.put o.dst (.slice (bH g) (xs.length+1) ε)) w'):if Region.wanted o (yielded ops a.tmps)=true then o.wp prog a W K Q else F:=by have ad:Region.wanted o (yielded ops a.tmps)=true:=Tz;rw[ak ad];exact z_ I D x Y B W v xs y c h J O Z am U H ac ah ab G
end
structure eE where
 k:Int
 v:Int
 s:ByteArray
variable{L:List eE}
def re(h:eE):M (#[.int .i64 h.k,.int .i64 h.v,.string h.s]:Array Value):=⟨⟩
def eE.nd(x:eE):Nd:=⟨x.k,x.v,x.s.toList.isEmpty⟩
def cJ(L:List eE):List Nd:=L.map eE.nd
def jK(_:aa)(x:eE)(c:cL):Prop:=c=[.int .i64 x.k,.int .i64 x.v,.string x.s]
def iF(G:bR 3 jK w A L){x}(F:L[k]?=some x):∃b o,A=some ⟨b,o,none⟩/\af w b (o+k*3) (zI x.k)/\af w b (o+k*3+1) (zI x.v)/\af w b (o+k*3+2) (.string x.s):=by obtain⟨b,o,e,H⟩:=G.θ (bG.1 F).1;obtain⟨c,h,D⟩:=H k x F;unfold jK at D;subst D;exact⟨b,o,e,h 0 _ rfl,h 1 _ rfl,h 2 _ rfl⟩
def bQ(h:bR 3 jK w A L)(D:ag w w'):bR 3 jK w' A L:=bR.ext (fun _ _ h=>(h:jK w _ _)) h D
def Õ(k:Int):Bool:=decide (k=7)||decide (k=13)
def jN k w:az 162 (bK k) w fun e w'=>e=.returned (.bool (Õ k))/\w=w':=by
 unfold Õ;by_cases h1:k=7<;>by_cases h2:k=13
 all_goals
  go_enter func162,ntmps162
  go_wp2;go_ret
  exact⟨Q9,rfl⟩
def dlB(k:Int):Bool:=decide (k=8)||decide (k=14)
def rf k w:az 120 (bK k) w fun e w'=>e=.returned (.bool (dlB k))/\w=w':=by
 unfold dlB;by_cases h1:k=8<;>by_cases h2:k=14
 all_goals
  go_enter func120,ntmps120
  go_wp2;go_ret
  exact⟨Q9,rfl⟩
def pz k w:az 210 (bK k) w fun e w'=>e=.returned (.bool (eU k 3 14))/\w=w':=by
 go_enter func210,ntmps210
 go_wp2_with (go_at_call 143;refine(dC _ _ _ _).x ?_;rintro e w' ⟨rfl,rfl⟩)
 exact V8
def gvB(k v:Int):Bool:=if Õ k=true then eU v 0 96 else decide (v=0)
def pd k v w:az 211 (bC k v) w fun e w'=>e=.returned (.bool (gvB k v))/\w=w':=by
 unfold gvB;cases h:Õ k
 .by_cases h0:v=0
  all_goals
   go_enter func211,ntmps211
   go_wp2_with (go_at_call 162;refine(Calls.cg (jN _ _) h).x ?_;rintro e w' ⟨rfl,rfl⟩)
   go_ret
   exact⟨QL,rfl⟩
 .go_enter func211,ntmps211
  go_wp2_with (first|(go_at_call 162;refine(Calls.cg (jN _ _) h).x ?_;rintro e w' ⟨rfl,rfl⟩)|(go_at_call 143;refine(dC _ _ _ _).x ?_;rintro e w' ⟨rfl,rfl⟩))
  exact V8
def Ä(k v:Int)(e:Bool):Int:=if e=false then 0 else if k=1 then v else if k=2 then 2 else if eU k 3 14=true then gwI k else 0
def Ã(k v:Int)(e:Bool):Int:=if e=false then 0 else if k=1 then v else if k=2 then 2 else if eU k 3 14=true then gwO k else 0
def Ç(k v:Int)(e:Bool):Bool:=if e=false then false else if k=1 then eU v 0 12 else if k=2 then decide (v=0) else if eU k 3 14=true then gvB k v else false
def ϝ k v e:Ç k v e=dI ⟨k,v,e⟩:=by
 unfold Ç dI gvB Õ eU;cases e
 .simp
 .simp only[uN,lp,xm];by_cases h:k=1
  .simp[h]
  by_cases D:k=2
  .subst D;simp
  by_cases G:k=7∨k=13
  .have F:3<=k/\k<=14:=Qu;simp[h,D,G,F]
  .by_cases F:3<=k/\k<=14
   .have:2<=k:=Qu;simp[h,D,G,F,this]
   .have J:¬(2<=k/\k<=14):=Qu;have H:(decide (3<=k)&&decide (k<=14))=false:=by rw[uF];simpa using F
    have I:(decide (2<=k)&&(decide (k<=14)&&decide (v=0)))=false:=by rw[uF];simp only[ne_eq,bN,cf];omega
    rw[aj h,aj D,H,aj h,aj G,I];rfl
def ϧ{k v}(h:dI ⟨k,v,true⟩=true):Ä k v true=(pC ⟨k,v,true⟩:Nat)/\Ã k v true=(sC ⟨k,v,true⟩:Nat):=by
 rw[<-ϝ]at h;unfold Ç at h;unfold Ä Ã pC sC gwI gwO;simp only[uN,lp]at h ⊢;by_cases D:k=1
 .simp[D,eU]at h ⊢;omega
 by_cases F:k=2
 .simp[F]
 rw[aj D,aj F]at h;by_cases G:eU k 3 14=true
 .rw[aj D,aj F,ak G,aj D,aj F,aj D,aj F,ak G,aj D,aj F];constructor
  .split
   .rfl
   split<;>rfl
  .split
   .rfl
   split<;>rfl
 .rw[aj G]at h;cases h
def FP k v s w:az 220 (cY (dN k v s)) w (WTo (Ä k v s.toList.isEmpty) (Ã k v s.toList.isEmpty) (dI ⟨k,v,s.toList.isEmpty⟩) w):=by
 have D:=((al w w).alloc (ae _) (.cells (dN k v s) 95)).alloc Qt (.cells fP 207);have F:=(bO (w.alloc (.cells (dN k v s) 95)) (.cells fP 207) (k:=w.heap.size) Qt).t (aH w _ rfl);have h:=aH (w.alloc (.cells (dN k v s) 95)) (.cells fP 207) (n:=(w:Nat)+1) Qt;rw[<-ϝ];have ad:s.toList.isEmpty=(s.toList==[]):=by cases s.toList<;>rfl
 rw[ad];cases he:(s.toList==[])
 .rw[show Ä k v false=0 by simp[Ä],show Ã k v false=0 by simp[Ã],show Ç k v false=false by simp[Ç]];have a3:(!s.toList==[])=true:=Q5;go_enter func220,ntmps220
  go_upto_region 1 with(fail)
  generalize (w.alloc _).alloc _=W at D F h ⊢;have⟨I,c1,c2⟩:=aD F;have⟨J,O,f0,f1⟩:=dD h;have y:=fW (v0:=.int .i64 (0)) (v1:=.int .i64 (0)) h;refine Oi fun y0 y1=>?_
  have HE:=zH (fX D (b:=(w:Nat)+1) Qu (zI (0)) (zI (0)));go_wp2;exact XW
 have a3:(!s.toList==[])=false:=Q5;by_cases h1:k=1
 .subst h1;rw[show Ä 1 v true=v by simp[Ä],show Ã 1 v true=v by simp[Ã],show Ç 1 v true=eU v 0 12 by simp[Ç]];go_enter func220,ntmps220
  go_upto_region 1 with(fail)
  generalize (w.alloc _).alloc _=W at D F h ⊢;have⟨I,c1,c2⟩:=aD F;have⟨J,O,f0,f1⟩:=dD h;have y:=fW (v0:=.int .i64 (v)) (v1:=.int .i64 (v)) h;refine Oi fun y0 y1=>?_
  have HE:=zH (fX D (b:=(w:Nat)+1) Qu (zI (v)) (zI (v)));go_wp2_with fail
  go_region_held3 (fun w'=>af w' w 1 (zI v))
   (first|exact c1|exact kR Rs c1) ((go_at_call 143;refine(dC _ _ _ _).x ?_;rintro e w' ⟨rfl,rfl⟩))
  go_wp2;exact aI (v:=.tuple (ka (bC (v) (v)) (eU v 0 12))) Ur rfl ⟨rfl,HE.drew⟩
 by_cases h2:k=2
 .subst h2;rw[show Ä 2 v true=2 by simp[Ä],show Ã 2 v true=2 by simp[Ã],show Ç 2 v true=decide (v=0) by simp[Ç]];have a4:(v==0)=decide (v=0):=Q7;go_enter func220,ntmps220
  go_upto_region 1 with(fail)
  generalize (w.alloc _).alloc _=W at D F h ⊢;have⟨I,c1,c2⟩:=aD F;have⟨J,O,f0,f1⟩:=dD h;have y:=fW (v0:=.int .i64 (2)) (v1:=.int .i64 (2)) h;refine Oi fun y0 y1=>?_
  have HE:=zH (fX D (b:=(w:Nat)+1) Qu (zI (2)) (zI (2)));go_wp2_with fail
  go_region_held3 (fun w'=>af w' w 1 (zI v))
   (first|exact c1|exact kR Rs c1) (fail)
  go_wp2;exact aI (v:=.tuple (ka (bC (2) (2)) (decide (v=0)))) Ur rfl ⟨rfl,HE.drew⟩
 have a5:(k==1)=false:=Rp;have n2:(k==2)=false:=Rk;cases G:eU k 3 14
 .rw[show Ä k v true=0 by simp[Ä,h1,h2,G],show Ã k v true=0 by simp[Ã,h1,h2,G],show Ç k v true=false by simp[Ç,h1,h2,G]];go_enter func220,ntmps220
  go_upto_region 1 with(fail)
  generalize (w.alloc _).alloc _=W at D F h ⊢;have⟨I,c1,c2⟩:=aD F;have⟨J,O,f0,f1⟩:=dD h;have y:=fW (v0:=.int .i64 (0)) (v1:=.int .i64 (0)) h;refine Oi fun y0 y1=>?_
  have HE:=zH (fX D (b:=(w:Nat)+1) Qu (zI (0)) (zI (0)));go_wp2_with (go_at_call 210;refine(Calls.cg (pz _ _) G).x ?_;rintro e w' ⟨rfl,rfl⟩)
  exact XW
 .rw[show Ä k v true=gwI k by simp[Ä,h1,h2,G],show Ã k v true=gwO k by simp[Ã,h1,h2,G],show Ç k v true=gvB k v by simp[Ç,h1,h2,G]];have ab:3<=k/\k<=14:=by simpa[eU]using G
  have Y:=zH ab;go_enter func220,ntmps220
  go_upto_region 1 with(fail)
  generalize (w.alloc _).alloc _=W at D F h ⊢;have⟨I,c1,c2⟩:=aD F;have⟨J,O,f0,f1⟩:=dD h;have⟨Z,ao⟩:=bJ D h;go_wp2_with (go_at_call 210;refine(Calls.cg (pz _ _) G).x ?_;rintro e w' ⟨rfl,rfl⟩)
  have T:=zH (fun(W:aa)=>jt k W Y.1 Y.2);generalize ac:gwI k=a at T ⊢;generalize H:gwO k=b at T ⊢;have⟨ah,am⟩:=bJ ac H;go_region_held3 (fun w'=>af w' w 0 (zI k)/\af w' w 1 (zI v))
   (first|exact⟨I,c1⟩|exact t1|exact⟨kR Rs t1.1,kR Rs t1.2⟩)
   ((first|(go_at_call 167;refine(T.o _).x ?_;rintro e a6 ⟨rfl,H⟩;have an:=zH (Z.drew.t (H.x Z.size));have t1:=aQ (ar H I) (ar H c1);have U:=ai (w:=W.drew) ao H;have⟨av,a0,a1,a2⟩:=dD U;have ap:=zH U)|(go_at_call 211;refine(pd _ _ _).x ?_;rintro e w' ⟨rfl,rfl⟩)))
  have y:=fW (v0:=.int .i64 (a)) (v1:=.int .i64 (b)) ap;refine Oi fun y0 y1=>?_
  have HE:=zH (fX an (b:=(w:Nat)+1) Qu (zI (a)) (zI (b)));go_wp2;exact aI (v:=.tuple (ka (bC a b) (gvB k v))) Ur rfl ⟨by rw[ah.o,am.o],HE⟩
def EWr(_:aa)(x:g_)(c:cL):Prop:=c=[.int .i64 (x.1:Nat),.int .i64 (x.2:Nat)]
def rtW:RT prog 271 207 2 (.agg fP) 16:=⟨underlying271,QT,Qw,Qw,Qw⟩
def Τ(S:List Tm):List (Nat×Nat):=S.reverse.map fun t=>t.ty.getD (0,0)
def q_ S:(Τ S).length=S:=by simp[Τ]
def zh{t}{c}S(h:t.ty=some c):Τ (t::S)=Τ S++[c]:=by simp[Τ,h]
def jE(L:List Nd):Option Tm:=match fp L []with|some [t]=>some t|_=>none
def kj(L:List Nd):Bool:=decide (1<=L.length)&&(decide (L.length<=400)&&(jE L).isSome)
def zaH{L}(h:¬(1<=L.length/\L.length<=400)):kj L=false:=by unfold kj;rw[uF];simp only[ne_eq,bN,cf];exact fun⟨a,b,_⟩=>h ⟨a,b⟩
def Ea{L}(h:fp L []=none):kj L=false:=by unfold kj jE;rw[h];simp
def zhj{L}(D:1<=L.length)(F:L.length<=400)(h:fp L []=some S):kj L=decide (S.length=1):=by
 unfold kj jE;rw[h]
 match S with
 |[]=>simp
 |[t]=>simp[D,F]
 |_::_::_=>simp
structure Eb(L:List eE)(S:List Tm)(k:Nat):Prop where
 kl:k<=L.length
 rd:fp ((cJ L).drop k) S=fp (cJ L) []
 ty:∀t∈S,∃c,t.ty=some c
 ne:1<=k->S≠[]
 ι:S.length<=k
def Eb.φ L:Eb L [] 0:=⟨aW _,rfl,fun t h=>QO,fun h=>Qu,ae _⟩
def lF{x}(h:L[k]?=some x):(cJ L).drop k=x.nd::(cJ L).drop (k+1):=by
 have D:=(bG.1 h).1;have:(cJ L)[k]?=some x.nd:=by simp[cJ,h]
 rw[uu (by simpa[cJ]using D)];congr 1
 rw[di (by simpa[cJ]using D)]at this;exact ji this
def Eb.no{x}(h:Eb L S k)(F:L[k]?=some x)(D:ρ S x.nd=none):kj (cJ L)=false:=by refine Ea ?_;rw[<-h.rd,lF F,jw,D]
def Eb.Y{x}(h:Eb L S k)(F:L[k]?=some x)(D:ρ S x.nd=some S')(I:S'≠[])(H:S'.length<=k+1):Eb L S' (k+1):=by
 have G:=(bG.1 F).1;have J:fp [x.nd] S=some S':=by rw[jw,D];rfl
 exact⟨G,by rw[<-h.rd,lF F,jw,D],ķ h.ty J,fun _=>I,H⟩
def Eb.U(h:Eb L S k)(G:¬k<L.length)(D:1<=L.length)(F:L.length<=400):kj (cJ L)=decide (S.length=1):=by have e:=h.rd;rw[jR RI]at e;exact zhj (by simpa[cJ]using D) (by simpa[cJ]using F) e.q
def Bi{x:eE}(h:¬x.k=15)(D:¬x.k=16):ρ S x.nd=if dI x.nd=true then some (Tm.lf x.nd::S) else none:=by unfold ρ;rw[aj (by simp[FC,eE.nd,h,D])]
def zi5{x:eE}(h1:x.k=15∨x.k=16)(h:¬x.v=0∨x.s.toList.isEmpty=false∨S.length<2):ρ S x.nd=none:=by
 unfold ρ;rw[ak UK];split
 .rename_i D;rcases h with h|h|h
  .exact absurd D.1 h
  .have:=D.2;unfold eE.nd at this;dsimp only at this;rw[h]at this;cases this
  .match S,h with
   |[],_=>rfl
   |[_],_=>rfl
 .rfl
def zkw{a b}{x:eE}{c d}(h1:x.k=15∨x.k=16)(G:x.v=0)(F:x.s.toList.isEmpty=true)(h:a.ty=some c)(D:b.ty=some d):ρ (b::a::S) x.nd=if(gP x.k c d).isSome=true then some (Tm.op x.k a b::S) else none:=by
 unfold ρ;rw[ak UK,ak ⟨G,F⟩];have:(Tm.op x.nd.k a b).ty=gP x.k c d:=by
  show(match a.ty,b.ty with|some H,some y=>gP x.nd.k H y|_,_=>none)=_
  rw[h,D];rfl
 show(if(Tm.op x.nd.k a b).ty.isSome=true then some (Tm.op x.nd.k a b::S) else none)=_
 rw[this];rfl
def Fx k(F:k=15∨k=16)c d(G:c.1<=12/\c.2<=12)(H:d.1<=12/\d.2<=12):∃P Q:Int,(∀W,az 223 (j9 k (bC (c.1:Nat) (c.2:Nat)) (bC (d.1:Nat) (d.2:Nat))) W (WTo P Q (gP k c d).isSome W))/\∀z,gP k c d=some z->P=(z.1:Nat)/\Q=(z.2:Nat):=by
 rcases F with rfl|rfl
 .refine⟨((c.1:Nat):Int),((d.2:Nat):Int),fun W=>?_,fun z h=>?_⟩
  .have:=Fy (c.1:Nat) (c.2:Nat) (d.1:Nat) (d.2:Nat) W;have e:decide (((c.2:Nat):Int)=(d.1:Nat))=(gP 15 c d).isSome:=by
    unfold gP;rw[ak rfl];by_cases D:c.2=d.1
    .rw[ak D];simp[D]
    .rw[aj D];simp;omega
   rw[e]at this;exact this
  .unfold gP at h;rw[ak rfl]at h;split at h
   .cases h;exact⟨rfl,rfl⟩
   .cases h
 .refine⟨((c.1:Nat):Int)+(d.1:Nat),((c.2:Nat):Int)+(d.2:Nat),fun W=>?_,fun z h=>?_⟩
  .have:=Fz (c.1:Nat) (c.2:Nat) (d.1:Nat) (d.2:Nat) W Qu Qu Qu Qu Qu Qu Qu Qu;have e:jd ((c.1:Nat)+(d.1:Nat)) ((c.2:Nat)+(d.2:Nat))=(gP 16 c d).isSome:=by
    unfold gP jd;rw[aj Qw,ak rfl];by_cases D:c.1+d.1<=12/\c.2+d.2<=12
    .rw[ak D];simp;omega
    .rw[aj D];rw[Option.isSome_none,uF];simp only[ne_eq,bN,cf];omega
   rw[e]at this;exact this
  .unfold gP at h;rw[aj Qw,ak rfl]at h;split at h
   .cases h;exact⟨Qt,Qt⟩
   .cases h
def zmz{k:Int}(h:k=15∨k=16):(k !=15)=false∨((k !=15)=true/\(k !=16)=false):=by
 rcases h with rfl|rfl
 .exact ay rfl
 .exact au ⟨rfl,rfl⟩
def zmA(L:List eE)(w:aa)(e:Ending)(w':aa):Prop:=∃a b:Int,e=.returned (.tuple (ka (bC a b) (kj (cJ L))))/\ag w w'
def zhk L A ε w(d3:bR 3 jK w A L)(ba:L.length<=1048576):az 219 #[.slice A L ε,.func (.func 220) #[] #[]] w (zmA L w):=by
 have ah:=aH w (.cells fP 207) rfl;have a7:=(al w w).alloc (ae _) (.cells fP 207);have d4:(cJ L).length=L:=by simp[cJ]
 have e0:=zH d4;clear d4;cases b3:eU L 1 400
 .have HT:=zH (zaH (L:=cJ L) (by rw[e0.o];intro⟨h1,h2⟩;have:eU L 1 400=true:=RM;rw[b3]at this;cases this));go_enter func219,ntmps219
  go_upto_region 1 with(fail)
  generalize w.alloc _=W at a7 ah ⊢;have⟨b7,b8,f0,f1⟩:=dD ah;have y:=fW (v0:=.int .i64 (0)) (v1:=.int .i64 (0)) ah;refine Oi fun y0 y1=>?_
  have HE:=zH (fX a7 (b:=w.heap.size) Qu (zI (0)) (zI (0)));clear y;clear a7 ah;go_wp2_with (go_at_call 143;refine(Calls.cg (dC _ _ _ _) b3).x ?_;rintro e w' ⟨rfl,rfl⟩)
  exact aI (v:=.tuple (pQ fP)) (by simp[results,uO,go_sem, *]) rfl ⟨0,0,by rw[HT.o],HE⟩
 .have fd:1<=L.length/\L.length<=400:=by have:=b3;simp[eU]at this;omega
  obtain⟨fy,fz⟩:=fd;go_enter func219,ntmps219
  go_upto_region 1 with(fail)
  generalize w.alloc _=W at a7 ah ⊢;have⟨eA,e3,c0⟩:=er (show ∀wr,ag w wr->bR 3 jK wr A L from fun wr bh=>bQ d3 bh) ah a7;have cB:(w:Nat)<W:=(bk.1 ah).1;clear d3 ah a7 ba;go_upto_region 4 with(go_at_call 143;refine(Calls.cg (dC _ _ _ _) b3).x ?_;rintro e w' ⟨rfl,rfl⟩)
  have⟨c5,c3,db⟩:=er (bw.lit 207 2 EWr W ((w:Nat)+1) Qu) (c0.alloc c0.size (.cells #[] 207)) ((bO W (.cells #[] 207) cB).t e3);go_wp2;go_loopw [6,22] (fun u i wr=>∃(k:Nat) (S:List Tm),i=.int .i64 k/\Eb L S k/\bw 207 2 EWr wr ((w:Nat)+1) u (Τ S)/\bA wr w fP 207/\ag w wr)
   (fun _ i _=>L.length-(intOf i).toNat)
  case atStart=>exact⟨0,[],rfl,Eb.φ L,c5,db,c3⟩
  case round=>
   obtain⟨k,S,rfl,ab,b6,bb,a0⟩:=hrel;clear c5 c3 db cB;by_cases bq:k<L.length
   .have⟨x,cK⟩:=aq bq;obtain⟨b,o,rfl,dr,c1,c2⟩:=iF (eA wr a0) cK;have cB:=a0.size;have cI:(w:Nat)<wr:=(bk.1 bb).1;obtain⟨kk,vv,ss⟩:=x;dsimp only at dr c1 c2;have⟨be,HT,a4,a5,ao⟩:=pD cK ab (b6.ext ((al _ _).alloc (ae _) (.cells (dN kk vv ss) 95))) ((bO wr (.cells (dN kk vv ss) 95) cI).t bb) (a0.alloc a0.size (.cells (dN kk vv ss) 95));have br:=aH wr (.cells (dN kk vv ss) 95) rfl;clear cK ab b6 bb a0;go_upto_region 7 with(fail)
    have cF:(wr:Nat) < (wr.alloc (.cells (dN kk vv ss) 95)):=(bk.1 br).1;generalize wr.alloc _=Y at a4 a5 ao br cF ⊢;clear dr c1 c2;have⟨bc,cR,n2⟩:=aD br;by_cases ad:kk=15∨kk=16
    .obtain⟨eo,cn,rfl,av,bi,-⟩:=bw.p a4;rw[q_]at a4 bi ⊢;have⟨n,T⟩:=aR S.length;rw[<-T]at a4 bi ⊢;have cW:=zH av;clear av;go_cut [33] from 26 to 33 (fun z W=>z=.bool false/\Y=W)
     case first=>
      rcases zmz ad with ea|⟨ea,fo⟩
      all_goals
       clear ad;go_wp2;go_meet
       exact⟨rfl,rfl⟩
     case rest=>
      obtain⟨rfl,rfl⟩:=hcut;by_cases a9:vv=0/\ss.toList.isEmpty=true/\2<=n
      .obtain⟨rfl,b5,fs⟩:=a9;obtain⟨I,H,S',rfl⟩:∃I H S',S=I::H::S':=by
        match S,T with
        |[],bh=>simp at bh;omega
        |[_],bh=>simp at bh;omega
        |I::H::S',_=>exact⟨I,H,S',rfl⟩
       obtain⟨ca,bn⟩:=HT.ty H Qt;obtain⟨cb,bo⟩:=HT.ty I Qt;have⟨m,ba⟩:=aR S'.length;have ei:n=m+2:=by rw[T,ba];rfl
       have⟨am,eb⟩:=aR (m+1);have bu:Τ (I::H::S')=Τ S'++[ca]++[cb]:=by rw[zh _ bo,zh _ bn]
       have ac:(Τ S').length=m:=by rw[q_,ba]
       obtain⟨J,go,rfl,a8⟩:=cW.θ (k:=0) (by rw[bu];simp);have d8:(Τ (I::H::S'))[m]?=some ca:=by rw[bu,dU (by rw[bm,ac];simp),fi Qu,ac];simp
       have d9:(Τ (I::H::S'))[am]?=some cb:=by rw[eb,bu,fi (by rw[bm,ac];exact ae _),bm,ac];simp
       obtain⟨f3,a2,bp⟩:=a8 m ca d8;obtain⟨g0,cO,d7⟩:=a8 am cb d9;unfold EWr at bp d7;subst bp d7;have a6:af Y J (go+m*2) (zI (ca.1:Nat)):=a2 0 _ rfl;have bg:=a2 1 _ rfl;have cj:af Y J (go+am*2) (zI (cb.1:Nat)):=cO 0 _ rfl;have ck:=cO 1 _ rfl;have gA:n<=1048576:=by have h1:=HT.ι;have h2:=HT.kl;rw[jT,jT,<-ba]at h1;omega
       have gC:IntKind.i64.wrap ((n:Int)-1)=(am:Int):=Rt;have gK:IntKind.i64.wrap ((am:Int)-1)=(m:Int):=Rt;have gs:m<n:=Qu;have gu:am<n:=Qu;have eB:=zH ei;have la:=Tm.zaS bn;have lb:=Tm.zaS bo;have HS:=zH (zkw (S:=S') (x:=⟨kk,0,ss⟩) ad rfl b5 bn bo);have c6:=zH (show ∀z,gP kk ca cb=some z->(Tm.op kk H I).ty=some z from fun z G=>by
        show(match H.ty,I.ty with|some f2,some y=>gP kk f2 y|_,_=>none)=_
        rw[bn,bo];exact G)
       have⟨P,Q,d2,d5⟩:=Fx kk ad ca cb la lb;have⟨ce,c8,b2,bz⟩:=gG d2 d5 bu ac;have fx:(wr:Nat)<Y:=ju bc;have eg:J < (Y:Nat):=ju a6;have ez:=zH eg;have⟨ok,G8⟩:=aR ((gP kk ca cb).isSome);rw[<-G8]at ce;have⟨HOK,ch⟩:=bJ G8 bq;have D:=aQ bc (aQ a6 (aQ bg (aQ cj ck)));clear G8 fx eg ad ei eb d2 d5 bu ac bn bo la lb d8 d9 a2 cO a8 cW T ba bq cI cF br;go_upto_region 15 with(fail)
       go_cut [12,13] from 64 to 78 (fun f4 f5 W=>∃ap,f4=.pointer (bH ap)/\f5=.bool ok/\bA W ap (bC P Q) 207/\(Y:Nat)<=ap/\ag Y W)
       case first=>
        clear bc a6 bg cj ck;go_region_held3 (fun w'=>af w' wr 0 (zI kk)/\af w' J (go+m*2) (zI (ca.1:Nat))/\af w' J (go+m*2+1) (zI (ca.2:Nat))/\af w' J (go+am*2) (zI (cb.1:Nat))/\af w' J (go+am*2+1) (zI (cb.2:Nat)))
         (first|exact D|exact kU h D|exact kU (aw _ _).drew D|exact kU (h.alloc h.size _) D|exact kU ((h.setCell (ae _) _).setCell (ae _) _) D|exact kU (((h.alloc h.size _).setCell h.size _).setCell h.size _) D)
         ((go_at_call 223;refine(ce.o _).x ?_;rintro e an ⟨rfl,O⟩;have h:Hd (ag Y an):=(by first|exact zH ((aC _).t O)|exact zH ((aw _ _).drew.t (O.x Qt)));first|(have G:=ai (ky Y _) O;have⟨f8,f9,ga,gb⟩:=dD G;have e7:=zH G;clear G)|skip;clear O))
        all_goals
         go_wp2_with fail
         go_meet
         first|exact⟨_,rfl,rfl,aH _ _ rfl,h.size,h.alloc h.size _⟩|exact⟨_,rfl,rfl,fW e7,ae _,fX h (ae _) _ _⟩
       case rest=>
        obtain⟨ap,rfl,rfl,G,fb,b4⟩:=hcut;obtain⟨dO,dT,-,-⟩:=dD G;have⟨b1,b9,e2,dl⟩:=gG (ai a5 b4) (aT ao b4) (a4.ext b4) (show ap≠J by have:=ez.o;omega);clear bc cR n2 a6 bg cj ck D G fb b4 ce;cases ok
        .have K6:=zH (HT.no be VT);have⟨b7,b8,f0,f1⟩:=dD b1;have y:=fW (v0:=.int .i64 (0)) (v1:=.int .i64 (0)) b1;refine Oi fun y0 y1=>?_
         have HE:=zH (fX b9 (b:=w.heap.size) Qu (zI (0)) (zI (0)));clear y;exact X5
        .obtain⟨z,G⟩:=Av.1 HOK.q;have⟨IH,e6,c9⟩:=er (HT.Y be (S':=Tm.op kk H I::S') VT Qt (by have:=HT.ι;simp at this ⊢;omega)) (zh S' (c6 z G)) (c8 z G);have cA:=e2.pop (n:=m) (by rw[q_];have:=eB.o;have:=bz.o;rw[q_]at this;simp;omega) Qu;rw[show(Τ (I::H::S')).take m=Τ S' by rw[b2.o,fJ,oG (by rw[bz.o];exact ae _),cZ (by rw[bz.o];exact ae _)]]at cA;have c7:=zH (fun W (fa:ag wc W)=>cA.ext fa);have d6:(w:Nat)+1<=wc:=(bk.1 b1).1;have dq:=zH d6;have D:=aQ dO dT;have gw:m<=cn:=Qu;clear cA G HOK HS c6 c8 b2 dO dT d6;go_upto_region 18 with(fail)
         go_region_held3 (fun w'=>af w' ap 0 (zI P)/\af w' ap 1 (zI Q))
          (first|exact D|exact j6 (aw _ _) D|exact j6 (aw _ _).drew D|exact e8)
          ((refine im rtW rfl (.tmp 85) (.tmp 87) rfl ((w:Nat)+1) (wc.alloc (.cells (bC P Q) 207)).drew (.slice (some ⟨J,go,none⟩) m cn) (Τ S') z [.int .i64 P,.int .i64 Q] wc (c7.o _ (aw _ _).drew) rfl SU (kn.d (c7.o _ (aw _ _).drew) (by have:=dq.o;simp;omega) fun W=>by unfold EWr;rw[c9.o.1,c9.o.2]) (by rw[bz.o];omega) (by have:=dq.o;simp;omega) rfl rfl (ky _ _) ?_;intro gc f6 gL ej cu fc cr;have b0:=zH ej;have ci:=zH ((cr.block _ (iX _)).t (ai b1 (aw _ _).drew));have cc:=zH ((b9.t ((aw _ _).drew.x b9.size)).t (cr.x (qe _)));have e8:=aQ (oC cu (j6 (aw _ _).drew D).1 (fun e=>dl (by simpa[Value.ownBlock]using e))) (oC cu (j6 (aw _ _).drew D).2 (fun e=>dl (by simpa[Value.ownBlock]using e)));clear ej cu fc cr))
         have gv:=ch.o;go_wp2;go_roundw
         case rel=>exact⟨k+1,_,by have:=ch.o;go_num,IH,by rw[e6.o];exact b0,ci,cc⟩
         case measure=>have:=ch.o;simp[intOf];omega
      .have K6:=zH (HT.no be (zi5 ad (by show ¬vv=0∨ss.toList.isEmpty=false∨S.length<2;rw[<-T];by_cases h1:vv=0<;>by_cases h2:ss.toList.isEmpty=true<;>simp[h1,h2]at a9 ⊢;omega)));have⟨b7,b8,f0,f1⟩:=dD a5;have y:=fW (v0:=.int .i64 (0)) (v1:=.int .i64 (0)) a5;refine Oi fun y0 y1=>?_
       have HE:=zH (fX ao (b:=w.heap.size) Qu (zI (0)) (zI (0)));clear y;have fs:n<=1048576:=UR;clear T bq cI cF br ad;by_cases h1:vv=0
       .subst h1;by_cases h2:ss.toList.isEmpty=true
        .have gn:n<2:=by simp[h2]at a9;omega
         clear a9;exact X5
        .have gi:ss.toList.isEmpty=false:=Rk;clear a9 h2;exact X5
       .have gd:(vv !=0)=true:=Rp;clear a9 h1;exact X5
    .have ea:(kk !=15)=true:=QW;have fo:(kk !=16)=true:=QW;have⟨IH,bd⟩:=bJ (Bi (S:=S) (x:=⟨kk,vv,ss⟩) (by show ¬kk=15;omega) (by show ¬kk=16;omega)) (fun W=>FP kk vv ss W);have⟨a,cp⟩:=aR (Ä kk vv ss.toList.isEmpty);have⟨F,cq⟩:=aR (Ã kk vv ss.toList.isEmpty);have⟨es,ey⟩:=bJ cp cq;rw[<-cp,<-cq]at bd;clear ad cp cq;cases G8:dI ⟨kk,vv,ss.toList.isEmpty⟩
     .rw[G8]at bd;have K6:=zH (HT.no be VV);clear G8;go_upto_region 9 with(go_at_call 220;refine(bd.o _).x ?_;rintro e an ⟨rfl,O⟩;have h:=zH O;clear O)
      have a1:=ai a5 h;have U:=(bO an (.cells (bC a F) 207) (bk.1 a1).1).t a1;have Z:=(aT ao h).alloc (aT ao h).size (.cells (bC a F) 207);generalize an.alloc _=bv at U Z ⊢;have⟨b7,b8,f0,f1⟩:=dD U;have y:=fW (v0:=.int .i64 (0)) (v1:=.int .i64 (0)) U;refine Oi fun y0 y1=>?_
      have HE:=zH (fX Z (b:=w.heap.size) Qu (zI (0)) (zI (0)));clear y;clear a1 U Z bc cR n2;exact X5
     .rw[G8]at bd;have e5:=zH (HT.Y be (S':=Tm.lf ⟨kk,vv,ss.toList.isEmpty⟩::S) VV Qt (by simp;exact HT.ι));have b5:ss.toList.isEmpty=true:=by have:=G8;unfold dI at this;rw[bN]at this;exact this.1
      have b2:=zH (show Τ (Tm.lf ⟨kk,vv,ss.toList.isEmpty⟩::S)=Τ S++[(pC ⟨kk,vv,ss.toList.isEmpty⟩,sC ⟨kk,vv,ss.toList.isEmpty⟩)] from zh S (by unfold Tm.ty;rw[ak G8]));have cV:=zH (show a=(pC ⟨kk,vv,ss.toList.isEmpty⟩:Nat)/\F=(sC ⟨kk,vv,ss.toList.isEmpty⟩:Nat) by rw[es.o,ey.o];rw[b5]at G8 ⊢;exact ϧ G8)
      clear G8 b5;go_upto_region 11 with(go_at_call 220;refine(bd.o _).x ?_;rintro e an ⟨rfl,O⟩;have h:=zH O;clear O)
      have Z:=(aT ao h).alloc (aT ao h).size (.cells (bC a F) 207);have a1:=ai a5 h;have U:=(bO an (.cells (bC a F) 207) (bk.1 a1).1).t a1;have cz:=(a4.ext h).ext ((al _ _).alloc (ae _) (.cells (bC a F) 207));obtain⟨d0,d1,-,-⟩:=dD (aH an (.cells (bC a F) 207) rfl);generalize an.alloc _=bv at U Z cz d0 d1 ⊢;have gB:(w:Nat)<bv:=(bk.1 U).1;have⟨ci,b0,cc,dc⟩:=gG (ai U ((al _ _).alloc (ae _) (.cells (bC a F) 207))) (cz.ext ((al _ _).alloc (ae _) (.cells (bC a F) 207))) (Z.alloc Z.size (.cells (bC a F) 207)) (QW:(w:Nat)+1<=(bv.alloc (.cells (bC a F) 207)));clear a1 U Z cz bc cR n2;go_wp2_with ((at_builtin;refine de rtW rfl _ _ rfl ((w:Nat)+1) (bv.alloc (.cells (bC a F) 207)) _ (Τ S) (pC ⟨kk,vv,ss.toList.isEmpty⟩,sC ⟨kk,vv,ss.toList.isEmpty⟩) [.int .i64 a,.int .i64 F] bv b0.o rfl SU (kn.d b0 dc fun W=>by unfold EWr;rw[cV.o.1,cV.o.2]) (by rw[q_];have:=HT.ι;omega) dc.o rfl rfl (aH _ _ rfl) ?_;intro g f7 gR ek fl av ct;have e1:=zH ek;have e4:=zH ((ct.block _ (iX _)).t ci);have ev:=zH (cc.t (ct.x (qe _)));clear ek fl av ct))
      go_roundw
      case rel=>exact⟨k+1,_,Qx,e5,by rw[b2.o];exact e1,e4,ev⟩
      case measure=>simp[intOf];omega
   .have c4:=zH (ab.U bq fy fz);have ee:=ab.ne (by have:=ab.kl;omega);obtain⟨eo,cn,rfl,av,bi,-⟩:=bw.p b6;rw[q_]at bi ⊢;have co:0<S.length:=List.length_pos_iff.2 ee;have e9:S.length<=1048576:=by have:=ab.ι;have:=ab.kl;omega
    obtain⟨J,go,rfl,a8⟩:=av.θ (k:=0) (by rw[q_];exact co);have⟨a3,em⟩:=aq (by rw[q_];exact co:0 < (Τ S).length);obtain⟨f3,a2,bp⟩:=a8 0 a3 em;unfold EWr at bp;subst bp;have a6:=a2 0 _ rfl;have bg:=a2 1 _ rfl;simp only[Nat.zero_mul,jf]at a6 bg;have ac:((S:Int)==1)=decide (S.length=1):=by rw[jQ];simp;omega
    have⟨n,T⟩:=aR S.length;have⟨ok,G8⟩:=aR (decide (S.length=1));rw[<-G8,<-T]at ac;rw[<-G8]at c4;rw[<-T]at co e9 bi ⊢;have⟨b7,b8,f0,f1⟩:=dD bb;have y:=fW (v0:=.int .i64 ((a3.1:Nat))) (v1:=.int .i64 ((a3.2:Nat))) bb;refine Oi fun y0 y1=>?_
    have HE:=zH (fX a0 (b:=w.heap.size) Qu (zI ((a3.1:Nat))) (zI ((a3.2:Nat))));clear y;clear G8 T a8 a2 em ee ab av b6 bb a0;go_wp2;exact aI (v:=.tuple (ka (bC (a3.1:Nat) (a3.2:Nat)) ok)) (by simp[results,uO,go_sem, *]) rfl ⟨_,_,by rw[c4.o],HE⟩
def FM L A ε w(J:bR 3 jK w A L)(ac:L.length<=1048576):az 204 (cY (aV A L ε)) w (zmA L w):=by
 have h:=((al w w).alloc (ae _) (.cells (aV A L ε) 35)).alloc Qt (.cells fP 207);have G:=(bO (w.alloc (.cells (aV A L ε) 35)) (.cells fP 207) (k:=w.heap.size) Qt).t (aH w _ rfl);have H:=aH (w.alloc (.cells (aV A L ε) 35)) (.cells fP 207) (n:=(w:Nat)+1) Qt;have D:=bQ J h;go_enter func204,ntmps204
 go_upto_region 1 with(fail)
 generalize (w.alloc _).alloc _=W at h G H D ⊢;have ad:=aF G 0 rfl;have⟨O,Z,Y⟩:=er h H D;go_wp2_with (go_at_call 219;refine(zhk L A ε _ Y ac).x ?_;rintro e ap ⟨a,b,rfl,F⟩;have I:=ai Z F;have⟨ah,am,an,ao⟩:=dD I;have ab:=zH I;have T:=zH (aT O F))
 have y:=fW (v0:=.int .i64 (a)) (v1:=.int .i64 (b)) ab;refine Oi fun y0 y1=>?_
 have U:=zH (fX T.o (b:=(w:Nat)+1) Qu (zI (a)) (zI (b)));exact aI (v:=.tuple (ka (bC a b) (kj (cJ L)))) (by simp[results,results204,go_sem, *]) rfl ⟨a,b,rfl,U⟩
def zT L A ε w(F:bR 3 jK w A L)(J:L.length<=1048576):az 161 (cY (aV A L ε)) w (dt w (kj (cJ L))):=by
 refine N5 fun hB hq=>?_
 have h:=bQ F hB;go_enter func161,ntmps161
 go_upto_region 1 with(fail)
 generalize w.alloc _=W at hB hq h ⊢;have O:=aF hq 0 rfl;have⟨H,I⟩:=bJ hB h;go_wp2_with (go_at_call 204;refine(FM L A ε _ I J).x ?_;rintro e T ⟨a,b,rfl,G⟩;have D:=zH (aT H G))
 go_ret
 exact⟨rfl,D.alloc D.size _⟩
def Ñ(p:Int)(x:eE):Bool:=!Õ x.k||decide (x.v<p)
def zgo p L:L.all (Ñ p)=qp p (cJ L):=by unfold qp cJ;rw[List.all_map];rfl
def ntB(x:eE):Bool:=!dlB x.k
def zkO L:L.all ntB=qS (cJ L):=by
 unfold qS cJ;rw[List.all_map];congr 1
 funext x
 show(!(decide (x.k=8)||decide (x.k=14)))=(decide (x.k≠8)&&decide (x.k≠14))
 rw[Bool.not_or];simp
def zU(p:Int)(L:List eE):Bool:=bV p&&(kj (cJ L)&&qp p (cJ L))
def E5 p L A ε w(O:dZ w)(J:bR 3 jK w A L)(T:L.length<=1048576):az 119 (jy (aV A L ε) p) w (dt w (zU p L)):=by
 unfold zU;refine N5 fun hB hq=>?_
 have⟨H,HP⟩:=bJ (show ∀W,ag w W->bR 3 jK W A L from fun W Y=>bQ J Y) (O.ext hB);go_enter func119,ntmps119
 go_upto_region 1 with(fail)
 generalize w.alloc _=W at hB hq HP ⊢;have D:=aF hq 0 rfl;have⟨HB,ac⟩:=bJ hB hq;cases hf:bV p
 .exact YC
 cases F:kj (cJ L)
 .go_wp2_with (first|(go_at_call 142;refine(Calls.cg (jj _ _ HP.o) hf).x ?_;rintro e w' ⟨rfl,rfl⟩)|(go_at_call 161;refine(Calls.bl (zT L A ε _ (H.o _ HB.o) T) F).x ?_;rintro e U ⟨rfl,h⟩;have G:=zH (aT HB h)))
  go_ret
  exact⟨aN (by rw[hf,F];rfl),G⟩
 have I:=zH (zgo p L);go_upto_region 3 with(first|(go_at_call 142;refine(Calls.cg (jj _ _ HP.o) hf).x ?_;rintro e w' ⟨rfl,rfl⟩)|(go_at_call 161;refine(Calls.bl (zT L A ε _ (H.o _ HB.o) T) F).x ?_;rintro e U ⟨rfl,h⟩;have d0:=ar h D;have G:=zH (aT HB h)))
 go_wp2;go_loopw [18] (fun i wr=>∃k:Nat,k<=L.length/\i=.int .i64 k/\Hd ((L.take k).all (Ñ p)=true)/\ag w wr) (fun i _=>L.length-(intOf i).toNat)
 case atStart=>exact⟨0,aW _,rfl,zH Qt,G⟩
 case round=>
  obtain⟨k,ad,rfl,Gw,FW⟩:=hrel;by_cases Z:k<L.length
  .have⟨x,hx⟩:=aq Z;obtain⟨b,o,rfl,D,c1,c2⟩:=iF (H wr FW) hx;obtain⟨kk,vv,ss⟩:=x;dsimp only at D c1 c2;refine NH fun HX Gc G6=>?_
   go_upto_region 6 with(fail)
   generalize wr.alloc _=U at Gc G6 ⊢;have⟨am,an,n2⟩:=aD G6;cases hv:Õ kk
   .have HF:=zH (by unfold Ñ;rw[hv];rfl:Ñ p ⟨kk,vv,ss⟩=true);exact Zb
   .by_cases ab:vv<p
    .have HF:=zH (by unfold Ñ;simp[ab]:Ñ p ⟨kk,vv,ss⟩=true);exact Zb
    .have HF:=zH (by unfold Ñ;rw[hv];simp;omega:Ñ p ⟨kk,vv,ss⟩=false);have ah:p<=vv:=Qu;go_wp2_with (go_at_call 162;refine(Calls.cg (jN _ _) hv).x ?_;rintro e w' ⟨rfl,rfl⟩)
     go_ret
     exact⟨aN (by rw[<-I.o,hf,F,ξ _ _ _ _ HX.o HF];rfl),Gc⟩
  .go_wp2;go_ret
   exact⟨aN (by rw[<-I.o,hf,F,fZ _ _ _ Gw.o Qu];rfl),FW⟩
def Cg(p:Int)(L:List eE):Bool:=zU p L&&qS (cJ L)
def FN p L A ε w(O:dZ w)(J:bR 3 jK w A L)(T:L.length<=1048576):az 84 (jy (aV A L ε) p) w (dt w (Cg p L)):=by
 unfold Cg;refine N5 fun hB hq=>?_
 have⟨G,H⟩:=bJ (show ∀W,ag w W->bR 3 jK W A L from fun W Y=>bQ J Y) (O.ext hB);go_enter func84,ntmps84
 go_upto_region 1 with(fail)
 generalize w.alloc _=W at hB hq H ⊢;have D:=aF hq 0 rfl;have⟨F,ab⟩:=bJ hB hq;cases hf:zU p L
 .go_wp2_with (go_at_call 119;refine(Calls.bl (E5 p L A ε _ H (G.o _ F.o) T) hf).x ?_;rintro e U ⟨rfl,h⟩;have FV:=zH (aT F h))
  exact Wk
 have I:=zH (zkO L);go_upto_region 3 with(go_at_call 119;refine(Calls.bl (E5 p L A ε _ H (G.o _ F.o) T) hf).x ?_;rintro e U ⟨rfl,h⟩;have d0:=ar h D;have FV:=zH (aT F h))
 go_wp2;go_loopw [14] (fun i wr=>∃k:Nat,k<=L.length/\i=.int .i64 k/\Hd ((L.take k).all ntB=true)/\ag w wr) (fun i _=>L.length-(intOf i).toNat)
 case atStart=>exact⟨0,aW _,rfl,zH Qt,FV⟩
 case round=>
  obtain⟨k,ac,rfl,Gw,FW⟩:=hrel;by_cases Z:k<L.length
  .have⟨x,hx⟩:=aq Z;obtain⟨b,o,rfl,D,c1,c2⟩:=iF (G wr FW) hx;obtain⟨kk,vv,ss⟩:=x;dsimp only at D c1 c2;refine NH fun HX Gc G6=>?_
   go_upto_region 6 with(fail)
   generalize wr.alloc _=U at Gc G6 ⊢;have⟨ad,ah,n2⟩:=aD G6;cases hv:dlB kk
   .have HF:=zH (by unfold ntB;rw[hv];rfl:ntB ⟨kk,vv,ss⟩=true);exact Za
   .have HF:=zH (by unfold ntB;rw[hv];rfl:ntB ⟨kk,vv,ss⟩=false);refine MI ?_;go_ret
    exact⟨aN (by rw[<-I.o,hf,ξ _ _ _ _ HX.o HF];rfl),Gc⟩
  .go_wp2;go_ret
   exact⟨aN (by rw[<-I.o,hf,fZ _ _ _ Gw.o Qu];rfl),FW⟩
section
variable{x:Nat}
def bD(l:bP):List Int:=l.map fun x:Nat=>(x:Int)
def aS l:(bD l).length=l:=QM
def dK(h:l[k]?=some x):(bD l)[k]?=some (x:Int):=by simp[bD,h]
def zgV n:υ n=bD (List.range n):=rfl
def jr a b:bD (a++b)=bD a++bD b:=QM
def Cl(w:aa)(e:Ed)(c:cL):Prop:=∃A1 c1 h c2,c=[.int .i64 e.k,.int .i64 e.v,.slice A1 e.i c1,.slice h e.o c2]/\aO w A1 (bD e.i)/\aO w h (bD e.o)
def Cl.ext{a b}{c}(h:ag a b)(F:Cl a e c):Cl b e c:=by obtain⟨A1,c1,D,c2,G,H,I⟩:=F;exact⟨A1,c1,D,c2,G,H.ext h,I.ext h⟩
def Ć:RT prog 52 155 4 (.agg #[(),(),dE,dE]) 64:=⟨underlying52,QT,Qw,Qw,Qw⟩
def Ţ:RT prog 163 54 4 (.agg cw) 80:=⟨underlying163,QT,Qw,Qw,Qw⟩
structure jV(w:aa)(A1 A2 A3:ax)(g:Gr):Prop where
 es:bR 4 Cl w A1 g.es
 i:aO w A2 (bD g.i)
 o:aO w A3 (bD g.o)
def jV.ext{a b}{F G}(h:jV a A1 F G g)(D:ag a b):jV b A1 F G g:=⟨bR.ext (fun _ _ h=>h.ext D) h.es D,h.i.ext D,h.o.ext D⟩
def EGr(w:aa)(g:Gr)(c:cL):Prop:=∃A1 c1 h c2 D F,c=[.int .i64 (g.w:Nat),.slice A1 g.es c1,.slice h g.i c2,.slice D g.o F]/\jV w A1 h D g
def xr(g:Gr)(w:aa)(e:Ending)(w':aa):Prop:=∃A1 c1 h c2 D F,e=.returned (.agg (bj g A1 c1 h c2 D F))/\Fr w' w w' (fun W=>jV W A1 h D g)/\ag w w'
def fU{F}(I:bR 4 Cl w A F)(G:F[k]?=some e):∃b o A1 c1 h c2,A=some ⟨b,o,none⟩/\af w b (o+k*4) (zI e.k)/\af w b (o+k*4+1) (zI e.v)/\af w b (o+k*4+2) (.slice A1 e.i c1)/\af w b (o+k*4+3) (.slice h e.o c2)/\aO w A1 (bD e.i)/\aO w h (bD e.o):=by obtain⟨b,o,H,U⟩:=I.θ (bG.1 G).1;obtain⟨c,D,A1,c1,h,c2,J,O,T⟩:=U k e G;subst J;exact⟨b,o,A1,c1,h,c2,H,D 0 _ rfl,D 1 _ rfl,D 2 _ rfl,D 3 _ rfl,O,T⟩
def dd(a n:Nat):List Nat:=(List.range n).map (· +a)
def c_ a n:(dd a n).length=n:=by simp[dd]
def qh{a}(h:k<n):(dd a n)[k]?=some (k+a):=by simp[dd,h]
def xE(a n k:Nat):List Int:=(bD (dd a n)).take k++(υ n).drop k
def zey a n:xE a n 0=υ n:=by simp[xE]
def zgW a n:xE a n n=bD (dd a n):=by unfold xE;rw[cZ (by rw[aS,c_];exact ae _),jR (by rw[dX];exact ae _),lZ]
def zgX{a}(h:k<n):(xE a n k)[k]?=some (k:Int):=by unfold xE;rw[fi (by rw[cQ,aS,c_];omega),cQ,aS,c_,fQ,iw Qu,pR,jf,sM h]
def zgY{a}(h:k<n):(xE a n k).set k ((k:Int)+a)=xE a n (k+1):=by unfold xE;rw[om _ _ (by rw[cQ,aS,c_];omega),cQ,aS,c_,iw Qu,pR];rw[du,dK (qh h),uu (by rw[dX];exact h),rO];simp
def sJ(a n:Nat)w(J:n<=1048576)(O:a<=1048576):az 66 (bC a n) w fun e w'=>∃u,e=.returned u/\aE w' w u (bD (dd a n))/\ag w w':=by
 go_enter func66,ntmps66
 go_upto_region 3 with(go_at_call 62;refine(qu n _ J).x ?_;rintro e ab ⟨u,rfl,h,G⟩;obtain⟨A,c,rfl,_⟩:=h.p;rw[dX]at h ⊢;have F:=zH h;have HB:=zH G)
 have h1:=F.o;unfold aE at h1;rw[dX,<-zey a n]at h1;have D:=zH h1;go_wp2;go_loopw [11] (fun i wr=>∃k:Nat,k<=n/\i=.int .i64 k/\wr.ownsRow w 3 1 (.slice A n c) n ((xE a n k).map (Value.int .i64))/\ag w wr)
  (fun i _=>n-(intOf i).toNat)
 case atStart=>exact⟨0,aW _,rfl,D,HB⟩
 case round=>
  obtain⟨k,Y,rfl,FT,H⟩:=hrel;by_cases I:k<n
  .obtain⟨g,rfl⟩:∃g,A=some ⟨g,0,none⟩:=Xr;have T:af wr g k (zI k):=by rw[FT.C k Qu,bI,zgX I];rfl
   have U:=FT.g k;have GW:=(FT.j k (zI ((k:Int)+a))).1;rw[<-eW,zgY I]at GW;have⟨HS,HB⟩:=bJ GW (H.setCell (p:=⟨g,k,none⟩) ((bS FT g rfl).1) (zI ((k:Int)+a)));have Z:IntKind.i64.wrap ((k:Int)+a)=(k:Int)+a:=Rt;exact Yr
  .obtain rfl:k=n:=Qu;go_wp2;go_ret
   rw[zgW]at FT;exact⟨_,rfl,by unfold aE;rw[aS,c_];exact FT,H⟩
def zez v A ε h D F w(H:aO w A v)(G:aO w D h)(ab:v.length<=1048576)(Z:h.length<=1048576)(J:∀i∈h,0<=i/\i<v.length):az 164 (mv D h F A v ε) w fun e w'=>∃u,e=.returned u/\aE w' w u (nA v h)/\ag w w':=by
 have T:=zH (zeF v A ε h D F w H G ab Z J);go_enter func164,ntmps164
 go_wp2_with (go_at_call 206;refine T.o.x ?_;rintro e ac ⟨u,rfl,O,I⟩;have Y:=zH O;have U:=zH I)
 go_ret
 exact⟨_,rfl,Y,U⟩
def DJ{r}(h:rows[k]?=some r):(rows.take (k+1)).flatten=(rows.take k).flatten++r:=by rw[du,h];simp
def ya rows A ε w(J:bt w A rows)(a4:rows.length<=1048576)(Y:∀k,k<=rows.length->(rows.take k).flatten.length<=1048576):az 65 (aV A rows ε) w fun e w'=>∃u,e=.returned u/\aE w' w u rows.flatten/\ag w w':=by
 have⟨ap,am⟩:=bJ J Y;go_enter func65,ntmps65
 go_wp2;have⟨H,G⟩:=bJ (aE.lit w w (ae _)) ((al w w).alloc (ae _) (.cells #[] 3));go_loopw [3,9] (fun u i wr=>∃k:Nat,k<=rows.length/\i=.int .i64 k/\aE wr w u (rows.take k).flatten/\ag w wr)
  (fun _ i _=>rows.length-(intOf i).toNat)
 case atStart=>exact⟨0,aW _,rfl,by simpa using H.o,G⟩
 case round=>
  obtain⟨k,a3,rfl,Z,FW⟩:=hrel;have I5:=zH Z;by_cases D:k<rows.length
  .have⟨r,F⟩:=aq D;obtain⟨a1,o,rfl,T⟩:=(ap.ext FW).θ D;obtain⟨ac,av,a2,U⟩:=T k r F;have⟨ah,I⟩:=bJ U (DJ F);have an:=zH (show(rows.take k).flatten.length+r<=1099511627776 by have:=am (k+1) D;rw[I.o,bm]at this;omega);have a0:=FW.size;go_wp2_with ((at_builtin;refine ts rfl (.tmp 13) (.tmp 14) rfl w wr u3 (rows.take k).flatten r ac av rfl rfl I5.o ah.o an.o a0 ?_;intro a5 a6 ab _ O;have ao:=zH ab;have ad:=zH O))
   go_roundw
   case rel=>exact⟨k+1,Qu,Qx,by rw[I.o];exact ao,FW.t ad⟩
   case measure=>simp[intOf];omega
  .exact Xp
end
def b_.xv{a b}{p}(h:b_ lo hi a b)(G:lo<=p.block)(H:p.block<hi):b_ lo hi a (b.setCell p v):=⟨h.os,h.tape,h.output,by simpa using h.size,fun k D F=>(a_ _ _ _ _ Qu).t (h.block k D F)⟩
abbrev ï(w:aa)(b:Nat)(v0 v1 v2 v3 v4 v5:aG):World:=(((((w.setCell ⟨b,0,none⟩ v0).setCell ⟨b,1,none⟩ v1).setCell ⟨b,2,none⟩ v2).setCell ⟨b,3,none⟩ v3).setCell ⟨b,4,none⟩ v4).setCell ⟨b,5,none⟩ v5
def zeU{H I J O}(h:bA w b #[T,H,z2,I,J,O] t):(ï w b v0 v1 v2 v3 v4 v5).heap[b]?=some (.cells #[v0,v1,v2,v3,v4,v5] t (0,0)):=by
 refine NL fun e1 e2 e3=>?_
 have D:=bE _ b 3 _ _ v3 e3;have F:=bE _ b 4 _ _ v4 D;have G:=bE _ b 5 _ _ v5 F;simpa[ï]using G
def zeV(D:Below B w w')(h:B<=b)v0 v1 v2 v3 v4 v5:Below B w (ï w' b v0 v1 v2 v3 v4 v5):=(((((D.setCell h _).setCell h _).setCell h _).setCell h _).setCell h _).setCell h _
def gE{D F G H}(h:bA w b #[T,D,z2,F,G,H] t):(af w b 0 T/\af w b 1 D/\af w b 2 z2/\af w b 3 F/\af w b 4 G/\af w b 5 H)/\w.frozen? ⟨b,0,none⟩=false/\w.frozen? ⟨b,1,none⟩=false/\w.frozen? ⟨b,2,none⟩=false/\w.frozen? ⟨b,3,none⟩=false/\w.frozen? ⟨b,4,none⟩=false/\w.frozen? ⟨b,5,none⟩=false:=⟨⟨aF h 0 rfl,aF h 1 rfl,aF h 2 rfl,aF h 3 rfl,aF h 4 rfl,aF h 5 rfl⟩,aK h 0,aK h 1,aK h 2,aK h 3,aK h 4,aK h 5⟩
structure zS where
 e:Bool
 xs:List j8
 sd:Int
 x3:List Int
 x4:List Int
 x5:List Int
structure Va where
 A:Option Addr
 c:Nat
 A3:Option Addr
 c3:Nat
 A4:Option Addr
 c4:Nat
 A5:Option Addr
 c5:Nat
structure pO(w:aa)(a:Va)(x:zS):Prop where
 s:iS w a.A x.xs
 i3:aO w a.A3 x.x3
 i4:aO w a.A4 x.x4
 i5:aO w a.A5 x.x5
structure vR(n:Nat)(x:zS):Prop where
 s:x.xs.length<=n
 ss:∀r∈x.xs,r.row.length<=n
 i3:x.x3.length<=n
 i4:x.x4.length<=n
 i5:x.x5.length<=n
def dy(D:zS)(h:Va):M (#[.bool D.e,.slice h.A D.xs h.c,.int .i64 D.sd,.slice h.A3 D.x3 h.c3,.slice h.A4 D.x4 h.c4,.slice h.A5 D.x5 h.c5]:Array Value):=⟨⟩
def pO.ext{w w'}{a}{x}(h:pO w a x)(D:ag w w'):pO w' a x:=⟨h.s.ext D,h.i3.ext D,h.i4.ext D,h.i5.ext D⟩
def zmJ(left r:Int)(x:zS):Prop:=r<0∨(0<=r/\r<=left/\(x.xs:Int)<=left/\(∀y∈x.xs,(y.row.length:Int)<=left)/\(x.x3:Int)<=left/\(x.x4:Int)<=left/\(x.x5:Int)<=left)
def xR x a left w(ab:pO w a x)(ah:vR maxLen x)(a0:0<=left)(ad:left<=1048576):az 7 (jy (iK x.e a.A x.xs a.c x.sd a.A3 x.x3 a.c3 a.A4 x.x4 a.c4 a.A5 x.x5 a.c5) left) w fun e w'=>∃r,e=.returned (zI r)/\zmJ left r x/\ag w w':=by
 have⟨G,h⟩:=bM w (.cells (iK x.e a.A x.xs a.c x.sd a.A3 x.x3 a.c3 a.A4 x.x4 a.c4 a.A5 x.x5 a.c5) 28);have⟨Z,D⟩:=bJ (ab.ext G) ah;clear ab ah;go_enter func7,ntmps7
 go_upto_region 1 with(fail)
 generalize w.alloc _=W at G h Z ⊢;have⟨an,H⟩:=bJ G h;have a5:=aF h 1 rfl;clear G h;go_upto_region 2 with(go_at_call 22;(with_reducible refine(zc2 a.A a.c x.xs left _ Z.o.s D.o.s D.o.ss a0 ad).x ?_);rintro e bh ⟨am,rfl,h,ac⟩;have F:=zH ac;have T:=zH h;clear ac h)
 clear a5;have JR:=zH (aJ an F);by_cases bc:am<0
 .exact Wr
 have a1:=wh.le2 T.o ad;have bp:=aF (ai H F) 3 rfl;have bq:=aF (ai H F) 4 rfl;have br:=aF (ai H F) 5 rfl;go_upto_region 5 with(go_at_call 23;(with_reducible refine(tQ a.A3 x.x3 a.c3 am _ D.o.i3 Qu a1).x ?_);rintro e bi ⟨J,rfl,h,rfl⟩;have U:=zH h;clear h)
 by_cases bd:J<0
 .exact Wr
 have a2:J<=1048576:=by rcases U.o with I|I<;>omega
 go_upto_region 8 with(go_at_call 23;(with_reducible refine(tQ a.A4 x.x4 a.c4 J _ D.o.i4 Qu a2).x ?_);rintro e bn ⟨O,rfl,h,rfl⟩;have Y:=zH h;clear h)
 by_cases be:O<0
 .exact Wr
 have a3:O<=1048576:=by rcases Y.o with I|I<;>omega
 go_upto_region 11 with(go_at_call 23;(with_reducible refine(tQ a.A5 x.x5 a.c5 O _ D.o.i5 Qu a3).x ?_);rintro e bo ⟨a4,rfl,h,rfl⟩;have ao:=zH h;clear h)
 by_cases bg:a4<0
 .exact Wr
 go_wp2;go_ret
 refine⟨_,rfl,au ?_,JR⟩;rcases T.o with g|⟨a6,a7,ap,av⟩
 .omega
 rcases U.o with g|⟨a8,a9,ba⟩
 .omega
 rcases Y.o with g|⟨c1,c2,bb⟩
 .omega
 rcases ao.o with g|⟨d1,d2,d3⟩
 .omega
 exact⟨d1,Qu,ap,av,Qu,Qu,Qu⟩
def E0(w:aa)(lo hi:Nat)(v:aG)(xs:aL):Prop:=xs=[]∨vK w lo hi v xs
def E0.ext{w w'}{lo hi}(h:E0 w lo hi v xs)(D:ag w w'):E0 w' lo hi v xs:=h.E id fun h=>h.ext D
def E0.u{w w'}{lo hi lo' hi'}(h:E0 w lo hi v xs)(F:b_ lo' hi' w w')(D:hi<=lo'∨hi'<=lo):E0 w' lo hi v xs:=h.E id fun h=>h.u F D
def E0.at{w}{lo hi}(h:E0 w lo hi (.slice A n c) xs):aO w A xs:=by
 rcases h with rfl|h
 .exact ay rfl
 .obtain⟨F,G,e,D,_⟩:=h.μ.p;cases e;exact D
def yC(w:aa)(lo hi:Nat)(a:Va)(x:zS):Prop:=∃h D F,lo<=h/\h<=D/\D<=F/\F<=hi/\xq w lo h (.slice a.A x.xs a.c) x.xs/\E0 w h D (.slice a.A3 x.x3 a.c3) x.x3/\E0 w D F (.slice a.A4 x.x4 a.c4) x.x4/\E0 w F hi (.slice a.A5 x.x5 a.c5) x.x5
section
variable{w w':aa}{lo hi lo' hi':Nat}{a:Va}{x:zS}
def yC.ext(D:yC w lo hi a x)(h:ag w w'):yC w' lo hi a x:=by obtain⟨Y,Z,ab,F,G,H,I,J,O,T,U⟩:=D;exact⟨Y,Z,ab,F,G,H,I,J.ext h,O.ext h,T.ext h,U.ext h⟩
def yC.u(D:yC w lo hi a x)(h:b_ lo' hi' w w')(ac:hi<=lo'∨hi'<=lo):yC w' lo hi a x:=by obtain⟨Y,Z,ab,F,G,H,I,J,O,T,U⟩:=D;exact⟨Y,Z,ab,F,G,H,I,J.u h Qu,O.u h Qu,T.u h Qu,U.u h Qu⟩
def yC.at(h:yC w lo hi a x):pO w a x:=by obtain⟨U,Y,Z,I,J,O,T,D,F,G,H⟩:=h;exact⟨ziP D.μ,F.at,G.at,H.at⟩
end
def E4 A ε xs w(F:aO w A xs)(H:xs.length<=1048576):az 28 (aV A xs ε) w fun e w'=>∃h c2,e=.returned (.slice h xs c2)/\vK w' w w' (.slice h xs c2) xs/\ag w w':=by refine(DH A ε xs w F Qu).x ?_;rintro e w' ⟨u,rfl,D,G⟩;obtain⟨h,c2,rfl,-⟩:=D.p;exact⟨h,c2,rfl,vK.of D,G⟩
def znb(x:zS)(w:aa)(e:Ending)(w':aa):Prop:=∃a:Va,e=.returned (.agg (dy x a))/\yC w' w w' a x/\ag w w'
def xq.À{xs}(h:xq w lo hi v xs)(H:lo'<=lo):xq w lo' hi v xs:=by obtain⟨us,h⟩:=h;exact⟨us,⟨h.μ.ι,⟨h.μ.η.1,h.μ.η.2.E id fun⟨g,ε,G,D,O,F⟩=>⟨g,ε,G,D,Qu,F⟩⟩,fun k u r J I=>(h.μ.ν k u r J I).x H,h.μ.apart⟩,h.up,h.Í⟩
structure TvW(w:aa)(a0 cs:gg)(V:aa):Prop where
 q0:bA V w a0 28
 q1:bA V ((w:Nat)+1) tW 39
 q2:bA V ((w:Nat)+1+1) cs 39
 b:ag w V
def TvW.ext{F}{G}(h:TvW w G cs V)(D:ag V F):TvW w G cs F:=⟨ai h.q0 D,ai h.q1 D,ai h.q2 D,aJ h.b D⟩
def TvW.set{D F}(h:TvW w D cs V)i v(G:cs.setIfInBounds i v=F):TvW w D F (V.setCell ⟨(w:Nat)+1+1,i,none⟩ v):=⟨(a_ _ _ _ _ Rs).t h.q0,(a_ _ _ _ _ Rs).t h.q1,by rw[<-G];exact bE V _ i _ _ v h.q2,h.b.setCell Rs v⟩
def TvW.lt{h}(D:TvW w h cs V):(w:Nat)+1+1<V:=(bk.1 D.q2).1
def xQ x a w(b6:pO w a x)(b7:vR 1048576 x):az 10 (cY (dy x a)) w (znb x w):=by
 have br:=ζ w (.cells (dy x a) 28) (.cells tW 39) (.cells tW 39);have⟨bu,bv,bz⟩:=cD w (.cells (dy x a) 28) (.cells tW 39) (.cells tW 39);have⟨ba,a6⟩:=bJ (fun V (cB:ag w V)=>b6.ext cB) b7;go_enter func10,ntmps10
 go_upto_region 2 with(fail)
 generalize ((w.alloc _).alloc _).alloc _=W at br bu bv bz ⊢;have bb:=zH (show TvW w #[.bool x.e,.slice a.A x.xs a.c,.int .i64 x.sd,.slice a.A3 x.x3 a.c3,.slice a.A4 x.x4 a.c4,.slice a.A5 x.x5 a.c5] #[.bool false,.slice none 0 0,.int .i64 0,.slice none 0 0,.slice none 0 0,.slice none 0 0] W from⟨bu,bv,bz,br⟩)
 -- Equal
 obtain⟨⟨cr,bq,ct,cu,cz,cA⟩,-⟩:=gE bb.q0;have⟨⟨Z,ab,ac,ad,ah,am⟩,f0,f1,f2,f3,f4,f5⟩:=gE bb.q2;go_upto_region 3 with(fail)
 have t1:=bb.set 0 (.bool x.e) rfl;generalize W.setCell ⟨(w:Nat)+1+1,0,none⟩ _=cn at t1 ⊢;have bc:=zH t1;have bq:=aF bc.o.q0 1 rfl;go_upto_region 5 with(go_at_call 27;(with_reducible refine(zdq a.A a.c x.xs _ (ba.o _ bc.o.b).s a6.o.s a6.o.ss).x ?_);rintro e a3 ⟨u,rfl,I,D⟩;obtain⟨A1,c1,rfl,-⟩:=I.p;have ce:=zH (xq.of I);have b8:=zH D;have h:=bc.ext D;have b1:=zH h;have⟨⟨Z,ab,ac,ad,ah,am⟩,f0,f1,f2,f3,f4,f5⟩:=gE h.q2;obtain⟨⟨an,ao,ap,av,a0,a1⟩,-⟩:=gE h.q0)
 have G:=((b1.set 1 (.slice A1 x.xs c1) rfl).set 2 (zI x.sd) rfl);have H:=(((b_.refl ((w:Nat)+1+1) ((w:Nat)+1+1+1) a3).xv (p:=⟨(w:Nat)+1+1,1,none⟩) (v:=.slice A1 x.xs c1) (ae _) (iX _)).xv (p:=⟨(w:Nat)+1+1,2,none⟩) (v:=.int .i64 x.sd) (ae _) (iX _));have F:((a3.setCell ⟨(w:Nat)+1+1,1,none⟩ (.slice A1 x.xs c1)).setCell ⟨(w:Nat)+1+1,2,none⟩ (zI x.sd):Nat)=a3:=Qt;generalize ((a3.setCell ⟨(w:Nat)+1+1,1,none⟩ _).setCell ⟨(w:Nat)+1+1,2,none⟩ _)=co at G H F ⊢;have⟨bi,ck,b9⟩:=er G H F;have a7:=aF bi.o.q0 3 rfl;go_upto_region 6 with(go_at_call 28;(with_reducible refine(E4 a.A3 a.c3 x.x3 _ (ba.o _ bi.o.b).i3 a6.o.i3).x ?_);rintro e a4 ⟨J,c2,rfl,I,D⟩;have ch:=zH I;have b0:=zH D;have h:=bi.ext D;have b2:=zH h;have⟨⟨Z,ab,ac,ad,ah,am⟩,f0,f1,f2,f3,f4,f5⟩:=gE h.q2;obtain⟨⟨an,ao,ap,av,a0,a1⟩,-⟩:=gE h.q0)
 have G:=(b2.set 3 (.slice J x.x3 c2) rfl);have H:=((b_.refl ((w:Nat)+1+1) ((w:Nat)+1+1+1) a4).xv (p:=⟨(w:Nat)+1+1,3,none⟩) (v:=.slice J x.x3 c2) (ae _) (iX _));have F:(a4.setCell ⟨(w:Nat)+1+1,3,none⟩ (.slice J x.x3 c2):Nat)=a4:=Qt;generalize (a4.setCell ⟨(w:Nat)+1+1,3,none⟩ _)=cp at G H F ⊢;have⟨bn,b5,ca⟩:=er G H F;have a7:=aF bn.o.q0 4 rfl;go_upto_region 7 with(go_at_call 28;(with_reducible refine(E4 a.A4 a.c4 x.x4 _ (ba.o _ bn.o.b).i4 a6.o.i4).x ?_);rintro e a5 ⟨O,U,rfl,I,D⟩;have ci:=zH I;have bh:=zH D;have h:=bn.ext D;have b3:=zH h;have⟨⟨Z,ab,ac,ad,ah,am⟩,f0,f1,f2,f3,f4,f5⟩:=gE h.q2;obtain⟨⟨an,ao,ap,av,a0,a1⟩,-⟩:=gE h.q0)
 have G:=(b3.set 4 (.slice O x.x4 U) rfl);have H:=((b_.refl ((w:Nat)+1+1) ((w:Nat)+1+1+1) a5).xv (p:=⟨(w:Nat)+1+1,4,none⟩) (v:=.slice O x.x4 U) (ae _) (iX _));have F:(a5.setCell ⟨(w:Nat)+1+1,4,none⟩ (.slice O x.x4 U):Nat)=a5:=Qt;generalize (a5.setCell ⟨(w:Nat)+1+1,4,none⟩ _)=cq at G H F ⊢;have⟨bo,bp,cb⟩:=er G H F;have a7:=aF bo.o.q0 5 rfl;go_upto_region 8 with(go_at_call 28;(with_reducible refine(E4 a.A5 a.c5 x.x5 _ (ba.o _ bo.o.b).i5 a6.o.i5).x ?_);rintro e a8 ⟨T,Y,rfl,I,D⟩;have cj:=zH I;have a9:=zH D;have h:=bo.ext D;have b4:=zH h;have⟨⟨Z,ab,ac,ad,ah,am⟩,f0,f1,f2,f3,f4,f5⟩:=gE h.q2;obtain⟨⟨an,ao,ap,av,a0,a1⟩,-⟩:=gE h.q0)
 have G:=(b4.set 5 (.slice T x.x5 Y) rfl);have H:=((b_.refl ((w:Nat)+1+1) ((w:Nat)+1+1+1) a8).xv (p:=⟨(w:Nat)+1+1,5,none⟩) (v:=.slice T x.x5 Y) (ae _) (iX _));have F:(a8.setCell ⟨(w:Nat)+1+1,5,none⟩ (.slice T x.x5 Y):Nat)=a8:=Qt;generalize (a8.setCell ⟨(w:Nat)+1+1,5,none⟩ _)=a2 at G H F ⊢;have⟨bd,be,cc⟩:=er G H F;have⟨⟨dq,dr,dO,dT,d0,d1⟩,c5,c6,c7,c8,c9,db⟩:=gE bd.q1;obtain⟨⟨an,ao,ap,av,a0,a1⟩,-⟩:=gE bd.q2;have y:=zeU (v0:=.bool x.e) (v1:=.slice A1 x.xs c1) (v2:=.int .i64 x.sd) (v3:=.slice J x.x3 c2) (v4:=.slice O x.x4 U) (v5:=.slice T x.x5 Y) bd.q1;obtain⟨⟨d2,d3,d4,d5,d6,d7⟩,-⟩:=gE y;go_wp2;refine aI (v:=.agg (iK x.e A1 x.xs c1 x.sd J x.x3 c2 O x.x4 U T x.x5 Y)) (by simp[results,results10,go_sem, *]) rfl ?_;have bg:b_ ((w:Nat)+1) ((w:Nat)+1+1) a2 (ï a2 ((w:Nat)+1) (.bool x.e) (.slice A1 x.xs c1) (zI x.sd) (.slice J x.x3 c2) (.slice O x.x4 U) (.slice T x.x5 Y)):=
  (((((((b_.refl ((w:Nat)+1) ((w:Nat)+1+1) a2).xv (p:=⟨(w:Nat)+1,0,none⟩) (v:=.bool x.e) (ae _) (iX _)).xv (p:=⟨(w:Nat)+1,1,none⟩) (v:=.slice A1 x.xs c1) (ae _) (iX _)).xv (p:=⟨(w:Nat)+1,2,none⟩) (v:=.int .i64 x.sd) (ae _) (iX _)).xv (p:=⟨(w:Nat)+1,3,none⟩) (v:=.slice J x.x3 c2) (ae _) (iX _)).xv (p:=⟨(w:Nat)+1,4,none⟩) (v:=.slice O x.x4 U) (ae _) (iX _)).xv (p:=⟨(w:Nat)+1,5,none⟩) (v:=.slice T x.x5 Y) (ae _) (iX _))
 have dc:=bc.lt;have cF:=b9.o;have n2:=ca.o;have cI:=cb.o;have dl:=cc.o;have cW:=b8.size;have c0:=b0.size;have c3:=bh.size;have c4:=a9.size;have cK:xq a2 cn a3 (.slice A1 x.xs c1) x.xs:=((((((ce.u ck Qu).ext b0).u b5 Qu).ext bh).u bp Qu).ext a9).u be Qu;have cO:vK a2 co a4 (.slice J x.x3 c2) x.x3:=((((ch.u b5 Qu).ext bh).u bp Qu).ext a9).u be Qu;have cR:vK a2 cp a5 (.slice O x.x4 U) x.x4:=((ci.u bp Qu).ext a9).u be Qu;have cV:vK a2 cq a8 (.slice T x.x5 Y) x.x5:=cj.u be Qu;refine⟨⟨A1,c1,J,c2,O,U,T,Y⟩,rfl,⟨a3,a4,a5,Qu,Qu,Qu,?_,(cK.u bg Qu).À Qu,au ?_,au ?_,au ?_⟩,?_⟩
 .simp[ï];omega
 .have:=cO.u bg Qu;rw[cF]at this;exact this
 .have:=cR.u bg Qu;rw[n2]at this;exact this
 .have:=cV.u bg Qu;rw[cI]at this;exact this.x (ae _) (by simp[ï];omega)
 .exact zeV bd.b (b:=(w:Nat)+1) Qu ..
section
variable{u:aG}
def zl2:(prog.info? 57).map (fun i=>(i.zero,i.size,i.bytes))=some (some (.agg bx),3,40):=QT
def aY.zle{w w'}{B}{D}{v}{xs}(h:aY w B u rows)(O:26≠D)(T:3≠D)(I:w.ownsRow B' D s v n xs)(F:w.grownBy w' v.ownBlock):aY w' B u rows:=by obtain⟨us,h⟩:=h;exact⟨us,jA h.η F (vT O h.η I),fun k J r H G=>aE.kept (h.ν k J r H G) F (vT T (h.ν k J r H G) I),h.apart⟩
def kx(x:Sy)(u:aG):List Value:=[.int .i64 x.v,.int .i64 x.h,u]
def xT:List Sy->List Value->List Value
 |x::xs,u::us=>kx x u++xT xs us
 |_,_=>[]
def BL{j}(F:j<3):∀{xs:List Sy} {us:cL} {k:Nat} {x:Sy} {u:aG},xs[k]?=some x->us[k]?=some u->(xT xs us)[k*3+j]?=(kx x u)[j]?
 |[],us,k,x,u,h,_=>QO
 |x::xs,[],k,_,_,_,h=>QO
 |x::xs,u::us,0,y,t,h,D=>by simp at h D;subst h D;rw[xT,dU (by simp[kx];omega)];simp
 |x::xs,u::us,k+1,y,t,h,D=>by
  simp only[dm]at h D;have:=BL F h D;rw[xT,fi (by simp[kx];omega)];rw[<-this];congr 1
  simp[kx];omega
def E9:∀{xs:List Sy} {us:cL} (x:Sy) (u:aG),us.length=xs->xT (xs++[x]) (us++[u])=xT xs us++kx x u
 |[],us,x,u,h=>by have:us=[]:=iq Q_;subst this;simp[xT]
 |x::xs,[],_,_,h=>QO
 |x::xs,u::us,y,t,h=>by have:=E9 (xs:=xs) (us:=us) y t Q_;simp[xT,this]
structure tT(w:aa)(B:Nat)(v:aG)(xs:List Sy)(us:cL):Prop where
 ι:us.length=xs
 η:w.ownsRow B 57 3 v xs.length (xT xs us)
 ν:∀(k:Nat) (u:aG) (x:Sy),us[k]?=some u->xs[k]?=some x->aY w B u x.rows
def uY(w:aa)(B:Nat)(v:aG)(xs:List Sy):Prop:=∃us,tT w B v xs us
def zmL(w:aa)(A:ax)(xs:List Sy):Prop:=
 xs=[]∨∃b o,A=some ⟨b,o,none⟩/\∀(k:Nat) (x:Sy),xs[k]?=some x->∃h ε,(af w b (o+k*3) (zI x.v)/\af w b (o+k*3+1) (zI x.h)/\af w b (o+k*3+2) (.slice h x.rows ε))/\bt w h x.rows
section
variable{w w':aa}{B:Nat}{v:aG}{xs:List Sy}{us:cL}
def tT.F(h:tT w B v xs us){x}(hx:xs[k]?=some x):∃u,us[k]?=some u/\aY w B u x.rows:=Ye
def uY.p(h:uY w B v xs):∃A ε,v=.slice A xs ε/\zmL w A xs/\xs.length<=ε/\ε<=maxLen:=by
 obtain⟨us,h⟩:=h;have I:=fun g=>oz h.η (g:=g)
 rcases h.η.2 with⟨rfl,hn⟩|⟨g,ε,U,rfl,Y,Z,hn,hm,ab⟩
 .exact WH
 .refine MG fun k x hk=>?_
  obtain⟨u,O,J⟩:=h.F hk;obtain⟨F,G,rfl,hi,_⟩:=J.p;have D:∀(j:Nat) (y:aG),j<3->(kx x (.slice F x.rows G))[j]?=some y->af w g (0+k*3+j) y:=fun j y H T=>by have:=I g rfl (k*3+j) y (by rw[BL H hk O];exact T);rwa[dF,<-ow]at this
  exact⟨F,G,⟨D 0 _ Qw rfl,D 1 _ Qw rfl,D 2 _ Qw rfl⟩,hi⟩
def tT.ext(D:tT w B v xs us)(h:ag w w'):tT w' B v xs us:=⟨D.ι,jA D.η (row:=none) ⟨h.os,h.tape,h.output,h.size,fun k F _=>h.block k F⟩ TC,fun k u r H G=>(D.ν k u r H G).ext h⟩
def uY.ext(h:uY w B v xs)(D:ag w w'):uY w' B v xs:=by obtain⟨us,h⟩:=h;exact⟨us,h.ext D⟩
def uY.ψ(W:aa)B x u(F:B<=(W:Nat))(G:aY W B u x.rows):uY (W.alloc (.cells #[x.v,x.h,u] 57)) B (.slice (bH W) 1 1) [x]:=by
 refine⟨[u],rfl,?_,fun k H I h D=>?_⟩
 .exact⟨rfl,au ⟨W,1,#[.int .i64 x.v,.int .i64 x.h,u],rfl,F,aH _ _ rfl,ae _,Qw,rfl,rfl⟩⟩
 .cases k with
  |zero=>simp at h D;subst h D;exact G.ext ((al _ _).alloc (ae _) _)
  |succ k=>simp at h
def tT.snoc{x}(h:tT w B v xs us)(O:aY w B u x.rows)(J:w'.ownsRow B 57 3 T (xs.length+1) (xT xs us++kx x u))(G:w.grownBy w' v.ownBlock):tT w' B T (xs++[x]) (us++[u]):=by
 refine⟨by simp[h.ι],by rw[E9 _ _ h.ι];simpa using J,?_⟩;intro k U Y D F;by_cases H:k<us.length
 .rw[dU H]at D;rw[dU (by rw[<-h.ι];exact H)]at F;exact aY.zle (h.ν k U Y D F) Qw Qw h.η G
 .have I:k=us.length:=by have:=(bG.1 D).1;simp at this;omega
  subst I;simp at D;rw[h.ι]at F;simp at F;subst D F;exact aY.zle O Qw Qw h.η G
end
def FO{E}(T:o.guard=none)s x(U:o.op=.call {callee:=.builtin .append,args:=#[s,x],argTypes:=#[106,106]})B W v u xs y(Z:uY W B v xs)(H:aY W B u y.rows)(av:xs.length+1<=1048576)(O:B<=(W:Nat))(ac:a.eval s=v)(ad:a.eval x=.slice (bH W) 1 1)(J:∀g ε w',uY w' B (.slice (bH g) (xs.length+1) ε) (xs++[y])->W.grownBy w' v.ownBlock->Below B W w'->K (a.put o.dst (.slice (bH g) (xs.length+1) ε)) w'):if Region.wanted o (yielded ops a.tmps)=true then Oper.wp prog o a (W.alloc (.cells #[y.v,y.h,u] 57)) K Q else E:=by
 have⟨ao,hi,ah,am,an⟩:=dp zl2;obtain⟨us,D⟩:=Z;obtain⟨F,G,rfl,_⟩:=H.p;have Y:=nm D.η (.cells (da y F G) 57);refine step_append_lies _ T s x 106 U B 57 ao (.agg bx) 3 40 underlying106 hi ah am an rfl Qw v _ _ ac Y ⟨W,0,none⟩ 1 1 (kx y (.slice F y.rows G)) ad rfl ?_ ?_ Qw ?_ ?_ ?_ _ rfl ?_
 .intro j ap h
  match j,h with
  |0,h=>simp[kx]at h;subst h;simp[Addr.add]
  |1,h=>simp[kx]at h;subst h;simp[Addr.add]
  |2,h=>simp[kx]at h;subst h;simp[Addr.add]
  |j+3,h=>simp[kx]at h
 .intro ap I;simp[kx]at I;rcases I with rfl|rfl|rfl<;>rfl
 .unfold maxLen;omega
 .omega
 .simp;omega
 .intro g ε w' ab Gx _ _;refine Pc fun hg=>?_
  exact J g ε w' ⟨_,D.snoc H ab hg⟩ hg ((al _ _).grown hg O fun k hk=>(bS D.η k hk).1)
end
section
variable{p:Int}
def ziY(D:bV p=true)(s:eV p N n Jq):eV p (N-(gY p n Jq (zK N)).1) N ((gY p n Jq (zK N)).2.2.drop (gY p n Jq (zK N)).1)/\(gY p n Jq (zK N)).1<=N:=by have h:=(cv D).1;have⟨c,l,e,F,_,_⟩:=nN (n2:=N) D h s (yG h);exact⟨e.s2.drop F,F⟩
def DT p Jq A ε N n w(av:bV p=true)(b1:bt w A Jq)(s:eV p N n Jq)(D:N<=1048576)(hn:n<=1048576):az 177 #[p,.slice A N ε,n] w (Ct (qN p n Jq) w):=by
 have⟨a2,b7⟩:=ziY av s;have a0:qN p n Jq=j5 p N ((gY p n Jq (zK N)).2.2.drop (gY p n Jq (zK N)).1):=by unfold qN á;rw[s.1]
 have⟨h,an⟩:=aR (gY p n Jq (zK N));rw[<-an]at a2 b7 a0;have⟨bu,J,ac,bo⟩:=gG an a0 a2 (show ∀r∈Jq,r.length<=1048576 from fun r hr=>TB);have b0:=s.1;subst b0;have⟨bp,I⟩:=bJ s av;clear an a0 a2 s av;have p2:=(cv I).1;go_enter func177,ntmps177
 go_wp2_with fail
 refine(yg _ _ Jq _ b1 D bo).x ?_;rintro e bd ⟨u,rfl,a1,ao⟩;obtain⟨A1,c1,rfl,_,ca,cb⟩:=a1.p;have⟨bq,bi⟩:=bJ a1 ao;have bb:=ao.size;clear a1 ao;go_wp2_with fail
 refine(BD Jq _ D).x ?_;rintro e be ⟨u2,rfl,T,ap⟩;obtain⟨bg,c2,rfl,_,b2,cc⟩:=T.p;rw[ĵ]at T b2 ⊢;have⟨br,a3⟩:=bJ T ap;have b6:=ap.size;clear T ap;go_wp2_with fail
 refine(xI p w bd bd be Jq n Jq c1 c2 A1 bg Jq (zK Jq) be I ((Κ.of bq).ext a3) (Κ.of br) bp (yG p2) (ae _) bb b6 (ae _) D hn D).x ?_;rintro e F ⟨rfl,_,ah,bc⟩;rw[<-bu.o]at ah ⊢;have⟨HW,a4⟩:=bJ (show ag w F from(bi.t (a3.x bb)).t (bc.L (ae _) Qu)) ah.μ;have b3:=Bv a4;have a8:(h.2.2.drop h.1).length=Jq-h.1:=ac.1;have b5:((Jq:Int)-(h.1:Int))=((Jq.length-h.1:Nat):Int):=Qu;clear ah bc;rcases b3 with⟨rfl,bz,rfl,a9⟩|⟨g,rfl,b4,_,_⟩
 .have⟨bv,Z⟩:=bJ (Qu:h.1=0) (show bt F none (h.2.2.drop h.1) from ay (by rw[a9];simp));rw[bv.o];clear a8 b5 a9;have O:=vI p (h.2.2.drop h.1) none 0 (Jq.length-h.1) Jq F I Z ac Qu D;have⟨R,am⟩:=aR (j5 p Jq (h.2.2.drop h.1));have a5:=zH am;rw[<-am]at O;rw[show Jq.length-h.1=0 by omega,bz]at O;have bn:=zH (show az 214 #[p,dE,()] F (Ct R F) from O);clear O am;go_wp2_with fail
  refine bn.x ?_;rintro e b8 ⟨U,ad,rfl,H,G⟩;have⟨ab,Y⟩:=bJ H G;clear H G;go_wp2;go_ret
  exact⟨U,ad,by rw[J.o,<-a5.o];rfl,by rw[J.o,<-a5.o];exact ab.x HW.size,HW.t (Y.x To)⟩
 .obtain⟨_,_,a6,ba,_⟩:=a4.p;simp only[ep]at a6;obtain⟨rfl,-,rfl⟩:=a6;have⟨U,b9,a7⟩:=zhw ba (Qu:h.2.2.length<=c2) h.1;have Z:=zH a7;clear ba a7 b4 a8;go_wp2_with fail
  with_reducible refine(vI p (h.2.2.drop h.1) (some U) (c2-h.1) (Jq.length-h.1) Jq F I.o Z.o ac.o Qu D).x ?_
  rintro e b8 ⟨bh,ad,rfl,H,G⟩;have⟨ab,Y⟩:=bJ H G;clear H G;go_wp2;go_ret
  exact⟨bh,ad,by rw[J.o];rfl,by rw[J.o];exact ab.x HW.size,HW.t (Y.x To)⟩
def DU p Jq A ε N n w(H:bV p=true)(a1:bt w A Jq)(s:eV p N n Jq)(F:N<=1048576)(I:n<=1048576):az 190 #[p,.slice A N ε,n] w (Ct (ql p Jq n) w):=by
 have J:ql p Jq n=qN p N (Λ Jq n):=by unfold ql;rw[s.1]
 have D:=zH J;have Y:=Ī s;have ap:=zH Y;have a0:=s.1;subst a0;have⟨ao,ah⟩:=bJ (show ∀r∈Jq,n<=r.length from fun r a2=>by rw[s.row r a2];exact ae _) H;go_enter func190,ntmps190
 go_wp2_with fail
 refine(Dr Jq _ _ n _ a1 F I ao).x ?_;rintro e a3 ⟨u,rfl,Z,h⟩;obtain⟨A1,c1,rfl,O,_⟩:=Z.p;rw[CE]at ⊢;have⟨am,ac⟩:=bJ O h;have U:=h.size;go_wp2_with fail
 with_reducible refine(DT p (Λ Jq n) A1 c1 n Jq a3 ah.o am.o ap.o I F).x ?_
 rintro e a4 ⟨ab,av,rfl,T,G⟩;have⟨an,ad⟩:=bJ T G;go_wp2;go_ret
 exact⟨ab,av,by rw[D.o];rfl,by rw[D.o];exact an.x U,ac.t (ad.x U)⟩
end
end Go.Proofs.YtpieilkmmiopfaaGreatDoor
