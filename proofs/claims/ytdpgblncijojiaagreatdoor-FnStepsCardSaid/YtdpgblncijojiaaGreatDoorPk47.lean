/- Parts of the walks. Conditions: as stated with each. -/
import Derived.Test.YtdpgblncijojiaaGreatDoorPk36
namespace Go.Proofs.YtdpgblncijojiaaGreatDoor
open Go.RowKit Tryz
set_option linter.all false
set_option maxHeartbeats 16000000
set_option maxRecDepth 100000
variable{A:an}{B B' b c k m n:Nat}{E RL w w':aa}{J:iq}{Q:gU}{T:dG}{a:Act}{o:gI}{u v v':au}{us:bG}{xs:aG}{ys:List cS}
def ownsRow_pop{w:aa}{B s cap:Nat}{xs:bG}(h:w.ownsRow B T s (.slice A m cap) m xs)(hn:n<=m):w.ownsRow B T s (.slice A n cap) n (xs.take (n*s)):=Zl
def zw:∀{xs:List cS} {us:bG} (n:Nat),us.length=xs->fS (xs.take n) (us.take n)=(fS xs us).take (n*5)
 |[],us,n,h=>Xu
 |x::xs,[],_,h=>Sf
 |x::xs,u::us,0,h=>by simp[fS]
 |x::xs,u::us,n+1,h=>by have:=zw (xs:=xs) (us:=us) n So;simp only[xY,fS,this];rw[show(n+1)*5=(dq x u).length+n*5 by simp[dq];omega,CV]
def zx:∀{xs:List Sy} {us:bG} (n:Nat),us.length=xs->mz (xs.take n) (us.take n)=(mz xs us).take (n*3)
 |[],us,n,h=>Xs
 |x::xs,[],_,h=>Sf
 |x::xs,u::us,0,h=>by simp[mz]
 |x::xs,u::us,n+1,h=>by have:=zx (xs:=xs) (us:=us) n So;simp only[xY,mz,this];rw[show(n+1)*3=(fW x u).length+n*3 by simp[fW];omega,CV]
def ph{z:Type}{l:List z}{x:z}(h:(l.take n)[k]?=some x):l[k]?=some x:=by
 rw[fY]at h;split at h
 .exact h
 .cases h
def bq.pop{w:aa}{B cap:Nat}{xs:List cS}{us:bG}(h:bq w B (.slice A m cap) xs us)(E:m=xs.length)(F:n<=m):bq w B (.slice A n cap) (xs.take n) (us.take n):=by subst E;have D:(xs.take n).length=n:=Sw;refine⟨Sn,?_,fun k u x H I=>h.each k u x (ph H) (ph I),fun i j u J b hi z=>h.apart i j u J b (ph hi) (ph z)⟩;rw[D,zw n h.len];exact ownsRow_pop h.outer F
def bq.at5{w:aa}{B g cap:Nat}{us:bG}{y:cS}(F:n=ys.length)(h:bq w B (.slice (aY g) n cap) ys us)(D:ys[k]?=some y):∃A c,wS w g (k*5) y A c/\aT w A y.row:=by
 subst F;have O:=(bA.1 D).1;obtain⟨u,J,H⟩:=h.get D;obtain⟨A,c,rfl,I,_⟩:=H.view;have z:∀j,j<5->w.cell? ⟨g,k*5+j,none⟩=(dq y (.slice A y.row c))[j]?:=fun j E=>by rw[h.outer.cellAt _ RU,nn E D J]
 exact⟨A,c,⟨z 0 RX,z 1 RX,z 2 RX,z 3 RX,z 4 RX⟩,I⟩
def bq.form{w:aa}{B cap:Nat}{us:bG}(h:bq w B (.slice A n cap) ys us)(z:0<ys.length):∃g,A=some ⟨g,0,none⟩/\n<=cap/\cap<=maxLen/\n=ys.length:=Yv
structure mF(w0 w:aa)(B:Nat)(v:au)(xs:List Sy)(us:bG):Prop where
 len:us.length=xs
 outer:w.ownsRow B 26 3 v xs.length (mz xs us)
 each:∀(k:Nat) (u:au) (x:Sy),us[k]?=some u->xs[k]?=some x->∃A c,u=.slice A x.rows c/\Kept w0 w B A c x.rows
def Kept.ep{w w' w0:aa}{B s:Nat}{v:au}{rows:aE}{xs:bG}(h:Kept w0 w B A c rows)(z:27≠T)(D:3≠T)(F:w.ownsRow B' T s v n xs)(E:w.grownBy w' v.ownBlock):Kept w0 w' B A c rows:=h.imp id fun h=>h.ep z D F E
def Kept.same{w0 w w':aa}{B:Nat}{rows:aE}(h:Kept w0 w B A c rows)(z:∀k,B<=k->w'.heap[k]?=w.heap[k]?):Kept w0 w' B A c rows:=h.imp id fun h=>h.same z
def Kept.mono{w0 w:aa}{B:Nat}{rows:aE}(h:Kept w0 w B A c rows)(z:B'<=B):Kept w0 w B' A c rows:=h.imp id fun h=>h.mono z
section
variable{w0 w w':aa}{B:Nat}{v:au}{xs:List Sy}{us:bG}
def mF.ext(h:mF w0 w B v xs us)(z:ai w w'):mF w0 w' B v xs us:=
 ⟨h.len,hJ h.outer (row:=none) ⟨z.os,z.tape,z.output,z.size,fun k D _=>z.block k D⟩ Uu,fun k u r F E=>by obtain⟨A,c,e,D⟩:=h.each k u r F E;exact⟨A,c,e,D.ext z⟩⟩
def mF.same(h:mF w0 w B v xs us)(hs:∀k,B<=k->w'.heap[k]?=w.heap[k]?):mF w0 w' B v xs us:=
 ⟨h.len,⟨h.outer.1,h.outer.2.imp id fun⟨g,cap,cur,z,a2,a3,D⟩=>⟨g,cap,cur,z,a2,T_,D⟩⟩,fun k u r H F=>by obtain⟨A,c,e,E⟩:=h.each k u r H F;exact⟨A,c,e,E.same hs⟩⟩
def mF.ep{s:Nat}{ys:bG}(h:mF w0 w B v xs us)(E:26≠T)(F:27≠T)(H:3≠T)(D:w.ownsRow B' T s v' n ys)(z:w.grownBy w' v'.ownBlock):mF w0 w' B v xs us:=
 ⟨h.len,hJ h.outer z (iI E h.outer D),fun k u r O J=>by obtain⟨A,c,e,I⟩:=h.each k u r O J;exact⟨A,c,e,I.ep F H D z⟩⟩
def mF.lit(w0 W:aa)(B:Nat)(z:B<=(W:Nat)):mF w0 (W.alloc (.cells #[] 26)) B (.slice (aY W) 0 0) [] []:=⟨rfl,qe W #[] 0 z RX rfl,fun k u r hu=>Sg⟩
def mF.pop{cap:Nat}(h:mF w0 w B (.slice A m cap) xs us)(D:m=xs.length)(E:n<=m):mF w0 w B (.slice A n cap) (xs.take n) (us.take n):=by subst D;have z:(xs.take n).length=n:=Sw;refine⟨Sn,?_,fun k u x F H=>h.each k u x (ph F) (ph H)⟩;rw[z,zx n h.len];exact ownsRow_pop h.outer E
def mF.at3{g cap:Nat}{y:Sy}(D:n=xs.length)(h:mF w0 w B (.slice (aY g) n cap) xs us)(hy:xs[k]?=some y):∃A c,(ah w g (k*3) (zI y.v)/\ah w g (k*3+1) (zI y.h)/\ah w g (k*3+2) (.slice A y.rows c))/\Kept w0 w B A c y.rows:=by
 subst D;have hk:=(bA.1 hy).1;obtain⟨u,hu⟩:=aB (TI:k<us.length);obtain⟨A,c,rfl,E⟩:=h.each k u y hu hy;have z:∀j,j<3->w.cell? ⟨g,k*3+j,none⟩=(fW y (.slice A y.rows c))[j]?:=fun j h5=>Wo
 exact⟨A,c,⟨z 0 RX,z 1 RX,z 2 RX⟩,E⟩
def mF.form{cap:Nat}(h:mF w0 w B (.slice A n cap) xs us)(z:0<xs.length):∃g,A=some ⟨g,0,none⟩/\n<=cap/\cap<=maxLen/\n=xs.length:=Yv
def mF.snoc{x:Sy}(h:mF w0 w B v xs us)(I:Kept w0 w B A c x.rows)(H:w'.ownsRow B 26 3 v' (xs.length+1) (mz xs us++fW x (.slice A x.rows c)))(D:w.grownBy w' v.ownBlock):mF w0 w' B v' (xs++[x]) (us++[.slice A x.rows c]):=by
 refine⟨Sn,by rw[tM _ _ h.len];simpa using H,?_⟩;intro k J O Eu z;by_cases hk:k<us.length
 .rw[dx hk]at Eu;rw[dx T8]at z;obtain⟨A1,c1,e,F⟩:=h.each k J O Eu z;exact⟨A1,c1,e,F.ep RX RX h.outer D⟩
 .have E:k=us.length:=Xb;subst E;simp at Eu;rw[h.len]at z;simp at z;subst Eu z;exact⟨A,c,rfl,I.ep RX RX h.outer D⟩
end
def fT{K:mK}{O:Prop}(Y:o.guard=none)(s x:js)(ab:o.op=.call {callee:=.builtin .append,args:=#[s,x],argTypes:=#[44,44]})(B:Nat)(W:aa)(v u:au)(xs:List cS)(us:bG)(y:cS)(z:Nat)(D:bq W B v xs us)(H:ar W B u y.row)(U:∀b,u.ownBlock=some b->∀u'∈us,u'.ownBlock≠some b)(a3:xs.length+1<=1048576)(F:B<=(W:Nat))(am:a.eval s=v)(ao:a.eval x=.slice (aY z) 1 1)(ad:aU W z (BZ y u) 29)(h:∀g cap w',bq w' B (.slice (aY g) (xs.length+1) cap) (xs++[y]) (us++[u])->W.grownBy w' v.ownBlock->Below B W w'->K (a.put o.dst (.slice (aY g) (xs.length+1) cap)) w'):if Region.wanted o (yielded J a.tmps)=true then Oper.wp prog o a W K Q else O:=by
 obtain⟨a2,hi,ap,a0,a1⟩:=cU xt;obtain⟨I,R,rfl,_⟩:=H.view;refine sm (w:=W) Y s x 44 ab B 29 a2 (.agg df) 5 56 sx hi ap a0 a1 rfl RX v _ _ am D.outer ⟨z,0,none⟩ 1 1 (dq y (.slice I y.row R)) ao rfl (CW ad) ?_ RX ?_ ?_ F _ rfl ?_
 .exact X6
 .unfold maxLen;omega
 .omega
 .intro g cap w' ac E _ _;exact h g cap w' (D.snoc H U ac E) E ((aj _ _).grown E F fun k Z=>(bZ D.outer k Z).1)
def gE{K:mK}{H:Prop}(I:o.guard=none)(s x:js)(R:o.op=.call {callee:=.builtin .append,args:=#[s,x],argTypes:=#[79,79]})(B:Nat)(w0 W:aa)(v:au)(A:an)(c:Nat)(xs:List Sy)(us:bG)(y:Sy)(z:Nat)(D:mF w0 W B v xs us)(ab:Kept w0 W B A c y.rows)(a0:xs.length+1<=1048576)(F:B<=(W:Nat))(Z:a.eval s=v)(ac:a.eval x=.slice (aY z) 1 1)(Y:aU W z (ae y.v y.h A y.rows c) 26)(h:∀g cap w',mF w0 w' B (.slice (aY g) (xs.length+1) cap) (xs++[y]) (us++[.slice A y.rows c])->W.grownBy w' v.ownBlock->Below B W w'->K (a.put o.dst (.slice (aY g) (xs.length+1) cap)) w'):if Region.wanted o (yielded J a.tmps)=true then Oper.wp prog o a W K Q else H:=by
 obtain⟨ap,hi,ad,am,ao⟩:=cU zf9;refine sm (w:=W) I s x 79 R B 26 ap (.agg aQ) 3 40 underlying79 hi ad am ao rfl RX v _ _ Z D.outer ⟨z,0,none⟩ 1 1 (fW y (.slice A y.rows c)) ac rfl (CW Y) ?_ RX ?_ ?_ F _ rfl ?_
 .exact XO
 .unfold maxLen;omega
 .omega
 .intro g cap w' U E _ _;exact h g cap w' (D.snoc ab U E) E ((aj _ _).grown E F fun k O=>(bZ D.outer k O).1)
def bq.ep{s:Nat}{xs:bG}(h:bq w B u ys us)(I:29≠T)(J:3≠T)(F:w.ownsRow B' T s v n xs)(z:w.grownBy w' v.ownBlock):bq w' B u ys us:=⟨h.len,hJ h.outer z (iI I h.outer F),fun k H r E D=>ar.kept (h.each k H r E D) z (iI J (h.each k H r E D) F),h.apart⟩
def cM{o:Obj}{L:Nat}(z:w.grownBy w' v.ownBlock)(D:∀k,v.ownBlock=some k->B<=k/\k<L)(h:w.heap[b]?=some o)(E:L<=b):w'.heap[b]?=some o:=(z.block b (aM.1 h).1 (fun e=>by have:=(D b e.symm).2;omega)).trans h
def fR{o:Obj}(z:Below B w w')(h:w.heap[b]?=some o)(D:b<B):w'.heap[b]?=some o:=(z.block b D).trans h
def zeS(w:aa)(o:Obj):(w.alloc o).drew.heap[w.heap.size]?=some o:=az w o rfl
def zhK{o:Obj}(h:Below (w.alloc o).drew (w.alloc o).drew E):(w:Nat)<=w/\(w:Nat)+1<=E:=⟨ag _,by have:=h.size;simpa using this⟩
def zgu{o:Obj}(h:ar RL (E.alloc o).drew v xs):ar RL ((E:Nat)+1) v xs:=by simpa only[xR,cg]using h
def zeT(p:Int)(s:Sy)(xs:List cS)(w:aa)(e:Ending)(w':aa):Prop:=
 (bO p s xs<xs.length->e=.returned (.tuple lN))/\
 (bO p s xs=xs.length->∃A c,e=.returned (.tuple (pO A (j5 p s xs xs) c))/\cB w' w (.slice A (j5 p s xs xs) c) ((j5 p s xs xs).map Prod.fst))/\ai w w'
def yx(p:Int)(s:Sy)(xs:List cS)(w:aa)(k n:Nat)(u8 u9:au)(wr:aa):Prop:=
 k<=bO p s xs/\n=(j5 p s xs k).length/\(∃z E us,u8=.slice z n E/\bq wr ((w:Nat)+1) (.slice z n E) ((j5 p s xs k).map Prod.fst) us)/\
 (∃D F H,u9=.slice D n F/\mF w wr ((w:Nat)+1) (.slice D n F) ((j5 p s xs k).map Prod.snd) H)/\
 (∃A1 c1,aU wr w (dj (dC p s xs k).v (dC p s xs k).h A1 (dC p s xs k).rows c1) 26/\Kept w wr ((w:Nat)+1) A1 c1 (dC p s xs k).rows)/\ai w wr
def tU(p:Int)(s:Sy)(A:an)(cap:Nat)(xs:List cS)(w:aa)(ce:an)(c5:Nat)(g1:dm w)(g2:aX w A s.rows)(g6:eD w ce xs)(hm:s.Ok p)(ib:xs.length<=3000)(hk:∀x∈xs,x.row.length<=1048576):aw 52 (jv p (ae s.v s.h A s.rows cap) ce xs c5) w (zeT p s xs w):=by
 obtain⟨hO,fa,Ft,gm⟩:=fU g6 g1 hm hk;have ho:yx p s xs w 0 0 (.slice (some ⟨(w:Nat)+1,0,none⟩) 0 0) (.slice (some ⟨(w:Nat)+1+1,0,none⟩) 0 0) (((w.alloc (.cells (ae s.v s.h A s.rows cap) 26)).alloc (.cells #[] 29)).alloc (.cells #[] 26)):=by
  have gV:Below w w (w.alloc (.cells (ae s.v s.h A s.rows cap) 26)):=(aj w w).alloc RS _;obtain⟨us,a3⟩:=cB.lit (w.alloc (.cells (ae s.v s.h A s.rows cap) 26)) ((w:Nat)+1) RS;have bp:=mF.lit w ((w.alloc (.cells (ae s.v s.h A s.rows cap) 26)).alloc (.cells #[] 29)) ((w:Nat)+1) RS;simp only[cg]at a3 bp;have g0:=gV.alloc gV.size (.cells #[] 29);refine⟨bf _,rfl,⟨_,0,us,rfl,a3.ext ((aj _ _).alloc (ag _) _)⟩,⟨_,0,_,rfl,bp⟩,⟨A,cap,?_,aF ?_⟩,g0.alloc g0.size _⟩
  .rw[gg];exact(b_ _ _ SJ).trans ((b_ _ _ RS).trans (az _ _ rfl))
  .rw[gg];exact g2
 have gw:=zH ho;clear g2 g6 g1 hm hk ho;go_enter func52,ntmps52
 go_wp2;go_loopw [8,9,21] (fun u v i wr=>∃k n:Nat,k<=xs.length/\i=.int .i64 k/\yx p s xs w k n u v wr)
  (fun _ _ i _=>xs.length-(intOf i).toNat)
 case atStart=>exact⟨0,0,bf _,rfl,gw⟩
 case round=>
  obtain⟨k,n,h8,rfl,E4,ei,⟨c7,bm,us,rfl,Eo⟩,⟨ek,b5,vs,rfl,e3⟩,⟨A1,c1,ci,hd⟩,g7⟩:=hrel;clear gw;have HN:=zH ei;have is:n<=k:=by rw[ei];exact vh p s xs k
  obtain⟨lf,es⟩:=aO ((j5 p s xs k).map Prod.fst);obtain⟨b6,ev⟩:=aO ((j5 p s xs k).map Prod.snd);obtain⟨If,H8,Ia,Iz⟩:=fU es ev (by rw[es,ei];simp:lf.length=n) (by rw[ev,ei];simp:b6.length=n);rw[<-es]at Eo;rw[<-ev]at e3;obtain⟨e9,gA,d4,dc,c9⟩:=lv Eo e3 ci hd g7;obtain⟨sk,Fs⟩:=aO (dC p s xs k);obtain⟨Fv,gn⟩:=bS Fs (UM:sk.Ok p);rw[<-Fs]at d4 dc;obtain⟨R,Iy⟩:=bS (bZ Eo.outer) (bZ e3.outer);clear Eo e3 ci hd g7 Fs es ev ei;by_cases hh:k<xs.length
  .obtain⟨x,e4⟩:=aB hh;obtain⟨b,o,rfl,g8⟩:=hO.here hh;obtain⟨bi,bo,ht,ha⟩:=g8 k x e4;obtain⟨cI,cO,cR,c0,c4⟩:wS wr b (o+k*5) x bi bo:=ht.ext c9;obtain⟨cu,co,Is⟩:=d_ (gm x (a_ e4)) ha e4;clear g8 ha e4 ht;go_upto_region 5 with(fail)
   obtain⟨z,En⟩:=aO (wr.alloc (.cells (bB x.k x.a x.b x.c bi x.row bo) 29));rw[<-En];have eo:ai wr z:=Wc;have ga:aU z wr (bB x.k x.a x.b x.c bi x.row bo) 29:=UF;obtain⟨c8,gB,U⟩:=d_ eo ga (af c9 eo);clear cI cO cR c0 c4;obtain⟨d0,d1,d2,_⟩:=cL (ak d4 eo);obtain⟨cI,cO,cR,c0,c4⟩:=bH ga;clear eo ga En;cases cz:eI p sk x with
   |false=>
    have HO:=zH cz;clear cz;have eb:=zH (fun(A cap W ce c5 a3 bp eg)=>zfX p sk x A cap W ce c5 a3 bp eg cu gn HO);go_upto_region 6 with(go_at_call 34;refine(eb.o _ _ _ _ _ (fa.ext U.o) ((dc.rows c9).ext c8) (co.ext U.o)).mono ?_;rintro e ej ⟨rfl,hb⟩;clear d0 d1 d2 cI cO cR c0 c4;have Q:=zH (af U.o hb);clear hb)
    go_wp2;have f9:=tO E4 Is Un;refine ax (v:=.tuple lN) Vc rfl ⟨fun _=>rfl,fun h=>RU,Q.o.alloc Q.o.size _⟩
   |true=>
    have HO:=zH cz;clear cz;obtain⟨sn,gb⟩:=aO (cE p sk x);obtain⟨Iq,eb⟩:=bS gb (fun(A cap W ce c5 a3 bp eg)=>CH p sk x A cap W ce c5 a3 bp eg cu gn HO);rw[<-gb]at eb;have E_:=zH (tN E4 Is Un);clear gb;go_upto_region 6 with(go_at_call 34;refine(eb.o _ _ _ _ _ (fa.ext U.o) ((dc.rows c9).ext c8) (co.ext U.o)).mono ?_;rintro e ej ⟨A6,c6,rfl,I,hb⟩;clear d0 d1 d2 cI cO cR c0 c4;have Q:=zH hb;have ad:=zH I;clear I hb)
    obtain⟨E,GJ⟩:=aO (ej.alloc (.cells (ae sn.v sn.h A6 sn.rows c6) 26));rw[<-GJ];have f7:ai ej E:=VZ;have hn:aU E ej (ae sn.v sn.h A6 sn.rows c6) 26:=UC;have f6:=af Q.o f7;have cF:=af c8 f6;obtain⟨Ik,IA,Iw,Ix,Ip,ac⟩:=mA (ak gB f6) (ak d4 cF) hn (e9.ext cF) (gA.ext cF) (dc.ext cF);have i0:=(aM.1 d4).1;obtain⟨Io,Ey,Ir,Il,HS⟩:=lv ((ad.ext f7).mono (B':=(w:Nat)+1) (by have:=c8.size;omega)) (af c9 cF) cF.size (show(wr:Nat)<=ej by have:=Q.o.size;have:=c8.size;omega) (fun(W:aa) (a3:aU W wr (bB x.k x.a x.b x.c bi x.row bo) 29) (bp:aU W w (ae sk.v sk.h A1 sk.rows c1) 26)=>(⟨(bH a3).1,(bH a3).2.1,(bH a3).2.2.1,(bH a3).2.2.2.1,(bH a3).2.2.2.2,(aq bp).1,(aq bp).2.1,(aq bp).2.2⟩:ah W wr 0 (zI x.k)/\ah W wr 1 (zI x.a)/\ah W wr 2 (zI x.b)/\ah W wr 3 (zI x.c)/\ah W wr 4 (.slice bi x.row bo)/\ah W w 0 (zI sk.v)/\ah W w 1 (zI sk.h)/\ah W w 2 (.slice A1 sk.rows c1)));clear f7 hn f6 cF GJ gB Q ad eb e9 gA dc d4 U c8;rcases pP n with rfl|hl
    .have Ib:=zH (show j5 p s xs (k+1)=j5 p s xs k++[(x,sk)] by rw[rQ Is,eS HN.symm,BV,Fv.o];rfl)
     obtain⟨W5,hU⟩:=aO E;subst hU;have Iv:=Ik;have It:=IA;have Iu:=Iw;have Ij:=Ix;have Ig:=Ip;have e8:=ac;have Ii:=Io;have GD:=Ey;have fi:=Ir;go_wp2;refine vG (S:=fun W=>ah W wr 0 (zI x.k)/\ah W wr 1 (zI x.a)/\ah W wr 2 (zI x.b)/\ah W wr 3 (zI x.c)/\ah W wr 4 (.slice bi x.row bo)/\ah W w 0 (zI sk.v)/\ah W w 1 (zI sk.h)/\ah W w 2 (.slice A1 sk.rows c1)) Si (HS.o _ (ak Iv (aj _ _).drew) (ak It (aj _ _).drew)) (fun hHeld=>?_);obtain⟨be,GI⟩:=aO W5.drew;rw[<-GI]at hHeld ⊢;have hb:ai W5 be:=UT;obtain⟨d9,d5,d7,cr,db,dT,d8,ck,cb⟩:=zH9 (ak Iv hb) (ak It hb) (ak Iu hb) (Ij.ext hb) (Ig.ext hb) (e8.ext hb) (Ii.ext hb) (af GD hb) (bc fi hb.size);clear hb GI;refine cW 0 ?_;refine cW 1 ?_;refine cW 5 ?_;refine cW 6 ?_;refine cq (rs:=[2,7]) Si RS ?_;refine di rfl (fun K hK=>?_) (di rfl (fun K hK=>?_) cv)
     .go_simp;refine(mT x bi bo _ (co.ext ck) cu).mono ?_;rintro e H ⟨Ac,cc,rfl,I,hb⟩;obtain⟨ba,a7,b9,b0,b7,b8,ca,br,bd,da,bz⟩:=AD (ak d9 hb) (ak d5 hb) (ak d7 hb) (cr.ext hb) (db.ext hb) (dT.ext hb) (d8.ext hb) (af ck hb) (bc cb (iz hb)) (I.mono (B':=(w:Nat)+1) (by have:=cb.o;omega)) (cr.fresh I);clear I hb;go_simp;refine hK.out _ _ (HS.o _ ba a7) (fun hHeld=>?_);clear hK K;try simp only[Act.put,zA]
      refine cq (rs:=[3,7]) Si RS ?_;refine di rfl (fun K hK=>?_) (di rfl (fun K hK=>?_) cv)
      .go_simp;obtain⟨z,En⟩:=aO (H.alloc (.cells (bB x.k x.a x.b x.c Ac x.row cc) 29));rw[<-En];have hb:ai H z:=Wc;obtain⟨ab,Z,a8,Y,a5,a6,a9,U,am,a4,d3⟩:=AD (ak ba hb) (ak a7 hb) (ak b9 hb) (b0.ext hb) (b7.ext hb) (b8.ext hb) (ca.ext hb) (af br hb) (bc bd (iz hb)) (da.ext hb) (UF:aU z H (bB x.k x.a x.b x.c Ac x.row cc) 29);clear hb En;refine hK.out _ _ (HS.o _ ab Z.o) (fun hHeld=>?_);clear hK K;try simp only[Act.put,zA]
       refine cq (rs:=[4,7]) Si RS ?_;refine di rfl (fun K hK=>?_) (di rfl (fun K hK=>?_) cv)
       .refine fT rfl (.tmp 62) (.tmp 65) rfl ((w:Nat)+1) z (.slice c7 0 bm) (.slice Ac x.row cc) lf us x H Y.o a4.o bz.o Te (by have:=am.o;omega) rfl rfl d3.o ?_;intro g4 H_ D Eo hg hb;rw[Ia.o]at Eo ⊢;obtain⟨O,J,a0,ao,ap,ad,Q,Im,F⟩:=zH9 (cM hg R.o ab (ag _)) (fR hb Z.o RU) (cM hg R.o a8 Il) (a5.ep RX RX RX Y.o.outer hg) (a6.ep RX RX Y.o.outer hg) (a9.ep RX RX Y.o.outer hg) (U.o.trans (hb.mono RU)) (bc am hb.size) Eo;clear Eo hg hb;refine hK.out _ _ (HS.o _ O J.o) (fun hHeld=>?_);clear hK K;try simp only[Act.put,zA]
        refine cq (rs:=[7]) Si RS ?_;refine di rfl (fun K hK=>?_) cv;go_simp;obtain⟨E,GJ⟩:=aO (D.alloc (.cells (ae sk.v sk.h A1 sk.rows c1) 26));rw[<-GJ];have hb:ai D E:=VZ;obtain⟨Ik,IA,Iw,Ix,Ip,ac,Io,Ey,Ir,a1,bb⟩:=AD (ak O hb) (ak J.o hb) (ak a0 hb) (F.ext hb) (ao.ext hb) (ap.ext hb) (ad.ext hb) (af Q.o hb) (bc Im (iz hb)) (UC:aU E D (ae sk.v sk.h A1 sk.rows c1) 26) (show(wr:Nat)<=D from Im.o);clear hb GJ;refine hK.out _ _ (HS.o _ Ik IA) (fun hHeld=>?_);clear hK K;try simp only[Act.put,zA]
        refine cq (rs:=[8]) Si RS ?_;refine di rfl (fun K hK=>?_) cv;refine gE rfl (.tmp 67) (.tmp 69) rfl ((w:Nat)+1) w E (.slice ek 0 b5) A1 c1 b6 vs sk D Ip.o ac.o Td TF rfl rfl a1.o ?_;exact Z7
       .go_simp;obtain⟨D,Fw⟩:=aO (z.alloc (.cells (ae sk.v sk.h A1 sk.rows c1) 26));rw[<-Fw];have hb:ai z D:=VY;obtain⟨O,J,a0,F,ao,ap,ad,Q,Im,bv,b1,b3⟩:=zO (ak ab hb) (ak Z.o hb) (ak a8 hb) (Y.o.ext hb) (a5.ext hb) (a6.ext hb) (a9.ext hb) (af U.o hb) (bc am (iz hb)) (a4.ext hb) (ak d3 hb) (UB:aU D z (ae sk.v sk.h A1 sk.rows c1) 26);have bb:=zH (show(wr:Nat)<=z from am.o);clear hb Fw;refine hK.out _ _ (HS.o _ O J.o) (fun hHeld=>?_);clear hK K;try simp only[Act.put,zA]
        refine cq (rs:=[4]) Si RS ?_;refine di rfl (fun K hK=>?_) cv;refine fT rfl (.tmp 62) (.tmp 65) rfl ((w:Nat)+1) D (.slice c7 0 bm) (.slice Ac x.row cc) lf us x H F.o bv.o bz.o Te TE rfl rfl b1.o ?_;intro g4 H_ E Eo hg hb;rw[Ia.o]at Eo ⊢;obtain⟨Ik,IA,Iw,Ip,ac,Io,Ey,Ir,Ix,a1⟩:=zat (cM hg R.o O (ag _)) (fR hb J.o RU) (cM hg R.o a0 Il) (ao.ep RX RX RX F.outer hg) (ap.ep RX RX F.outer hg) (ad.ep RX RX F.outer hg) (Q.o.trans (hb.mono RU)) (bc Im hb.size) Eo (cM hg R.o b3 bb);clear Eo hg hb;refine hK.out _ _ (HS.o _ Ik IA) (fun hHeld=>?_);clear hK K;try simp only[Act.put,zA]
        refine cq (rs:=[8]) Si RS ?_;refine di rfl (fun K hK=>?_) cv;refine gE rfl (.tmp 67) (.tmp 69) rfl ((w:Nat)+1) w E (.slice ek 0 b5) A1 c1 b6 vs sk z Ip.o ac.o Td TF rfl rfl a1.o ?_;exact Z7
      .go_simp;obtain⟨z,En⟩:=aO (H.alloc (.cells (ae sk.v sk.h A1 sk.rows c1) 26));rw[<-En];have hb:ai H z:=Wc;obtain⟨ab,Z,a8,Y,a5,a6,a9,U,am,a4,cy,bb⟩:=zO (ak ba hb) (ak a7 hb) (ak b9 hb) (b0.ext hb) (b7.ext hb) (b8.ext hb) (ca.ext hb) (af br hb) (bc bd (iz hb)) (da.ext hb) (UF:aU z H (ae sk.v sk.h A1 sk.rows c1) 26) (show(wr:Nat)<=H from bd.o);clear hb En;refine hK.out _ _ (HS.o _ ab Z.o) (fun hHeld=>?_);clear hK K;try simp only[Act.put,zA]
       refine cq (rs:=[3]) Si RS ?_;refine di rfl (fun K hK=>?_) cv;go_simp;obtain⟨D,Fw⟩:=aO (z.alloc (.cells (bB x.k x.a x.b x.c Ac x.row cc) 29));rw[<-Fw];have hb:ai z D:=VY;obtain⟨O,J,a0,F,ao,ap,ad,Q,Im,bv,b3,b1⟩:=zO (ak ab hb) (ak Z.o hb) (ak a8 hb) (Y.o.ext hb) (a5.ext hb) (a6.ext hb) (a9.ext hb) (af U.o hb) (bc am (iz hb)) (a4.ext hb) (ak cy hb) (UB:aU D z (bB x.k x.a x.b x.c Ac x.row cc) 29);clear hb Fw;refine hK.out _ _ (HS.o _ O J.o) (fun hHeld=>?_);clear hK K;try simp only[Act.put,zA]
       refine cq (rs:=[4]) Si RS ?_;refine di rfl (fun K hK=>?_) cv;refine fT rfl (.tmp 62) (.tmp 65) rfl ((w:Nat)+1) D (.slice c7 0 bm) (.slice Ac x.row cc) lf us x z F.o bv.o bz.o Te TE rfl rfl b1.o ?_;intro g4 H_ E Eo hg hb;rw[Ia.o]at Eo ⊢;obtain⟨Ik,IA,Iw,Ip,ac,Io,Ey,Ir,Ix,a1⟩:=zat (cM hg R.o O (ag _)) (fR hb J.o RU) (cM hg R.o a0 Il) (ao.ep RX RX RX F.outer hg) (ap.ep RX RX F.outer hg) (ad.ep RX RX F.outer hg) (Q.o.trans (hb.mono RU)) (bc Im hb.size) Eo (cM hg R.o b3 bb);clear Eo hg hb;refine hK.out _ _ (HS.o _ Ik IA) (fun hHeld=>?_);clear hK K;try simp only[Act.put,zA]
       refine cq (rs:=[8]) Si RS ?_;refine di rfl (fun K hK=>?_) cv;refine gE rfl (.tmp 67) (.tmp 69) rfl ((w:Nat)+1) w E (.slice ek 0 b5) A1 c1 b6 vs sk H Ip.o ac.o Td TF rfl rfl a1.o ?_;exact Z7
     .go_simp;obtain⟨H,Fu⟩:=aO (be.alloc (.cells (ae sk.v sk.h A1 sk.rows c1) 26));rw[<-Fu];have hb:ai be H:=VX;obtain⟨ba,a7,b9,b0,b7,b8,ca,br,bd,fd,bb⟩:=AD (ak d9 hb) (ak d5 hb) (ak d7 hb) (cr.ext hb) (db.ext hb) (dT.ext hb) (d8.ext hb) (af ck hb) (bc cb (iz hb)) (UA:aU H be (ae sk.v sk.h A1 sk.rows c1) 26) (show(wr:Nat)<=be from cb.o);clear hb Fu;refine hK.out _ _ (HS.o _ ba a7) (fun hHeld=>?_);clear hK K;try simp only[Act.put,zA]
      refine cq (rs:=[2]) Si RS ?_;refine di rfl (fun K hK=>?_) cv;go_simp;refine(mT x bi bo _ (co.ext br) cu).mono ?_;rintro e z ⟨Ac,cc,rfl,I,hb⟩;obtain⟨ab,Z,a8,Y,a5,a6,a9,U,am,cy,a4,bz⟩:=zO (ak ba hb) (ak a7 hb) (ak b9 hb) (b0.ext hb) (b7.ext hb) (b8.ext hb) (ca.ext hb) (af br hb) (bc bd (iz hb)) (ak fd hb) (I.mono (B':=(w:Nat)+1) (by have:=bd.o;omega)) (b0.fresh I);clear I hb;go_simp;refine hK.out _ _ (HS.o _ ab Z.o) (fun hHeld=>?_);clear hK K;try simp only[Act.put,zA]
      refine cq (rs:=[3]) Si RS ?_;refine di rfl (fun K hK=>?_) cv;go_simp;obtain⟨D,Fw⟩:=aO (z.alloc (.cells (bB x.k x.a x.b x.c Ac x.row cc) 29));rw[<-Fw];have hb:ai z D:=VY;obtain⟨O,J,a0,F,ao,ap,ad,Q,Im,bv,b3,b1⟩:=zO (ak ab hb) (ak Z.o hb) (ak a8 hb) (Y.o.ext hb) (a5.ext hb) (a6.ext hb) (a9.ext hb) (af U.o hb) (bc am (iz hb)) (a4.ext hb) (ak cy hb) (UB:aU D z (bB x.k x.a x.b x.c Ac x.row cc) 29);clear hb Fw;refine hK.out _ _ (HS.o _ O J.o) (fun hHeld=>?_);clear hK K;try simp only[Act.put,zA]
      refine cq (rs:=[4]) Si RS ?_;refine di rfl (fun K hK=>?_) cv;refine fT rfl (.tmp 62) (.tmp 65) rfl ((w:Nat)+1) D (.slice c7 0 bm) (.slice Ac x.row cc) lf us x z F.o bv.o bz.o Te TE rfl rfl b1.o ?_;intro g4 H_ E Eo hg hb;rw[Ia.o]at Eo ⊢;obtain⟨Ik,IA,Iw,Ip,ac,Io,Ey,Ir,Ix,a1⟩:=zat (cM hg R.o O (ag _)) (fR hb J.o RU) (cM hg R.o a0 Il) (ao.ep RX RX RX F.outer hg) (ap.ep RX RX F.outer hg) (ad.ep RX RX F.outer hg) (Q.o.trans (hb.mono RU)) (bc Im hb.size) Eo (cM hg R.o b3 bb);clear Eo hg hb;refine hK.out _ _ (HS.o _ Ik IA) (fun hHeld=>?_);clear hK K;try simp only[Act.put,zA]
      refine cq (rs:=[8]) Si RS ?_;refine di rfl (fun K hK=>?_) cv;refine gE rfl (.tmp 67) (.tmp 69) rfl ((w:Nat)+1) w E (.slice ek 0 b5) A1 c1 b6 vs sk be Ip.o ac.o Td TF rfl rfl a1.o ?_;exact Z7
    .obtain⟨l,hf⟩:∃l,n=l+1:=⟨n-1,RU⟩;have ia:l<n:=RU;have it:n<=3000:=RU;have ip:(n:Int)-1=(l:Int):=RU;have h9:(0:Int)<=(l:Int):=RU;obtain⟨q,ci⟩:=aB (show l < (j5 p s xs k).length by have:=HN.o;omega);obtain⟨y,t⟩:=q;obtain⟨hu,gc,hv⟩:=zK Ft k E4 _ (a_ ci);obtain⟨hS,hN,hQ⟩:=d_ (gm y hu) gc hv;have hw:lf[l]?=some y:=by rw[If.o,cp,ci];rfl
     have hq:b6[l]?=some t:=by rw[H8.o,cp,ci];rfl
     have dl:=zH (show j5 p s xs (k+1)=if kE (dL p t y) x=true then(j5 p s xs k).take l else j5 p s xs k++[(x,sk)] by rw[rQ Is,zL (by rw[<-HN.o,hf]) ci,Fv.o])
     obtain⟨a2,rfl,h6,ii,-⟩:=Ix.form (by rw[Ia.o];exact hl);obtain⟨b4,rfl,h7,io,-⟩:=Ip.form (by rw[Iz.o];exact hl);obtain⟨e6,f5,⟨hy,hz,hA,hB,hC⟩,hx⟩:=Ix.at5 Ia.symm hw;obtain⟨At,fz,⟨t0,t1,t2⟩,hp⟩:=Ip.at3 Iz.symm hq;obtain⟨hR,hM⟩:=bS hx hp;obtain⟨cj,gd⟩:=aO (dL p t y);have hP:=zH (by rw[gd];exact Ci gc.small:cj.row.length<=1000);have fn:=fun(A cap W ce c5 a3 bp eg)=>DJ p t y A cap W ce c5 a3 bp eg hS hN hQ
     rw[<-gd]at fn dl;obtain⟨gL,d6⟩:=bS (fun(W:aa) (h:ai E W)=>fn At fz W e6 f5 (fa.ext (af Ey h)) ((hM.rows Ey).ext h) (hR.ext h)) (fun(W:aa) (h:ai E W)=>(⟨av h t0,av h t1,av h t2,av h hy,av h hz,av h hA,av h hB,av h hC⟩:ah W b4 (l*3) (zI t.v)/\ah W b4 (l*3+1) (zI t.h)/\ah W b4 (l*3+2) (.slice At t.rows fz)/\ah W a2 (l*5) (zI y.k)/\ah W a2 (l*5+1) (zI y.a)/\ah W a2 (l*5+2) (zI y.b)/\ah W a2 (l*5+3) (zI y.c)/\ah W a2 (l*5+4) (.slice e6 y.row f5)));clear fn hx hp gd hw hq hu gc hv ci t0 t1 t2 hy hz hA hB hC hf;go_wp2;obtain⟨ea,en⟩:=bS ((aj E E).drew) (fun o=>((aj E E).alloc (ag _) o).drew);go_cut [15,16] from 39 to 51 (fun hW hX W=>zaE E cj.k cj.a cj.b cj.c cj.row true hW hX W)
     case first=>
      go_region_held3 (fun W=>ah W b4 (l*3) (zI t.v)/\ah W b4 (l*3+1) (zI t.h)/\ah W b4 (l*3+2) (.slice At t.rows fz)/\ah W a2 (l*5) (zI y.k)/\ah W a2 (l*5+1) (zI y.a)/\ah W a2 (l*5+2) (zI y.b)/\ah W a2 (l*5+3) (zI y.c)/\ah W a2 (l*5+4) (.slice e6 y.row f5)) (first|with_reducible exact d6.o _ ea.o|with_reducible exact d6.o _ (en.o _)|with_reducible exact d6.o _ cn.o|with_reducible exact d6.o _ (cn.o.alloc cn.o.size _)|with_reducible exact d6.o _ (ff cn.o gf.o.1 _ _ _ _ _))
       (first|(go_at_call 41;first|((with_reducible refine(gL.o (World.drew (World.alloc E _)) (en.o _)).mono ?_);rintro e hV ⟨e5,fs,rfl,I,ch⟩;have gC:=zH (ak (zeS E _) ch);have gf:=zH (bn (ag E) (ag ((E:Nat)+1)));have fb:=zH (zgu I);have cn:=zH (af (en.o _) ch);have fl:=zH (zhK ch).2;clear ch I;obtain⟨⟨h1,h2,h3,h4,g4⟩,f0,f1,f2,f3,f4⟩:=jk (aj _ _) gC)|((with_reducible refine(gL.o (World.drew E) ea.o).mono ?_);rintro e hV ⟨e5,fs,rfl,I,ch⟩;have fb:=zH I;have cn:=zH (af ea ch);have fl:=zH ch.size;clear ch I)))
      all_goals
       go_wp2_with fail
       go_meet
       first|exact zaE.late cn fb ea.size fl|exact zaE.early cn fb gC gf fl
     case rest=>
      obtain⟨hZ,i1,h5,e5,fs,rfl,rfl,f8,-,hs,g9⟩:=hcut;obtain⟨hY,h0,hT,hc,_⟩:=g9.own.view;cases hT
      obtain⟨e7,hI⟩:=bS f8 hc;have em:=zH (zM cj x e5 bi fs bo _ hI (co.ext (af Ey e7)) (by have:=hP.o;unfold maxLen;omega) (fx cu));obtain⟨hD,hE,z2,hF,hG⟩:=bH hs;obtain⟨cI,cO,cR,c0,c4⟩:=bH (ak Ik f8);clear f8 hs g9 hc ea en;cases eA:kE cj x with
      |true=>
       rw[eA]at em dl;clear eA;go_wp2_with (go_at_call 93;refine em.mono ?_;rintro e W5 ⟨rfl,hb⟩;have b2:=zH (af e7 hb);clear hD hE z2 hF hG cI cO cR c0 c4 hb)
       refine bV Si Si ?_
       repeat (go_big_quiet_step (fail))
       refine dF ?_;rintro _ ⟨W,rfl⟩;have ct:=zH (af b2 W.ok);obtain⟨fo,g3⟩:=aO W.W;rw[<-g3]at ct ⊢;clear g3;obtain⟨hL,gs⟩:=bS (ak Iw ct) (ak IA ct);obtain⟨f0,f1,f2⟩:=aq hL;obtain⟨d0,d1,d2,e0,e1,e2⟩:=cL gs;have Ib:=zH (show j5 p s xs (k+1)=(j5 p s xs k).take l by rw[dl.o];first|exact ay rfl|exact ay trivial);go_wp2;have Ie:yx p s xs w (k+1) l (.slice (aY a2) l bm) (.slice (aY b4) l b5) (((fo.setCell ⟨w,0,none⟩ (zI sn.v)).setCell ⟨w,1,none⟩ (zI sn.h)).setCell ⟨w,2,none⟩ (.slice A6 sn.rows c6)):=by
        have Ih:∀j,(w:Nat)+1<=j->(((fo.setCell ⟨w,0,none⟩ (zI sn.v)).setCell ⟨w,1,none⟩ (zI sn.h)).setCell ⟨w,2,none⟩ (.slice A6 sn.rows c6)).heap[j]?=fo.heap[j]?:=fun j hj=>Ym
        have cz:=(Ix.ext ct).pop (n:=l) Ia.symm RU;have hr:=(Ip.ext ct).pop (n:=l) Iz.symm RU;rw[If.o]at cz;rw[H8.o]at hr;refine⟨E_,by rw[Ib.o,dH];have:=HN.o;omega,⟨_,bm,us.take l,rfl,?_⟩,⟨_,b5,vs.take l,rfl,?_⟩,⟨A6,c6,?_,aA ?_⟩,dJ (af Ey ct) (ag _) _ _ _⟩
        .rw[Ib.o,sj];exact cz.same Ih
        .rw[Ib.o,sj];exact hr.same Ih
        .rw[dk Is,<-Fv.o,<-Iq.o];exact gQ gs
        .rw[dk Is,<-Fv.o,<-Iq.o];exact(Io.ext ct).same Ih
       have Ic:=zH Ie;clear Ie;go_roundw
       case rel=>exact⟨k+1,l,RU,RW,Ic⟩
       case measure=>simp[intOf];omega
      |false=>
       rw[eA]at em dl;clear eA;have Ib:=zH (show j5 p s xs (k+1)=j5 p s xs k++[(x,sk)] by rw[dl.o];first|exact al RX|exact al not_false);go_wp2_with (go_at_call 93;refine em.mono ?_;rintro e W5 ⟨rfl,hb⟩;have b2:=zH (af e7 hb);clear hD hE z2 hF hG cI cO cR c0 c4 hb)
       obtain⟨Iv,It,Iu,Ij,Ig,e8,Ii,GD,fi⟩:=zH9 (ak Ik b2) (ak IA b2) (ak Iw b2) (Ix.ext b2) (Ip.ext b2) (ac.ext b2) (Io.ext b2) (af Ey b2) (bc Ir b2.size);refine vG (S:=fun W=>ah W wr 0 (zI x.k)/\ah W wr 1 (zI x.a)/\ah W wr 2 (zI x.b)/\ah W wr 3 (zI x.c)/\ah W wr 4 (.slice bi x.row bo)/\ah W w 0 (zI sk.v)/\ah W w 1 (zI sk.h)/\ah W w 2 (.slice A1 sk.rows c1)) Si (HS.o _ (ak Iv (aj _ _).drew) (ak It (aj _ _).drew)) (fun hHeld=>?_);obtain⟨be,GI⟩:=aO W5.drew;rw[<-GI]at hHeld ⊢;have hb:ai W5 be:=UT;obtain⟨d9,d5,d7,cr,db,dT,d8,ck,cb⟩:=zH9 (ak Iv hb) (ak It hb) (ak Iu hb) (Ij.ext hb) (Ig.ext hb) (e8.ext hb) (Ii.ext hb) (af GD hb) (bc fi hb.size);clear hb GI;refine cW 0 ?_;refine cW 1 ?_;refine cW 5 ?_;refine cW 6 ?_;refine cq (rs:=[2,7]) Si RS ?_;refine di rfl (fun K hK=>?_) (di rfl (fun K hK=>?_) cv)
       .go_simp;refine(mT x bi bo _ (co.ext ck) cu).mono ?_;rintro e H ⟨Ac,cc,rfl,I,hb⟩;obtain⟨ba,a7,b9,b0,b7,b8,ca,br,bd,da,bz⟩:=AD (ak d9 hb) (ak d5 hb) (ak d7 hb) (cr.ext hb) (db.ext hb) (dT.ext hb) (d8.ext hb) (af ck hb) (bc cb (iz hb)) (I.mono (B':=(w:Nat)+1) (by have:=cb.o;omega)) (cr.fresh I);clear I hb;go_simp;refine hK.out _ _ (HS.o _ ba a7) (fun hHeld=>?_);clear hK K;try simp only[Act.put,zA]
        refine cq (rs:=[3,7]) Si RS ?_;refine di rfl (fun K hK=>?_) (di rfl (fun K hK=>?_) cv)
        .go_simp;obtain⟨z,En⟩:=aO (H.alloc (.cells (bB x.k x.a x.b x.c Ac x.row cc) 29));rw[<-En];have hb:ai H z:=Wc;obtain⟨ab,Z,a8,Y,a5,a6,a9,U,am,a4,d3⟩:=AD (ak ba hb) (ak a7 hb) (ak b9 hb) (b0.ext hb) (b7.ext hb) (b8.ext hb) (ca.ext hb) (af br hb) (bc bd (iz hb)) (da.ext hb) (UF:aU z H (bB x.k x.a x.b x.c Ac x.row cc) 29);clear hb En;refine hK.out _ _ (HS.o _ ab Z.o) (fun hHeld=>?_);clear hK K;try simp only[Act.put,zA]
         refine cq (rs:=[4,7]) Si RS ?_;refine di rfl (fun K hK=>?_) (di rfl (fun K hK=>?_) cv)
         .refine fT rfl (.tmp 62) (.tmp 65) rfl ((w:Nat)+1) z (.slice (aY a2) n bm) (.slice Ac x.row cc) lf us x H Y.o a4.o bz.o Te (by have:=am.o;omega) rfl rfl d3.o ?_;intro g4 H_ D Eo hg hb;rw[Ia.o]at Eo ⊢;obtain⟨O,J,a0,ao,ap,ad,Q,Im,F⟩:=zH9 (cM hg R.o ab (ag _)) (fR hb Z.o RU) (cM hg R.o a8 Il) (a5.ep RX RX RX Y.o.outer hg) (a6.ep RX RX Y.o.outer hg) (a9.ep RX RX Y.o.outer hg) (U.o.trans (hb.mono RU)) (bc am hb.size) Eo;clear Eo hg hb;refine hK.out _ _ (HS.o _ O J.o) (fun hHeld=>?_);clear hK K;try simp only[Act.put,zA]
          refine cq (rs:=[7]) Si RS ?_;refine di rfl (fun K hK=>?_) cv;go_simp;obtain⟨E,GJ⟩:=aO (D.alloc (.cells (ae sk.v sk.h A1 sk.rows c1) 26));rw[<-GJ];have hb:ai D E:=VZ;obtain⟨Ik,IA,Iw,Ix,Ip,ac,Io,Ey,Ir,a1,bb⟩:=AD (ak O hb) (ak J.o hb) (ak a0 hb) (F.ext hb) (ao.ext hb) (ap.ext hb) (ad.ext hb) (af Q.o hb) (bc Im (iz hb)) (UC:aU E D (ae sk.v sk.h A1 sk.rows c1) 26) (show(wr:Nat)<=D from Im.o);clear hb GJ;refine hK.out _ _ (HS.o _ Ik IA) (fun hHeld=>?_);clear hK K;try simp only[Act.put,zA]
          refine cq (rs:=[8]) Si RS ?_;refine di rfl (fun K hK=>?_) cv;refine gE rfl (.tmp 67) (.tmp 69) rfl ((w:Nat)+1) w E (.slice (aY b4) n b5) A1 c1 b6 vs sk D Ip.o ac.o Td TF rfl rfl a1.o ?_;exact Z6
         .go_simp;obtain⟨D,Fw⟩:=aO (z.alloc (.cells (ae sk.v sk.h A1 sk.rows c1) 26));rw[<-Fw];have hb:ai z D:=VY;obtain⟨O,J,a0,F,ao,ap,ad,Q,Im,bv,b1,b3⟩:=zO (ak ab hb) (ak Z.o hb) (ak a8 hb) (Y.o.ext hb) (a5.ext hb) (a6.ext hb) (a9.ext hb) (af U.o hb) (bc am (iz hb)) (a4.ext hb) (ak d3 hb) (UB:aU D z (ae sk.v sk.h A1 sk.rows c1) 26);have bb:=zH (show(wr:Nat)<=z from am.o);clear hb Fw;refine hK.out _ _ (HS.o _ O J.o) (fun hHeld=>?_);clear hK K;try simp only[Act.put,zA]
          refine cq (rs:=[4]) Si RS ?_;refine di rfl (fun K hK=>?_) cv;refine fT rfl (.tmp 62) (.tmp 65) rfl ((w:Nat)+1) D (.slice (aY a2) n bm) (.slice Ac x.row cc) lf us x H F.o bv.o bz.o Te TE rfl rfl b1.o ?_;intro g4 H_ E Eo hg hb;rw[Ia.o]at Eo ⊢;obtain⟨Ik,IA,Iw,Ip,ac,Io,Ey,Ir,Ix,a1⟩:=zat (cM hg R.o O (ag _)) (fR hb J.o RU) (cM hg R.o a0 Il) (ao.ep RX RX RX F.outer hg) (ap.ep RX RX F.outer hg) (ad.ep RX RX F.outer hg) (Q.o.trans (hb.mono RU)) (bc Im hb.size) Eo (cM hg R.o b3 bb);clear Eo hg hb;refine hK.out _ _ (HS.o _ Ik IA) (fun hHeld=>?_);clear hK K;try simp only[Act.put,zA]
          refine cq (rs:=[8]) Si RS ?_;refine di rfl (fun K hK=>?_) cv;refine gE rfl (.tmp 67) (.tmp 69) rfl ((w:Nat)+1) w E (.slice (aY b4) n b5) A1 c1 b6 vs sk z Ip.o ac.o Td TF rfl rfl a1.o ?_;exact Z6
        .go_simp;obtain⟨z,En⟩:=aO (H.alloc (.cells (ae sk.v sk.h A1 sk.rows c1) 26));rw[<-En];have hb:ai H z:=Wc;obtain⟨ab,Z,a8,Y,a5,a6,a9,U,am,a4,cy,bb⟩:=zO (ak ba hb) (ak a7 hb) (ak b9 hb) (b0.ext hb) (b7.ext hb) (b8.ext hb) (ca.ext hb) (af br hb) (bc bd (iz hb)) (da.ext hb) (UF:aU z H (ae sk.v sk.h A1 sk.rows c1) 26) (show(wr:Nat)<=H from bd.o);clear hb En;refine hK.out _ _ (HS.o _ ab Z.o) (fun hHeld=>?_);clear hK K;try simp only[Act.put,zA]
         refine cq (rs:=[3]) Si RS ?_;refine di rfl (fun K hK=>?_) cv;go_simp;obtain⟨D,Fw⟩:=aO (z.alloc (.cells (bB x.k x.a x.b x.c Ac x.row cc) 29));rw[<-Fw];have hb:ai z D:=VY;obtain⟨O,J,a0,F,ao,ap,ad,Q,Im,bv,b3,b1⟩:=zO (ak ab hb) (ak Z.o hb) (ak a8 hb) (Y.o.ext hb) (a5.ext hb) (a6.ext hb) (a9.ext hb) (af U.o hb) (bc am (iz hb)) (a4.ext hb) (ak cy hb) (UB:aU D z (bB x.k x.a x.b x.c Ac x.row cc) 29);clear hb Fw;refine hK.out _ _ (HS.o _ O J.o) (fun hHeld=>?_);clear hK K;try simp only[Act.put,zA]
         refine cq (rs:=[4]) Si RS ?_;refine di rfl (fun K hK=>?_) cv;refine fT rfl (.tmp 62) (.tmp 65) rfl ((w:Nat)+1) D (.slice (aY a2) n bm) (.slice Ac x.row cc) lf us x z F.o bv.o bz.o Te TE rfl rfl b1.o ?_;intro g4 H_ E Eo hg hb;rw[Ia.o]at Eo ⊢;obtain⟨Ik,IA,Iw,Ip,ac,Io,Ey,Ir,Ix,a1⟩:=zat (cM hg R.o O (ag _)) (fR hb J.o RU) (cM hg R.o a0 Il) (ao.ep RX RX RX F.outer hg) (ap.ep RX RX F.outer hg) (ad.ep RX RX F.outer hg) (Q.o.trans (hb.mono RU)) (bc Im hb.size) Eo (cM hg R.o b3 bb);clear Eo hg hb;refine hK.out _ _ (HS.o _ Ik IA) (fun hHeld=>?_);clear hK K;try simp only[Act.put,zA]
         refine cq (rs:=[8]) Si RS ?_;refine di rfl (fun K hK=>?_) cv;refine gE rfl (.tmp 67) (.tmp 69) rfl ((w:Nat)+1) w E (.slice (aY b4) n b5) A1 c1 b6 vs sk H Ip.o ac.o Td TF rfl rfl a1.o ?_;exact Z6
       .go_simp;obtain⟨H,Fu⟩:=aO (be.alloc (.cells (ae sk.v sk.h A1 sk.rows c1) 26));rw[<-Fu];have hb:ai be H:=VX;obtain⟨ba,a7,b9,b0,b7,b8,ca,br,bd,fd,bb⟩:=AD (ak d9 hb) (ak d5 hb) (ak d7 hb) (cr.ext hb) (db.ext hb) (dT.ext hb) (d8.ext hb) (af ck hb) (bc cb (iz hb)) (UA:aU H be (ae sk.v sk.h A1 sk.rows c1) 26) (show(wr:Nat)<=be from cb.o);clear hb Fu;refine hK.out _ _ (HS.o _ ba a7) (fun hHeld=>?_);clear hK K;try simp only[Act.put,zA]
        refine cq (rs:=[2]) Si RS ?_;refine di rfl (fun K hK=>?_) cv;go_simp;refine(mT x bi bo _ (co.ext br) cu).mono ?_;rintro e z ⟨Ac,cc,rfl,I,hb⟩;obtain⟨ab,Z,a8,Y,a5,a6,a9,U,am,cy,a4,bz⟩:=zO (ak ba hb) (ak a7 hb) (ak b9 hb) (b0.ext hb) (b7.ext hb) (b8.ext hb) (ca.ext hb) (af br hb) (bc bd (iz hb)) (ak fd hb) (I.mono (B':=(w:Nat)+1) (by have:=bd.o;omega)) (b0.fresh I);clear I hb;go_simp;refine hK.out _ _ (HS.o _ ab Z.o) (fun hHeld=>?_);clear hK K;try simp only[Act.put,zA]
        refine cq (rs:=[3]) Si RS ?_;refine di rfl (fun K hK=>?_) cv;go_simp;obtain⟨D,Fw⟩:=aO (z.alloc (.cells (bB x.k x.a x.b x.c Ac x.row cc) 29));rw[<-Fw];have hb:ai z D:=VY;obtain⟨O,J,a0,F,ao,ap,ad,Q,Im,bv,b3,b1⟩:=zO (ak ab hb) (ak Z.o hb) (ak a8 hb) (Y.o.ext hb) (a5.ext hb) (a6.ext hb) (a9.ext hb) (af U.o hb) (bc am (iz hb)) (a4.ext hb) (ak cy hb) (UB:aU D z (bB x.k x.a x.b x.c Ac x.row cc) 29);clear hb Fw;refine hK.out _ _ (HS.o _ O J.o) (fun hHeld=>?_);clear hK K;try simp only[Act.put,zA]
        refine cq (rs:=[4]) Si RS ?_;refine di rfl (fun K hK=>?_) cv;refine fT rfl (.tmp 62) (.tmp 65) rfl ((w:Nat)+1) D (.slice (aY a2) n bm) (.slice Ac x.row cc) lf us x z F.o bv.o bz.o Te TE rfl rfl b1.o ?_;intro g4 H_ E Eo hg hb;rw[Ia.o]at Eo ⊢;obtain⟨Ik,IA,Iw,Ip,ac,Io,Ey,Ir,Ix,a1⟩:=zat (cM hg R.o O (ag _)) (fR hb J.o RU) (cM hg R.o a0 Il) (ao.ep RX RX RX F.outer hg) (ap.ep RX RX F.outer hg) (ad.ep RX RX F.outer hg) (Q.o.trans (hb.mono RU)) (bc Im hb.size) Eo (cM hg R.o b3 bb);clear Eo hg hb;refine hK.out _ _ (HS.o _ Ik IA) (fun hHeld=>?_);clear hK K;try simp only[Act.put,zA]
        refine cq (rs:=[8]) Si RS ?_;refine di rfl (fun K hK=>?_) cv;refine gE rfl (.tmp 67) (.tmp 69) rfl ((w:Nat)+1) w E (.slice (aY b4) n b5) A1 c1 b6 vs sk be Ip.o ac.o Td TF rfl rfl a1.o ?_;exact Z6
  .have he:k=xs.length:=RU;have f9:bO p s xs=xs.length:=Um;obtain⟨gi,hH⟩:=bS he f9;clear he f9;go_wp2;refine ax (v:=.tuple (pO c7 n bm)) Vc rfl ⟨fun h=>by have:=hH.o;omega,fun _=>⟨c7,bm,?_,?_⟩,c9⟩
   .rw[<-gi.o,<-HN.o]
   .have:=e9.o;rw[If.o]at this;rw[<-gi.o,<-HN.o];exact⟨us,this.mono RU⟩
end Go.Proofs.YtdpgblncijojiaaGreatDoor
