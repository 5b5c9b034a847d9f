/- Parts of the walks. Conditions: as stated with each. -/
import Derived.Test.YtpieilkmmiopfaaGreatDoorPk35
namespace Go.Proofs.YtpieilkmmiopfaaGreatDoor
open Go.RowKit Tryz
set_option linter.all false
set_option maxHeartbeats 8000000
set_option maxRecDepth 100000
variable{A:ax}{T v0 v1 v2 z2:aG}{V w:aa}{b d k lo:Nat}{p:Int}{rows:aP}
def zhI{A B}(I:bV p=true)(F:A.Ok p)(G:B.Ok p)(Z:A.r=B.l):eV p (A.b.length+B.b) A.r (ft p A B)/\(∀c∈qN p A.r (ft p A B),c.length=A.b.length+B.b/\0<c.length/\∀x∈c,0<=x/\x<p)/\eV p (qN p A.r (ft p A B)) (A.l+B.r) (jm p A B)/\(qN p A.r (ft p A B)).length<=A.b+B.b:=by
 have D:=(cv I).1;obtain⟨J,-⟩:=DG D F.Η G.Η Z;obtain⟨ab,ad,T,-⟩:=vX I D J;obtain⟨r,l,ah,h,O,-⟩:=kM I D T;have e:qN p A.r (ft p A B)=j5 p (A.b.length+B.b) (zbh p A.r (ft p A B)):=by unfold qN;rw[J.1]
 rw[<-e]at h O;refine⟨J,fun c H=>?_,?_,?_⟩
 .obtain⟨k,Y⟩:=eH.1 H;have U:=eV.row h c H;have ac:=O.ln k (by have:=(bG.1 Y).1;have:=h.1;omega);exact⟨U,Qu,eV.el h c H⟩
 .unfold jm;exact eV.yP (sI h) fun c _=>⟨(lC D F.Η G.Η).1,(lC D F.Η G.Η).2.1⟩
 .have:=h.1;omega
abbrev zE(w:aa)(b:Nat)(v0 v1 v2:aG):World:=((w.setCell ⟨b,0,none⟩ v0).setCell ⟨b,1,none⟩ v1).setCell ⟨b,2,none⟩ v2
def zaU(h:k≠b):(zE w b v0 v1 v2).heap[k]?=w.heap[k]?:=(a_ _ _ _ _ Q_).t ((a_ _ _ _ _ Q_).t (a_ _ _ _ _ Q_))
def yt{h}{Q:Rl}{D}{Z}{H}(O:bA h b #[T,Z,z2] H)(J:Fr h lo h (fun V=>cS V D Q.b))(I:ag w h)(F:(w:Nat)<=b)(ab:b<lo):Fr (zE h b (zI (Q.l:Nat)) (zI (Q.r:Nat)) (.slice D Q.b d)) w (zE h b (zI (Q.l:Nat)) (zI (Q.r:Nat)) (.slice D Q.b d)) (fun V=>cS V D Q.b)/\Below w w (zE h b (zI (Q.l:Nat)) (zI (Q.r:Nat)) (.slice D Q.b d))/\(zE h b (zI (Q.l:Nat)) (zI (Q.r:Nat)) (.slice D Q.b d)).cell? ⟨b,0,none⟩=some (.int .i64 (Q.l:Nat))/\(zE h b (zI (Q.l:Nat)) (zI (Q.r:Nat)) (.slice D Q.b d)).cell? ⟨b,1,none⟩=some (.int .i64 (Q.r:Nat))/\(zE h b (zI (Q.l:Nat)) (zI (Q.r:Nat)) (.slice D Q.b d)).cell? ⟨b,2,none⟩=some (.slice D Q.b d):=by have U:=bE h b 0 _ _ (zI (Q.l:Nat)) O;have Y:=bE _ b 1 _ _ (zI (Q.r:Nat)) U;have G:=bE _ b 2 _ _ (.slice D Q.b d) Y;simp only[zA]at G;have⟨u0,u1,u2⟩:=aD G;exact⟨(J.y fun k a _=>zaU Qu).to Qu Qt,((I.setCell (p:=⟨b,0,none⟩) F _).setCell (p:=⟨b,1,none⟩) F _).setCell (p:=⟨b,2,none⟩) F _,u0,u1,u2⟩
def EMx(h V:aa)(r:aL)(c:cL):Prop:=Bf h r c∨Bf V r c
def zjs(h:bR 1 (EMx w) V A rows)(D:ag w V):cS V A rows:=lM (bR.E (fun _ _ h=>h.elim (Bf.ext D) id) h)
def zbG p R S A1 A2 N1 N2 c1 c2 w(bb:bV p=true)(dc:cS w A1 R.b)(dl:cS w A2 S.b)(a3:R.Ok p)(a4:S.Ok p)(sR:RSm R)(ei:RSm S)(cj:R.r=S.l)(bc:R.b.length=N1)(n2:S.b.length=N2):az 128 (j9 p (dh R.l R.r A1 N1 c1) (dh S.l S.r A2 N2 c2)) w (lJ (DF p R S) w):=by
 have⟨p2,i0⟩:=cv bb;have⟨eb,co,ee,eg⟩:=zhI bb a3 a4 cj;have hS:=a3.ι;have hT:=a4.ι;have e6:=sR.l;have hL:=sR.r;have e7:=ei.l;have e8:=ei.r;obtain⟨f1,-⟩:=AZ a3.Η;obtain⟨f2,-⟩:=A_ a3.Η;obtain⟨f3,-⟩:=AZ a4.Η;obtain⟨f4,-⟩:=A_ a4.Η;rw[bc,n2]at eb co eg;rw[bc]at f1 f2;rw[n2]at f3 f4;have⟨K,hK⟩:=aR (qN p R.r (ft p R S));rw[<-hK]at co ee eg;obtain⟨ha,hc,hd,he,hn⟩:=pD (fun V (h:ag w V)=>Cf R A1 N1 c1 w V h bc Qu dc a3.row Qu) (fun V (h:ag w V)=>ES S A2 N2 c2 w V h n2 Qu dl (fun r J=>(a4.row r J).1) Qu) (fun V (h:ag w V)=>ES R A1 N1 c1 w V h bc Qu dc (fun r J=>(a3.row r J).1) Qu) (fun V (h:ag w V)=>Cf S A2 N2 c2 w V h n2 Qu dl a4.row Qu) (show ∀V A ε,bt V A (ft p R S)->az 177 #[p,.slice A (N1+N2) ε,(R.r:Nat)] V (Ct K V) from fun V A ε h=>by rw[hK];exact DT p (ft p R S) A ε (N1+N2) R.r V bb h eb Qu Qu);have⟨Q,dq⟩:=aR (DF p R S);rw[<-dq];obtain⟨hv,g9,ho,eo,bi,es,bn,bo⟩:=zH8 (show ∀V A ε,bt V A (K.map (iO p R S))->az 179 #[p,(R.l:Nat),(S.r:Nat),.slice A K ε] V (lJ Q V) from fun V A ε h=>by rw[dq];exact mO p R.l S.r K (jm p R S) A ε V bb (by unfold jm;rw[<-hK];exact h) ee Qu Qu) (show ∀c,iO p R S c=fY p (c.take N1) (kS R) R.l N1++fY p (c.drop N1) (mA S) S.r N2 from fun c=>by unfold iO;rw[bc,n2]) co (show ft p R S=mA R++(kS S).map (qO p) from rfl) f1 f2 f3 f4;have id:R.l<=1024:=e6;have ii:S.l<=1024:=e7;have io:S.r<=1024:=e8;have h8:N1<=2048:=Qu;have h9:N2<=2048:=Qu;have h7:K.length<=4096:=Qu;have ey:=zH bb;refine MW fun hb q0 q1 q2=>?_
 clear dc dl a3 a4 sR ei cj bc n2 eb co ee eg hS hT e6 hL e7 e8 f1 f2 f3 f4 hK bb dq;go_enter func128,ntmps128
 go_upto_region 1 with(fail)
 generalize ((w.alloc _).alloc _).alloc _=W at hb q0 q1 q2 ⊢;have⟨hV,hW,hX⟩:=aD q0;obtain⟨cK,hH,e5,hI,JU⟩:=pD hb q0 q1 q2 (show(w:Nat)+1+1<W from(bk.1 q2).1);clear hb q0 q1 q2;go_upto_region 2 with(go_at_call 173;refine(ha.o _ cK.o).x ?_;rintro e ct ⟨ah,d1,rfl,b2,dr⟩;have⟨hY,hZ,h0⟩:=aD (ai e5 dr);have c3:=zH b2;have ek:=zH dr;clear b2 dr)
 clear hV hW hX;go_wp2_with ((go_at_call 173;refine(hc.o _ (aT cK ek)).x ?_;rintro e cz ⟨gR,d2,rfl,b2,cc⟩;have e4:=zH (b2.fr (fun _ _ _ _ _ F=>F) cc.size);have eB:=zH ((c3.ext cc).toE (E':=EMx w) fun _ _ _ F=>ay F);have g5:=zH cc;clear b2 cc))
 have e1:=zH (show ∀g,(Value.slice ah N1 d1).ownBlock=some g->g < (ct:Nat) from fun g e=>by obtain⟨cs,F⟩:=c3.o;exact(bS F.η g e).2)
 clear hY hZ h0;go_loopw [7,27] (fun u i wr=>∃k:Nat,k<=N2/\i=.int .i64 k/\bw 26 1 (EMx w) wr W u (mA R++((kS S).take k).map (qO p))/\(∀g,u.ownBlock=some g->g < (ct:Nat)∨(cz:Nat)<=g)/\Fr wr ct cz (fun V=>bR 1 (fun _=>Bf w) V gR (kS S))/\ag W wr/\(cz:Nat)<=wr) (fun _ i _=>N2-(intOf i).toNat)
 case atStart=>exact⟨0,aW _,rfl,by simpa using eB.o,fun g e=>ay (e1 g e),e4,aT ek g5,ae _⟩
 case round=>
  obtain⟨k,ib,rfl,H,Z,ci,G,a2⟩:=hrel;clear c3 eB e4 e1;have a9:=aT cK G;by_cases gc:k<N2
  .have hQ:(kS S).length=N2:=bn.1;have gu:(mA R).length=N1:=es.1;have⟨y,U⟩:=aq (Qu:k < (kS S).length);have b3:=bn.row y (aU U);have gB:=bn.el y (aU U);rcases ER ci.D a9 with d8|⟨b,o,rfl,bz⟩
   .rw[d8]at U;simp at U
   obtain⟨be,d,ce,d3,ac⟩:=bz k y U;rw[b3]at ce;obtain⟨g4,hr,c0,Gl⟩:=gG (fun(ab:ax) (Y:Nat) (V:aa) (h:ag wr V) (hR:aE V wr (.slice ab S.l Y) (List.replicate S.l 0))=>zB p (-1) wr S.l Y d ab be (List.replicate S.l 0) y V Qu Qu Qu Qu hR (ac.ext h) (fun a e h6=>zf8 ac Qu a e) Qt b3 Qu (fun x I=>by obtain⟨-,rfl⟩:=List.mem_replicate.1 I;omega) (fun x I=>by have:=gB x I;omega) h.size) (by unfold qO;rw[b3]:dw p (-1) (List.replicate S.l 0) y=qO p y) (by rw[zcO,b3]:(qO p y).length=S.l) (by rw[du,U,kA,fJ];rfl:mA R++((kS S).take (k+1)).map (qO p)=(mA R++((kS S).take k).map (qO p))++[qO p y]);have⟨m,cj⟩:=aR (N1+k);have Gu:=zH (by rw[bm,bs,cQ,gu];omega:(mA R++((kS S).take k).map (qO p)).length=m);have ip:m<=8192:=Qu;obtain⟨u0,av,rfl,-⟩:=H.p;rw[Gu.o]at H Z ⊢;have⟨c5,bp,hh,bh,Gn⟩:=pD H Z ci G a2;have c4:=zH (show ∀g,(Value.slice u0 m av).ownBlock=some g->g < (wr:Nat) from fun g e=>by obtain⟨cs,F⟩:=H;have:=F.η;rw[Gu.o]at this;exact(bS this g e).2)
   clear H Z ci G a2 a9 bz U b3 gB ac d3 cj hQ gu;go_wp2_with (first|(go_at_call 98;refine(kO S.l _ Qu).x ?_;rintro e hU ⟨u4,rfl,ck,a8⟩;obtain⟨ab,Y,rfl,-⟩:=ck.p;rw[fA]at ck ⊢;have hw:=zH ck;have em:=zH a8;clear ck a8)|(go_at_call 176;refine(g4 ab Y _ em hw).x ?_;rintro e D ⟨rfl,cn,ad⟩;rw[hr.o]at cn;have bg:=zH (em.t ad);have hx:=zH (cn.fr bg.size);have hB:=zH (show S.l<=Y by(obtain⟨_,_,fb,-,fs,-⟩:=cn.p;rw[c0.o]at fb fs;cases fb;exact fs));clear cn ad)|(at_builtin;refine de yU rfl (.tmp 38) (.tmp 40) rfl W (D.alloc (.cells #[.slice ab S.l Y] 26)) (.slice u0 m av) (mA R++((kS S).take k).map (qO p)) (qO p y) [.slice ab S.l Y] D ((c5.ext bg).ext (aw _ _)) rfl SU ⟨wr,D,bh.size,(aw _ _).size,fun g e=>ay (c4 g e),(hx.ext (aw _ _) (ae _)).E fun V h=>au ⟨ab,Y,by rw[c0.o],by rw[c0.o];exact hB,h⟩⟩ R5 (aZ bh.size (aZ bg.size (aw _ _).size)) rfl rfl (aH D _ rfl) ?_;intro a0 hM cF a1 b1 bu O;rw[Gu.o]at a1 ⊢;have Gv:=zH a1;have HA5:=zH (bg.alloc bg.size (.cells #[.slice ab S.l Y] 26));have cO:=zH ((aT bh HA5).t O);have cR:=zH ((hh.ext HA5 Gn).grown b1 (aZ Gn HA5.size) fun g e=>bp g e);have cV:=zH (show a0 < (ct:Nat)∨(cz:Nat)<=a0 from bu.elim (fun e=>bp a0 e) fun e=>UD);have c6:=zH (aZ (aZ Gn HA5.size) O.size);clear a1 b1 bu O))
   go_roundw
   case rel=>exact⟨k+1,Qu,Qx,Tb,fun g e=>by cases e;exact cV,cR,cO,c6⟩
   case measure=>simp[intOf];omega
  .obtain rfl:k=N2:=Qu;rw[cZ (by rw[bn.o.1];exact ae _),<-eo.o]at H;have f6:(ft p R S).length=N1+k:=by rw[eo.o,bm,bs,es.o.1,bn.o.1]
   obtain⟨g0,d5,rfl,fl,-⟩:=H.p;have d9:=(zjs fl a9).at;rw[f6];have⟨cA,gv⟩:=aR wr;rw[<-gv]at d9 a9 G ⊢;have⟨ht,b6,bh⟩:=er d9 a9 G;have I:=aD ((G.block _ Sw).t hH);have U:=aD ((G.block _ Sw).t e5);have a7:=aQ I.1 (aQ I.2.1 (aQ I.2.2 U));clear H Z ci G a2 a9 f6 fl d9 gv I U;go_upto_region 9 with(fail)
   go_cut [11,12] from 43 (fun h2 h3 V=>∃am d6 an d7,h2=.slice am N1 d6/\h3=.slice an k d7/\cS V am (kS R)/\cS V an (mA S)/\ag cA V)
   case first=>
    go_region_held3 (fun V=>af V w 0 (zI (R.l:Nat))/\af V w 1 (zI (R.r:Nat))/\af V w 2 (.slice A1 N1 c1)/\af V ((w:Nat)+1) 0 (zI (S.l:Nat))/\af V ((w:Nat)+1) 1 (zI (S.r:Nat))/\af V ((w:Nat)+1) 2 (.slice A2 k c2))
     (first|with_reducible exact a7|with_reducible exact n_ (aC _) a7|with_reducible exact n_ c7.o a7|with_reducible exact n_ a6.o a7)
     ((first|(go_at_call 173;(with_reducible refine(hd.o _ (b6.o.t ((aC cA).x b6.o.size))).x ?_);rintro e hU ⟨am,d6,rfl,gd,a8⟩;have c7:=zH ((aC cA).t (a8.x (aC cA).size));have hy:=zH ((gd.fr (fun _ _ _ _ _ F=>F) a8.size).D);have e2:=zH (aT b6 c7);clear gd a8)|(go_at_call 173;(with_reducible refine(he.o _ e2.o).x ?_);rintro e D ⟨an,d7,rfl,gi,ad⟩;have a6:=zH (aT c7 ad);have hz:=zH ((gi.fr (fun _ _ _ _ _ F=>F) ad.size).D);have hA:=zH (bR.ext (E:=fun _=>Bf w) (w':=D) (fun _ _ F=>F) hy ad);have b7:=zH (aT e2 ad);clear gi ad)))
    all_goals
     go_wp2_with fail
     go_meet
     exact⟨am,d6,an,d7,rfl,rfl,ER hA b7,ER hz b7,a6⟩
   obtain⟨am,d6,an,d7,rfl,rfl,f9,ga,dO⟩:=hcut;obtain⟨D,rfl⟩:∃D,D=wc:=⟨wc,rfl⟩;have⟨hj,hk,a6,b7⟩:=gG f9 ga dO (aT b6 dO);clear f9 ga dO;have db:=n_ a6 a7;clear a7;have br:=n_ (aw D (.cells #[] 26)) db;have⟨cI,eA,ez,hs,hJ⟩:=pD (aw D (.cells #[] 26)) (bw.lit 26 1 Bf D D (ae _)) (Qt:(D:Nat) < (D.alloc (.cells #[] 26))) (ai ((bh.block _ JU.o).t hI) a6) db;clear db;go_upto_region 11 with(fail)
   generalize D.alloc _=ej at br cI eA ez ⊢;have h1:=br.2.1
   replace br:=zH br
   go_wp2_with ((go_at_call 177;refine(hn.o _ g0 d5 (ht.ext (aT a6 cI))).x ?_;rintro e cB ⟨gL,h5,rfl,gn,bv⟩;have ev:=zH (gn.frC bv.size);have g6:=zH bv;have e0:=zH (eA.ext bv);have h4:=zH (n_ bv br);clear gn bv))
   clear h1;go_loopw [13,58] (fun u i wr=>∃k:Nat,k<=K.length/\i=.int .i64 k/\bw 26 1 Bf wr D u ((K.take k).map (iO p R S))/\(∀g,u.ownBlock=some g->g < (ej:Nat)∨(cB:Nat)<=g)/\Fr wr ej cB (fun V=>cS V gL K)/\ag D wr/\(cB:Nat)<=wr) (fun _ i _=>K.length-(intOf i).toNat)
   case atStart=>exact⟨0,aW _,rfl,e0,fun g e=>by cases e;exact ay ez.o,ev,aT cI g6,ae _⟩
   case round=>
    obtain⟨j,ia,rfl,H,Z,ch,G,a2⟩:=hrel;clear e0 ev;obtain⟨cq,-,-,-,gC,-⟩:=n_ G hJ;by_cases gc:j<K.length
    .have⟨c,ba⟩:=aq gc;have⟨c9,fx⟩:=aR (N1+k);obtain⟨dT,f5,d0⟩:=ho c (aU ba);rw[<-fx]at dT;rcases ch.D with d8|⟨b,o,rfl,bz⟩
     .rw[d8]at ba;simp at ba
     obtain⟨be,d,ce,d3,ac⟩:=bz j c ba;rw[dT]at ce d3;obtain⟨e9,fa,rfl,-⟩:=ac.θ f5;have⟨ao,ca⟩:=aR (fY p (c.take N1) (kS R) R.l N1);have⟨ap,cb⟩:=aR (fY p (c.drop N1) (mA S) S.r k);have g7:=zH (show ∀V,ag wr V->az 178 #[p,.slice (some ⟨e9,fa,none⟩) N1 d,.slice am N1 d6,(R.l:Nat)] V fun e w'=>∃ah k,e=.returned (.slice ah R.l k)/\R.l<=k/\Fr w' V.heap.size w' (fun W=>aO W ah ao)/\ag V w' from fun V h=>by rw[ca];exact Ca p (c.take N1) (kS R) N1 R.l N1 _ am d d6 V ey ((lL ac N1).ext h) ((hj.ext (aT G h)).at) Rv (ae _) (fun x I=>by have:=d0 x (AG I);omega) (fun r J=>⟨bi.row r J,fun x I=>by have:=bi.el r J x I;omega⟩) bi.1 Qu Qu)
     have g8:=zH (show ∀V bd ea,ag wr V->(bd=some ⟨e9,fa+N1,none⟩∨d=N1)->az 178 #[p,.slice bd (c9-N1) ea,.slice an k d7,(S.r:Nat)] V fun e w'=>∃ah k,e=.returned (.slice ah S.r k)/\S.r<=k/\Fr w' V.heap.size w' (fun W=>aO W ah ap)/\ag V w' from fun V bd ea h hP=>by
      rw[cb];have d4:aO wr bd (c.drop N1):=by
       rcases hP with rfl|e
       .exact mR ac N1
       .exact ay (jR Qu)
      exact Ca p (c.drop N1) (mA S) (c9-N1) S.r k bd an ea d7 V ey (d4.ext h) ((hk.ext (aT G h)).at) Ro Qu (fun x I=>by have:=d0 x (mx I);omega) (fun r J=>⟨bo.row r J,fun x I=>by have:=bo.el r J x I;omega⟩) bo.1 Qu Qu)
     have hG:=zH (by rw[g9.o,ca,cb]:iO p R S c=ao++ap);have gw:R.l=ao.length:=by rw[ca];exact(kN (fun i hi=>by obtain⟨r,J⟩:=aq (by rw[bi.o.1];exact hi:i < (kS R).length);rw[getD_some J];exact bi.row r (aU J)) N1 (ae _)).q
     have gA:S.r=ap.length:=by rw[cb];exact(kN (fun i hi=>by obtain⟨r,J⟩:=aq (by rw[bo.o.1];exact hi:i < (mA S).length);rw[getD_some J];exact bo.row r (aU J)) k (ae _)).q
     have⟨b9,fy⟩:=aR ((ao++ap).length);obtain⟨hl,hm,cW,Gl,Gu⟩:=pD gw gA fy (by rw[du,ba,kA,<-hG.o];rfl:(K.take (j+1)).map (iO p R S)=(K.take j).map (iO p R S)++[ao++ap]) (by rw[bs,cQ];omega:((K.take j).map (iO p R S)).length=j);obtain⟨u0,av,rfl,-⟩:=H.p;rw[Gu.o]at H Z ⊢;have⟨c5,bp,hg,b5,Gn⟩:=pD H Z ch G a2;have c4:=zH (show ∀g,(Value.slice u0 j av).ownBlock=some g->g < (wr:Nat) from fun g e=>by obtain⟨cs,F⟩:=H;have:=F.η;rw[Gu.o]at this;exact(bS this g e).2)
     have is:N1<=c9:=Qu;have it:N1<=d:=Qu;clear H Z ch G a2 bz ba dT f5 d0 ac ca cb gw gA fy fx;go_upto_region 14 with(fail)
     clear ce;go_region_held3 (fun V=>af V w 0 (zI (R.l:Nat)))
      (first|with_reducible exact cq|with_reducible exact ar (aC _) cq|with_reducible exact ar bq.o cq)
      ((go_at_call 178;(with_reducible refine(g7.o _ (aC wr)).x ?_);rintro e cF ⟨g1,hN,rfl,-,f8,O⟩;have bq:=zH ((aC wr).t (O.x (aC wr).size));have hD:=zH f8.D;clear f8 O))
     have cr:=ar bq gC;clear cq gC;by_cases d4:d=N1
     all_goals
      go_upto_region 15 with(fail)
      go_region_held3 (fun V=>af V ((w:Nat)+1) 1 (zI (S.r:Nat)))
       (first|with_reducible exact cr|with_reducible exact ar (aC _) cr|with_reducible exact ar c8.o cr)
       ((go_at_call 178;(with_reducible refine(g8.o _ _ _ (bq.o.t ((aC cF).x bq.o.size)) (by first|exact ay rfl|exact au d4)).x ?_);rintro e gK ⟨g2,hO,rfl,-,b0,T⟩;have c8:=zH ((aC cF).t (T.x (aC cF).size));have e3:=zH (aT bq c8);have hE:=zH b0.D;have hC:=zH (hD.ext c8);clear b0 T))
      clear cr;go_wp2_with (first|(go_at_call 65;refine(mS ao ap g1 g2 hN hO R.l S.r b9 gK hC hE hl hm cW Qu).x ?_;rintro e cu ⟨b4,cp,rfl,gb,f7,fz⟩;have b8:=zH (aT e3 fz);have hp:=zH gb;have hf:=zH (f7.to (lo':=wr.heap.size) e3.size (ae _));clear gb f7 fz)|(at_builtin;refine de yU rfl (.tmp 80) (.tmp 85) rfl D (cu.alloc (.cells (bZ b4 b9 cp) 26)) (.slice u0 j av) ((K.take j).map (iO p R S)) (ao++ap) [.slice b4 b9 cp] cu ((c5.ext b8).ext (aw _ _)) rfl SU ⟨wr,cu,b5.size,(aw _ _).size,fun g e=>ay (c4 g e),(hf.ext (aw _ _) (ae _)).E fun V h=>⟨b4,cp,by rw[<-cW.o],by rw[<-cW.o];exact hp,h⟩⟩ R5 (aZ b5.size (aZ b8.size (aw _ _).size)) rfl rfl (aH cu _ rfl) ?_;intro a0 hM i4 a1 b1 bu O;rw[Gu.o]at a1 ⊢;have Gv:=zH a1;have HA5:=zH (b8.alloc b8.size (.cells (bZ b4 b9 cp) 26));have cO:=zH ((aT b5 HA5).t O);have cR:=zH ((hg.ext HA5 Gn).grown b1 (aZ Gn HA5.size) fun g e=>bp g e);have cV:=zH (show a0 < (ej:Nat)∨(cB:Nat)<=a0 from bu.elim (fun e=>bp a0 e) fun e=>UD);have c6:=zH (aZ (aZ Gn HA5.size) O.size);clear a1 b1 bu O))
      go_roundw
      case rel=>exact⟨j+1,Qu,Qx,Tb,fun g e=>by cases e;exact cV,cR,cO,c6⟩
      case measure=>simp[intOf];omega
    .obtain rfl:j=K.length:=Qu;rw[cZ (ae _)]at H;obtain⟨u0,av,rfl,fo,-⟩:=H.p;have gs:=(lM fo).at;rw[bs];have⟨hu,b5,hF,a5⟩:=gG gs G (aT b7 G) (ai hs G);have hq:=zH (show(w:Nat)+1+1<wr from(bk.1 a5).1);clear H Z ch G a2 fo gs;go_wp2_with ((go_at_call 179;refine(hv.o _ u0 av hu).x ?_;intro e gK F;unfold lJ at F;obtain⟨be,d,rfl,b0,T⟩:=F;have⟨i1,i2,i3⟩:=aD (ai a5 T);have f0:=aK (ai a5 T) 0;have f1:=aK (ai a5 T) 1;have f2:=aK (ai a5 T) 2;have⟨fc,fd,v0,v1,v2⟩:=yt (d:=d) (ai a5 T) b0 (aT hF T) (b:=(w:Nat)+1+1) Qu hq;have G1:=zH fc;have g3:=zH fd;clear b0 T fc fd;unfold zE at v0 v1 v2))
     exact aI (v:=.agg (dh Q.l Q.r be Q.b d)) (by simp[results,results128,go_sem, *]) rfl ⟨be,d,rfl,G1,g3⟩
end Go.Proofs.YtpieilkmmiopfaaGreatDoor
