/- Parts of the walks. Conditions: as stated with each. -/
import Derived.Test.YtpieilkmmiopfaaGreatDoorPk36
import Derived.Test.YtpieilkmmiopfaaGreatDoorPk46
namespace Go.Proofs.YtpieilkmmiopfaaGreatDoor
open Go.RowKit Tryz
set_option linter.all false
set_option maxHeartbeats 4000000
set_option maxRecDepth 100000
variable{J b:Nat}{W w:aa}{p:Int}{v v0 v1 v2:aG}
def ziU{A B:Rl}(h:2<=p)(hA:A.eV p)(hB:B.eV p):eV p (A.b.length+B.b) (A.l+B.l+(A.r+B.r)) (A.b.map (nU A B)++B.b.map (nV A B)):=by
 refine ML fun sA sB=>?_
 exact sA.X sB
def zeH p R S A1 A2 N1 N2 c1 c2 w(a5:bV p=true)(bg:cS w A1 R.b)(bh:cS w A2 S.b)(Z:R.Ok p)(ab:S.Ok p)(sR:RSm R)(a8:RSm S)(Y:R.b.length=N1)(n2:S.b.length=N2):az 129 (j9 p (dh R.l R.r A1 N1 c1) (dh S.l S.r A2 N2 c2)) w (lJ (EW p R S) w):=by
 have a7:=ziU (cv a5).1 Z.Η ab.Η;rw[Y,n2]at a7;have cq:=Z.ι;have cr:=ab.ι;have cj:=sR.l;have ck:=sR.r;have cn:=a8.l;have co:=a8.r;have⟨L,av⟩:=aR (R.l+S.l);have⟨M,a0⟩:=aR (R.r+S.r);have⟨J,a1⟩:=aR (N1+N2);have cF:IntKind.i64.wrap ((R.l:Int)+(S.l:Int))=(L:Int):=Rt;have cI:IntKind.i64.wrap ((R.r:Int)+(S.r:Int))=(M:Int):=Rt;have⟨Q,a2⟩:=aR (EW p R S);have ce:=zH (show ∀V A ε,bt V A (R.b.map (nU R S)++S.b.map (nV R S))->az 179 (wT p L M A J ε) V (lJ Q V) from fun V A ε G=>by
  have:=mO p L M J (R.b.map (nU R S)++S.b.map (nV R S)) A ε V a5 G (by rw[av,a0,a1];exact a7) Qu Qu;have e:vc p L M (R.b.map (nU R S)++S.b.map (nV R S))=Q:=by rw[av,a0,a2];rfl
  rw[e]at this;exact this)
 have b8:=zH (fun V (G:ag w V) (a9:bA V w (dh R.l R.r A1 N1 c1) 67) (z2:bA V ((w:Nat)+1) (dh S.l S.r A2 N2 c2) 67)=>zgK (nU R S) R.b N1 c1 A1 (zI (R.l:Nat)) (zI (R.r:Nat)) (.pointer (bH w)) (.pointer (some ⟨(w:Nat)+1,0,none⟩)) V Y Qu (bg.ext G) (fun xs h d am a6 H ap a4=>by obtain⟨an,ao⟩:=Z.row xs a6;exact zcD xs R.l R.r N1 c1 d w ((w:Nat)+1) S.l S.r N2 c2 A1 A2 h am (ai a9 H) (ai z2 H) ap an ao a4 Qu Qu))
 have b9:=zH (fun V (G:ag w V) (a9:bA V w (dh R.l R.r A1 N1 c1) 67) (z2:bA V ((w:Nat)+1) (dh S.l S.r A2 N2 c2) 67)=>zgL (nV R S) S.b N2 c2 A2 (zI (S.l:Nat)) (zI (S.r:Nat)) (.pointer (bH w)) (.pointer (some ⟨(w:Nat)+1,0,none⟩)) V n2 Qu (bh.ext G) (fun xs h d am a6 H ap a4=>by obtain⟨an,ao⟩:=ab.row xs a6;exact zcE xs S.l S.r N2 c2 d ((w:Nat)+1) w R.l R.r N1 c1 A2 A1 h am (ai z2 H) (ai a9 H) ap an ao a4 Qu Qu))
 have ba:=zH (by rw[bm,bs,bs,Y,n2,a1]:(R.b.map (nU R S)++S.b.map (nV R S)).length=J);have cB:J<=8192:=Qu;rw[<-a2];refine MW fun hb q0 q1 q2=>?_
 clear bg bh Z ab sR a8 Y n2 a7 cq cr cj ck cn co av a0 a1 a2 a5;go_enter func129,ntmps129
 go_upto_region 1 with(fail)
 generalize ((w.alloc _).alloc _).alloc _=W at hb q0 q1 q2 ⊢;have⟨bv,bz,b0⟩:=aD q0;obtain⟨ac,ah,O,ci,JU⟩:=pD hb q0 q1 q2 (show(w:Nat)+1+1<W from(bk.1 q2).1);clear hb q0 q1 q2;go_upto_region 2 with(go_at_call 173;refine(b8.o _ ac ah O).x ?_;rintro e ct ⟨b4,d1,rfl,bq,a3⟩;have⟨b1,b2,b3⟩:=aD (ai O a3);have bb:=zH bq;have F:=zH a3;clear bq a3)
 clear bv bz b0;go_upto_region 3 with(first|(go_at_call 173;refine(b9.o _ (aT ac F) (ai ah F) (ai O F)).x ?_;rintro e cu ⟨b5,d2,rfl,br,bn⟩;have cb:=zH br;have ad:=zH bn;clear br bn)|(at_builtin;refine qL yU rfl (.tmp 11) (.tmp 14) rfl W ct cu (.slice b4 N1 d1) (.slice b5 N2 d2) (R.b.map (nU R S)) (S.b.map (nV R S)) (bb.ext ad) cb.o (fun g e=>by(obtain⟨cs,T⟩:=bb.o;exact(bS T.η g e).2)) F.o.size ad.o.size (by rw[<-bm,ba.o];omega) rfl rfl ?_;intro cV cz bu bo;obtain⟨b6,d3,rfl,bi,-⟩:=bu.p;rw[ba.o];have cc:=zH (lM bi).at;have I:=zH ((aT F ad).t bo);clear bi bu bo))
 clear b1 b2 b3;have⟨bv,bz,b0⟩:=aD ((I.block _ Sw).t ah);have⟨b1,b2,b3⟩:=aD ((I.block _ Sw).t O);have⟨bc,ch⟩:=bJ ((I.block _ JU.o).t ci) (aT ac I);have ca:=zH (show(w:Nat)+1+1<cz from(bk.1 bc).1);go_wp2_with ((go_at_call 179;refine(ce.o _ b6 d3 cc).x ?_;intro e cW T;unfold lJ at T;obtain⟨h,d,cp,bp,U⟩:=T;subst cp;have D:=ai bc U;have⟨cK,cO,cR⟩:=aD D;have f0:=aK D 0;have f1:=aK D 1;have f2:=aK D 2;have⟨bd,be,v0,v1,v2⟩:=yt (d:=d) D bp (aT ch U) (b:=(w:Nat)+1+1) Qu ca;have G1:=zH bd;have b7:=zH be;have cA:=zH U;clear bp U bd be D;unfold zE at v0 v1 v2))
 exact aI (v:=.agg (dh Q.l Q.r h Q.b d)) (by simp[results,results129,go_sem, *]) rfl ⟨h,d,rfl,G1,b7⟩
def mH{x}{p}(h:p.block≠b)(D:w.cell? p=some x):(((w.setCell ⟨b,0,none⟩ v0).setCell ⟨b,1,none⟩ v1).setCell ⟨b,2,none⟩ v2).cell? p=some x:=(cE h).t ((cE h).t ((cE h).t D))
def zkq{k}(h:3<=k)(D:k<=8):gwI k=(xz k:Nat)/\gwO k=(mf k:Nat):=by have:k=3∨k=4∨k=5∨k=6∨k=7∨k=8:=Qu;rcases this with rfl|rfl|rfl|rfl|rfl|rfl<;>decide
def zmw k:xz k<=2/\mf k<=2:=by unfold xz mf;constructor<;>(repeat' split)<;>omega
def zc7 k v:(d_ k v).length<=2:=by
 unfold d_
 (repeat' split)<;>simp
def zc8 p k v(G:bV p=true)(h:FD p k v)V A ε a b(D:a=xz k)(F:b=mf k)(H:bt V A (d_ k v)):az 179 (wT p a b A (d_ k v) ε) V (lJ (zdH p k v) V):=by
 have:=zmw k;have:=zc7 k v;have h:=mO p a b (d_ k v) (d_ k v) A ε V G H (by rw[D,F];exact Cd (cv G).1 h) Qu Qu;have e:vc p a b (d_ k v)=zdH p k v:=by rw[D,F];rfl
 rw[e]at h;exact h
def zg7 p R(I:bV p=true)(F:R.Ok p)(sR:RSm R)V A c(G:cS V A R.b):az 183 (gj p (dh R.l R.r A R.b c)) V (lJ (za5 p R) V):=by
 have:=F.ι;have:=sR.l;have:=sR.r;have h:=F.Η;refine zbS p R R.b c A V I G rfl Qu Qu F.row (eV.yP h fun r D=>?_);have hl:=h.row r D;have H:(r.drop R.l).length=R.r:=Sc;refine⟨by rw[bm,fS,cQ,hl];omega,fun d J=>?_⟩;rw[kf,H];split
 .rw[nG];exact h.vY D Qu
 .rw[nH Qu];exact h.vY D Qu
def zkr:bt (((W.alloc (.cells zb6 3)).alloc (.cells zb7 3)).alloc (.cells #[.slice (bH W) 4 4,.slice (some ⟨(W:Nat)+1,0,none⟩) 4 4] 26)) (some ⟨(W:Nat)+1+1,0,none⟩) [[1,0,0,1],[0,1,1,0]]:=by
 have⟨F,G,D⟩:=cD W (.cells zb6 3) (.cells zb7 3) (.cells #[.slice (bH W) 4 4,.slice (some ⟨(W:Nat)+1,0,none⟩) 4 4] 26);exact au ⟨_,0,rfl,fun j r h=>by
  match j,h with
  |0,h=>simp at h;subst h;exact⟨_,_,aF D 0 rfl,mC (xs:=[1,0,0,1]) F rfl⟩
  |1,h=>simp at h;subst h;exact⟨_,_,aF D 1 rfl,mC (xs:=[0,1,1,0]) G rfl⟩
  |j+2,h=>simp at h⟩
def BU p k v s bd w(ac:bV p=true)(av:s_ p ⟨k,v,bd⟩):az 130 (gj p (dN k v s)) w (lJ (rm p ⟨k,v,bd⟩) w):=by
 have p2:=(cv ac).1;have⟨Q,G⟩:=aR (rm p ⟨k,v,bd⟩);rw[<-G];unfold rm at G;dsimp only at G;have hB:=((al w w).alloc (ae _) (.cells (dN k v s) 95)).alloc Qt (.cells bx 67);have hq:=(bO (w.alloc (.cells (dN k v s) 95)) (.cells bx 67) (k:=w.heap.size) Qt).t (aH w _ rfl);have hr:=aH (w.alloc (.cells (dN k v s) 95)) (.cells bx 67) (n:=(w:Nat)+1) Qt;by_cases h1:k=1
 .subst h1;rw[ak rfl]at G;have b0:=(tK av.1).1;have b7:0<=v:=by have:=av.1;unfold dI at this;simp at this;omega
  obtain⟨n,rfl⟩:∃n:Nat,v=n:=⟨v.toNat,Qu⟩;have cc:n<=12:=by simpa[pC]using b0
  have b3:=zH (show ∀V,az 182 (fm n) V (lJ Q V) from fun V=>by rw[G];exact vy n V Qu);clear b0 b7 av G ac;go_enter func130,ntmps130
  go_upto_region 1 with(fail)
  generalize (w.alloc _).alloc _=W at hB hq hr ⊢;refine Ow fun n0 n1 n2 HB HQ HR Gn=>?_;clear hB hq hr
  go_wp2_with ((go_at_call 182;refine(b3.o _).x ?_;intro e bp J;unfold lJ at J;obtain⟨D,d,ab,Z,F⟩:=J;subst ab;have h:=ai HR F;have⟨bh,bi,bn⟩:=aD h;have f0:=aK h 0;have f1:=aK h 1;have f2:=aK h 2;have⟨U,Y,v0,v1,v2⟩:=yt (d:=d) h Z (aT HB F) (b:=(w:Nat)+1) Qu Gn;have G1:=zH U;have G2:=zH Y;have b1:=zH F;clear Z F U Y h;unfold zE at v0 v1 v2))
  exact Yh
 have ca:(k==1)=false:=Rp;rw[aj h1]at G;by_cases h2:k=2
 .subst h2;rw[ak rfl]at G;have a4:=zH (show ∀V A ε,bt V A [[1,0,0,1],[0,1,1,0]]->az 179 #[p,.int .i64 2,.int .i64 2,.slice A 2 ε] V (lJ Q V) from fun V A ε ao=>by rw[G];exact mO p 2 2 2 [[1,0,0,1],[0,1,1,0]] A ε V ac ao (zD (n:=4) (M:=[[1,0,0,1],[0,1,1,0]]) (fun r hr=>by simp at hr;rcases hr with rfl|rfl<;>exact⟨rfl,fun x b8=>by simp at b8;omega⟩)) Qu Qu)
  clear av G ac h1;go_enter func130,ntmps130
  go_upto_region 1 with(fail)
  generalize (w.alloc _).alloc _=W at hB hq hr ⊢;refine Ow fun n0 n1 n2 HB HQ HR Gn=>?_;clear hB hq hr
  have br:=ζ W (.cells zb6 3) (.cells zb7 3) (.cells #[.slice (bH W) 4 4,.slice (some ⟨(W:Nat)+1,0,none⟩) 4 4] 26);have a8:=zH br;clear br;go_wp2_with ((go_at_call 179;refine(a4.o _ _ _ (zkr (W:=W))).x ?_;intro e bp J;unfold lJ at J;obtain⟨D,d,ab,Z,F⟩:=J;subst ab;have h:=ai (ai HR a8) F;have⟨bh,bi,bn⟩:=aD h;have f0:=aK h 0;have f1:=aK h 1;have f2:=aK h 2;have⟨U,Y,v0,v1,v2⟩:=yt (d:=d) h Z ((aT HB a8).t (F.x (aT HB a8).size)) (b:=(w:Nat)+1) Qu (gm Gn a8.size);have G1:=zH U;have G2:=zH Y;have b1:=zH F;clear Z F U Y h;unfold zE at v0 v1 v2))
  exact Yh
 have cb:(k==2)=false:=Rk;rw[aj h2]at G;have O:=av.gen h1 h2;dsimp only at O;by_cases ab:9<=k
 .rw[ak ab]at G O;have ad:3<=k-6/\k-6<=7:=⟨O.1,O.2.1⟩;have bg:Ò k=k-6:=by unfold Ò;rw[aj Qu,ak Qu]
  have⟨I,bz⟩:=aR (k-6);rw[<-bz]at G O ad bg;have⟨a,ap⟩:=aR (xz I);have⟨b,H⟩:=aR (mf I);have⟨a5,an⟩:=aR ((d_ I v).length);have⟨a2,a3⟩:=aR (zdH p I v);have bq:=zH (show ∀W,az 172 (bK k) W fun e w'=>e=.returned (zI I)/\W=w' from fun W=>by rw[<-bg];exact vC k W);have bb:=zH (show ∀W,az 167 (bK I) W fun e w'=>e=.returned (.agg (iL a b))/\ag W w' from fun W=>by have:=jt I W ad.1 Qu;rw[(zkq ad.1 Qu).1,(zkq ad.1 Qu).2,<-ap,<-H]at this;exact this)
  obtain⟨ba,a4⟩:=bJ (show ∀W,az 184 (bC I v) W fun e w'=>∃A c,e=.returned (.slice A a5 c)/\bt w' A (d_ I v)/\ag W w' from fun W=>by rw[an];exact rh I v W) (show ∀V A ε,bt V A (d_ I v)->az 179 (wT p a b A a5 ε) V (lJ a2 V) from fun V A ε ao=>by rw[a3,an];exact zc8 p I v ac O V A ε a b ap H ao);have b2:=zH (show ∀V A c,cS V A a2.b->az 183 (gj p (dh a2.l a2.r A a2.b c)) V (lJ Q V) from fun V A c ao=>by rw[G,<-a3];have:=zmw I;exact zg7 p a2 ac (by rw[a3];exact(zbF ac O).1) ⟨by rw[a3];show xz I<=_;omega,by rw[a3];show mf I<=_;omega⟩ V A c ao)
  clear O ad bg bz ap H an a3 av G ac h1 h2;go_enter func130,ntmps130
  go_upto_region 1 with(fail)
  generalize (w.alloc _).alloc _=W at hB hq hr ⊢;refine Ow fun n0 n1 n2 HB HQ HR Gn=>?_;clear hB hq hr
  go_upto_region 7 with(first|(go_at_call 172;(with_reducible refine(bq.o _).x ?_);rintro e w' ⟨rfl,rfl⟩)|(go_at_call 167;refine(bb.o _).x ?_;rintro e w2 ⟨rfl,H⟩;have Kb:=ai HQ H;have FV:=zH H;clear H))
  refine O9 fun HN1 Ka w6 Mj S0 HQ6 HWW Je=>?_;clear n0 n1 n2 Kb
  go_region_held3 (fun V=>af V w2 0 (zI (a:Nat))/\af V w2 1 (zI (b:Nat))/\af V w 0 (zI k)/\af V w 1 (zI v))
   (first|with_reducible exact S0|with_reducible exact gS (aC _) S0|with_reducible exact gS ah.o S0|with_reducible exact gS am.o S0|with_reducible exact gS T.o S0|with_reducible exact⟨mH HN1.o (gS T.o S0).1,mH HN1.o (gS T.o S0).2.1,mH Ka.o (gS T.o S0).2.2.1,mH Ka.o (gS T.o S0).2.2.2⟩)
   ((first|(go_at_call 172;(with_reducible refine(bq.o _).x ?_);rintro e w' ⟨rfl,rfl⟩)|(go_at_call 184;(with_reducible refine(ba.o _).x ?_);rintro e bo ⟨a9,be,rfl,a7,a6⟩;have ah:=zH ((aC w6).t (a6.x (aC w6).size));have bc:=zH a7;clear a7 a6)|(go_at_call 179;(with_reducible refine(a4.o bo a9 be bc.o).x ?_);intro e b9 J;unfold lJ at J;obtain⟨E,b5,b6,bv,bu⟩:=J;subst b6;have am:=zH (aT ah bu);have b4:=zH bv.D;clear bv bu)|(go_at_call 183;(with_reducible refine(b2.o b9 E b5 b4.o).x ?_);intro e bp J;unfold lJ at J;obtain⟨D,d,ab,Z,F⟩:=J;subst ab;have h:=ai (ai HQ6 am) F;have⟨bh,bi,bn⟩:=aD h;have f0:=aK h 0;have f1:=aK h 1;have f2:=aK h 2;have⟨U,Y,v0,v1,v2⟩:=yt (d:=d) h Z ((aT HWW am).t (F.x (aT HWW am).size)) (b:=(w:Nat)+1) Qu (gm Je am.size);have G1:=zH U;have G2:=zH Y;have T:=zH (aT am F);clear Z F U Y h;unfold zE at v0 v1 v2)))
  exact Yt
 .rw[aj ab]at G O;have ad:3<=k/\k<=7:=⟨O.1,O.2.1⟩;have⟨a,ap⟩:=aR (xz k);have⟨b,H⟩:=aR (mf k);have⟨a5,an⟩:=aR ((d_ k v).length);have bb:=zH (show ∀W,az 167 (bK k) W fun e w'=>e=.returned (.agg (iL a b))/\ag W w' from fun W=>by have:=jt k W ad.1 Qu;rw[(zkq ad.1 Qu).1,(zkq ad.1 Qu).2,<-ap,<-H]at this;exact this)
  obtain⟨ba,a4⟩:=bJ (show ∀W,az 184 (bC k v) W fun e w'=>∃A c,e=.returned (.slice A a5 c)/\bt w' A (d_ k v)/\ag W w' from fun W=>by rw[an];exact rh k v W) (show ∀V A ε,bt V A (d_ k v)->az 179 (wT p a b A a5 ε) V (lJ Q V) from fun V A ε ao=>by rw[G,an];exact zc8 p k v ac O V A ε a b ap H ao);clear O ad ap H an av G ac h1 h2;go_enter func130,ntmps130
  go_upto_region 1 with(fail)
  generalize (w.alloc _).alloc _=W at hB hq hr ⊢;refine Ow fun n0 n1 n2 HB HQ HR Gn=>?_;clear hB hq hr
  go_upto_region 9 with(first|(go_at_call 167;refine(bb.o _).x ?_;rintro e w2 ⟨rfl,H⟩;have Kb:=ai HQ H;have FV:=zH H;clear H))
  refine O9 fun HN1 Ka w6 Mj S0 HQ6 HWW Je=>?_;clear n0 n1 n2 Kb
  go_region_held3 (fun V=>af V w2 0 (zI (a:Nat))/\af V w2 1 (zI (b:Nat))/\af V w 0 (zI k)/\af V w 1 (zI v))
   (first|with_reducible exact S0|with_reducible exact gS (aC _) S0|with_reducible exact gS ah.o S0|with_reducible exact gS am.o S0|with_reducible exact gS T.o S0|with_reducible exact⟨mH HN1.o (gS T.o S0).1,mH HN1.o (gS T.o S0).2.1,mH Ka.o (gS T.o S0).2.2.1,mH Ka.o (gS T.o S0).2.2.2⟩)
   ((first|(go_at_call 184;(with_reducible refine(ba.o _).x ?_);rintro e bo ⟨a9,be,rfl,a7,a6⟩;have ah:=zH ((aC w6).t (a6.x (aC w6).size));have bc:=zH a7;clear a7 a6)|(go_at_call 179;(with_reducible refine(a4.o bo a9 be bc.o).x ?_);intro e bp J;unfold lJ at J;obtain⟨D,d,ab,Z,F⟩:=J;subst ab;have h:=ai (ai HQ6 ah) F;have⟨bh,bi,bn⟩:=aD h;have f0:=aK h 0;have f1:=aK h 1;have f2:=aK h 2;have⟨U,Y,v0,v1,v2⟩:=yt (d:=d) h Z ((aT HWW ah).t (F.x (aT HWW ah).size)) (b:=(w:Nat)+1) Qu (gm Je ah.size);have G1:=zH U;have G2:=zH Y;have T:=zH (aT ah F);clear Z F U Y h;unfold zE at v0 v1 v2)))
  exact Yt
def zeh k v w:az 189 (bC k v) w fun e w'=>(∃s,e=.returned (.agg (dN k v s)))/\ag w w':=by
 have h:=aH w (.cells (CX ⟨#[]⟩) 95) rfl;have D:=aw w (.cells (CX ⟨#[]⟩) 95);go_enter func189,ntmps189
 go_upto_region 1 with(fail)
 generalize w.alloc _=W at h D ⊢;have⟨H,I,J⟩:=aD h;have⟨f0,f1,f2⟩:=cd h;have⟨G,F⟩:=bJ h D;clear h D;go_wp2;have y:=ja (v0:=.int .i64 k) (v1:=.int .i64 v) (v2:=.string ⟨#[]⟩) G;have⟨O,T,U⟩:=aD y;clear y H I J f0 f1 f2;exact aI (v:=.agg (dN k v ⟨#[]⟩)) (by simp[results,results189,go_sem, *]) rfl ⟨⟨_,rfl⟩,e_ F (ae _) _ _ _⟩
def zgA l r v w(h:0<=l)(D:l<=1000)(F:0<=r)(G:r<=1000):az 191 (cY (en l r v)) w fun e w'=>e=.returned (zI (l+r))/\ag w w':=by
 go_enter func191,ntmps191
 go_wp2;go_ret
 exact⟨rfl,(al _ _).alloc (ae _) _⟩
def ERl(w:aa)(R:Rl)(c:cL):Prop:=∃A ε,c=[.int .i64 (R.l:Nat),.int .i64 (R.r:Nat),.slice A R.b ε]/\cS w A R.b
def zlL:RT prog 169 67 3 (.agg bx) 40:=⟨underlying169,QT,Qw,Qw,Qw⟩
def ze9 p L t c A ε w(cO:bV p=true)(cF:bR 3 jK w A L)(eo:L.length<=400)(ap:fp (cJ L) []=some [t])(d7:t.ty=some c)(c5:qS (cJ L)=true)(ah:qp p (cJ L)=true):az 87 (gj p (aV A L ε)) w (lJ (t.rel p) w):=by
 have⟨d2,d0,dr,ao⟩:=gG (Bg.φ (p:=p) ap) c5 ah cO;have br:=(bO (w.alloc (.cells (aV A L ε) 35)) (.cells bx 67) (k:=w.heap.size) Qt).t (aH w _ rfl);have b3:=aH (w.alloc (.cells (aV A L ε) 35)) (.cells bx 67) (n:=(w:Nat)+1) Qt;have b9:=((al w w).alloc (ae _) (.cells (aV A L ε) 35)).alloc Qt (.cells bx 67);have dq:=zH (show ∀wr,ag w wr->bR 3 jK wr A L from fun wr h=>bQ cF h);have⟨Q,ca⟩:=aR (t.rel p);have dO:=zH ca;rw[<-ca];clear cF ap d7 c5 ah cO ca;go_enter func87,ntmps87
 go_upto_region 1 with(fail)
 generalize (w.alloc _).alloc _=W at br b3 b9 ⊢;obtain⟨dl,dT,Gn,b6⟩:=gG b9 b3 (show(w:Nat)+1<W from(bk.1 b3).1) (bw.lit 67 3 ERl W W (ae _));have I:=aw W (.cells #[] 67);have bv:=zH I;have db:=aF (ai br I) 0 rfl;clear br b3 b9;go_upto_region 2 with(fail)
 generalize W.alloc _=eg at b6 bv db I ⊢;have cq:=zH (ai dT I);clear I;go_wp2;go_loopw [5,13] (fun u i wr=>∃(k:Nat) (T:List Tm),i=.int .i64 k/\Bg p L t T k/\bw 67 3 ERl wr W u (xu p T)/\bA wr ((w:Nat)+1) bx 67/\ag w wr/\(W:Nat)<=wr) (fun _ i _=>L.length-(intOf i).toNat)
 case atStart=>exact⟨0,[],rfl,d2,b6,cq,aT dl bv,bv.size⟩
 case round=>
  obtain⟨k,T,rfl,ap,bq,bc,bg,c7⟩:=hrel;clear db b6 bv cq;by_cases c0:k<L.length
  .have⟨x,ck⟩:=aq c0;obtain⟨b,o,rfl,cr,c1,c2⟩:=iF (dq wr bg) ck;obtain⟨H,ab,Z⟩:=x;dsimp only at cr c1 c2;have⟨I,cj⟩:=bM wr (.cells (dN H ab Z) 95);have⟨b7,HT,II,Ib,Gc,GX⟩:=ny ck ap (bq.ext I) (ai bc I) (aT bg I) (aZ c7 I.size);clear ck ap bq bc bg c7;go_upto_region 5 with(fail)
   generalize wr.alloc _=w2 at I cj II Ib Gc GX ⊢;clear cr c1 c2 I;obtain⟨cp,c6,rfl,cI,cK,-⟩:=bw.p II;have bz:=zH cI;clear cI;rw[q6]at II cK ⊢;have⟨n,ci⟩:=aR T.length;rw[<-ci]at II cK ⊢;have Le:=zH ci;have es:n<=400:=UR;have ev:IntKind.i64.wrap ((n:Int)-1)=(n:Int)-1:=Rt;clear ci;have⟨c8,c9,n2⟩:=aD cj;clear cj;go_upto_region 6 with(fail)
   by_cases h1:H=15
   .skip
    have bp:=HT.δ b7 (show(⟨H,ab,Z⟩:eE).k=15∨(⟨H,ab,Z⟩:eE).k=16 from ay h1);obtain⟨tb,ta,S,z,rfl,a7,Y,Li⟩:=bp;dsimp only at a7 Li Y;subst h1;refine Pk fun m K8 m1 Lm K4 Hl=>?_
    have Lc:xu p (tb::ta::S)=xu p S++[ta.rel p]++[tb.rel p]:=by rw[qv,qv]
    have Ld:(xu p S).length=m:=by rw[q6,K8]
    have bn:(xu p (tb::ta::S))[m]?=some (ta.rel p):=VD;have bo:(xu p (tb::ta::S))[m1]?=some (tb.rel p):=VC;obtain⟨gb,go,rfl,a5⟩:=bz.θ (k:=m) (by rw[q6,<-Le.o];omega);obtain⟨ea,J,X1,p1,ce,a3⟩:=a5 m (ta.rel p) bn;obtain⟨eb,O,Y1,q1,ch,a4⟩:=a5 m1 (tb.rel p) bo;subst ce ch;have⟨d3,d4,bh,bi,a6⟩:=Tm.qE a7;have⟨a8,cn,b4,a9⟩:=zbq ao bh Y.1;have⟨ba,b5,co,bb⟩:=zbq ao bi Y.2;have⟨ra,am⟩:=aR (ta.rel p);have⟨rb,an⟩:=aR (tb.rel p);have cV:ra.r=rb.l:=by
     unfold gP at a6;rw[ak rfl]at a6;split at a6
     .rename_i br;rw[am,an,b4,b5];exact br
     .cases a6
    have Lo:(Tm.op 15 ta tb).rel p=DF p ra rb:=by rw[am,an];rfl
    rw[<-am]at J a3 a8 a9;rw[<-an]at O a4 ba bb;have a0:af w2 gb (go+m*3) (zI (ra.l:Nat)):=J 0 _ rfl;have a1:=J 1 _ rfl;have a2:=J 2 _ rfl;have b0:af w2 gb (go+m1*3) (zI (rb.l:Nat)):=O 0 _ rfl;have b1:=O 1 _ rfl;have b2:=O 2 _ rfl;have Ln:=zH (zbG p ra rb X1 Y1 ra.b rb.b p1 q1 w2.drew ao.o (a3.ext (aC _)) (a4.ext (aC _)) a8 ba a9 bb (by have:=cV;omega) rfl rfl);have⟨G,hG⟩:=aR (DF p ra rb);have⟨U,hU⟩:=aR (Tm.op 15 ta tb)
    rw[<-hU]at Li;have⟨T0,KZ⟩:=aR S;have KX:=zH (by rw[qv,hU,hG,Lo]:xu p (U::T0)=xu p T0++[G]);have Lk:=II.o.pop (n:=m) (by rw[q6];exact Le.o) Qu;rw[show(xu p (tb::ta::S)).take m=xu p S by rw[Lc,fJ,oG Sz,cZ Sz]]at Lk;rw[<-KZ]at Li Lk;have⟨K5,Ll,Jy⟩:=er Lk Li (Sl:(xu p T0).length=m);have KW:m<=400:=Qu;have Lg:m<=c6:=Qu;have IQ:m<n:=Qu;have IU:m1<n:=Qu;rw[<-hG]at Ln;have S0:=aQ a0 (aQ a1 (aQ a2 (aQ b0 (aQ b1 b2))));have S1:=n_ (aC w2) S0;have Jw:=zH (show ∀g,(Value.slice (some (⟨gb,go,none⟩:dM)) m c6).ownBlock=some g->g < (w2:Nat) from fun g e=>by obtain⟨cs,h⟩:=K5.o;exact(bS h.η g e).2)
    clear KZ hU hG Lo am an a8 cn b4 a9 ba b5 co bb bh bi a6 Li a7 bn bo a5 J O a3 a4 Lc Ld Lk II bz Le a0 a1 a2 b0 b1 b2 K4 K8 Lm Y cV;go_upto_region 9 with(fail)
    refine OO fun hHeld=>?_;clear c9 n2 c8
    refine Qj ?_;refine OU ?_;refine MU fun K hK=>?_
    refine Ln.x ?_;intro e F h;unfold lJ at h;obtain⟨D,d,be,ad,ac⟩:=h;subst be;have⟨HX4,bd⟩:=bJ ((aC w2).t (ac.x (aC w2).size)) (ad.to (lo':=w2.heap.size) Qt (ae _));clear ad ac hHeld;go_simp;refine hK.out _ _ (fun _=>n_ HX4 S0) (fun hHeld=>?_);clear hK K hHeld;refine P9 ?_;refine cm 15 fun K hK=>?_
    go_simp;refine hK.out _ _ (fun _=>n_ (HX4.alloc HX4.size _) S0) (fun hHeld=>?_);clear hK K hHeld;refine P9 ?_;refine cm 16 fun K hK=>?_
    refine im zlL rfl (.tmp 33) (.tmp 45) rfl W (F.alloc (.cells (dh G.l G.r D G.b d) 67)) (.slice (some ⟨gb,go,none⟩) m c6) (xu p T0) G [.int .i64 (G.l:Nat),.int .i64 (G.r:Nat),.slice D G.b d] F ((K5.ext HX4).ext (aw _ _)) rfl SU ⟨w2,F,GX,(aw _ _).size,fun g e=>ay (Jw g e),(bd.ext (aw _ _) (ae _)).E fun V av=>⟨D,d,rfl,av⟩⟩ RW (aZ GX (aZ HX4.size (aw _ _).size)) rfl rfl (aH F _ rfl) ?_;exact ZM
   by_cases h2:H=16
   .skip
    clear h1;have d5:((16:Int)==15)=false:=Qw;have bp:=HT.δ b7 (show(⟨H,ab,Z⟩:eE).k=15∨(⟨H,ab,Z⟩:eE).k=16 from au h2);obtain⟨tb,ta,S,z,rfl,a7,Y,Li⟩:=bp;dsimp only at a7 Li Y;subst h2;refine Pk fun m K8 m1 Lm K4 Hl=>?_
    have Lc:xu p (tb::ta::S)=xu p S++[ta.rel p]++[tb.rel p]:=by rw[qv,qv]
    have Ld:(xu p S).length=m:=by rw[q6,K8]
    have bn:(xu p (tb::ta::S))[m]?=some (ta.rel p):=VD;have bo:(xu p (tb::ta::S))[m1]?=some (tb.rel p):=VC;obtain⟨gb,go,rfl,a5⟩:=bz.θ (k:=m) (by rw[q6,<-Le.o];omega);obtain⟨ea,J,X1,p1,ce,a3⟩:=a5 m (ta.rel p) bn;obtain⟨eb,O,Y1,q1,ch,a4⟩:=a5 m1 (tb.rel p) bo;subst ce ch;have⟨d3,d4,bh,bi,a6⟩:=Tm.qE a7;have⟨a8,cn,b4,a9⟩:=zbq ao bh Y.1;have⟨ba,b5,co,bb⟩:=zbq ao bi Y.2;have⟨ra,am⟩:=aR (ta.rel p);have⟨rb,an⟩:=aR (tb.rel p);have Lo:(Tm.op 16 ta tb).rel p=EW p ra rb:=by rw[am,an];rfl
    rw[<-am]at J a3 a8 a9;rw[<-an]at O a4 ba bb;have a0:af w2 gb (go+m*3) (zI (ra.l:Nat)):=J 0 _ rfl;have a1:=J 1 _ rfl;have a2:=J 2 _ rfl;have b0:af w2 gb (go+m1*3) (zI (rb.l:Nat)):=O 0 _ rfl;have b1:=O 1 _ rfl;have b2:=O 2 _ rfl;have Ln:=zH (zeH p ra rb X1 Y1 ra.b rb.b p1 q1 w2.drew ao.o (a3.ext (aC _)) (a4.ext (aC _)) a8 ba a9 bb rfl rfl);have⟨G,hG⟩:=aR (EW p ra rb);have⟨U,hU⟩:=aR (Tm.op 16 ta tb)
    rw[<-hU]at Li;have⟨T0,KZ⟩:=aR S;have KX:=zH (by rw[qv,hU,hG,Lo]:xu p (U::T0)=xu p T0++[G]);have Lk:=II.o.pop (n:=m) (by rw[q6];exact Le.o) Qu;rw[show(xu p (tb::ta::S)).take m=xu p S by rw[Lc,fJ,oG Sz,cZ Sz]]at Lk;rw[<-KZ]at Li Lk;have⟨K5,Ll,Jy⟩:=er Lk Li (Sl:(xu p T0).length=m);have KW:m<=400:=Qu;have Lg:m<=c6:=Qu;have IQ:m<n:=Qu;have IU:m1<n:=Qu;rw[<-hG]at Ln;have S0:=aQ a0 (aQ a1 (aQ a2 (aQ b0 (aQ b1 b2))));have S1:=n_ (aC w2) S0;have Jw:=zH (show ∀g,(Value.slice (some (⟨gb,go,none⟩:dM)) m c6).ownBlock=some g->g < (w2:Nat) from fun g e=>by obtain⟨cs,h⟩:=K5.o;exact(bS h.η g e).2)
    clear KZ hU hG Lo am an a8 cn b4 a9 ba b5 co bb bh bi a6 Li a7 bn bo a5 J O a3 a4 Lc Ld Lk II bz Le a0 a1 a2 b0 b1 b2 K4 K8 Lm Y;go_upto_region 11 with(fail)
    refine OO fun hHeld=>?_;clear c9 n2 c8
    refine Qj ?_;refine OU ?_;refine MU fun K hK=>?_
    refine Ln.x ?_;intro e F h;unfold lJ at h;obtain⟨D,d,be,ad,ac⟩:=h;subst be;have⟨HX4,bd⟩:=bJ ((aC w2).t (ac.x (aC w2).size)) (ad.to (lo':=w2.heap.size) Qt (ae _));clear ad ac hHeld;go_simp;refine hK.out _ _ (fun _=>n_ HX4 S0) (fun hHeld=>?_);clear hK K hHeld;refine P9 ?_;refine cm 15 fun K hK=>?_
    go_simp;refine hK.out _ _ (fun _=>n_ (HX4.alloc HX4.size _) S0) (fun hHeld=>?_);clear hK K hHeld;refine P9 ?_;refine cm 16 fun K hK=>?_
    refine im zlL rfl (.tmp 52) (.tmp 64) rfl W (F.alloc (.cells (dh G.l G.r D G.b d) 67)) (.slice (some ⟨gb,go,none⟩) m c6) (xu p T0) G [.int .i64 (G.l:Nat),.int .i64 (G.r:Nat),.slice D G.b d] F ((K5.ext HX4).ext (aw _ _)) rfl SU ⟨w2,F,GX,(aw _ _).size,fun g e=>ay (Jw g e),(bd.ext (aw _ _) (ae _)).E fun V av=>⟨D,d,rfl,av⟩⟩ RW (aZ GX (aZ HX4.size (aw _ _).size)) rfl rfl (aH F _ rfl) ?_;exact ZM
   obtain⟨cW,c3⟩:=HT.leaf d0 dr b7 h1 h2;have d5:(H==15)=false:=Rp;have ek:(H==16)=false:=Rk;have⟨G,hG⟩:=aR (rm p ⟨H,ab,Z.toList.isEmpty⟩);have Ln:=zH (show ∀V,az 130 (gj p (dN H ab Z)) V (lJ G V) from fun V=>by rw[hG];exact BU p H ab Z _ V ao cW);have⟨U,hU⟩:=aR (Tm.lf ⟨H,ab,Z.toList.isEmpty⟩);obtain⟨KX,Ll,Jy⟩:=er (by rw[qv,hU,hG];rfl:xu p (U::T)=xu p T++[G]) (by rw[hU];exact c3:Bg p L t (U::T) (k+1)) (by rw[q6,Le.o]:(xu p T).length=n);have Jw:=zH (show ∀g,(Value.slice cp n c6).ownBlock=some g->g < (w2:Nat) from fun g e=>by obtain⟨cs,h⟩:=II.o;exact(bS h.η g e).2)
   clear cW c3 hG hU h1 h2;go_wp2_with (first|(go_at_call 130;refine(Ln.o _).x ?_;intro e F h;unfold lJ at h;obtain⟨D,d,be,ad,ac⟩:=h;subst be;have HX4:=zH ac;have bd:=zH ad;clear ad ac)|(at_builtin;refine de zlL rfl (.tmp 22) (.tmp 26) rfl W (F.alloc (.cells (dh G.l G.r D G.b d) 67)) (.slice cp n c6) (xu p T) G [.int .i64 (G.l:Nat),.int .i64 (G.r:Nat),.slice D G.b d] F ((II.ext HX4).ext (aw _ _)) rfl SU ⟨w2,F,GX,(aw _ _).size,fun g e=>ay (Jw g e),(bd.ext (aw _ _) (ae _)).E fun V av=>⟨D,d,rfl,av⟩⟩ RW (aZ GX (aZ HX4.size (aw _ _).size)) rfl rfl (aH F _ rfl) ?_;intro g8 Lp w8 Lj Lq K9 K3;rw[Jy.o]at Lj ⊢;have Gv:=zH Lj;have G0:=zH (((HX4.alloc HX4.size (.cells (dh G.l G.r D G.b d) 67)).x GX).t K3);clear Lj Lq K9 K3))
   have⟨JA,K_⟩:=bJ ((G0.block ((w:Nat)+1) Gn).t Ib) (Gc.t (G0.x Sx));go_roundw
   case rel=>exact⟨k+1,U::T,Qx,Ll,by rw[KX.o];exact Gv,JA,K_,aZ GX G0.size⟩
   case measure=>simp[intOf];omega
  .have d6:=ap.U c0;subst d6;have c4:xu p [t]=[Q]:=by rw[dO.o];rfl
   rw[c4]at bq;obtain⟨gb,ei,rfl,em,-⟩:=bq.form Qt;obtain⟨cs,ah⟩:=bq;obtain⟨ct,cb⟩:=aq (by rw[ah.ι];simp:0<cs.length);obtain⟨-,-,lo,hi,cA,cB,-,b8⟩:=ah.ν 0 Q ct rfl cb;obtain⟨bu,d1,he,-⟩:=b8.D;have Jz:=fun j (bp:j<3) (v:aG) (d9:ct[j]?=some v)=>oz ah.η (g:=gb) rfl (0*3+j) v (by rw[mM ah.cl cb bp];exact d9)
   have a0:af wr gb 0 (zI (Q.l:Nat)):=VJ;have a1:af wr gb 1 (zI (Q.r:Nat)):=VI;have a2:af wr gb 2 (.slice bu Q.b d1):=VH;have cR:Fr wr W wr (fun V=>cS V bu Q.b):=(b8.E fun V av=>by obtain⟨ee,ej,cc,d8⟩:=av;rw[he]at cc;simp only[List.cons.injEq,ep,true_and,and_true]at cc;obtain⟨rfl,-⟩:=cc;exact d8).to cA cB
   have⟨ey,ez,eA⟩:=aD bc;have⟨f0,f1,f2⟩:=cd bc;have⟨cu,cz,v0,v1,v2⟩:=yt (d:=d1) bc cR bg (b:=(w:Nat)+1) Qu Gn;have⟨G1,dc⟩:=bJ cu cz;unfold zE at v0 v1 v2;clear cR bc bg Jz b8 cA cB ah cb he ap cu cz c4;go_wp2;exact aI (v:=.agg (dh Q.l Q.r bu Q.b d1)) (by simp[results,results87,go_sem, *]) rfl ⟨bu,d1,rfl,G1,dc⟩
section
open Go.Proofs.Tryz Go.ChangeShapes Go.WideShapes Go.ChangeAt Go.Deep Go.Joins
section
variable{H:Type}{enc:TypeId×Value->H}{W:aa}
def zls{cs}{y}(an:DataW.trod enc prog W 0 (fun _=>true) true J 91 cs=some y):∃(x:j8) (A:ax) (ε:Nat),cs=[.int .i64 x.k,.int .i64 x.a,.int .i64 x.b,.int .i64 x.c,.slice A x.row ε]/\aO W A x.row/\x.row.length<=maxLen:=by
 have⟨xs,n,_,_,ao,ap,h⟩:=CZ underlying91 an;obtain⟨v0,v1,v2,v3,v4,rfl⟩:∃v0 v1 v2 v3 v4,cs=[v0,v1,v2,v3,v4]:=by
  match cs,ao.t zav with
  |[v0,v1,v2,v3,v4],_=>exact⟨v0,v1,v2,v3,v4,rfl⟩
 obtain⟨D,F,G,I,O,rfl⟩:∃D F G I O,xs=[D,F,G,I,O]:=by
  match xs,ap with
  |[D,F,G,I,O],_=>exact⟨D,F,G,I,O,rfl⟩
 have ab:=h 0 _ rfl;have ac:=h 1 _ rfl;have ad:=h 2 _ rfl;have ah:=h 3 _ rfl;have am:=h 4 _ rfl;simp only[mT,zau,Value.cells,C0,zb9,w_,oq,dA,dm]at ab ac ad ah am;have⟨k,T,_,_⟩:=uw fL ab;have⟨a,U,_,_⟩:=uw fL ac;have⟨b,Y,_,_⟩:=uw fL ad;have⟨c,Z,_,_⟩:=uw fL ah;obtain⟨A,row,ε,rfl,av⟩:=CF am;simp[mT]at T U Y Z;subst T U Y Z;exact⟨⟨k,a,b,c,row⟩,A,ε,rfl,av⟩
def ziH{x}(I:DataW.trod enc prog W 0 (fun _=>true) true J 25 [v]=some x):∃(A:ax) (xs:List j8) (ε:Nat),v=.slice A xs ε/\iS W A xs/\xs.length<=maxLen/\∀x∈xs,x.row.length<=maxLen:=by
 rcases open_slice underlying25 I with⟨G_,_⟩|⟨a,ι,ε,m,n,av,a0,G_,_,a1,a3,am,_,hi⟩
 .exact Yg
 .obtain rfl:v=.slice (some a) ι ε:=RE;have a2:ι<=m:=by rw[am];split<;>omega
  have F:∀i,∃x:j8,i<ι->∃A c,(∀(j:Nat) (y:aG),[Value.int .i64 x.k,.int .i64 x.a,.int .i64 x.b,.int .i64 x.c,.slice A x.row c][j]?=some y->W.cell? (a.add (i*5+j))=some y)/\aO W A x.row/\x.row.length<=maxLen:=fun i=>by
   by_cases ad:i<ι
   .obtain⟨cs,U,ao⟩:=hi i Qu;rw[zav]at U;obtain⟨x,A,c,rfl,h1,O⟩:=zls ao;have⟨_,_,ac⟩:=World.cells?_some U;refine⟨x,fun _=>⟨A,c,fun j y G=>?_,h1,O⟩⟩;have h:j<5:=(bG.1 G).1;rw[<-Go.Deep.add_add,ac j h,G]
   .exact⟨⟨0,0,0,0,[]⟩,fun I=>absurd I ad⟩
  obtain⟨X,T⟩:∃X:Nat->j8,∀i,i<ι->∃A c,(∀(j:Nat) (y:aG),[Value.int .i64 (X i).k,.int .i64 (X i).a,.int .i64 (X i).b,.int .i64 (X i).c,.slice A (X i).row c][j]?=some y->W.cell? (a.add (i*5+j))=some y)/\aO W A (X i).row/\(X i).row.length<=maxLen:=
   ⟨fun i=>Classical.choose (F i),fun i=>Classical.choose_spec (F i)⟩
  have ah:((List.range ι).map X).length=ι:=Qt;refine⟨some a,(List.range ι).map X,ε,by rw[ah],?_,Qu,fun r hr=>?_⟩
  .by_cases Z:ι=0
   .subst Z;exact ay rfl
   .obtain⟨b,o,ap⟩:=a;have an:ap=none:=by obtain⟨A,c,h1,_⟩:=T 0 Qu;exact WL
    subst an;refine au ⟨b,o,rfl,fun k x D=>?_⟩;have Y:k<ι:=by have:=(bG.1 D).1;omega
    have F:x=X k:=by simpa[Y]using D.q
    subst F;obtain⟨A,c,h1,O,_⟩:=T k Y;have h:∀(j:Nat) (y:aG),[Value.int .i64 (X k).k,.int .i64 (X k).a,.int .i64 (X k).b,.int .i64 (X k).c,.slice A (X k).row c][j]?=some y->af W b (o+k*5+j) y:=fun j y G=>by have:=h1 j y G;rwa[add_plain,<-ow]at this
    exact⟨A,c,⟨h 0 _ rfl,h 1 _ rfl,h 2 _ rfl,h 3 _ rfl,h 4 _ rfl⟩,O⟩
  .obtain⟨k,D,rfl⟩:=cH.1 hr;obtain⟨_,_,_,_,ab⟩:=T k (fj.1 D);exact ab
end
end
section
open Go.Proofs.Tryz Go.ChangeShapes Go.WideShapes Go.ChangeAt Go.Deep Go.Joins
def zct:prog.cellsOf 9=1:=QT
def zad:prog.cellsOf 4=1:=QT
def zae:prog.cellsOf 88=3:=QT
def zei:prog.cellsOf 22=1:=QT
def zej:prog.cellsOf 25=1:=QT
def zgB:prog.cellsOf 24=1:=QT
def zbe:prog.cellsOf 28=6:=QT
section
variable{H:Type}{enc:TypeId×Value->H}{W:aa}
def zlh{cs}{y}(ab:DataW.trod enc prog W 0 (fun _=>true) true J 88 cs=some y):∃x:eE,cs=[.int .i64 x.k,.int .i64 x.v,.string x.s]/\x.s.size<=maxLen:=by
 have⟨xs,n,_,_,ac,ad,G⟩:=CZ underlying88 ab;obtain⟨v0,v1,v2,rfl⟩:∃v0 v1 v2,cs=[v0,v1,v2]:=by
  match cs,ac.t zae with
  |[v0,v1,v2],_=>exact⟨v0,v1,v2,rfl⟩
 obtain⟨h,D,F,rfl⟩:∃h D F,xs=[h,D,F]:=by
  match xs,ad with
  |[h,D,F],_=>exact⟨h,D,F,rfl⟩
 have U:=G 0 _ rfl;have Y:=G 1 _ rfl;have Z:=G 2 _ rfl;simp only[mT,zct,Value.cells,C0,zb9,w_,oq,dA,dm]at U Y Z;have⟨k,I,_,_⟩:=uw fL U;have⟨a,O,_,_⟩:=uw fL Y;have⟨s,T,_,ah⟩:=DataW.trod_string underlying9 Z;simp[mT,zct]at I O T;subst I O T;exact⟨⟨k,a,s⟩,rfl,ah⟩
def zio{x}(G:DataW.trod enc prog W 0 (fun _=>true) true J 22 [v]=some x):∃(A:ax) (L:List eE) (ε:Nat),v=.slice A L ε/\bR 3 jK W A L/\L.length<=maxLen/\∀x∈L,x.s.size<=maxLen:=by
 rcases open_slice underlying22 G with⟨G_,_⟩|⟨a,ι,ε,m,n,ao,ap,G_,_,av,a1,ad,_,hi⟩
 .exact Yg
 .obtain rfl:v=.slice (some a) ι ε:=RE;have a0:ι<=m:=by rw[ad];split<;>omega
  have D:∀i,∃x:eE,i<ι->(∀(j:Nat) (y:aG),[Value.int .i64 x.k,.int .i64 x.v,.string x.s][j]?=some y->W.cell? (a.add (i*3+j))=some y)/\x.s.size<=maxLen:=fun i=>by
   by_cases Z:i<ι
   .obtain⟨cs,O,am⟩:=hi i Qu;rw[zae]at O;obtain⟨x,rfl,h1⟩:=zlh am;have⟨_,_,Y⟩:=World.cells?_some O;refine⟨x,fun _=>⟨fun j y F=>?_,h1⟩⟩;have ab:j<3:=(bG.1 F).1;rw[<-Go.Deep.add_add,Y j ab,F]
   .exact⟨⟨0,0,ByteArray.mk #[]⟩,fun G=>absurd G Z⟩
  obtain⟨X,I⟩:∃X:Nat->eE,∀i,i<ι->(∀(j:Nat) (y:aG),[Value.int .i64 (X i).k,.int .i64 (X i).v,.string (X i).s][j]?=some y->W.cell? (a.add (i*3+j))=some y)/\(X i).s.size<=maxLen:=
   ⟨fun i=>Classical.choose (D i),fun i=>Classical.choose_spec (D i)⟩
  have ac:((List.range ι).map X).length=ι:=Qt;refine⟨some a,(List.range ι).map X,ε,by rw[ac],?_,Qu,fun r hr=>?_⟩
  .by_cases U:ι=0
   .subst U;exact ay rfl
   .obtain⟨b,o,an⟩:=a;have ah:an=none:=by obtain⟨h1,_⟩:=I 0 Qu;exact WL
    subst ah;refine au ⟨b,o,rfl,fun k x h=>?_⟩;have T:k<ι:=by have:=(bG.1 h).1;omega
    have D:x=X k:=by simpa[T]using h.q
    subst D;obtain⟨h1,_⟩:=I k T;refine⟨_,fun j y F=>?_,rfl⟩;have:=h1 j y F;rwa[add_plain,<-ow]at this
  .obtain⟨k,h,rfl⟩:=cH.1 hr;exact(I k (fj.1 h)).2
def CC{d}{p}(Y:Value.okWide prog W .any J 24 v)(F:DataW.Trod enc prog W 0 (fun _=>true) true 24 v d p):∃(A:ax) (L:List eE) (ε:Nat),v=.agg (aV A L ε)/\bR 3 jK W A L/\L.length<=maxLen/\∀x∈L,x.s.size<=maxLen:=by
 obtain⟨⟨l⟩,rfl,U⟩:=okWide_struct underlying24 Y;obtain⟨Z,G⟩:=F;obtain⟨v0,rfl⟩:∃v0,l=[v0]:=by
  match l,U.t zgB with
  |[v0],_=>exact⟨v0,rfl⟩
 have⟨xs,n,_,_,_,O,I⟩:=CZ underlying24 G;obtain⟨h,rfl⟩:∃h,xs=[h]:=by
  match xs,O with
  |[h],_=>exact⟨h,rfl⟩
 have D:=I 0 _ rfl;simp only[zei,Value.cells,C0,w_,oq,dA]at D;obtain⟨A,L,ε,rfl,T⟩:=zio D;exact⟨A,L,ε,rfl,T⟩
def Dn{d}{p}(be:Value.okWide prog W .any J 28 v)(a6:DataW.Trod enc prog W 0 (fun _=>true) true 28 v d p):∃(b:Bool) (A:ax) (xs:List j8) (ε:Nat) (ao:Int) (I:ax) (D:aL) (ah:Nat) (O:ax) (F:aL) (am:Nat) (T:ax) (G:aL) (an:Nat),v=.agg (iK b A xs ε ao I D ah O F am T G an)/\(iS W A xs/\xs.length<=maxLen/\∀x∈xs,x.row.length<=maxLen)/\(aO W I D/\D.length<=maxLen)/\(aO W O F/\F.length<=maxLen)/\aO W T G/\G.length<=maxLen:=by
 obtain⟨⟨l⟩,rfl,bd⟩:=okWide_struct underlying28 be;obtain⟨bh,a7⟩:=a6;obtain⟨v0,v1,v2,v3,v4,v5,rfl⟩:∃v0 v1 v2 v3 v4 v5,l=[v0,v1,v2,v3,v4,v5]:=by
  match l,bd.t zbe with
  |[v0,v1,v2,v3,v4,v5],_=>exact⟨v0,v1,v2,v3,v4,v5,rfl⟩
 have⟨xs,n,_,_,_,a8,h⟩:=CZ underlying28 a7;obtain⟨U,Y,Z,ab,ac,ad,rfl⟩:∃U Y Z ab ac ad,xs=[U,Y,Z,ab,ac,ad]:=by
  match xs,a8 with
  |[U,Y,Z,ab,ac,ad],_=>exact⟨U,Y,Z,ab,ac,ad,rfl⟩
 have a0:=h 0 _ rfl;have a1:=h 1 _ rfl;have a2:=h 2 _ rfl;have a3:=h 3 _ rfl;have a4:=h 4 _ rfl;have a5:=h 5 _ rfl;simp only[mT,zau,zad,zej,Value.cells,C0,zb9,w_,oq,dA,dm]at a0 a1 a2 a3 a4 a5;have⟨b,ap,_⟩:=DataW.trod_bool underlying4 a0;obtain⟨A,bg,ε,rfl,a9⟩:=ziH a1;have⟨ao,av,_,_⟩:=uw fL a2;obtain⟨I,D,ah,rfl,ba⟩:=CF a3;obtain⟨O,F,am,rfl,bb⟩:=CF a4;obtain⟨T,G,an,rfl,bc⟩:=CF a5;simp[mT,zad]at ap av;subst ap av;exact⟨b,A,bg,ε,ao,I,D,ah,O,F,am,T,G,an,rfl,a9,ba,bb,bc⟩
end
end
end Go.Proofs.YtpieilkmmiopfaaGreatDoor
