/- Parts of the walks. Conditions: as stated with each. -/
import Derived.Test.YtpieilkmmiopfaaGreatDoorPk10
import Derived.Test.YtpieilkmmiopfaaGreatDoorPk11
import Derived.Test.YtpieilkmmiopfaaGreatDoorPk12
namespace Go.Proofs.YtpieilkmmiopfaaGreatDoor
open Go.RowKit Tryz
set_option linter.all false
set_option maxHeartbeats 16000000
set_option maxRecDepth 100000
variable{A:ax}{B J N b c d hi k lo m n x y:Nat}{K:pt}{P:jk}{Q:gZ}{T v v0 v1 v2 z2:aG}{V W w w':aa}{a:Act}{e:Ed}{g:Gr}{o:h_}{ops:iI}{p:Int}{rest:List Oper}{rows:aP}{xs:aL}
def zeI g(us F:bP)A1 A2 A3 O T c1 c2 c3 ah am w(an:jV w A1 A2 A3 g)(a4:px g)(a0:us.length=F)(D:us.length<=4096)(ap:aO w O (bD us))(av:aO w T (bD F))(a1:∀x∈us,x<g.w)(a2:∀x∈F,x<g.w):az 155 #[.agg (bj g A1 c1 A2 c2 A3 c3),.slice O us ah,.slice T F am] w (yB (js g (us.zip F)) w):=by
 have Y:=zH (fun V (Z:ag w V)=>zcs g us F A1 A2 A3 O T c1 c2 c3 ah am V (an.ext Z) a4 a0 D (ap.ext Z) (av.ext Z) a1 a2);refine Oq fun hB hq hr=>?_
 have⟨h,ao⟩:=aR (js g (us.zip F));unfold Ħ at Y;rw[<-ao]at Y ⊢;clear an a4 a0 D ap av a1 a2 ao;go_enter func155,ntmps155
 go_upto_region 1 with(fail)
 generalize (w.alloc _).alloc _=W at hB hq hr ⊢;have⟨a6,a7,a8,a9⟩:=aB hq;obtain⟨U,be,ad⟩:=er hB hr (show(w:Nat)+1<W from(bk.1 hr).1);clear hB hr hq;go_upto_region 2 with(go_at_call 200;(with_reducible refine(Y.o _ U.o).x ?_);intro e a5 bi;obtain⟨G,d1,H,d2,I,d3,B,bq,bu,br,bh,a3,ab⟩:=bi;subst bh;have bc:=zH a3;have ba:=zH ab;have bg:=zH (ai be ab);clear a3 ab)
 clear a6 a7 a8 a9;have⟨D,ac⟩:=bM a5 (.cells (bj h G d1 H d2 I d3) 54);generalize a5.alloc _=b2 at D ac ⊢;have⟨a6,a7,a8,a9⟩:=aB ac;have J:=ai bg D;have⟨bv,bz,b0,b1⟩:=aB J;have⟨f0,f1,f2,f3⟩:=cN J;have y:=cP (v0:=.int .i64 (h.w:Nat)) (v1:=.slice G h.es d1) (v2:=.slice H h.i d2) (v3:=.slice I h.o d3) J;have⟨bn,bo,z2,bp⟩:=aB y;unfold dQ at bn bo z2 bp;have⟨bd,bb⟩:=bJ (bc.ext D) (bY (U.t ((aT ba D).x U.size)) (b:=(w:Nat)+1) Qu (zI (h.w:Nat)) (.slice G h.es d1) (.slice H h.i d2) (.slice I h.o d3));clear D ac J y;go_wp2;exact aI (v:=.agg (bj h G d1 H d2 I d3)) (by simp[results,results155,go_sem, *]) rfl ⟨G,d1,H,d2,I,d3,B,rfl,(bd.dQ ad).x (ix (pU ad)),bb⟩
def ϥ(A:ax)(c l:Nat):Option Addr:=if c=l then A else A.map (fun x=>x.add l)
def zcR(h:aO w A xs)(F:xs.length<=c)l:aO w (ϥ A c l) (xs.drop l):=by
 unfold ϥ;split
 .rename_i e;exact ay (jR Qu)
 .cases A with
  |none=>
   rcases h with h|⟨b,o,e,-⟩
   .exact V_
   .cases e
  |some p=>
   rcases h with h|⟨b,o,e,D⟩
   .exact V_
   .cases e
    have:=mR (au ⟨b,o,rfl,D⟩:aO w (some ⟨b,o,none⟩) xs) l;rw[ox,dF];exact this
def ŝ{a b}(G:a.B=true)(H:b.B=true):px (jD a b):=by
 have O:=Gr.iT.1 G;have T:=Gr.iT.1 H;have F:=px.of G;have sb:=px.of H;refine⟨vw F.inr sb.inr,?_,?_,?_,?_,?_⟩
 .show a.w+b.w<=4096;omega
 .show(fG a b).length<=4096
  unfold fG;rw[bm,bs];omega
 .exact F.i
 .show(b.o.map _).length<=4096;rw[bs];exact sb.o
 .intro e J;rcases dP.1 (show e∈a.es++b.es.map _ from J)with D|D
  .exact F.el e D
  .obtain⟨h,I,rfl⟩:=cH.1 D;have:=sb.el h I
   show(h.i.map _).length<=4096/\(h.o.map _).length<=4096
   rw[bs,bs];exact this
def zgT a b A1 A2 A3 D1 D2 D3 c1 c2 c3 d1 d2 d3 w(bd:a.B=true)(I:b.B=true)(dq:a.o.length=b.i)(dc:jV w A1 A2 A3 a)(dl:jV w D1 D2 D3 b):az 108 (iV (bj a A1 c1 A2 c2 A3 c3) (bj b D1 d1 D2 d2 D3 d3)) w (yB (pK a b) w):=by
 have⟨cV,cK⟩:=bJ (fun(V:aa) (ab:ag w V)=>zg a b A1 A2 A3 D1 D2 D3 c1 c2 c3 d1 d2 d3 V (px.of bd) (px.of I) (dc.ext ab) (dl.ext ab)) dq;have cA:=px.of bd;have sb:=px.of I;obtain⟨eA,b7,ev⟩:=er (ŝ bd I) (show a.o.length<=4096 from cA.o) (show ∀x∈a.o,x<a.w+b.w from fun x cu=>by have:=cA.inr x (au (ay cu));omega);have es:=zH (show ∀x∈b.i.map (· +a.w),x<a.w+b.w from fun x cu=>by obtain⟨y,fb,rfl⟩:=cH.1 cu;have:=sb.inr y (ay fb);omega);refine PX fun H7 q0 q1 q2=>?_
 have⟨d9,d4⟩:=aR ((ls a b).es.length);have⟨a2,cp⟩:=aR ((ls a b).i.length);have⟨T,cq⟩:=aR ((ls a b).o.length);have⟨n,bi⟩:=aR a.i.length;have⟨m,bh⟩:=aR a.o.length;have fa:n<=a2:=by rw[bi,cp];show _<=(a.i++_).length;rw[bm];omega
 have e9:m<=T:=by rw[bh,cq];show _<=(a.o++_).length;rw[bm];omega
 have⟨c0,a6,a7,ao,an⟩:=pD d4 cp cq bi bh;rw[<-bi,<-bh]at H7 q0 q1 q2 cV ⊢;clear cA sb d4 cp cq bi bh;go_enter func108,ntmps108
 go_upto_region 1 with(fail)
 generalize ((w.alloc _).alloc _).alloc _=W at H7 q0 q1 q2 ⊢;have eg:=zH (show(w:Nat)+1+1<W from(bk.1 q2).1);have⟨fc,fd,bu,bv⟩:=aB q0;have⟨fl,fo,fs,fx⟩:=aB q1;have⟨am,e3,e4⟩:=er H7 q0 q2;clear H7 q0 q1 q2;go_upto_region 2 with(go_at_call 154;(with_reducible refine(cV.o _ am.o).x ?_);intro e cB D;unfold Ϡ at D;obtain⟨b0,c9,G,F,Y,H,ce,cn,dO,dr⟩:=D;rw[<-c0.o,<-a6.o,<-a7.o]at ce;rw[<-a6.o,<-a7.o]at cn;subst ce;have a5:=zH cn;have ek:=zH dO;have cO:=zH dr;clear cn dO dr)
 have⟨be,cr⟩:=bM cB (.cells (nh ((ls a b).w:Nat) b0 d9 c9 G a2 F Y T H) 54);clear fc;have⟨b1,a4,ba⟩:=er (ek.ext be (ae _)) (aT cO be) cO.size;generalize cB.alloc _=a3 at be cr b1 a4 ⊢;obtain⟨-,-,bu,bv⟩:=aB (ai e3 a4);have b8:=aQ bu bv;have b5:=zH cr;go_region_held3 (fun V=>af V w 2 (.slice A2 n c2)/\af V w 3 (.slice A3 m c3))
  (first|with_reducible exact b8|with_reducible exact j6 (aC _) b8)
  ((fail))
 have b3:=zH ((b1.ext (aC a3) (ix (bk.1 b5).1)).D);have J:=ai b5 (aC a3);have⟨b2,c5,cR⟩:=er (b1.ext (aC a3) (ix (bk.1 b5).1)) (ai (ai e4 a4) (aC a3)) (am.t ((a4.drew).x am.size));have⟨U,d6⟩:=aR a3.drew;rw[<-d6]at b3 J cR b2 c5 ⊢;have⟨h,cz⟩:=aR cB.heap.size;rw[<-cz]at J b2 ba ⊢;have⟨c8,f4⟩:=bJ J cz;have c4:=zH (fun V (ab:ag U V)=>iR Y H (bD a.o) V (by
  have D:=lL (b3.o.o.ext ab) m;rw[show bD (ls a b).o=bD a.o++bD (b.o.map (· +a.w)) from jr _ _,an.o,List.take_left' (aS _)]at D;exact D) (by rw[aS];have:=b7.o;omega))
 have b6:=zH (fun V (ab:ag U V)=>iR (ϥ G F n) (F-n) (bD (b.i.map (· +a.w))) V (by
  have D:=zcR (b3.i.ext ab) (c:=F) (by rw[aS,<-a6.o];exact a5.1) n;rw[show bD (ls a b).i=bD a.i++bD (b.i.map (· +a.w)) from jr _ _,ao.o,List.drop_left' (aS _)]at D;rw[ao.o];exact D) (by rw[aS,bs];have:=b7.o;have:=cK.o;omega))
 have cW:=zH (show(bD a.o).length=m from(aS _).t an.q);have b4:=zH (show(bD (b.i.map (· +a.w))).length=a2-n by rw[aS,bs,a6.o,ao.o];show _=(a.i++b.i.map _).length-_;rw[bm,bs];omega);rw[cW.o]at c4;rw[b4.o]at b6;have f5:n<=F:=aZ fa a5.1;have f6:m<=H:=aZ e9 a5.2;obtain⟨-,-,z2,bz⟩:=aB J;have ap:=aQ z2 bz;clear d6 cz;go_upto_region 3 with(fail)
 obtain⟨X3,cj⟩:=aR (ϥ Y H m);have⟨e5,ci⟩:=aR (ϥ G F n);have e2:=zH cj;rw[<-ci]at b6;have e7:(if F=n then G else Option.map (fun x=>x.add n) G)=e5:=ci.q;have e8:(if H=m then Y else Option.map (fun x=>x.add m) Y)=X3:=cj.q;clear ci cj;go_region_held3 (fun V=>af V h 2 (.slice G a2 F)/\af V h 3 (.slice Y T H))
  (first|with_reducible exact ap|with_reducible exact j6 (aC _) ap|with_reducible exact j6 a8.o ap|with_reducible exact j6 a9.o ap)
  ((first|(go_at_call 70;(with_reducible refine(c4.o _ (aC U)).x ?_);rintro e gi ⟨u7,rfl,a0,I⟩;have a8:=zH ((aC U).t (I.x (aC U).size));have eB:=zH a0;clear a0 I)|(go_at_call 70;(with_reducible refine(b6.o _ a8.o).x ?_);rintro e ea ⟨u8,rfl,a0,I⟩;have a9:=zH (aT a8 I);have e1:=zH (a0.x a8.size);have e0:=zH ((eB.ext I)))))
 have bo:=ai c8 a9;have⟨bp,bq,p2,br⟩:=aB bo;have⟨b9,ca,cb,cc⟩:=cN bo;go_upto_region 5 with(fail)
 have Z:=bE ea h 2 _ _ (.slice G n F) bo;simp only[zA]at Z;have⟨cI,ct⟩:=aR (ea.setCell ⟨h,2,none⟩ (.slice G n F));rw[<-ct]at Z ⊢;have c7:=zH ct;have⟨bp,bq,p2,br⟩:=aB Z;have⟨b9,ca,cb,cc⟩:=cN Z;clear ct bo;go_upto_region 6 with(fail)
 have bb:=bE cI h 3 _ _ (.slice X3 (T-m) (H-m)) Z;simp only[zA]at bb;clear bp bq p2;have a1:h < (U:Nat):=(bk.1 c8).1;have co:∀k,k<h->(cI.setCell ⟨h,3,none⟩ (.slice X3 (T-m) (H-m))).heap[k]?=U.heap[k]?:=fun k D=>by refine(a_ _ _ _ _ (by show k≠h;omega)).t ?_;rw[c7.o];exact(a_ _ _ _ _ (by show k≠h;omega)).t (a9.block k Qu)
 have av:=(b2.y (fun k ce e6=>co k e6)).D;have ad:=e0.setCell (a:=⟨h,2,none⟩) (show h < (U.drew:Nat) from a1) (.slice G n F);have ah:=e1.setCell (a:=⟨h,2,none⟩) a1 (.slice G n F);have ac:=(aT cR a9).setCell (p:=⟨h,2,none⟩) (by show(w:Nat)<=h;have:=am.size;have:=ba.o;omega) (.slice G n F);rw[<-c7.o]at ad ah ac
 replace ad:=ad.setCell (a:=⟨h,3,none⟩) (show h < (U.drew:Nat) from a1) (.slice X3 (T-m) (H-m))
 replace ah:=ah.setCell (a:=⟨h,3,none⟩) a1 (.slice X3 (T-m) (H-m))
 replace ac:=ac.setCell (p:=⟨h,3,none⟩) (by show(w:Nat)<=h;have:=am.size;have:=ba.o;omega) (.slice X3 (T-m) (H-m))
 have bn:=(co _ (by have:=eg.o;have:=ba.o;omega)).t c5;generalize cI.setCell ⟨h,3,none⟩ _=cF at bb av ad ah ac bn ⊢;obtain⟨eb,f7,db,d7,-⟩:=ad.p;rw[cW.o]at db;subst db;obtain⟨ee,f8,bc,d8,-⟩:=ah.p;rw[b4.o]at bc;subst bc;have dT:jV cF b0 G X3 (jD a b):=by
  refine⟨av.es,?_,?_⟩
  .have D:=lL av.i n;rw[show bD (ls a b).i=bD a.i++bD (b.i.map (· +a.w)) from jr _ _,ao.o,List.take_left' (aS _)]at D;exact D
  .have D:=zcR av.o (c:=H) (by rw[aS,<-a7.o];exact a5.2) m;rw[<-e2.o,show bD (ls a b).o=bD a.o++bD (b.o.map (· +a.w)) from jr _ _,an.o,List.drop_left' (aS _)]at D;exact D
 have bg:=zeI (jD a b) a.o (b.i.map (· +a.w)) b0 G X3 eb ee c9 F (H-m) f7 f8 cF dT eA (by rw[bs];exact cK) b7 d7 d8 ev es;have d0:(jD a b).o.length=T-m:=by
  rw[a7.o,an.o]
  show(b.o.map _).length=(a.o++b.o.map _).length-_
  rw[bm];omega
 rw[d0,show(jD a b).es.length=d9 from c0.o.q,show(jD a b).i.length=n from ao.o.q,show(b.i.map (· +a.w)).length=a2-n by rw[<-aS];exact b4,<-an.o,show(jD a b).w=(ls a b).w from rfl,show js (jD a b) (a.o.zip (b.i.map (· +a.w)))=pK a b from rfl]at bg;have⟨O,ch⟩:=aR (pK a b);rw[<-ch]at bg ⊢;obtain⟨em,eo,ei,ez,c6⟩:=pD ch bg ac bn (show(w:Nat)+1+1<cF from(bk.1 bn).1);have⟨bp,bq,p2,br⟩:=aB bb;go_wp2_with ((go_at_call 155;(with_reducible refine eo.o.x ?_);intro e gd D;unfold yB at D;obtain⟨D1,d1,D2,d2,D3,d3,B,bc,d5,ck⟩:=D;subst bc;have J:=ai ez ck;have⟨f9,ga,gb,gc⟩:=aB J;have⟨f0,f1,f2,f3⟩:=cN J;have y:=cP (v0:=.int .i64 (O.w:Nat)) (v1:=.slice D1 O.es d1) (v2:=.slice D2 O.i d2) (v3:=.slice D3 O.o d3) J;have⟨fy,fz,z2,bz⟩:=aB y;unfold dQ at fy fz z2 bz;have ey:=zH d5;have ej:=zH (bY (aT ei ck) (b:=(w:Nat)+1+1) Qu (zI (O.w:Nat)) (.slice D1 O.es d1) (.slice D2 O.i d2) (.slice D3 O.o d3))))
 refine aI (v:=.agg (bj O D1 d1 D2 d2 D3 d3)) (by simp[results,results108,go_sem, *]) rfl ?_;have e:=em.o;subst e;exact⟨D1,d1,D2,d2,D3,d3,B,rfl,(ey.dQ (b:=(w:Nat)+1+1) c6).x (ix (pU (pU c6))),ej⟩
structure O4(B:Nat)(V:aa)(v1 v2 v3 v4:aG)(l1 l2 l3 l4:aL):Prop where
 o1:bw 3 1 EI V B v1 l1
 o2:bw 3 1 EI V B v2 l2
 o3:bw 3 1 EI V B v3 l3
 o4:bw 3 1 EI V B v4 l4
 Ρ:∀g,v1.ownBlock=some g->v2.ownBlock≠some g
 Ο:∀g,v1.ownBlock=some g->v3.ownBlock≠some g
 d14:∀g,v1.ownBlock=some g->v4.ownBlock≠some g
 d23:∀g,v2.ownBlock=some g->v3.ownBlock≠some g
 d24:∀g,v2.ownBlock=some g->v4.ownBlock≠some g
 d34:∀g,v3.ownBlock=some g->v4.ownBlock≠some g
 le:B<=(V:Nat)
section
variable{B:Nat}{V V' w8:aa}{v1 v2 v3 v4:aG}{l1 l2 l3 l4 l:aL}{o:Obj}{g n ε:Nat}
def O4.nil(h:B<=(V:Nat)):O4 B V (.slice none 0 0) (.slice none 0 0) (.slice none 0 0) (.slice none 0 0) [] [] [] []:=⟨bw.nil ..,bw.nil ..,bw.nil ..,bw.nil ..,nofun,nofun,nofun,nofun,nofun,nofun,h⟩
def O4.ext(h:O4 B V v1 v2 v3 v4 l1 l2 l3 l4)(D:ag V V'):O4 B V' v1 v2 v3 v4 l1 l2 l3 l4:=⟨h.o1.ext D,h.o2.ext D,h.o3.ext D,h.o4.ext D,h.Ρ,h.Ο,h.d14,h.d23,h.d24,h.d34,aZ h.le D.size⟩
def O4.set(h:O4 B V v1 v2 v3 v4 l1 l2 l3 l4){a}(D:a.block<B)u:O4 B (V.setCell a u) v1 v2 v3 v4 l1 l2 l3 l4:=⟨h.o1.setCell D u,h.o2.setCell D u,h.o3.setCell D u,h.o4.setCell D u,h.Ρ,h.Ο,h.d14,h.d23,h.d24,h.d34,by simpa using h.le⟩
def O4.sw(h:O4 B V v1 v2 v3 v4 l1 l2 l3 l4):O4 B V v2 v1 v3 v4 l2 l1 l3 l4:=⟨h.o2,h.o1,h.o3,h.o4,mW h.Ρ,h.d23,h.d24,h.Ο,h.d14,h.d34,h.le⟩
def O4.rot(h:O4 B V v1 v2 v3 v4 l1 l2 l3 l4):O4 B V v3 v4 v1 v2 l3 l4 l1 l2:=⟨h.o3,h.o4,h.o1,h.o2,h.d34,mW h.Ο,mW h.d23,mW h.d14,mW h.d24,h.Ρ,h.le⟩
def O4.X(h:O4 B V v1 v2 v3 v4 l1 l2 l3 l4)(F:(V.alloc o).grownBy w8 v1.ownBlock)(D:v1.ownBlock=some g∨g=(V.alloc o:Nat))(hb:Below B (V.alloc o) w8)(O:bw 3 1 EI w8 B (.slice (bH g) n ε) l):O4 B w8 (.slice (bH g) n ε) v2 v3 v4 l l2 l3 l4:=by have⟨G,H⟩:=lP h.o2 h.Ρ F D;have⟨I,J⟩:=lP h.o3 h.Ο F D;obtain⟨c1,c2⟩:=lP h.o4 h.d14 F D;exact⟨O,G,I,c1,tE H,tE J,tE c2,h.d23,h.d24,h.d34,Vl⟩
end
def By{B n}{l}(h:bw 3 1 EI w B (.slice A n c) l)(D:B<=(w:Nat)):Fr w B w (fun W=>aO W A l):=(h.fr (fun _ _ _ _ _ h=>h) D).E fun W h=>zk h
def zlN{a b}(D:a.B=true)(F:b.B=true):px (pK a b):=by
 have g:=ď (Gr.nK D) (Gr.nK F);have s:=ŝ D F;have e:=zJ (vw (Gr.mE D) (Gr.mE F)) (yX (Gr.mE D) (Gr.mE F));have h:pK a b=js (jD a b) (BV a b):=rfl;refine⟨g.inr,?_,?_,?_,?_,fun e h=>by have:=G1.el g e h;omega⟩
 .rw[h,e]
  show nS _ _ _<=_
  have:=wL (jD a b) (jF (jD a b).w (BV a b)) (jD a b).w;have:=s.w;omega
 .rw[h,e]
  show((jD a b).es.map _).length<=_
  rw[bs];exact s.es
 .rw[h,e]
  show((jD a b).i.map _).length<=_
  rw[bs];exact s.i
 .rw[h,e]
  show((jD a b).o.map _).length<=_
  rw[bs];exact s.o
def zlO{a b}(h:a.B=true)(D:b.B=true):px (ls a b):=by
 have g:=ĭ (Gr.nK h) (Gr.nK D);have G:=Gr.iT.1 h;have H:=Gr.iT.1 D;refine⟨g.inr,?_,?_,?_,?_,fun e F=>by have:=G1.el g e F;omega⟩
 .show a.w+b.w<=_;omega
 .show(fG a b).length<=_;unfold fG;rw[bm,bs];omega
 .show(a.i++b.i.map _).length<=_;rw[bm,bs];omega
 .show(a.o++b.o.map _).length<=_;rw[bm,bs];omega
def ó(p:Int)(e:Ed):Bool:=decide (e.v<p)
def gdG(p:Int)(g:Gr):Bool:=bV p&&g.es.all (ó p)
def Ð(p:Int)(g:Gr):Bool:=gdG p g&&g.es.all ntE
def zcI g A1 h D c1 c2 G w(I:jV w A1 h D g)(F:g.B=true):az 153 (cY (bj g A1 c1 h c2 D G)) w (dt w true):=by have H:=Gr.nK F;have:=BP g A1 h D c1 c2 G w I H (px.of F);rw[<-H.B,F]at this;exact this
def Dz k w:az 111 (bK k) w fun e w'=>e=.returned (.bool (!dlB k))/\w=w':=by
 unfold dlB;by_cases h1:k=8<;>by_cases h2:k=14
 all_goals
  go_enter func111,ntmps111
  go_wp2;go_ret
  exact⟨Q9,rfl⟩
def zet p g A1 D F d1 d2 d3 w(O:jV w A1 D F g)(Y:g.B=true):az 110 (gj p (bj g A1 d1 D d2 F d3)) w (dt w (gdG p g)):=by
 unfold gdG;have⟨hB,hq⟩:=bM w (.cells (bj g A1 d1 D d2 F d3) 54);obtain⟨an,ao⟩:=bJ (show ∀W,ag w W->jV W A1 D F g from fun W J=>O.ext J) (fun W (J:ag w W)=>zcI g A1 D F d1 d2 d3 W (O.ext J) Y);have a5:g.es.length<=4096:=(px.of Y).es;go_enter func110,ntmps110
 go_upto_region 1 with(fail)
 generalize w.alloc _=W at hB hq ⊢;refine NQ fun x0 x1 x2 x3 HB HQ=>?_
 cases hf:bV p
 .go_wp2_with (go_at_call 91;refine(Calls.cg (kr _ _) hf).x ?_;rintro e w' ⟨rfl,rfl⟩)
  go_ret
  exact⟨aN (by rw[hf];rfl),HB⟩
 go_upto_region 3 with(first|(go_at_call 91;refine(Calls.cg (kr _ _) hf).x ?_;rintro e w' ⟨rfl,rfl⟩)|(go_at_call 153;refine(ao.o _ HB.o).x ?_;rintro e a0 ⟨rfl,T⟩;have a1:=ar T x1;have am:=zH (aT HB T)))
 go_wp2;go_loopw [18] (fun i wr=>∃k:Nat,k<=g.es.length/\i=.int .i64 k/\Hd ((g.es.take k).all (ó p)=true)/\ag w wr) (fun i _=>g.es.length-(intOf i).toNat)
 case atStart=>exact⟨0,aW _,rfl,zH Qt,am⟩
 case round=>
  obtain⟨k,a4,rfl,Gw,FW⟩:=hrel;by_cases ap:k<g.es.length
  .have⟨e,U⟩:=aq ap;obtain⟨a2,a3,ab,ad,ac,ah,rfl,u0,u1,u2,u3,-,-⟩:=fU (an wr FW).es U;obtain⟨I,h,G,H⟩:=e;dsimp only at u0 u1 u2 u3;have⟨HX,Gc⟩:=bJ U (FW.alloc FW.size (.cells (eh I h ab G ad ac H ah) 155));have Z:=aH wr (.cells (eh I h ab G ad ac H ah) 155) rfl;go_upto_region 6 with(fail)
   generalize wr.alloc _=a0 at Gc Z ⊢;have⟨a7,a8,n2,a9⟩:=aB Z;by_cases av:h<p
   .have HF:=zH (by unfold ó;simp[av]:ó p ⟨I,h,G,H⟩=true);exact YQ
   .have HF:=zH (by unfold ó;simp;omega:ó p ⟨I,h,G,H⟩=false);have a6:p<=h:=Qu;go_wp2;exact W_
  .exact Xi
def BO p g A1 F G d1 d2 d3 w(U:jV w A1 F G g)(Z:g.B=true):az 76 (gj p (bj g A1 d1 F d2 G d3)) w (dt w (Ð p g)):=by
 unfold Ð;have⟨hB,hq⟩:=bM w (.cells (bj g A1 d1 F d2 G d3) 54);obtain⟨ap,ah⟩:=bJ (show ∀W,ag w W->jV W A1 F G g from fun W T=>U.ext T) (fun W (T:ag w W)=>zet p g A1 F G d1 d2 d3 W (U.ext T) Z);have a4:g.es.length<=4096:=(px.of Z).es;go_enter func76,ntmps76
 go_upto_region 1 with(fail)
 generalize w.alloc _=W at hB hq ⊢;refine NQ fun x0 x1 x2 x3 HB HQ=>?_
 cases hf:gdG p g
 .go_wp2_with (go_at_call 110;refine(Calls.bl (ah.o _ HB.o) hf).x ?_;rintro e ao ⟨rfl,h⟩;have FV:=zH (aT HB h))
  exact Wk
 go_upto_region 3 with(go_at_call 110;refine(Calls.bl (ah.o _ HB.o) hf).x ?_;rintro e ao ⟨rfl,h⟩;have a0:=ar h x1;have FV:=zH (aT HB h))
 go_wp2;go_loopw [14] (fun i wr=>∃k:Nat,k<=g.es.length/\i=.int .i64 k/\Hd ((g.es.take k).all ntE=true)/\ag w wr) (fun i _=>g.es.length-(intOf i).toNat)
 case atStart=>exact⟨0,aW _,rfl,zH Qt,FV⟩
 case round=>
  obtain⟨k,a3,rfl,Gw,FW⟩:=hrel;by_cases av:k<g.es.length
  .have⟨e,Y⟩:=aq av;obtain⟨a1,a2,ac,am,ad,an,rfl,u0,u1,u2,u3,-,-⟩:=fU (ap wr FW).es Y;obtain⟨D,O,I,J⟩:=e;dsimp only at u0 u1 u2 u3;have⟨HX,Gc⟩:=bJ Y (FW.alloc FW.size (.cells (eh D O ac I am ad J an) 155));have ab:=aH wr (.cells (eh D O ac I am ad J an) 155) rfl;go_upto_region 6 with(fail)
   generalize wr.alloc _=ao at Gc ab ⊢;have⟨a5,a6,n2,a7⟩:=aB ab;have H:=zH (fun V=>Dz D V);cases hv:dlB D
   .rw[hv]at H;have HF:=zH (Tt:ntE ⟨D,O,I,J⟩=true);go_wp2_with (go_at_call 111;refine(H.o _).x ?_;rintro e w' ⟨rfl,rfl⟩)
    go_roundw
    case rel=>exact⟨k+1,Qu,Qx,zH (by rw[dG _ _ _ _ HX.o,Gw.o,HF.o];rfl),Gc⟩
    case measure=>simp[intOf];omega
   .rw[hv]at H;have HF:=zH (Tt:ntE ⟨D,O,I,J⟩=false);go_wp2_with (go_at_call 111;refine(H.o _).x ?_;rintro e w' ⟨rfl,rfl⟩)
    exact W_
  .exact Xi
def tgB(p:Int)(L:List eE):Bool:=kj (cJ L)&&(bV p&&qp p (cJ L))
def zeu p L A ε w(T:bR 3 jK w A L)(a7:L.length<=1048576):az 74 (gj p (aV A L ε)) w (dt w (tgB p L)):=by
 unfold tgB;refine N5 fun hB hq=>?_
 obtain⟨a2,a3⟩:=bJ (show ∀W,ag w W->bR 3 jK W A L from fun W I=>bQ T I) (fun V (a5:ag w V)=>EF L A ε V (bQ T a5) a7);go_enter func74,ntmps74
 go_upto_region 1 with(fail)
 generalize w.alloc _=W at hB hq ⊢;have D:=aF hq 0 rfl;have⟨Z,a9⟩:=bJ hB hq;go_upto_region 2 with(go_at_call 103;(with_reducible refine(a3.o _ Z.o).x ?_);intro e a1 I;unfold û at I;obtain⟨Y,ap,am,ad,av,an,ah,a0,ao,a4,U,-⟩:=I;subst a4;have d0:=ar U D;have ab:=zH (aT Z U))
 have d1:=ar (aw a1 (.cells #[.slice Y ap am,.slice ad av an,.slice ah a0 ao] 145)) d0;have H:=zH (ab.alloc ab.size (.cells #[.slice Y ap am,.slice ad av an,.slice ah a0 ao] 145));generalize a1.alloc _=bh at d1 H ⊢;cases J:kj (cJ L)
 .go_wp2;go_ret
  exact⟨aN (by rw[J];rfl),H⟩
 cases F:bV p
 .go_wp2_with (go_at_call 91;refine(Calls.cg (kr _ _) F).x ?_;rintro e w' ⟨rfl,rfl⟩)
  go_ret
  exact⟨aN (by rw[F,J];rfl),H⟩
 have ac:=zH (zgo p L);go_upto_region 4 with(go_at_call 91;refine(Calls.cg (kr _ _) F).x ?_;rintro e w' ⟨rfl,rfl⟩)
 go_wp2;go_loopw [24] (fun i wr=>∃k:Nat,k<=L.length/\i=.int .i64 k/\Hd ((L.take k).all (Ñ p)=true)/\ag w wr) (fun i _=>L.length-(intOf i).toNat)
 case atStart=>exact⟨0,aW _,rfl,zH Qt,H⟩
 case round=>
  obtain⟨k,bc,rfl,Gw,FW⟩:=hrel;by_cases a6:k<L.length
  .have⟨x,hx⟩:=aq a6;obtain⟨b,o,rfl,D,c1,c2⟩:=iF (a2 wr FW) hx;obtain⟨kk,vv,ss⟩:=x;dsimp only at D c1 c2;refine NH fun HX Gc G6=>?_
   go_upto_region 7 with(fail)
   generalize wr.alloc _=bi at Gc G6 ⊢;have⟨be,bg,n2⟩:=aD G6;cases h:Ñ p ⟨kk,vv,ss⟩
   .have HF:=zH h;have G:(kk=7∨kk=13)/\p<=vv:=by unfold Ñ Õ at h;simp only[uC,Bool.not_eq_false',jS,cf,uD]at h;omega
    obtain⟨h7,bd⟩:=G;rcases h7 with rfl|rfl
    all_goals
     go_wp2;go_ret
     exact⟨aN (by rw[<-ac.o];simp[F,J,ξ _ _ _ _ HX.o HF]),Gc⟩
   .have HF:=zH h;have G:(¬kk=7/\¬kk=13)∨vv<p:=by unfold Ñ Õ at h;simp only[jS,uE,uC,cf,uD]at h;exact h
    by_cases h7:kk=7
    .have a8:vv<p:=Qu;subst h7;exact YQ
    by_cases O:kk=13
    .have a8:vv<p:=Qu;subst O;exact YQ
    have bb:(kk==7)=false:=Rm;have ba:(kk==13)=false:=by simpa using O
    exact YQ
  .go_wp2;go_ret
   exact⟨aN (by rw[<-ac.o];simp[F,J,fZ _ _ _ Gw.o Qu]),FW⟩
def CK{n}(h:dI n=true):n.k<15:=by
 unfold dI at h;rw[bN]at h;have h:=h.2;by_cases D:n.k=1
 .omega
 rw[aj D]at h;by_cases F:n.k=7∨n.k=13
 .omega
 rw[aj F]at h;simp only[bN,cf]at h;omega
def Ep p:∀(L h:iH) (r:aL),vS p (L++h) r=vS p h (vS p L r)
 |[],_,_=>rfl
 |q::L,h,r=>Ep p L h _
def zaO{L:iH}{q}(h:L[k]?=some q):iE p n (L.take (k+1))=(iE p n (L.take k)).set q.1 (((iE p n (L.take k)).getD q.1 0+q.2)%p):=by unfold iE;rw[jl h,Ep];rfl
def Ś p n(L:iH)A ah c c2 w(bg:2<=p)(b0:p<=97)(bz:n<=4096)(bv:L.length<=4096)(a3:aO w A (bD (L.map (·.1))))(a4:aO w ah (L.map (·.2)))(Y:∀q∈L,q.1<n/\0<=q.2/\q.2<=p):az 112 #[p,(n:Nat),.slice A L c,.slice ah L c2] w fun e w'=>∃g,e=.returned (.slice (bH g) n n)/\nC w n g (iE p n L) w'/\ag w w':=by
 have⟨bn,hi,ba,bb,FU⟩:=dp gD;have⟨ap,a1,av,ao⟩:=gG a3 a4 Y (fun k=>sD (p:=p) (n:=n) (L:=L.take k) bg fun q D=>(Y q (AG D)).1);go_enter func112,ntmps112
 go_upto_region 2 with((at_make;refine jg _ rfl _ _ 26 rfl w.heap.size 3 bn (zI 0) 1 dR hi ba bb .i64 .i64 n n n rfl rfl rfl rfl RF SL (ae _) ?_;intro bp ab a7;rw[jn]at ab;have a0:=zH ab;have an:=zH (cy a7)))
 have am:=zH (show nC w n w (iE p n (L.take 0)) bp from⟨by unfold aE;rw[show iE p n (L.take 0)=List.replicate n 0 from rfl,fA];exact a0,by show(List.replicate n (0:Int)).length=n;simp,ae _⟩);go_wp2;go_loopw [16] (fun i wr=>∃k:Nat,k<=L.length/\i=.int .i64 k/\nC w n w (iE p n (L.take k)) wr/\ag w wr) (fun i _=>L.length-(intOf i).toNat)
 case atStart=>exact⟨0,aW _,rfl,am,an⟩
 case round=>
  obtain⟨k,bu,rfl,F,G⟩:=hrel;by_cases Z:k<L.length
  .obtain⟨⟨x,y⟩,D⟩:=aq Z;obtain⟨b,o,rfl,a5⟩:=(ap.ext G).θ (k:=k) (by rw[aS,bs];exact Z);obtain⟨bd,bo,rfl,a6⟩:=(a1.ext G).θ (k:=k) (by rw[bs];exact Z);have bq:=a5 k (x:Int) (dK (by rw[bI,D];rfl));have U:=a6 k y (by rw[bI,D];rfl);obtain⟨a8,a9,bi⟩:=av.o _ (aU D);dsimp only at a8 a9 bi;obtain⟨be,a2⟩:=ao k;have I:=a2 x a8;have⟨v,ac⟩:=aq (Qu:x < (iE p n (L.take k)).length);have ad:(iE p n (L.take k)).getD x 0=v:=by rw[bf,ac];rfl
   rw[ad]at I;have bh:0<=v:=by rw[I];exact gV _ Qu
   have b1:v<p:=by rw[I];exact gW _ Qu
   have O:=zH (zaO (p:=p) (n:=n) D);rw[ad]at O;dsimp only at O;obtain⟨T,br⟩:=F.at ac;have⟨J,H,bc⟩:=er F G (fun V=>za4 p v y V Qu Qu bh Qu a9 Qu);clear I;go_upto_region 5 with(fail)
   refine cU (S:=fun V=>af V w x (zI v)/\af V bd (bo+k) (zI y)) 13 QT ⟨T,U⟩ (fun hHeld=>?_);refine Qj ?_;refine aM 9 ?_;refine aM 10 ?_;refine cm 11 fun K hK=>?_
   go_simp;refine(bc.o _).x ?_;rintro e w' ⟨rfl,rfl⟩;go_simp;refine hK.out _ _ (fun _=>⟨T,U⟩) (fun hHeld=>?_);refine P9 ?_;refine cm 12 fun K hK=>?_
   go_simp;refine hK.out _ _ (fun _=>⟨T,U⟩) (fun hHeld=>?_);refine P9 ?_;refine cm 13 fun K hK=>?_
   go_simp;refine Qn ?_;refine gM QT ?_ _;go_wp2;go_roundw
   case rel=>
    have h:=J.o.put x ((v+y)%p);rw[<-O.o]at h;exact⟨k+1,Qu,Qx,Up,by first|exact H.setCell (p:=⟨w,x,none⟩) (ae _) _|exact(H.setCell (p:=⟨w,x,none⟩) (ae _) _).drew|exact H.drew.setCell (p:=⟨w,x,none⟩) (ae _) _⟩
   case measure=>simp[intOf];omega
  .rw[cZ Qu]at F;have⟨J,H⟩:=bJ F G;go_wp2;go_ret
   exact⟨_,rfl,J.o,H⟩
def ziC n w(ca:n<=4096):az 150 (fm n) w (xr ⟨n,[],List.range n,List.range n⟩ w):=by
 have a1:=((al w w).alloc (ae _) (.cells cw 54)).alloc Qt (.cells (Af n) 54);have G:=(bO (w.alloc (.cells cw 54)) (.cells (Af n) 54) (k:=w.heap.size) Qt).t (aH w _ rfl);have F:=aH (w.alloc (.cells cw 54)) (.cells (Af n) 54) (n:=(w:Nat)+1) Qt;go_enter func150,ntmps150
 go_upto_region 2 with(fail)
 generalize (w.alloc _).alloc _=W at a1 G F ⊢;obtain⟨H,av,a0,O⟩:=gG (show(w:Nat)+1<W from(bk.1 F).1) a1 G F;go_wp2;go_loopw [4] (fun i wr=>∃(k:Nat) (v2 v3:aG),k<=n/\i=.int .i64 k/\O4 W wr v2 v3 (.slice none 0 0) (.slice none 0 0) (bD (List.range k)) (bD (List.range k)) [] []/\bA wr ((w:Nat)+1) #[.int .i64 (n:Nat),.slice none 0 0,v2,v3] 54/\bA wr w cw 54/\ag w wr) (fun i _=>n-(intOf i).toNat)
 case atStart=>exact⟨0,_,_,aW _,rfl,O4.nil (ae _),O,a0,av⟩
 case round=>
  obtain⟨k,v2,v3,b8,rfl,h,F,G,U⟩:=hrel;have HL:=zH (by rw[aS,fK]:(bD (List.range k)).length=k);by_cases b9:k<n
  .have⟨a2,a3,p2,a4⟩:=aB F;have⟨br,ac,b5,b3,bo⟩:=pD h (h.ext (aw wr (.cells (fm k) 3))) (ai F (aw wr (.cells (fm k) 3))) (ai G (aw wr (.cells (fm k) 3))) (U.t ((aw wr (.cells (fm k) 3)).x U.size));go_upto_region 6 with((at_builtin;refine de qy rfl (.tmp 13) (.tmp 15) rfl W (wr.alloc (.cells (fm k) 3)) v2 (bD (List.range k)) (k:Int) [.int .i64 (k:Nat)] wr ac.o.o1 rfl SU (kn.d ac.o1 ac.le fun _=>rfl) RK ac.o.le rfl rfl (aH wr _ rfl) ?_;intro ao an a6 J Y T D;rw[HL.o]at J ⊢;have I:=(D.block ((w:Nat)+1) H).t b5;have b0:=zH ((D.block w (pU H)).t b3);have⟨bb,bc,bd,be⟩:=aB I;have⟨f0,f1,f2,f3⟩:=cN I;have b6:=zH I;have bu:=zH (O4.X br Y T D J);have bh:=zH (bo.t (D.x (ix (pU H))))))
   have y:=bE a6 ((w:Nat)+1) 2 _ _ (.slice (bH ao) (k+1) an) b6;simp only[zA]at y;have ap:=(bu.set (a:=⟨(w:Nat)+1,2,none⟩) H (.slice (bH ao) (k+1) an)).sw;have a5:=(a_ a6 ⟨(w:Nat)+1,2,none⟩ (.slice (bH ao) (k+1) an) w (by show w.heap.size≠(w:Nat)+1;omega)).t b0;have ah:=bh.setCell (p:=⟨(w:Nat)+1,2,none⟩) (by show(w:Nat)<=w+1;omega) (.slice (bH ao) (k+1) an);generalize a6.setCell ⟨(w:Nat)+1,2,none⟩ _=V at y ap a5 ah ⊢;have⟨a2,a3,p2,a4⟩:=aB y;obtain⟨bv,ad,b4,b1,bi,O⟩:=ny ap (ap.ext (aw V (.cells (fm k) 3))) (ai y (aw V (.cells (fm k) 3))) (ai a5 (aw V (.cells (fm k) 3))) (ah.t ((aw V (.cells (fm k) 3)).x ah.size)) (by rw[nk];simp[bD]:bD (List.range k)++[(k:Int)]=bD (List.range (k+1)));go_wp2_with ((at_builtin;refine de qy rfl (.tmp 19) (.tmp 21) rfl W (V.alloc (.cells (fm k) 3)) v3 (bD (List.range k)) (k:Int) [.int .i64 (k:Nat)] V ad.o.o1 rfl SU (kn.d ad.o1 ad.le fun _=>rfl) RK ad.o.le rfl rfl (aH V _ rfl) ?_;intro a9 a8 bg J Y T D;rw[HL.o]at J ⊢;have I:=(D.block ((w:Nat)+1) H).t b4;have b2:=zH ((D.block w (pU H)).t b1);have⟨bb,bc,bd,be⟩:=aB I;have⟨f0,f1,f2,f3⟩:=cN I;have b7:=zH I;have bz:=zH (O4.X bv Y T D J);have bn:=zH (bi.t (D.x (ix (pU H))))))
   go_roundw
   case rel=>
    have y:=bE bg ((w:Nat)+1) 3 _ _ (.slice (bH a9) (k+1) a8) b7;simp only[zA]at y;have ba:=(bz.set (a:=⟨(w:Nat)+1,3,none⟩) H (.slice (bH a9) (k+1) a8)).sw;rw[O.o]at ba;exact⟨k+1,_,_,Qu,Qx,ba,y,(a_ bg ⟨(w:Nat)+1,3,none⟩ _ w.heap.size (by show w.heap.size≠(w:Nat)+1;omega)).t b2,bn.setCell (p:=⟨(w:Nat)+1,3,none⟩) (by show(w:Nat)<=w+1;omega) _⟩
   case measure=>simp[intOf];omega
  .obtain rfl:k=n:=Qu;obtain⟨Z,c2,rfl,-,-,-⟩:=h.o1.p;obtain⟨ab,am,rfl,-,-,-⟩:=h.o2.p;rw[HL.o]at h F;have⟨a2,a3,p2,a4⟩:=aB F;have⟨cb,cc,ce,ch⟩:=aB G;have⟨f0,f1,f2,f3⟩:=cN G;have y:=cP (v0:=.int .i64 (k:Nat)) (v1:=dE) (v2:=.slice Z k c2) (v3:=.slice ab k am) G;refine O2 fun y0 y1 y2 y3=>?_
   obtain⟨bp,bq,a7⟩:=er (bY U (b:=w.heap.size) (ae _) (zI (k:Nat)) (.slice none 0 0) (.slice Z k c2) (.slice ab k am)) (Fv (g:=⟨k,[],List.range k,List.range k⟩) (A1:=none) (Fr.all fun _=>ay rfl) (By h.o1 h.le) (By h.o2 h.le)) (show(w:Nat)<W from pU H);go_wp2;refine aI (v:=.agg #[(k:Nat),dE,.slice Z k c2,.slice ab k am]) (by simp[results,results150,go_sem, *]) rfl ⟨none,0,Z,c2,ab,am,?_,?_,bp⟩
   .rw[show(List.range k).length=k from fK ..];rfl
   .exact(bq.dQ (b:=w.heap.size) a7).to (ix a7) (gp eK.q)
def q7{o x}(h:W.heap[k]?=some x):(W.alloc o).heap[k]?=some x:=ai h (aw W o)
def q8{x}(h:W.heap[k]?=some x):W.drew.heap[k]?=some x:=h
def zdg{E}{cs:cL}(J:bA W E cs.toArray 26)(D:lo<=E)(F:E<hi)(T:∀(k:Nat) (r:aL),rows[k]?=some r->∃g,cs[k]?=some (.slice (bH g) n n)/\r.length=n/\Fr W lo hi (fun V=>aO V (some ⟨g,0,none⟩) r)):Fr W lo hi (fun V=>bt V (some ⟨E,0,none⟩) rows):=fun V h=>by refine au ⟨E,0,rfl,fun k r O=>?_⟩;obtain⟨g,G,H,I⟩:=T k r O;refine⟨_,n,?_,I V h⟩;rw[jU,bB ((h E D F).t J) k,H];simpa using G
def zlz{g}{l}(h:nC B n g l w)(D:B<=(w:Nat)):Fr w B w (fun V=>aO V (some ⟨g,0,none⟩) l):=h.a.fr D
def ñ(rows:aP)(w:aa)(e:Ending)(w':aa):Prop:=∃A c,e=.returned (.slice A rows c)/\Fr w' w w' (fun V=>bt V A rows)/\ag w w'
def oX{o}(h:ag w V):Below w w (V.alloc o):=h.alloc h.size o
def oY(h:ag w V):Below w w V.drew:=h.drew
def BX{h}(F:ag V h)(D:ag w V):ag w h:=aT D F
def ϣ{h}{g}{l}(G:nC V n g l h)(H:ag V h)(F:ag w V)(I:lo<=(w:Nat)):Fr h lo h (fun D=>aO D (some ⟨g,0,none⟩) l):=(zlz G H.size).to (aZ I F.size) (ae _)
def Ĭ{h}{G}(I:G.length=n)(F:ag w h)(f1:Fr h w h (fun H=>aO H (some ⟨J,0,none⟩) G)):ñ [G] w (.returned (.slice (bH h) 1 1)) (h.alloc (.cells (bZ (bH J) n n) 26)):=by
 refine⟨_,1,rfl,zdg (n:=n) (cs:=[.slice (bH J) n n]) (aH h _ rfl) F.size Qt fun k r D=>?_,F.alloc F.size _⟩
 match k,D with
 |0,D=>cases D;exact⟨J,rfl,I,f1.later (aw _ _) (ae _)⟩
 |k+1,D=>simp at D
def zlA{h}{F}{I O}(T:I.length=n)(U:O.length=n)(H:ag w h)(f1:Fr h w h (fun G=>aO G (some ⟨J,0,none⟩) I))(f2:Fr h w h (fun G=>aO G (some ⟨F,0,none⟩) O)):ñ [I,O] w (.returned (.slice (bH h) 2 2)) (h.alloc (.cells (nj (bH J) n n (bH F) n n) 26)):=by
 refine⟨_,2,rfl,zdg (n:=n) (cs:=[.slice (bH J) n n,.slice (bH F) n n]) (aH h _ rfl) H.size Qt fun k r D=>?_,H.alloc H.size _⟩
 match k,D with
 |0,D=>cases D;exact⟨J,rfl,T,f1.later (aw _ _) (ae _)⟩
 |1,D=>cases D;exact⟨F,rfl,U,f2.later (aw _ _) (ae _)⟩
 |k+2,D=>simp at D
def yi p n(e:Ed)A1 A2 c1 c2 w(b0:2<=p)(cb:p<=97)(cB:n<=4096)(hI:aO w A1 (bD e.i))(hO:aO w A2 (bD e.o))(hf:e.jd=true)(hi:∀x∈e.i,x<n)(cF:∀x∈e.o,x<n)(cK:0<=e.v)(cI:e.v<p):az 113 #[p,(n:Nat),.agg (zj e A1 c1 A2 c2)] w (ñ ((e.G p).map (iE p n)) w):=by
 obtain⟨k,v,li,lo⟩:=e;refine Nz fun hB hq HI HO h3 Nf Ns I2=>?_
 have am:=zH (fun(L:iH) A A2 c c2 V (bi:∀q∈L,q.1<n/\0<=q.2/\q.2<=p) (ab:L.length<=4096) (h3:aO V A (bD (L.map (·.1)))) (cz:aO V A2 (L.map (·.2)))=>Ś p n L A A2 c c2 V b0 cb cB ab h3 cz bi);have an:=zH (fun(L:iH) (bi:∀q∈L,q.1<n)=>(sD (p:=p) (n:=n) (L:=L) b0 bi).1);have⟨T,Ni⟩:=aR (if 9<=k then k-6 else k);have⟨ah,Nr⟩:=aR (if 9<=k then lo else li);have⟨no,Jv⟩:=aR (if 9<=k then li else lo);have ck:=zH (show(Ed.mk k v li lo).G p=BK p T v ah no by unfold Ed.G;rw[Ni,Nr,Jv];split<;>rfl)
 have F:ah.length=xz T/\no.length=mf T:=Y_;rw[ck.o];clear hf hI hO Ns I2;obtain⟨br,bq,bb,b6,b7,b8⟩:=ny F (show ∀x∈ah,x<n by rw[Nr];split<;>assumption) (show ∀x∈no,x<n by rw[Jv];split<;>assumption) Ni Nr Jv;clear hi cF F Ni Nr Jv;go_enter func113,ntmps113
 go_upto_region 1 with(fail)
 generalize w.alloc _=W at hB hq ⊢;refine NQ fun x0 x1 x2 x3 HB HQ=>?_
 have S0:=aQ x0 (aQ x1 (aQ x2 x3));clear hB hq;refine Nh ?_;go_upto_if 17 with(fail)
 go_cut [7,8,9] from 10 (fun cR cV cW V=>∃b3 bu b4 cu,cR=.slice b3 ah bu/\cV=.slice b4 no cu/\cW=.int .i64 T/\aO V b3 (bD ah)/\aO V b4 (bD no)/\bA V w (eh k v A1 li c1 A2 lo c2) 155/\ag w V)
 case first=>
  by_cases h9:9<=k
  .have c8:IntKind.i64.wrap (k-9)=k-9:=Rt;have c9:IntKind.i64.wrap (k-9+3)=k-6:=Rt;go_wp2_with fail
   refine Nh ?_;go_wp2_with fail
   go_meet
   have Ni:=b6.o;have Nr:=b7.o;have Jv:=b8.o;rw[ak h9]at Ni Nr Jv;subst Ni Nr Jv;exact⟨A2,c2,A1,c1,rfl,rfl,rfl,HO.o _ HB.drew.drew,HI.o _ HB.drew.drew,HQ,HB.drew.drew⟩
  .go_wp2_with fail
   go_meet
   have cA:¬9<=k:=Qu;have Ni:=b6.o;have Nr:=b7.o;have Jv:=b8.o;rw[aj cA]at Ni Nr Jv;subst Ni Nr Jv;exact⟨A1,c1,A2,c2,rfl,rfl,rfl,HI.o _ HB.drew,HO.o _ HB.drew,HQ,HB.drew⟩
 case rest=>
  obtain⟨c0,c4,c3,co,rfl,rfl,rfl,hI,hO,hq,ca⟩:=hcut;have⟨cp,ac,a1,av⟩:=gG hq ca (fun V (hV:ag wc V)=>hI.ext hV) (fun V (hV:ag wc V)=>hO.ext hV);clear S0 x0 x1 x2 x3 hI hO hq ca HQ HB HI HO;by_cases bd:T=3
  .have F:=br.o;rw[bd]at F;obtain⟨x,rfl⟩:∃x,ah=[x]:=oH.1 F.1;obtain⟨h,U,rfl⟩:∃h U,no=[h,U]:=by
    match no,F.2 with
    |[a,b],_=>exact⟨a,b,rfl⟩
   subst bd;have bp:x<n:=bq x Qt;have I:h<n:=bb h Qt;have b2:U<n:=bb U Qt;have bn:=(a1 wc (al _ _)).θ (k:=0) QM;have a4:=(av wc (al _ _)).θ (k:=0) QM;obtain⟨a9,ba,rfl,ap⟩:=bn;obtain⟨a6,a7,rfl,Y⟩:=a4;have Z:=ap 0 (x:Int) rfl;have O:=Y 0 (h:Int) rfl;have bu:=Y 1 (U:Int) rfl;rw[jf]at Z O;have bc:=aQ Z (aQ O bu);have cO:IntKind.i64.wrap (p-1)=p-1:=Rt;obtain⟨a2,cn,a3,cq⟩:=gG (an [(h,1),(x,p-1)] (fun q hq=>by simp at hq;rcases hq with rfl|rfl;exact I;exact bp)) (an [(U,1),(x,p-1)] (fun q hq=>by simp at hq;rcases hq with rfl|rfl;exact b2;exact bp)) (fun G H V (ao:bA V G (iL h x) 3) (ab:bA V H (uq (p-1)) 3)=>(show az 112 (CV p n (bH G) (bH H)) V (fun e w'=>∃g,e=.returned (.slice (bH g) n n)/\nC V n g (iE p n [(h,1),(x,p-1)]) w'/\ag V w') from am [(h,1),(x,p-1)] (some ⟨G,0,none⟩) (some ⟨H,0,none⟩) 2 2 V (fun q hq=>by simp at hq;rcases hq with rfl|rfl;exact⟨I,RY,RY⟩;exact⟨bp,RY,RY⟩) Qt (ki ao rfl) (ki ab rfl))) (fun G H V (ao:bA V G (iL U x) 3) (ab:bA V H (uq (p-1)) 3)=>(show az 112 (CV p n (bH G) (bH H)) V (fun e w'=>∃g,e=.returned (.slice (bH g) n n)/\nC V n g (iE p n [(U,1),(x,p-1)]) w'/\ag V w') from am [(U,1),(x,p-1)] (some ⟨G,0,none⟩) (some ⟨H,0,none⟩) 2 2 V (fun q hq=>by simp at hq;rcases hq with rfl|rfl;exact⟨b2,RY,RY⟩;exact⟨bp,RY,RY⟩) Qt (ki ao rfl) (ki ab rfl)));rw[show([x]:bP).length=1 from rfl,show([h,U]:bP).length=2 from rfl];clear ap Y F a1 av bp I b2 am an Z O bu;go_wp2_with fail
   go_region_held3 (fun V=>af V a9 ba (zI (x:Nat))/\af V a6 a7 (zI (h:Nat))/\af V a6 (a7+1) (zI (U:Nat)))
    (first|with_reducible exact jH (aw _ _) QR|with_reducible exact jH ci.o QR|with_reducible exact jH a8.o QR|exact bc|assumption)
    ((first|(go_at_call 112;(with_reducible refine iB (a3.o _ _ _ ?_ ?_) ?_);(focus (iterate 8 (first|done|with_reducible refine q8 ?_|(with_reducible refine aH _ _ ?_;simp;done)|with_reducible refine q7 ?_|with_reducible refine ad.o _ _ ?_)));(focus (iterate 8 (first|done|with_reducible refine q8 ?_|(with_reducible refine aH _ _ ?_;simp;done)|with_reducible refine q7 ?_|with_reducible refine ad.o _ _ ?_)));rintro e bv ⟨bz,rfl,J,D⟩;have a8:=zH D;have ad:=zH (fun(k:Nat) (x:Obj) bi=>ai (b:=k) (o:=x) bi D);have GY:=zH (BX (w:=wc) D VW);have a0:=zH (ϣ (w:=wc) (lo:=w.heap.size) J D VW ac.size);clear J D)|(go_at_call 112;(with_reducible refine iB (cq.o _ _ _ ?_ ?_) ?_);(focus (iterate 8 (first|done|with_reducible refine q8 ?_|(with_reducible refine aH _ _ ?_;simp;done)|with_reducible refine q7 ?_|with_reducible refine ad.o _ _ ?_)));(focus (iterate 8 (first|done|with_reducible refine q8 ?_|(with_reducible refine aH _ _ ?_;simp;done)|with_reducible refine q7 ?_|with_reducible refine ad.o _ _ ?_)));rintro e dr ⟨c5,rfl,J,D⟩;have ci:=zH D;have ct:=zH (BX (w:=wc) D VW);have ce:=zH (ϣ (w:=wc) (lo:=w.heap.size) J D VW ac.size);have ch:=zH (a0.later (BX (w:=bv) D VW) (ae _));clear J D)))
   all_goals
    go_wp2_with fail
    go_ret
    exact zlA a2 cn (aT ac ct) ch ce
  by_cases be:T=5
  .have F:=br.o;rw[be]at F;obtain⟨h,rfl⟩:∃x,no=[x]:=oH.1 F.2;obtain⟨x0,x1,rfl⟩:∃h U,ah=[h,U]:=by
    match ah,F.1 with
    |[a,b],_=>exact⟨a,b,rfl⟩
   subst be;have I:h<n:=bb h Qt;have a5:x0<n:=bq x0 Qt;have b1:x1<n:=bq x1 Qt;have bn:=(a1 wc (al _ _)).θ (k:=0) QM;have a4:=(av wc (al _ _)).θ (k:=0) QM;obtain⟨a9,ba,rfl,ap⟩:=bn;obtain⟨a6,a7,rfl,Y⟩:=a4;have O:=Y 0 (h:Int) rfl;have Z:=ap 0 (x0:Int) rfl;have b9:=ap 1 (x1:Int) rfl;rw[jf]at Z O;have bc:=aQ O (aQ Z b9);have cO:IntKind.i64.wrap (p-1)=p-1:=Rt;obtain⟨a2,a3⟩:=bJ (an [(h,1),(x0,p-1),(x1,p-1)] (fun q hq=>by simp at hq;rcases hq with rfl|rfl|rfl;exact I;exact a5;exact b1)) (fun G H V (ao:bA V G #[.int .i64 (h:Nat),.int .i64 (x0:Nat),.int .i64 (x1:Nat)] 3) (ab:bA V H #[.int .i64 1,.int .i64 (p-1),.int .i64 (p-1)] 3)=>(show az 112 #[p,(n:Nat),.slice (bH G) 3 3,.slice (bH H) 3 3] V (fun e w'=>∃g,e=.returned (.slice (bH g) n n)/\nC V n g (iE p n [(h,1),(x0,p-1),(x1,p-1)]) w'/\ag V w') from am [(h,1),(x0,p-1),(x1,p-1)] (some ⟨G,0,none⟩) (some ⟨H,0,none⟩) 3 3 V (fun q hq=>by simp at hq;rcases hq with rfl|rfl|rfl;exact⟨I,RY,RY⟩;exact⟨a5,RY,RY⟩;exact⟨b1,RY,RY⟩) Qt (ki ao rfl) (ki ab rfl)));rw[show([x0,x1]:bP).length=2 from rfl,show([h]:bP).length=1 from rfl];clear ap Y F a1 av I a5 b1 am an Z b9 O;go_wp2_with fail
   go_region_held3 (fun V=>af V a6 a7 (zI (h:Nat))/\af V a9 ba (zI (x0:Nat))/\af V a9 (ba+1) (zI (x1:Nat)))
    (first|with_reducible exact jH (aw _ _) QR|with_reducible exact jH a8.o QR|exact bc|assumption)
    ((first|(go_at_call 112;(with_reducible refine iB (a3.o _ _ _ ?_ ?_) ?_);(focus (iterate 8 (first|done|with_reducible refine q8 ?_|(with_reducible refine aH _ _ ?_;simp;done)|with_reducible refine q7 ?_|with_reducible refine ad.o _ _ ?_)));(focus (iterate 8 (first|done|with_reducible refine q8 ?_|(with_reducible refine aH _ _ ?_;simp;done)|with_reducible refine q7 ?_|with_reducible refine ad.o _ _ ?_)));rintro e bv ⟨bz,rfl,J,D⟩;have a8:=zH D;have GY:=zH (BX (w:=wc) D VW);have a0:=zH (ϣ (w:=wc) (lo:=w.heap.size) J D VW ac.size);clear J D)))
   all_goals
    go_wp2_with fail
    go_ret
    exact Ĭ a2 (aT ac GY) a0
  by_cases bg:T=6
  .have F:=br.o;rw[bg]at F;obtain⟨h,rfl⟩:∃x,no=[x]:=oH.1 F.2;subst bg;have I:h<n:=bb h Qt;have a4:=(av wc (al _ _)).θ (k:=0) QM;obtain⟨a6,a7,rfl,Y⟩:=a4;have O:=Y 0 (h:Int) rfl;rw[jf]at O;obtain⟨a2,a3⟩:=bJ (an [(h,1)] (fun q hq=>by simp at hq;rcases hq with rfl;exact I)) (fun G H V (ao:bA V G (fm h) 3) (ab:bA V H #[.int .i64 1] 3)=>(show az 112 #[p,(n:Nat),.slice (bH G) 1 1,.slice (bH H) 1 1] V (fun e w'=>∃g,e=.returned (.slice (bH g) n n)/\nC V n g (iE p n [(h,1)]) w'/\ag V w') from am [(h,1)] (some ⟨G,0,none⟩) (some ⟨H,0,none⟩) 1 1 V (fun q hq=>by simp at hq;rcases hq with rfl;exact⟨I,RY,RY⟩) Qt (ki ao rfl) (ki ab rfl)));rw[show([h]:bP).length=1 from rfl];clear Y F a1 av I am an;go_wp2_with (go_at_call 112;(with_reducible refine iB (a3.o _ _ _ ?_ ?_) ?_);(focus (iterate 8 (first|done|with_reducible refine q8 ?_|(with_reducible refine aH _ _ ?_;simp;done)|with_reducible refine q7 ?_|with_reducible refine ad.o _ _ ?_)));(focus (iterate 8 (first|done|with_reducible refine q8 ?_|(with_reducible refine aH _ _ ?_;simp;done)|with_reducible refine q7 ?_|with_reducible refine ad.o _ _ ?_)));rintro e bv ⟨bz,rfl,J,D⟩;have a8:=zH D;have GY:=zH (BX (w:=wc) D VW);have a0:=zH (ϣ (w:=wc) (lo:=w.heap.size) J D VW ac.size);clear J D)
   go_ret
   exact Ĭ a2 (aT ac GY) a0
  by_cases bh:T=7
  .have F:=br.o;rw[bh]at F;obtain⟨h,rfl⟩:∃x,no=[x]:=oH.1 F.2;obtain⟨x0,rfl⟩:∃x,ah=[x]:=oH.1 F.1;subst bh;have I:h<n:=bb h Qt;have a5:x0<n:=bq x0 Qt;have bn:=(a1 wc (al _ _)).θ (k:=0) QM;have a4:=(av wc (al _ _)).θ (k:=0) QM;obtain⟨a9,ba,rfl,ap⟩:=bn;obtain⟨a6,a7,rfl,Y⟩:=a4;have O:=Y 0 (h:Int) rfl;have Z:=ap 0 (x0:Int) rfl;rw[jf]at Z O;obtain⟨-,v1,-,-⟩:=aB cp;have bc:=aQ O (aQ Z v1);have b5:=zH (fun V=>Ŗ p v V b0 cb cK cI);have⟨u,bo⟩:=aR ((p-v)%p);have c6:0<=u:=by rw[bo];exact gV _ Qu
   have c7:u<p:=by rw[bo];exact gW _ Qu
   rw[<-bo]at b5;obtain⟨cr,a2,a3⟩:=er bo (an [(h,1),(x0,u)] (fun q hq=>by simp at hq;rcases hq with rfl|rfl;exact I;exact a5)) (fun G H V (ao:bA V G (iL h x0) 3) (ab:bA V H (uq u) 3)=>(show az 112 (CV p n (bH G) (bH H)) V (fun e w'=>∃g,e=.returned (.slice (bH g) n n)/\nC V n g (iE p n [(h,1),(x0,u)]) w'/\ag V w') from am [(h,1),(x0,u)] (some ⟨G,0,none⟩) (some ⟨H,0,none⟩) 2 2 V (fun q hq=>by simp at hq;rcases hq with rfl|rfl;exact⟨I,RY,RY⟩;exact⟨a5,RY,RY⟩) Qt (ki ao rfl) (ki ab rfl)));rw[show([x0]:bP).length=1 from rfl,show([h]:bP).length=1 from rfl];clear ap Y F a1 av I a5 am an Z O v1 bo;go_wp2_with fail
   go_region_held3 (fun V=>af V a6 a7 (zI (h:Nat))/\af V a9 ba (zI (x0:Nat))/\af V w 1 (zI v))
    (first|with_reducible exact jH (aw _ _) QR|with_reducible exact jH a8.o QR|exact bc|assumption)
    ((first|(go_at_call 112;(with_reducible refine iB (a3.o _ _ _ ?_ ?_) ?_);(focus (iterate 8 (first|done|with_reducible refine q8 ?_|(with_reducible refine aH _ _ ?_;simp;done)|with_reducible refine q7 ?_|with_reducible refine ad.o _ _ ?_)));(focus (iterate 8 (first|done|with_reducible refine q8 ?_|(with_reducible refine aH _ _ ?_;simp;done)|with_reducible refine q7 ?_|with_reducible refine ad.o _ _ ?_)));rintro e bv ⟨bz,rfl,J,D⟩;have a8:=zH D;have GY:=zH (BX (w:=wc) D VW);have a0:=zH (ϣ (w:=wc) (lo:=w.heap.size) J D VW ac.size);clear J D)|(go_at_call 156;(with_reducible refine(b5.o _).x ?_);rintro e w' ⟨rfl,rfl⟩)))
   all_goals
    go_wp2_with fail
    go_ret
    have cc:=Ĭ a2 (aT ac GY) a0;rw[cr.o]at cc;exact cc
  have db:(T==3)=false:=by simpa using bd
  have dc:(T==5)=false:=by simpa using be
  have dl:(T==6)=false:=by simpa using bg
  have dq:(T==7)=false:=by simpa using bh
  have cj:=zH (by unfold BK;rw[aj bd,aj be,aj bg,aj bh]:BK p T v ah no=[]);clear bd be bg bh;go_wp2;go_ret
  rw[cj.o];exact⟨none,0,rfl,Fr.all fun _=>ay rfl,ac⟩
def zR(m:Nat)(r:aL):List Int:=List.replicate m 0++r
def eR(p:Int)(g:Gr)(e:Ed):List (List Int):=((e.G p).map (iE p g.w)).map (zR g.f_)
def sR(p:Int)(g:Gr)(m:Nat):List (List Int):=g.H p++(g.es.take m).flatMap (eR p g)
def zgh p g:sR p g 0=g.H p:=by simp[sR]
def ż(h:g.es[m]?=some e):sR p g (m+1)=sR p g m++eR p g e:=by unfold sR;rw[jl h,Di,fJ];simp
def zjB p g:sR p g g.es=g.og p:=by
 unfold sR Gr.og Gr.rows Gr.V;rw[uA];congr 1
 rw[nr,List.map_flatMap];congr 1
 funext e
 unfold eR;rw[nr];rfl
def zjC m:(sR p g m).length<=g.f_+2*g.es:=by
 unfold sR;rw[bm];have h:(g.H p).length=g.f_:=by unfold Gr.H;simp
 have D:=EP (f:=eR p g) (fun e=>by unfold eR Ed.G;rw[bs,bs];split<;>exact td ..) (g.es.take m);have F:(g.es.take m).length<=g.es:=Rv;omega
def Cx(S:Sy)(w:aa)(e:Ending)(w':aa):Prop:=∃A c,e=.returned (.agg (da S A c))/\Fr w' w w' (fun V=>cS V A S.rows)/\ag w w'
def uW{E}(I:o.guard=none)s x(J:o.op=.call {callee:=.builtin .append,args:=#[s,x],argTypes:=#[55,55]})B h W v u rows r(FT:aY h B v rows)(D:ag h W)(hu:aE W h u r)(ah:rows.length+1<=1073741824)(G:B<=(h:Nat))(U:a.eval s=v)(Y:a.eval x=.slice (bH W) 1 1)(F:∀g ε w',aY w' B (.slice (bH g) (rows.length+1) ε) (rows++[r])->Below B h w'->(W:Nat)<=w'.heap.size->(∀k,k < (W:Nat)->some k≠v.ownBlock->w'.heap[k]?=W.heap[k]?)->(v.ownBlock=some g∨(W:Nat)<=g)->K (a.put o.dst (.slice (bH g) (rows.length+1) ε)) w'):if Region.wanted o (yielded ops a.tmps)=true then Oper.wp prog o a (W.alloc (.cells #[u] 26)) K Q else E:=by
 have⟨ad,hi,Z,ab,ac⟩:=dp kX;obtain⟨us,FT⟩:=FT;have hW:=FT.ext D;have O:=nm hW.η (.cells #[u] 26);have am:=D.size;refine step_append_lies _ I s x 55 J B 26 ad (.slice none 0 0) 1 24 iA hi Z ab ac rfl Qw v _ _ U O ⟨W,0,none⟩ 1 1 [u] Y rfl ?_ ?_ Qw ?_ ?_ ?_ _ rfl ?_
 .exact X9
 .exact Xo
 .unfold maxLen;omega
 .omega
 .simp;omega
 .intro g ε w' T Gx H _;refine Pc fun hg=>?_
  refine F g ε w' ⟨us++[u],?_,?_,?_⟩ (D.x G |>.t ((al _ _).grown hg Qu fun k hk=>(bS hW.η k hk).1)) hg.size (fun k hk F0=>hg.block k hk F0) (H.E id fun e=>by rw[e];simp)
  .simpa using T
  .exact Zt
  .exact ZL
structure CP(B Z:Nat)(V:aa)(f_ gw:Nat)(C:ax)(m c:Nat)(rows:aP):Prop where
 Β:bA V Z (gH f_ gw C m c) 57
 μ:aY V B (.slice C m c) rows
 ι:rows.length=m
 lz:Z<B
 le:B<=(V:Nat)
def CP.ext{F}{f_ G}{C}(h:CP B J V f_ G C m c rows)(D:ag V F):CP B J F f_ G C m c rows:=⟨ai h.Β D,h.μ.ext D,h.ι,h.lz,aZ h.le D.size⟩
def CP.j{I D}{f_ H}{C}{G F}{r}(h:CP B J I f_ H C m c rows)(U:aY D B (.slice (bH G) (m+1) F) (rows++[r]))(O:Below B I D):CP B J (D.setCell ⟨J,2,none⟩ (.slice (bH G) (m+1) F)) f_ H (some ⟨G,0,none⟩) (m+1) F (rows++[r])/\bA D J (gH f_ H C m c) 57:=by have T:=(O.block J h.lz).t h.Β;have y:=bE D J 2 _ _ (.slice (bH G) (m+1) F) T;simp only[zA]at y;exact⟨⟨y,U.setCell (a:=⟨J,2,none⟩) h.lz _,by rw[bm,h.ι];rfl,h.lz,by have:=h.le;have:=O.size;simp;omega⟩,T⟩


def qA A D ε F xs ys w(h:aO w A xs)(h2:aO w D ys)(G:xs.length<=maxLen)(H:ys.length<=maxLen):az 81 (mv A xs ε D ys F) w (dt w (decide (xs=ys))):=by
 unfold maxLen at G H;by_cases hn:xs.length=ys
 .refine N7 fun hb Hn=>?_;clear hn
  go_enter func81,ntmps81
  exact ZZ
 .have hb:((xs:Int)!=(ys:Int))=true:=QW;go_enter func81,ntmps81
  exact WY
def vL A D ε F xs ys w(h:aO w A xs)(h2:aO w D ys)(G:xs.length<=maxLen)(H:ys.length<=maxLen):az 148 (mv A xs ε D ys F) w (dt w (decide (xs=ys))):=by
 unfold maxLen at G H;by_cases hn:xs.length=ys
 .refine N7 fun hb Hn=>?_
  go_enter func148,ntmps148
  exact ZZ
 .have hb:((xs:Int)!=(ys:Int))=true:=QW;go_enter func148,ntmps148
  exact WY
def zfl A I ε a9 xs ys w(ad:bt w A xs)(ah:bt w I ys)(bc:xs.length<=maxLen)(bd:ys.length<=maxLen)(a6:∀r∈xs,r.length<=maxLen)(a7:∀r∈ys,r.length<=maxLen):az 97 (mv A xs ε I ys a9) w (dt w (decide (xs=ys))):=by
 unfold maxLen at bc bd;by_cases hn:xs.length=ys
 .refine N7 fun hb Hn=>?_;clear hn
  go_enter func97,ntmps97
  go_wp2;go_loopw [13] (fun i wr=>∃k:Nat,k<=xs.length/\i=.int .i64 k/\xs.take k=ys.take k/\ag w wr) (fun i _=>xs.length-(intOf i).toNat)
  case atStart=>exact⟨0,aW _,rfl,Qt,al _ _⟩
  case round=>
   obtain⟨k,bg,rfl,am,FW⟩:=hrel;have Gi:=zH am;clear am;by_cases a4:k<xs.length
   .have a5:k<ys.length:=Sh;have⟨x,D⟩:=aq a4;have⟨y,F⟩:=aq a5;obtain⟨b,o,rfl,an⟩:=(ad.ext FW).θ a4;obtain⟨a8,be,rfl,ao⟩:=(ah.ext FW).θ a5;obtain⟨J,ba,ap,a0⟩:=an k x D;obtain⟨O,bb,av,a2⟩:=ao k y F;have c1:∀W:κ wr,af W.W b (o+k) (.slice J x ba):=fun W=>W.cell ap
    have c2:∀W:κ wr,af W.W a8 (be+k) (.slice O y bb):=fun W=>W.cell av
    have a1:∀W:κ wr,aO W.W J x:=fun W=>a0.ext W.ok
    have a3:∀W:κ wr,aO W.W O y:=fun W=>a2.ext W.ok
    have⟨T,U,ab,ac,Y,Z⟩:=ny a1 a3 (a6 x (aU D)) (a7 y (aU F)) D F;clear D F an ao ad ah a6 a7 a0 a2 a1 a3 ap av;by_cases h:x=y
    .have⟨G,H⟩:=bJ (fT h) h;clear h;go_wp2;refine bU QT QT ?_
     repeat (go_big_quiet_step ((go_at_call 81;exact Calls.fh (Calls.bl (qA _ _ _ _ _ _ _ (T.o _) (U.o _) ab ac) G))))
     refine Py fun W=>?_
     go_roundw
     case rel=>exact⟨k+1,Qu,Qx,m_ Gi Y (by rw[H.o];exact Z),aJ FW W.ok⟩
     case measure=>simp[intOf];omega
    .have⟨G,H⟩:=bJ (fR h) h;clear h;go_wp2;refine bU QT QT ?_
     repeat (go_big_quiet_step ((go_at_call 81;exact Calls.fh (Calls.bl (qA _ _ _ _ _ _ _ (T.o _) (U.o _) ab ac) G))))
     refine Py fun W=>?_
     go_ret
     exact⟨aN (fR (ό Y Z H)).q,aJ FW W.ok⟩
   .exact XI
 .have hb:((xs:Int)!=(ys:Int))=true:=QW;go_enter func97,ntmps97
  exact WY
def FI A O ε a5 xs ys w(ah:bt w A xs)(am:bt w O ys)(a6:xs.length<=maxLen)(a7:ys.length<=maxLen)(a3:∀r∈xs,r.length<=maxLen)(a4:∀r∈ys,r.length<=maxLen):az 147 #[.slice A xs ε,.slice O ys a5,.func (.func 148) #[] #[]] w (dt w (decide (xs=ys))):=by
 unfold maxLen at a6 a7;by_cases hn:xs.length=ys
 .refine N7 fun hb Hn=>?_;clear hn
  go_enter func147,ntmps147
  go_wp2;go_loopw [17] (fun i wr=>∃k:Nat,k<=xs.length/\i=.int .i64 k/\xs.take k=ys.take k/\ag w wr) (fun i _=>xs.length-(intOf i).toNat)
  case atStart=>exact⟨0,aW _,rfl,Qt,al _ _⟩
  case round=>
   obtain⟨k,bh,rfl,an,FW⟩:=hrel;have Gi:=zH an;clear an;by_cases a1:k<xs.length
   .have a2:k<ys.length:=Sh;have⟨x,F⟩:=aq a1;have⟨y,G⟩:=aq a2;obtain⟨b,o,rfl,ao⟩:=(ah.ext FW).θ a1;obtain⟨bb,bi,rfl,ap⟩:=(am.ext FW).θ a2;obtain⟨a9,bc,be,av⟩:=ao k x F;obtain⟨ba,bd,bg,a0⟩:=ap k y G;have⟨U,Y,ac,ad,Z,ab,T⟩:=ß av a0 (a3 x (aU F)) (a4 y (aU G)) F G FW;clear F G ao ap ah am a3 a4 av a0 FW;by_cases h:x=y
    .have⟨H,J⟩:=bJ (fT h) h;clear h;go_wp2_with (go_at_call 148;refine(Calls.bl (vL _ _ _ _ x y _ U Y ac ad) H).x ?_;rintro e a8 ⟨rfl,D⟩;have I:=zH (aJ T.o D);clear D)
     go_roundw
     case rel=>exact⟨k+1,Qu,Qx,m_ Gi Z (by rw[J.o];exact ab),I⟩
     case measure=>simp[intOf];omega
    .have⟨H,J⟩:=bJ (fR h) h;clear h;go_wp2_with (go_at_call 148;refine(Calls.bl (vL _ _ _ _ x y _ U Y ac ad) H).x ?_;rintro e a8 ⟨rfl,D⟩;have I:=zH (aJ T.o D);clear D)
     go_ret
     exact⟨aN (fR (ό Z ab J.o)).q,I⟩
   .exact XI
 .have hb:((xs:Int)!=(ys:Int))=true:=QW;go_enter func147,ntmps147
  exact WY
def zbP A h ε G xs ys w(H:bt w A xs)(I:bt w h ys)(J:xs.length<=maxLen)(O:ys.length<=maxLen)(T:∀r∈xs,r.length<=maxLen)(U:∀r∈ys,r.length<=maxLen):az 102 (mv A xs ε h ys G) w (dt w (decide (xs=ys))):=by
 go_enter func102,ntmps102
 go_wp2_with (go_at_call 147;refine(FI _ _ _ _ xs ys _ H I J O T U).x ?_;rintro e Y ⟨rfl,D⟩;have F:=zH D;clear D)
 go_ret
 exact⟨rfl,F⟩
def qI(a b:Sy):Bool:=decide (a.v=b.v)&&(decide (a.h=b.h)&&decide (a.rows=b.rows))
def BG a b A D ε G w(J:bt w A a.rows)(O:bt w D b.rows)(ab:a.rows.length<=maxLen)(ac:b.rows.length<=maxLen)(U:∀r∈a.rows,r.length<=maxLen)(Y:∀r∈b.rows,r.length<=maxLen):az 69 (iV (da a A ε) (da b D G)) w (dt w (qI a b)):=by
 have F:=((al w w).alloc Qt (.cells (da a A ε) 57)).alloc Qt (.cells (da b D G) 57);have⟨HB,I⟩:=bJ F (zbP A D ε G a.rows b.rows _ (J.ext F) (O.ext F) ab ac U Y);clear F J O U Y;by_cases hv:a.v=b.v
 .have ad:(a.v==b.v)=true:=QK;have HV:=zH (fT hv);clear hv;by_cases h:a.h=b.h
  .have Z:(a.h==b.h)=true:=by simp[h]
   have HH:=zH (fT h);clear h;have⟨q,H⟩:=aR (decide (a.rows=b.rows));rw[<-H]at I;have HQ:=zH H;clear H;go_enter func69,ntmps69
   go_wp2_with (go_at_call 102;refine I.x ?_;rintro e ah ⟨rfl,T⟩;have FV:=zH (aJ HB T);clear T)
   exact WK
  .have Z:(a.h==b.h)=false:=by simp[h]
   have HH:=zH (fR h);clear h;go_enter func69,ntmps69
   exact WG
 .have ad:(a.v==b.v)=false:=QK;have HV:=zH (fR hv);clear hv;go_enter func69,ntmps69
  exact Wv
def zfm a b A D ε G w(J:bt w A a.rows)(O:bt w D b.rows)(ab:a.rows.length<=maxLen)(ac:b.rows.length<=maxLen)(U:∀r∈a.rows,r.length<=maxLen)(Y:∀r∈b.rows,r.length<=maxLen):az 61 (iV (da a A ε) (da b D G)) w (dt w (qI a b)):=by
 have F:=((al w w).alloc Qt (.cells (da a A ε) 57)).alloc Qt (.cells (da b D G) 57);have⟨HB,I⟩:=bJ F (zfl A D ε G a.rows b.rows _ (J.ext F) (O.ext F) ab ac U Y);clear F J O U Y;by_cases hv:a.v=b.v
 .have ad:(a.v==b.v)=true:=QK;have HV:=zH (fT hv);clear hv;by_cases h:a.h=b.h
  .have Z:(a.h==b.h)=true:=by simp[h]
   have HH:=zH (fT h);clear h;have⟨q,H⟩:=aR (decide (a.rows=b.rows));rw[<-H]at I;have HQ:=zH H;clear H;go_enter func61,ntmps61
   go_wp2_with (go_at_call 97;refine I.x ?_;rintro e ah ⟨rfl,T⟩;have FV:=zH (aJ HB T);clear T)
   exact WK
  .have Z:(a.h==b.h)=false:=by simp[h]
   have HH:=zH (fR h);clear h;go_enter func61,ntmps61
   exact WG
 .have ad:(a.v==b.v)=false:=QK;have HV:=zH (fR hv);clear hv;go_enter func61,ntmps61
  exact Wv
def Ó(p:Int)(a:Sy)(xs:List j8)(b:Sy):Bool:=decide (eL p a xs=xs.length)&&qI (iU p a xs xs) b
def Ń p(a:Sy)A ε xs O a5 b A2 cap2 w(ad:dZ w)(ah:bt w A a.rows)(an:iS w O xs)(am:bt w A2 b.rows)(I:a.Ok p)(bh:xs.length<=3000)(a2:∀x∈xs,x.row.length<=1048576)(a0:b.rows.length<=1048576)(a1:∀r∈b.rows,r.length<=1048576):az 39 #[p,.agg (da a A ε),.slice O xs a5,.agg (da b A2 cap2)] w (dt w (Ó p a xs b)):=by
 refine Om fun hB HB Kb=>?_
 have⟨a9,Z,bb,a7,a8,OZ⟩:=ny Kb (zkL p a A ε xs _ O a5 (ad.ext hB) (ah.ext hB) (an.ext hB) I bh a2) am a0 a1 (fun h=>(vP (xs:=xs) I (i:=xs.length) h).β);have av:=pk p xs a;by_cases T:eL p a xs<xs.length
 .obtain⟨G,HL⟩:=bJ (show ∀W e w',Ĵ p a xs W e w'->e=.returned (.tuple (jy bx (eL p a xs:Nat)))/\ag W w' from fun W e w' h=>⟨h.1 T,h.2.2⟩) (by unfold Ó;rw[fR Qu];rfl:Ó p a xs b=false);obtain⟨f,ap⟩:∃f:Nat,f=eL p a xs:=⟨_,rfl⟩;rw[<-ap]at G;go_enter func39,ntmps39
  go_wp2_with (go_at_call 68;refine Z.x ?_;rintro e J hr;obtain⟨rfl,D⟩:=G.o _ _ _ hr;have F:=zH (aJ HB D))
  go_ret
  exact⟨aN HL.q,F.alloc F.size _⟩
 .have⟨t,ht⟩:=aR (iU p a xs xs);have G:=zH (show ∀W e w',Ĵ p a xs W e w'->∃(A2:ax) (c:Nat),e=.returned (.tuple (jy (da t A2 c) (-1)))/\aY w' W.heap.size (.slice A2 t.rows c) t.rows/\ag W w' from fun W e w' h=>by obtain⟨A2,c2,be,bg⟩:=h.2.1 Qu;rw[ht];exact⟨_,_,be,bg,h.2.2⟩)
  refine Nq fun OX HL H5 Jd=>?_
  clear ht;go_enter func39,ntmps39
  go_upto_region 2 with(go_at_call 68;refine Z.x ?_;rintro e J hr;obtain⟨U,ac,rfl,a4,D⟩:=G.o _ _ _ hr;have F:=zH (aJ HB D);have ba:=zH (ai a9 D);have bc:=zH (CG a4))
  have⟨ab,OY⟩:=aR (J.alloc (.cells (da t U ac) 57));rw[<-OY];have H:ag J ab:=UH;have a3:bA ab J (da t U ac) 57:=by rw[OY];exact aH _ _ rfl
  have⟨d0,d1,d2⟩:=aD a3;have⟨bi,bn,bo⟩:=aD (ai ba H);have⟨Y,bd⟩:=bJ (aJ F H) (bc.ext H);clear H OY;go_wp2_with (go_at_call 69;refine(BG t b _ _ _ _ _ bd (bb.ext Y) H5 (oe a7) Jd (fun r hr=>oe (a8 r hr))).x ?_;rintro e bp ⟨rfl,ao⟩;have a6:=zH (aJ Y ao))
  go_ret
  exact⟨aN HL.q,a6⟩
def zO p(a:Sy)A ε xs Y a7 b A2 cap2 w(am:bt w A a.rows)(ao:iS w Y xs)(an:bt w A2 b.rows)(J:a.Ok p)(b2:xs.length<=3000)(a4:∀x∈xs,x.row.length<=1048576)(a2:b.rows.length<=1048576)(a3:∀r∈b.rows,r.length<=1048576):az 36 #[p,.agg (da a A ε),.slice Y xs a7,.agg (da b A2 cap2)] w (dt w (Ó p a xs b)):=by
 refine Om fun hB HB Kb=>?_
 have⟨bd,ah,be,bb,bc,OZ⟩:=ny Kb (zhH p a A ε xs _ Y a7 (am.ext hB) (ao.ext hB) J b2 a4) an a2 a3 (fun F=>(vP (xs:=xs) J (i:=xs.length) F).β);have a0:=pk p xs a;by_cases a1:eL p a xs<xs.length
 .obtain⟨m,G⟩:∃m:Nat,m=eL p a xs+1:=⟨_,rfl⟩;have T:=zH (show ∀W e w',ĕ p a xs W e w'->∃(A2:ax) (c:Nat),e=.returned (.slice A2 m c)/\ag W w' from fun W e w' F=>by obtain⟨g,c,I,_,ab⟩:=F;exact⟨_,_,by rw[G];exact I,ab⟩)
  have HL:=zH (by unfold Ó;rw[fR Qu];rfl:Ó p a xs b=false);have b1:decide (xs.length<m)=false:=fR Qu;clear G OZ;go_enter func36,ntmps36
  go_wp2_with (go_at_call 60;refine ah.x ?_;rintro e h hr;obtain⟨ad,bq,rfl,D⟩:=T.o _ _ _ hr;have H:=zH (aJ HB D))
  refine bU QT QT ?_
  repeat (go_big_quiet_step (fail))
  refine Py fun W=>?_
  go_ret
  exact⟨aN HL.q,aJ H W.ok⟩
 .have av:eL p a xs=xs.length:=Qu;have⟨t,ht⟩:=aR (iU p a xs xs);obtain⟨m,G⟩:∃m:Nat,m=xs.length+1:=⟨_,rfl⟩;have T:=zH (show ∀W e w',ĕ p a xs W e w'->∃(g c:Nat) (A2:ax) (c2:Nat),e=.returned (.slice (bH g) m c)/\(af w' g (xs.length*3) (zI t.v)/\af w' g (xs.length*3+1) (zI t.h)/\af w' g (xs.length*3+2) (.slice A2 t.rows c2))/\aY w' W.heap.size (.slice A2 t.rows c2) t.rows/\ag W w' from fun W e w' F=>by
   obtain⟨g,c,I,⟨us,Z⟩,ab⟩:=F;rw[av]at I Z;have a6:(yr p a xs (xs.length+1))[xs.length]?=some t:=by rw[ht];exact ŷ _ _ _ _ _ Qu
   obtain⟨u,O,a5⟩:=Z.F a6;obtain⟨A2,c2,rfl,_⟩:=a5.p;have ap:=Z.η;rw[EC]at ap;have ac:∀j,j<3->w'.cell? ⟨g,xs.length*3+j,none⟩=(kx t (.slice A2 t.rows c2))[j]?:=fun j b0=>by rw[ap.C _ Qu,BL b0 a6 O]
   exact⟨g,c,A2,c2,by rw[G];exact I,⟨ac 0 Qw,ac 1 Qw,ac 2 Qw⟩,a5,ab⟩)
  refine Nq fun OX HL H5 Jd=>?_
  have b1:decide (xs.length<m)=true:=fT Qu;have b3:xs.length<m:=Qu;clear ht OZ G;go_enter func36,ntmps36
  go_wp2_with (go_at_call 60;refine ah.x ?_;rintro e h hr;obtain⟨g,bq,ad,br,rfl,⟨a8,a9,ba⟩,O,D⟩:=T.o _ _ _ hr;have H:=zH (aJ HB D);have U:=zH (ai bd D);have bi:=zH (CG O);have bn:=zH a8;have bo:=zH a9;have bp:=zH ba)
  have bu:∀W:κ h,af W.W g (xs.length*3) (zI t.v):=fun W=>W.cell bn
  have bv:∀W:κ h,af W.W g (xs.length*3+1) (zI t.h):=fun W=>W.cell bo
  have bz:∀W:κ h,af W.W g (xs.length*3+2) (.slice ad t.rows br):=fun W=>W.cell bp
  have f0:∀W:κ h,af W.W ((w:Nat)+1) 0 (zI b.v):=fun W=>W.cell (aD U).1
  have f1:∀W:κ h,af W.W ((w:Nat)+1) 1 (zI b.h):=fun W=>W.cell (aD U).2.1
  have f2:∀W:κ h,af W.W ((w:Nat)+1) 2 (.slice A2 b.rows cap2):=fun W=>W.cell (aD U).2.2
  have⟨bg,bh⟩:=bJ (fun W:κ h=>bi.ext W.ok) (fun W:κ h=>be.ext (aJ H W.ok));refine bU QT QT ?_
  repeat (go_big_quiet_step ((go_at_call 61;exact Calls.fh (zfm t b _ _ _ _ _ (bg.o _) (bh.o _) H5 (oe bb) Jd (fun r hr=>oe (bc r hr))))))
  refine dJ ?_;rintro _ ⟨W,rfl⟩;go_wp2;go_ret
  exact⟨aN HL.q,aJ H W.ok⟩
def Û(G:Int)(h D F:Nat):Bool:=decide (G=0)&&(decide (h=0)&&(decide (D=0)&&decide (F=0)))
def É(h:¬n=0):((n:Int)==0)=false:=QW
def xF b(sd:Int)J n3 n4 n5 c1 G H I A1 h D F w:az 38 #[.agg #[.bool b,.slice A1 J c1,sd,.slice h n3 G,.slice D n4 H,.slice F n5 I]] w (dt w (Û sd n3 n4 n5)):=by
 have⟨hB,hq⟩:=bM w (.cells #[.bool b,.slice A1 J c1,sd,.slice h n3 G,.slice D n4 H,.slice F n5 I] 39);unfold Û;go_enter func38,ntmps38
 exact ZK
def BS b(sd:Int)J n3 n4 n5 c1 G H I A1 h D F w:az 35 #[.agg #[.bool b,.slice A1 J c1,sd,.slice h n3 G,.slice D n4 H,.slice F n5 I]] w (dt w (Û sd n3 n4 n5)):=by
 have⟨hB,hq⟩:=bM w (.cells #[.bool b,.slice A1 J c1,sd,.slice h n3 G,.slice D n4 H,.slice F n5 I] 39);unfold Û;go_enter func35,ntmps35
 exact ZK
def rgB(p:Int)(a b:Sy)(xs:List j8)(G:Int)(h D F:Nat):Bool:=Û G h D F&&(decide (xs.length<=3000)&&Ó p a xs b)
def zc5 p a b xs J a6 ba bi bn bo d1 d2 d3 bb bc bd f1 f2 f3 be bg bp bq bh br a4 a5 ah am G H I T ab ac ad G1 an ao ap av a0 a2 a3 A B F U Y Z w(b0:dZ w)(b1:bt w A a.rows)(b3:iS w F xs)(b2:bt w B b.rows)(b8:a.Ok p)(b6:∀x∈xs,x.row.length<=1048576)(b4:b.rows.length<=1048576)(b5:∀r∈b.rows,r.length<=1048576):az 30 (iV (lR p a6 G1 bi d1 an bn d2 ao bo d3 a.v a.h A a.rows ah be bp a2 bh a4 ba ap bb f1 av bc f2 a0 bd f3 b.v b.h B b.rows am bg bq a3 br a5) (rH F xs T J U G ab Y H ac Z I ad)) w (dt w (rgB p a b xs J G H I)):=by
 unfold rgB;have bz:=zH (fun(cc:xs.length<=3000) V (a8:ag w V)=>Ń p a A ah xs F T b B am V (b0.ext a8) (b1.ext a8) (b3.ext a8) (b2.ext a8) b8 cc b6 b4 b5);have a7:=((al w w).alloc (ae _) (.cells (lR p a6 G1 bi d1 an bn d2 ao bo d3 a.v a.h A a.rows ah be bp a2 bh a4 ba ap bb f1 av bc f2 a0 bd f3 b.v b.h B b.rows am bg bq a3 br a5) 71)).alloc Qt (.cells (rH F xs T J U G ab Y H ac Z I ad) 39);have a9:=(bO (w.alloc (.cells (lR p a6 G1 bi d1 an bn d2 ao bo d3 a.v a.h A a.rows ah be bp a2 bh a4 ba ap bb f1 av bc f2 a0 bd f3 b.v b.h B b.rows am bg bq a3 br a5) 71)) (.cells (rH F xs T J U G ab Y H ac Z I ad) 39) (k:=w.heap.size) Qt).t (aH w _ rfl);have hr:=aH (w.alloc (.cells (lR p a6 G1 bi d1 an bn d2 ao bo d3 a.v a.h A a.rows ah be bp a2 bh a4 ba ap bb f1 av bc f2 a0 bd f3 b.v b.h B b.rows am bg bq a3 br a5) 71)) (.cells (rH F xs T J U G ab Y H ac Z I ad) 39) (n:=(w:Nat)+1) Qt;have bv:=zH (fun V=>xF true J xs G H I T ab ac ad F U Y Z V);clear b0 b1 b3 b2 b8 b6 b4 b5;have⟨ce,b7⟩:=aR xs.length;rw[<-b7]at bv bz a7 a9 hr ⊢;clear b7;go_enter func30,ntmps30
 go_upto_region 1 with(fail)
 generalize (w.alloc _).alloc _=W at a7 a9 hr ⊢;refine Oa fun x0 x1 x2 x3 x4 x5=>?_
 have⟨bu,cb⟩:=bJ a7 a9;clear a7 a9 hr;cases P5:Û J G H I
 .have a1:=zH (fun V=>Calls.bl (bv V) P5);go_wp2_with (go_at_call 38;(with_reducible refine(a1.o _).x ?_);rintro e b9 ⟨rfl,h⟩;have O:=zH (aT bu h);clear h)
  go_ret
  exact⟨aN (by simp[P5]),O⟩
 have a1:=zH (fun V=>Calls.bl (bv V) P5);by_cases PZ:ce<=3000
 rotate_left
 .go_wp2_with (go_at_call 38;(with_reducible refine(a1.o _).x ?_);rintro e b9 ⟨rfl,h⟩;have ch:=ar h x1;have O:=zH (aT bu h);clear h)
  go_ret
  exact⟨aN Rz,O⟩
 go_wp2_with (first|(go_at_call 38;(with_reducible refine(a1.o _).x ?_);rintro e b9 ⟨rfl,h⟩;have ch:=ar h x1;have D:=ai cb h;have cj:=aF D 0 rfl;have ck:=aF D 5 rfl;have cn:=aF D 6 rfl;have co:=aF D 7 rfl;have cp:=aF D 15 rfl;have cq:=aF D 16 rfl;have cr:=aF D 17 rfl;have O:=zH (aT bu h);clear h D)|(go_at_call 39;(with_reducible refine(bz.o PZ _ O.o).x ?_);rintro e ci ⟨rfl,h⟩;have ca:=zH (aT O h);clear h))
 go_ret
 exact⟨aN Rz,ca⟩
def zc6 p a b xs J a2 a5 a9 ba bb d1 d2 d3 a6 a7 a8 f1 f2 f3 ah am G H I T ab ac ad G1 an ao ap av a0 A B D U Y Z w(bh:bt w A a.rows)(bn:iS w D xs)(bi:bt w B b.rows)(bu:a.Ok p)(bq:∀x∈xs,x.row.length<=1048576)(bo:b.rows.length<=1048576)(bp:∀r∈b.rows,r.length<=1048576):az 25 (j9 p (lS a2 G1 a9 d1 an ba d2 ao bb d3 a5 ap a6 f1 av a7 f2 a0 a8 f3 a.v a.h A a.rows ah b.v b.h B b.rows am) (rH D xs T J U G ab Y H ac Z I ad)) w (dt w (rgB p a b xs J G H I)):=by
 unfold rgB;have bg:=zH (fun(b1:xs.length<=3000) V (be:ag w V)=>zO p a A ah xs D T b B am V (bh.ext be) (bn.ext be) (bi.ext be) bu b1 bq bo bp);have a3:=((al w w).alloc (ae _) (.cells (lS a2 G1 a9 d1 an ba d2 ao bb d3 a5 ap a6 f1 av a7 f2 a0 a8 f3 a.v a.h A a.rows ah b.v b.h B b.rows am) 59)).alloc Qt (.cells (rH D xs T J U G ab Y H ac Z I ad) 39);have a4:=(bO (w.alloc (.cells (lS a2 G1 a9 d1 an ba d2 ao bb d3 a5 ap a6 f1 av a7 f2 a0 a8 f3 a.v a.h A a.rows ah b.v b.h B b.rows am) 59)) (.cells (rH D xs T J U G ab Y H ac Z I ad) 39) (k:=w.heap.size) Qt).t (aH w _ rfl);have hr:=aH (w.alloc (.cells (lS a2 G1 a9 d1 an ba d2 ao bb d3 a5 ap a6 f1 av a7 f2 a0 a8 f3 a.v a.h A a.rows ah b.v b.h B b.rows am) 59)) (.cells (rH D xs T J U G ab Y H ac Z I ad) 39) (n:=(w:Nat)+1) Qt;have bd:=zH (fun V=>BS true J xs G H I T ab ac ad D U Y Z V);clear bh bn bi bu bq bo bp;have⟨b2,br⟩:=aR xs.length;rw[<-br]at bd bg a3 a4 hr ⊢;clear br;go_enter func25,ntmps25
 go_upto_region 1 with(fail)
 generalize (w.alloc _).alloc _=W at a3 a4 hr ⊢;refine Oa fun x0 x1 x2 x3 x4 x5=>?_
 have⟨bc,b0⟩:=bJ a3 a4;clear a3 a4 hr;cases P5:Û J G H I
 .have a1:=zH (fun V=>Calls.bl (bd V) P5);go_wp2_with (go_at_call 35;(with_reducible refine(a1.o _).x ?_);rintro e bv ⟨rfl,h⟩;have O:=zH (aT bc h);clear h)
  go_ret
  exact⟨aN (by simp[P5]),O⟩
 have a1:=zH (fun V=>Calls.bl (bd V) P5);by_cases PZ:b2<=3000
 rotate_left
 .go_wp2_with (go_at_call 35;(with_reducible refine(a1.o _).x ?_);rintro e bv ⟨rfl,h⟩;have b3:=ar h x1;have O:=zH (aT bc h);clear h)
  go_ret
  exact⟨aN Rz,O⟩
 go_wp2_with (first|(go_at_call 35;(with_reducible refine(a1.o _).x ?_);rintro e bv ⟨rfl,h⟩;have b3:=ar h x1;have F:=ai b0 h;have b5:=aF F 8 rfl;have b6:=aF F 9 rfl;have b7:=aF F 10 rfl;have b8:=aF F 11 rfl;have b9:=aF F 12 rfl;have ca:=aF F 13 rfl;have O:=zH (aT bc h);clear h F)|(go_at_call 36;(with_reducible refine(bg.o PZ _ O.o).x ?_);rintro e b4 ⟨rfl,h⟩;have bz:=zH (aT O h);clear h))
 go_ret
 exact⟨aN Rz,bz⟩
def zho p n M c ao A b5 ε w(b8:2<=p)(cr:p<=97)(a1:bt w ao M)(a0:aO w A c)(cj:M.length<=1048576)(cq:n<=1048576)(a2:c.length=M)(OT:∀r∈M,r.length=n/\∀x∈r,0<=x/\x<p)(a5:∀x∈c,0<=x/\x<p):az 159 #[p,(n:Nat),.slice ao M b5,.slice A c ε] w fun e w'=>∃g,e=.returned (.slice (bH g) n n)/\aE w' w (.slice (bH g) n n) (fY p c M n M)/\ag w w':=by
 have⟨ca,hi,bg,bh,FU⟩:=dp gD;have am:∀i,i<M.length->(M.getD i []).length=n:=fun i hi=>WW
 have ac:=zH (kN (p:=p) (c:=c) am);have br:=zH (show ∀k,k<=M.length->∀x∈fY p c M n k,0<=x/\x<p from fun k T x I=>by obtain⟨d,a9⟩:=eH.1 I;have ba:=(bG.1 a9).1;rw[ac.o k T]at ba;have:=(qU (c:=c) b8 am ba k T).2;rw[getD_some a9]at this;exact this)
 have⟨bz,bq,b1,bp,ad⟩:=pD a1 a0 OT a5 a2;go_enter func159,ntmps159
 go_upto_region 2 with((at_make;refine jg _ rfl _ _ 26 rfl w.heap.size 3 ca (zI 0) 1 dR hi bg bh .i64 .i64 n n n rfl rfl rfl rfl RF SL (ae _) ?_;intro bi D bb;rw[jn]at D;have H:=zH D;have F:=zH (cy bb)))
 have⟨av,ap⟩:=bJ (show bi.ownsRow w 3 1 (.slice (bH w) n n) n ((fY p c M n 0).map (Value.int .i64)) from H.o) (show ag w bi from F.o);go_wp2;go_loopw [18] (fun i wr=>∃k:Nat,k<=M.length/\i=.int .i64 k/\wr.ownsRow w 3 1 (.slice (bH w) n n) n ((fY p c M n k).map (Value.int .i64))/\ag w wr) (fun i _=>M.length-(intOf i).toNat)
 case atStart=>exact⟨0,aW _,rfl,av,ap⟩
 case round=>
  obtain⟨k,T,rfl,D,G⟩:=hrel;by_cases U:k<M.length
  .have⟨r,hr⟩:=aq U;obtain⟨ch,o,rfl,a6⟩:=bz.θ U;obtain⟨cc,ci,a8,bc⟩:=a6 k r hr;have a7:=ar G a8;obtain⟨ah,bd⟩:=b1 r (aU hr);rw[ah]at a7;have⟨x,I⟩:=aq (by rw[ad.o];exact U:k<c.length);obtain⟨b4,cb,rfl,a3⟩:=bq.θ (by rw[ad.o];exact U:k<c.length);obtain⟨b9,ct⟩:=bp x (aU I);have⟨J,O⟩:=aR (fY p c M n k);have⟨b3,ab,bo⟩:=er (show fY p c M n (k+1)=dw p x J r by rw[O];show dw p (c.getD k 0) _ (M.getD k [])=_;rw[getD_some I,getD_some hr]) (by rw[O];exact ac k T:J.length=n) (show ∀y∈J,0<=y/\y<p by rw[O];exact br k T);rw[<-O]at D;have⟨H,F,bv,b0,Im,bu⟩:=ny D G bc bd ah (a3 k x I);have⟨cF,be⟩:=aR wr;rw[<-be]at H F a7 ⊢;clear a3 I hr bd ah O be;go_wp2;go_loopw [25] (fun i wr=>∃j:Nat,j<=n/\i=.int .i64 j/\wr.ownsRow w 3 1 (.slice (bH w) n n) n ((l_ p x J r j).map (Value.int .i64))/\ag w wr) (fun i _=>n-(intOf i).toNat)
   case atStart=>exact⟨0,aW _,rfl,by rw[tG];exact H,F⟩
   case round=>
    obtain⟨j,co,rfl,D,G⟩:=hrel;clear H F;by_cases JT:j<n
    .have⟨y,Y⟩:=aq (by rw[ab.o];exact JT:j<J.length);have⟨z,Z⟩:=aq (SR:j<r.length);obtain⟨ce,cA,rfl,a4⟩:=(bv.ext G).θ (SR:j<r.length);have ck:=a4 j z Z;have b6:=ar G bu;have b7:af wr w j (zI y):=by rw[D.C j Qu,bI,wC _ _ _ _ _ SR (by rw[ab.o,Im.o]),Y];rfl
     have cn:=D.g j;obtain⟨cI,cK⟩:=bo y (aU Y);obtain⟨bn,z2⟩:=b0 z (aU Z);have cu:0<=x*z:=rS b9 bn;have cz:x*z<=97*97:=uB Qu Qu bn Qu;have cB:¬p=0:=Qu;have cp:k<c.length:=by have:=ad.o;omega
     have an:=(D.j j (zI ((y+x*z)%p))).1;rw[<-eW,wD _ _ _ _ _ _ _ Y Z]at an;have⟨b2,F⟩:=bJ an ((G.setCell (p:=⟨w,j,none⟩) (ae _) (zI ((y+x*z)%p))));clear an;go_wp2;refine cU (S:=fun V=>af V w j (zI y)/\af V b4 (cb+k) (zI x)) 16 QT ⟨b7,b6⟩ (fun hHeld=>?_);refine Qj ?_;refine OU ?_;refine aM 14 ?_;refine aM 15 ?_;refine cm 16 fun K hK=>?_
     go_simp;refine Qn ?_;refine gM QT ?_ _;go_wp2;go_roundw
     case rel=>exact⟨j+1,Qu,Qx,b2,F.drew⟩
     case measure=>simp[intOf];omega
    .obtain rfl:j=n:=Qu;rw[wB _ _ _ _ (by rw[ab.o,Im.o]) _ (by rw[Im.o];exact ae _),<-b3.o]at D;have⟨H,F⟩:=bJ D G;go_wp2;go_roundw
     case rel=>exact⟨k+1,Qu,Qx,H,F⟩
     case measure=>simp[intOf];omega
  .obtain rfl:k=M.length:=Qu;have⟨H,F⟩:=bJ D G;go_wp2;go_ret
   exact⟨w,rfl,by unfold aE;rw[ac.o _ (ae _)];exact H,F⟩
def zgH p M v F A I ε w(ba:2<=p)(bb:p<=97)(T:bt w F M)(U:aO w A v)(am:M.length<=1048576)(Z:v.length<=1048576)(OT:∀r∈M,r.length=v.length/\(∀x∈r,0<=x/\x<p)/\ew r<v.length)(a1:∀x∈v,0<=x/\x<p):az 118 (wY p F M I A v ε) w (dt w (à p M v)):=by
 have J:(Ψ M v).length=M:=by simp[Ψ]
 have av:∀x∈Ψ M v,0<=x/\x<p:=fun x bc=>by obtain⟨r,hr,rfl⟩:=cH.1 bc;have⟨y,a2⟩:=aq (OT r hr).2.2;rw[bf,a2];exact a1 y (aU a2)
 have a0:∀i,i<M.length->(M.getD i []).length=v:=fun i hi=>WW
 have⟨O,a7⟩:=bJ (kN (p:=p) (c:=Ψ M v) a0 M (ae _)) (zbV M F I v A ε w T U am Z fun r hr=>⟨by rw[(OT r hr).1];exact Z,(OT r hr).2.2⟩);have a9:=zH (fun V (Y:ag w V) h G (D:aO V h (Ψ M v))=>(by
  have:=zho p v M (Ψ M v) F h I G V ba bb (T.ext Y) D am Z J (fun r hr=>⟨(OT r hr).1,(OT r hr).2.1⟩) av;rw[J]at this;exact this:az 159 #[p,(v:Nat),.slice F M I,.slice h M G] V fun e w'=>∃g,e=.returned (.slice (bH g) v v)/\aE w' V (.slice (bH g) v v) (fY p (Ψ M v) M v M)/\ag V w'))
 have a8:=zH (fun V (Y:ag w V) h G (D:aO V h (fY p (Ψ M v) M v M))=>(by
  have:=qA h A G ε (fY p (Ψ M v) M v M) v V D (U.ext Y) (by rw[O.o];unfold maxLen;omega) SL;rw[O.o]at this;exact this:az 81 (mv h v G A v ε) V fun e w'=>e=.returned (.bool (decide (fY p (Ψ M v) M v M=v)))/\ag V w'))
 have a6:=zH J;clear T U OT a1 J av a0;go_enter func118,ntmps118
 go_wp2_with (first|(go_at_call 160;refine a7.x ?_;rintro e bg ⟨u,rfl,H,an⟩;obtain⟨h,c2,rfl,D,-⟩:=H.p;rw[a6.o];have a3:=zH D;have ab:=zH an;clear H D an)|(go_at_call 159;refine(a9.o _ ab.o _ _ a3.o).x ?_;rintro e bh ⟨g,rfl,H,ao⟩;obtain⟨bd,be,ad,ah,-⟩:=H.p;rw[O.o]at ad;cases ad;have a4:=zH ah;have ac:=zH (aT ab ao);clear H ah ao)|(go_at_call 81;refine(a8.o _ ac.o _ _ a4.o).x ?_;rintro e bi ⟨rfl,ap⟩;have a5:=zH (aT ac ap);clear ap))
 go_ret
 exact⟨rfl,a5⟩
def BZ p l r n M v h A D ε w(ah:2<=p)(am:p<=97)(I:bt w h M)(J:aO w A v)(ac:M.length<=1048576)(ad:n<=1048576)(an:v.length=n)(U:∀r∈M,r.length=n/\(∀x∈r,0<=x/\x<p)/\ew r<n)(Y:∀k,k<=M.length->(xC p M v k).length=n/\∀x∈xC p M v k,0<=x/\x<p):az 89 #[p,.agg (aA l r h M D),.slice A n ε] w (dt w (BN p M v)):=by
 have G:=aH w (.cells (aA l r h M D) 67) rfl;have F:=aw w (.cells (aA l r h M D) 67);have ab:=zH (fun V (O:ag w V)=>zfk p n M v h A D ε V ah am (I.ext O) (J.ext O) ac ad an U Y);go_enter func89,ntmps89
 go_upto_region 1 with(fail)
 generalize w.alloc _=W at G F ⊢;have⟨ap,av,a0⟩:=aD G;have H:=zH F;go_wp2_with (go_at_call 132;refine(ab.o _ H.o).x ?_;rintro e ao ⟨u,rfl,T⟩;have Z:=zH (aT H T))
 go_ret
 exact⟨rfl,Z⟩
def zhm p l r M X D F A1 T G c1 c2 w(bh:2<=p)(bi:p<=97)(an:bt w F M)(ao:aO w A1 X)(ap:aO w T D)(bg:M.length<=1048576)(b1:X.length+D<=1048576)(a0:∀r∈M,r.length=X.length+D/\(∀x∈r,0<=x/\x<p)/\ew r<X.length+D)(a2:∀x∈X,0<=x/\x<p)(a3:∀x∈D,0<=x/\x<p):az 83 #[p,.agg (aA l r F M G),.slice A1 X c1,.slice T D c2] w (dt w (à p M (X++D))):=by
 have O:=aH w (.cells (aA l r F M G) 67) rfl;have U:=aw w (.cells (aA l r F M G) 67);have am:(X++D).length=X+D:=bm;have⟨a9,bd⟩:=bJ (fun V (I:ag w V)=>iR A1 c1 X V (ao.ext I) Qu) (fun V (I:ag w V)=>ap.ext I);have bb:=zH (fun V (I:ag w V) A ε (h:aO V A (X++D))=>(by
  have:=zgH p M (X++D) F A G ε V bh bi (an.ext I) h bg Qu (fun r bn=>by rw[am];exact a0 r bn) (fun x bo=>by
   rcases dP.1 bo with h|h
   .exact a2 x h
   .exact a3 x h)
  rw[am]at this;exact this:az 118 (wY p F M G A (X.length+D) ε) V (dt V (à p M (X++D)))))
 go_enter func83,ntmps83
 go_upto_region 1 with(fail)
 generalize w.alloc _=W at O U ⊢;have⟨b4,b5,a4⟩:=aD O;have bc:=zH (bk.1 O).1;have H:=zH U;refine cU (S:=fun V=>af V w 2 (.slice F M G)) 8 QT a4 (fun hHeld=>?_);refine P8 ?_;refine aM 5 ?_;refine cm 4 fun K hK=>?_
 go_simp;refine(a9.o _ (H.t (aC W |>.x H.size))).x ?_;rintro e bp ⟨u,rfl,a1,J⟩;have⟨ad,ab,ba⟩:=er a1 (H.t (((aC W).t (J.x (aC W).size)).x H.size)) (((aC W).t (J.x (aC W).size)).size);have a5:=ar ((aC W).t (J.x (aC W).size)) a4;go_simp;refine hK.out _ _ (fun _=>a5) (fun hHeld=>?_);refine P9 ?_;obtain⟨bu,bz,rfl,-⟩:=ad.p;refine cm 6 fun K hK=>?_
 refine df rfl (.tmp 13) (.tmp 14) rfl W bp _ X D T D c2 rfl rfl rfl (ad.x Qt) (bd.o _ ab.o) Qu ba.o ?_;intro b2 bq av Z;have⟨a8,ac⟩:=bJ av (ab.t (Z.x H.size));have a6:af bq w 2 (.slice F M G):=(l6 (Z.block _ bc.o)).t a5;go_simp;refine hK.out _ _ (fun _=>a6) (fun hHeld=>?_);refine P9 ?_;obtain⟨bv,b0,be,ah,-⟩:=a8.p;subst be;refine Ny fun K hK=>?_
 refine(bb.o _ ac.o _ _ ah).x ?_;rintro e b3 ⟨rfl,Y⟩;have a7:=zH (aT ac Y);have br:=ar Y a6;go_simp;refine hK.out _ _ (fun _=>br) (fun hHeld=>?_);refine P9 ?_;refine cm 8 fun K hK=>?_
 go_simp;refine Qn ?_;refine gM QT ?_ _;go_wp2;go_ret
 exact⟨rfl,a7⟩
def kK(a b:Sy):Sy:=⟨a.v,a.h+b.h,(a.rows.map fun r=>r++List.replicate b.h.toNat 0)++b.rows.map fun r=>r.take b.v.toNat++List.replicate a.h.toNat 0++r.drop b.v.toNat⟩
def Oper.zkT{I}{G}(h:∀a w,K a w->I a w)(H:∀e a w,e≠.normal->Q e a w->G e a w)(D:o.wp P a w K Q):o.wp P a w I G:=by
 unfold Oper.wp at *;generalize (execOp a.eval o).run P w=r at *;have J:LetsOut Q->LetsOut G:=fun⟨a,w,h⟩=>⟨a,w,H _ _ _ RG h⟩
 cases r with
 |ok n w'=>
  cases n<;>simp only[Oper.upon]at D ⊢<;>
   first
    |exact h _ _ D
    |exact iB D (fun e O F=>by cases e<;>first|exact h _ _ F|exact H _ _ _ RG F|exact J F)
    |exact Rows.x D (fun _ _ F=>h _ _ F)
 |halt x w'=>cases x<;>simp only[Oper.upon]at D ⊢<;>first|exact D|exact H _ _ _ RG D
def zd7{E}(F:Region.wanted o (yielded ops a.tmps)=true)(h:wpList P ops (fun e a w=>e=.normal/\K a w) [o] a W):if Region.wanted o (yielded ops a.tmps)=true then Oper.wp P o a W K Q else E:=by
 rw[ak F];unfold wpList at h;rw[ak F]at h;rcases h with h|⟨_,I,w',G,_⟩
 .exact Oper.zkT (fun a w D=>D.2) (fun e a w H D=>absurd D.1 H) h
 .cases G
def aY.zjT(h:aY w B v rows):bw 26 1 ERa w B v rows:=by
 obtain⟨us,h⟩:=h;refine⟨us.map fun u=>[u],⟨?_,by rw[bs,h.ι],fun k r c ac D=>?_⟩⟩
 .have:∀l:cL,(l.map fun u=>[u]).flatten=l:=fun l=>by induction l with|nil=>rfl|cons x l ih=>simp[ih]
  rw[this];exact h.η
 .rw[bI]at D;obtain⟨u,ad,rfl⟩:=oF.1 D;have F:=h.ν k u r ad ac;have T:=fq h.η F;obtain⟨ah,am,rfl,hi,-⟩:=F.p;refine⟨rfl,fun x G=>by rw[kD]at G;subst G;rfl,?_⟩;rcases F.2 with⟨e,J⟩|⟨g,ε,an,e,U,Y,-⟩
  .simp only[ep]at e;obtain⟨rfl,-,-⟩:=e;exact⟨B,0,ae _,aW _,fun g _=>au (aW _),fun W _=>⟨none,_,rfl,ay (iq J)⟩⟩
  .cases e
   have Z:=(bk.1 Y).1;refine⟨g,g+1,U,Z,fun I H=>?_,fun W O=>⟨_,_,rfl,?_⟩⟩
   .have:I≠g:=fun e=>by subst e;rcases T with h|h;(·cases h);(·exact h H.q)
    omega
   .refine hi.E id fun⟨b,o,e,D⟩=>⟨b,o,e,fun k x ab=>?_⟩
    cases e
    exact(l6 (O _ (ae _) (iX _))).t (D k x ab)
def zhI{A B}(I:bV p=true)(F:A.Ok p)(G:B.Ok p)(Z:A.r=B.l):eV p (A.b.length+B.b) A.r (ft p A B)/\(∀c∈qN p A.r (ft p A B),c.length=A.b.length+B.b/\0<c.length/\∀x∈c,0<=x/\x<p)/\eV p (qN p A.r (ft p A B)) (A.l+B.r) (jm p A B)/\(qN p A.r (ft p A B)).length<=A.b+B.b:=by
 have D:=(cv I).1;obtain⟨J,-⟩:=DG D F.Η G.Η Z;obtain⟨ab,ad,T,-⟩:=vX I D J;obtain⟨r,l,ah,h,O,-⟩:=kM I D T;have e:qN p A.r (ft p A B)=j5 p (A.b.length+B.b) (á p A.r (ft p A B)):=by unfold qN;rw[J.1]
 rw[<-e]at h O;refine⟨J,fun c H=>?_,?_,?_⟩
 .obtain⟨k,Y⟩:=eH.1 H;have U:=eV.row h c H;have ac:=O.ln k (by have:=(bG.1 Y).1;have:=h.1;omega);exact⟨U,Qu,eV.el h c H⟩
 .unfold jm;exact eV.yP (sI h) fun c _=>⟨(lC D F.Η G.Η).1,(lC D F.Η G.Η).2.1⟩
 .have:=h.1;omega
abbrev zE(w:aa)(b:Nat)(v0 v1 v2:aG):World:=((w.setCell ⟨b,0,none⟩ v0).setCell ⟨b,1,none⟩ v1).setCell ⟨b,2,none⟩ v2
def zaU(h:k≠b):(zE w b v0 v1 v2).heap[k]?=w.heap[k]?:=(a_ _ _ _ _ Q_).t ((a_ _ _ _ _ Q_).t (a_ _ _ _ _ Q_))
def yt{h}{Q:Rl}{D}{Z}{H}(O:bA h b #[T,Z,z2] H)(J:Fr h lo h (fun V=>cS V D Q.b))(I:ag w h)(F:(w:Nat)<=b)(ab:b<lo):Fr (zE h b (zI (Q.l:Nat)) (zI (Q.r:Nat)) (.slice D Q.b d)) w (zE h b (zI (Q.l:Nat)) (zI (Q.r:Nat)) (.slice D Q.b d)) (fun V=>cS V D Q.b)/\Below w w (zE h b (zI (Q.l:Nat)) (zI (Q.r:Nat)) (.slice D Q.b d))/\(zE h b (zI (Q.l:Nat)) (zI (Q.r:Nat)) (.slice D Q.b d)).cell? ⟨b,0,none⟩=some (.int .i64 (Q.l:Nat))/\(zE h b (zI (Q.l:Nat)) (zI (Q.r:Nat)) (.slice D Q.b d)).cell? ⟨b,1,none⟩=some (.int .i64 (Q.r:Nat))/\(zE h b (zI (Q.l:Nat)) (zI (Q.r:Nat)) (.slice D Q.b d)).cell? ⟨b,2,none⟩=some (.slice D Q.b d):=by have U:=bE h b 0 _ _ (zI (Q.l:Nat)) O;have Y:=bE _ b 1 _ _ (zI (Q.r:Nat)) U;have G:=bE _ b 2 _ _ (.slice D Q.b d) Y;simp only[zA]at G;have⟨u0,u1,u2⟩:=aD G;exact⟨(J.y fun k a _=>zaU Qu).to Qu Qt,((I.setCell (p:=⟨b,0,none⟩) F _).setCell (p:=⟨b,1,none⟩) F _).setCell (p:=⟨b,2,none⟩) F _,u0,u1,u2⟩
def EMx(h V:aa)(r:aL)(c:cL):Prop:=Bf h r c∨Bf V r c
def zjs(h:bR 1 (EMx w) V A rows)(D:ag w V):cS V A rows:=lM (bR.E (fun _ _ h=>h.elim (Bf.ext D) id) h)
def zbG p R S A1 A2 N1 N2 c1 c2 w(bb:bV p=true)(dc:cS w A1 R.b)(dl:cS w A2 S.b)(a3:R.Ok p)(a4:S.Ok p)(sR:RSm R)(ei:RSm S)(cj:R.r=S.l)(bc:R.b.length=N1)(n2:S.b.length=N2):az 128 (j9 p (dh R.l R.r A1 N1 c1) (dh S.l S.r A2 N2 c2)) w (lJ (DF p R S) w):=by
 have⟨p2,i0⟩:=cv bb;have⟨eb,co,ee,eg⟩:=zhI bb a3 a4 cj;have hS:=a3.ι;have hT:=a4.ι;have e6:=sR.l;have hL:=sR.r;have e7:=ei.l;have e8:=ei.r;obtain⟨f1,-⟩:=AZ a3.Η;obtain⟨f2,-⟩:=A_ a3.Η;obtain⟨f3,-⟩:=AZ a4.Η;obtain⟨f4,-⟩:=A_ a4.Η;rw[bc,n2]at eb co eg;rw[bc]at f1 f2;rw[n2]at f3 f4;have⟨K,hK⟩:=aR (qN p R.r (ft p R S));rw[<-hK]at co ee eg;obtain⟨ha,hc,hd,he,hn⟩:=pD (fun V (h:ag w V)=>Cf R A1 N1 c1 w V h bc Qu dc a3.row Qu) (fun V (h:ag w V)=>ES S A2 N2 c2 w V h n2 Qu dl (fun r J=>(a4.row r J).1) Qu) (fun V (h:ag w V)=>ES R A1 N1 c1 w V h bc Qu dc (fun r J=>(a3.row r J).1) Qu) (fun V (h:ag w V)=>Cf S A2 N2 c2 w V h n2 Qu dl a4.row Qu) (show ∀V A ε,bt V A (ft p R S)->az 177 #[p,.slice A (N1+N2) ε,(R.r:Nat)] V (Ct K V) from fun V A ε h=>by rw[hK];exact DT p (ft p R S) A ε (N1+N2) R.r V bb h eb Qu Qu);have⟨Q,dq⟩:=aR (DF p R S);rw[<-dq];obtain⟨hv,g9,ho,eo,bi,es,bn,bo⟩:=ð (show ∀V A ε,bt V A (K.map (iO p R S))->az 179 #[p,(R.l:Nat),(S.r:Nat),.slice A K ε] V (lJ Q V) from fun V A ε h=>by rw[dq];exact mO p R.l S.r K (jm p R S) A ε V bb (by unfold jm;rw[<-hK];exact h) ee Qu Qu) (show ∀c,iO p R S c=fY p (c.take N1) (kS R) R.l N1++fY p (c.drop N1) (mA S) S.r N2 from fun c=>by unfold iO;rw[bc,n2]) co (show ft p R S=mA R++(kS S).map (qO p) from rfl) f1 f2 f3 f4;have id:R.l<=1024:=e6;have ii:S.l<=1024:=e7;have io:S.r<=1024:=e8;have h8:N1<=2048:=Qu;have h9:N2<=2048:=Qu;have h7:K.length<=4096:=Qu;have ey:=zH bb;refine MW fun hb q0 q1 q2=>?_
 clear dc dl a3 a4 sR ei cj bc n2 eb co ee eg hS hT e6 hL e7 e8 f1 f2 f3 f4 hK bb dq;go_enter func128,ntmps128
 go_upto_region 1 with(fail)
 generalize ((w.alloc _).alloc _).alloc _=W at hb q0 q1 q2 ⊢;have⟨hV,hW,hX⟩:=aD q0;obtain⟨cK,hH,e5,hI,JU⟩:=pD hb q0 q1 q2 (show(w:Nat)+1+1<W from(bk.1 q2).1);clear hb q0 q1 q2;go_upto_region 2 with(go_at_call 173;refine(ha.o _ cK.o).x ?_;rintro e ct ⟨ah,d1,rfl,b2,dr⟩;have⟨hY,hZ,h0⟩:=aD (ai e5 dr);have c3:=zH b2;have ek:=zH dr;clear b2 dr)
 clear hV hW hX;go_wp2_with ((go_at_call 173;refine(hc.o _ (aT cK ek)).x ?_;rintro e cz ⟨gR,d2,rfl,b2,cc⟩;have e4:=zH (b2.fr (fun _ _ _ _ _ F=>F) cc.size);have eB:=zH ((c3.ext cc).toE (E':=EMx w) fun _ _ _ F=>ay F);have g5:=zH cc;clear b2 cc))
 have e1:=zH (show ∀g,(Value.slice ah N1 d1).ownBlock=some g->g < (ct:Nat) from fun g e=>by obtain⟨cs,F⟩:=c3.o;exact(bS F.η g e).2)
 clear hY hZ h0;go_loopw [7,27] (fun u i wr=>∃k:Nat,k<=N2/\i=.int .i64 k/\bw 26 1 (EMx w) wr W u (mA R++((kS S).take k).map (qO p))/\(∀g,u.ownBlock=some g->g < (ct:Nat)∨(cz:Nat)<=g)/\Fr wr ct cz (fun V=>bR 1 (fun _=>Bf w) V gR (kS S))/\ag W wr/\(cz:Nat)<=wr) (fun _ i _=>N2-(intOf i).toNat)
 case atStart=>exact⟨0,aW _,rfl,by simpa using eB.o,fun g e=>ay (e1 g e),e4,aT ek g5,ae _⟩
 case round=>
  obtain⟨k,ib,rfl,H,Z,ci,G,a2⟩:=hrel;clear c3 eB e4 e1;have a9:=aT cK G;by_cases gc:k<N2
  .have hQ:(kS S).length=N2:=bn.1;have gu:(mA R).length=N1:=es.1;have⟨y,U⟩:=aq (Qu:k < (kS S).length);have b3:=bn.row y (aU U);have gB:=bn.el y (aU U);rcases ER ci.D a9 with d8|⟨b,o,rfl,bz⟩
   .rw[d8]at U;simp at U
   obtain⟨be,d,ce,d3,ac⟩:=bz k y U;rw[b3]at ce;obtain⟨g4,hr,c0,Gl⟩:=gG (fun(ab:ax) (Y:Nat) (V:aa) (h:ag wr V) (hR:aE V wr (.slice ab S.l Y) (List.replicate S.l 0))=>zB p (-1) wr S.l Y d ab be (List.replicate S.l 0) y V Qu Qu Qu Qu hR (ac.ext h) (fun a e h6=>Ŭ ac Qu a e) Qt b3 Qu (fun x I=>by obtain⟨-,rfl⟩:=List.mem_replicate.1 I;omega) (fun x I=>by have:=gB x I;omega) h.size) (by unfold qO;rw[b3]:dw p (-1) (List.replicate S.l 0) y=qO p y) (by rw[zcO,b3]:(qO p y).length=S.l) (by rw[du,U,kA,fJ];rfl:mA R++((kS S).take (k+1)).map (qO p)=(mA R++((kS S).take k).map (qO p))++[qO p y]);have⟨m,cj⟩:=aR (N1+k);have Gu:=zH (by rw[bm,bs,cQ,gu];omega:(mA R++((kS S).take k).map (qO p)).length=m);have ip:m<=8192:=Qu;obtain⟨u0,av,rfl,-⟩:=H.p;rw[Gu.o]at H Z ⊢;have⟨c5,bp,hh,bh,Gn⟩:=pD H Z ci G a2;have c4:=zH (show ∀g,(Value.slice u0 m av).ownBlock=some g->g < (wr:Nat) from fun g e=>by obtain⟨cs,F⟩:=H;have:=F.η;rw[Gu.o]at this;exact(bS this g e).2)
   clear H Z ci G a2 a9 bz U b3 gB ac d3 cj hQ gu;go_wp2_with (first|(go_at_call 98;refine(kO S.l _ Qu).x ?_;rintro e hU ⟨u4,rfl,ck,a8⟩;obtain⟨ab,Y,rfl,-⟩:=ck.p;rw[fA]at ck ⊢;have hw:=zH ck;have em:=zH a8;clear ck a8)|(go_at_call 176;refine(g4 ab Y _ em hw).x ?_;rintro e D ⟨rfl,cn,ad⟩;rw[hr.o]at cn;have bg:=zH (em.t ad);have hx:=zH (cn.fr bg.size);have hB:=zH (show S.l<=Y by(obtain⟨_,_,fb,-,fs,-⟩:=cn.p;rw[c0.o]at fb fs;cases fb;exact fs));clear cn ad)|(at_builtin;refine de yU rfl (.tmp 38) (.tmp 40) rfl W (D.alloc (.cells #[.slice ab S.l Y] 26)) (.slice u0 m av) (mA R++((kS S).take k).map (qO p)) (qO p y) [.slice ab S.l Y] D ((c5.ext bg).ext (aw _ _)) rfl SU ⟨wr,D,bh.size,(aw _ _).size,fun g e=>ay (c4 g e),(hx.ext (aw _ _) (ae _)).E fun V h=>au ⟨ab,Y,by rw[c0.o],by rw[c0.o];exact hB,h⟩⟩ R5 (aZ bh.size (aZ bg.size (aw _ _).size)) rfl rfl (aH D _ rfl) ?_;intro a0 hM cF a1 b1 bu O;rw[Gu.o]at a1 ⊢;have Gv:=zH a1;have HA5:=zH (bg.alloc bg.size (.cells #[.slice ab S.l Y] 26));have cO:=zH ((aT bh HA5).t O);have cR:=zH ((hh.ext HA5 Gn).grown b1 (aZ Gn HA5.size) fun g e=>bp g e);have cV:=zH (show a0 < (ct:Nat)∨(cz:Nat)<=a0 from bu.elim (fun e=>bp a0 e) fun e=>UD);have c6:=zH (aZ (aZ Gn HA5.size) O.size);clear a1 b1 bu O))
   go_roundw
   case rel=>exact⟨k+1,Qu,Qx,Tb,fun g e=>by cases e;exact cV,cR,cO,c6⟩
   case measure=>simp[intOf];omega
  .obtain rfl:k=N2:=Qu;rw[cZ (by rw[bn.o.1];exact ae _),<-eo.o]at H;have f6:(ft p R S).length=N1+k:=by rw[eo.o,bm,bs,es.o.1,bn.o.1]
   obtain⟨g0,d5,rfl,fl,-⟩:=H.p;have d9:=(zjs fl a9).at;rw[f6];have⟨cA,gv⟩:=aR wr;rw[<-gv]at d9 a9 G ⊢;have⟨ht,b6,bh⟩:=er d9 a9 G;have I:=aD ((G.block _ Sw).t hH);have U:=aD ((G.block _ Sw).t e5);have a7:=aQ I.1 (aQ I.2.1 (aQ I.2.2 U));clear H Z ci G a2 a9 f6 fl d9 gv I U;go_upto_region 9 with(fail)
   go_cut [11,12] from 43 (fun h2 h3 V=>∃am d6 an d7,h2=.slice am N1 d6/\h3=.slice an k d7/\cS V am (kS R)/\cS V an (mA S)/\ag cA V)
   case first=>
    go_region_held3 (fun V=>af V w 0 (zI (R.l:Nat))/\af V w 1 (zI (R.r:Nat))/\af V w 2 (.slice A1 N1 c1)/\af V ((w:Nat)+1) 0 (zI (S.l:Nat))/\af V ((w:Nat)+1) 1 (zI (S.r:Nat))/\af V ((w:Nat)+1) 2 (.slice A2 k c2))
     (first|with_reducible exact a7|with_reducible exact n_ (aC _) a7|with_reducible exact n_ c7.o a7|with_reducible exact n_ a6.o a7)
     ((first|(go_at_call 173;(with_reducible refine(hd.o _ (b6.o.t ((aC cA).x b6.o.size))).x ?_);rintro e hU ⟨am,d6,rfl,gd,a8⟩;have c7:=zH ((aC cA).t (a8.x (aC cA).size));have hy:=zH ((gd.fr (fun _ _ _ _ _ F=>F) a8.size).D);have e2:=zH (aT b6 c7);clear gd a8)|(go_at_call 173;(with_reducible refine(he.o _ e2.o).x ?_);rintro e D ⟨an,d7,rfl,gi,ad⟩;have a6:=zH (aT c7 ad);have hz:=zH ((gi.fr (fun _ _ _ _ _ F=>F) ad.size).D);have hA:=zH (bR.ext (E:=fun _=>Bf w) (w':=D) (fun _ _ F=>F) hy ad);have b7:=zH (aT e2 ad);clear gi ad)))
    all_goals
     go_wp2_with fail
     go_meet
     exact⟨am,d6,an,d7,rfl,rfl,ER hA b7,ER hz b7,a6⟩
   obtain⟨am,d6,an,d7,rfl,rfl,f9,ga,dO⟩:=hcut;obtain⟨D,rfl⟩:∃D,D=wc:=⟨wc,rfl⟩;have⟨hj,hk,a6,b7⟩:=gG f9 ga dO (aT b6 dO);clear f9 ga dO;have db:=n_ a6 a7;clear a7;have br:=n_ (aw D (.cells #[] 26)) db;have⟨cI,eA,ez,hs,hJ⟩:=pD (aw D (.cells #[] 26)) (bw.lit 26 1 Bf D D (ae _)) (Qt:(D:Nat) < (D.alloc (.cells #[] 26))) (ai ((bh.block _ JU.o).t hI) a6) db;clear db;go_upto_region 11 with(fail)
   generalize D.alloc _=ej at br cI eA ez ⊢;have h1:=br.2.1
   replace br:=zH br
   go_wp2_with ((go_at_call 177;refine(hn.o _ g0 d5 (ht.ext (aT a6 cI))).x ?_;rintro e cB ⟨gL,h5,rfl,gn,bv⟩;have ev:=zH (gn.frC bv.size);have g6:=zH bv;have e0:=zH (eA.ext bv);have h4:=zH (n_ bv br);clear gn bv))
   clear h1;go_loopw [13,58] (fun u i wr=>∃k:Nat,k<=K.length/\i=.int .i64 k/\bw 26 1 Bf wr D u ((K.take k).map (iO p R S))/\(∀g,u.ownBlock=some g->g < (ej:Nat)∨(cB:Nat)<=g)/\Fr wr ej cB (fun V=>cS V gL K)/\ag D wr/\(cB:Nat)<=wr) (fun _ i _=>K.length-(intOf i).toNat)
   case atStart=>exact⟨0,aW _,rfl,e0,fun g e=>by cases e;exact ay ez.o,ev,aT cI g6,ae _⟩
   case round=>
    obtain⟨j,ia,rfl,H,Z,ch,G,a2⟩:=hrel;clear e0 ev;obtain⟨cq,-,-,-,gC,-⟩:=n_ G hJ;by_cases gc:j<K.length
    .have⟨c,ba⟩:=aq gc;have⟨c9,fx⟩:=aR (N1+k);obtain⟨dT,f5,d0⟩:=ho c (aU ba);rw[<-fx]at dT;rcases ch.D with d8|⟨b,o,rfl,bz⟩
     .rw[d8]at ba;simp at ba
     obtain⟨be,d,ce,d3,ac⟩:=bz j c ba;rw[dT]at ce d3;obtain⟨e9,fa,rfl,-⟩:=ac.θ f5;have⟨ao,ca⟩:=aR (fY p (c.take N1) (kS R) R.l N1);have⟨ap,cb⟩:=aR (fY p (c.drop N1) (mA S) S.r k);have g7:=zH (show ∀V,ag wr V->az 178 #[p,.slice (some ⟨e9,fa,none⟩) N1 d,.slice am N1 d6,(R.l:Nat)] V fun e w'=>∃ah k,e=.returned (.slice ah R.l k)/\R.l<=k/\Fr w' V.heap.size w' (fun W=>aO W ah ao)/\ag V w' from fun V h=>by rw[ca];exact Ca p (c.take N1) (kS R) N1 R.l N1 _ am d d6 V ey ((lL ac N1).ext h) ((hj.ext (aT G h)).at) Rv (ae _) (fun x I=>by have:=d0 x (AG I);omega) (fun r J=>⟨bi.row r J,fun x I=>by have:=bi.el r J x I;omega⟩) bi.1 Qu Qu)
     have g8:=zH (show ∀V bd ea,ag wr V->(bd=some ⟨e9,fa+N1,none⟩∨d=N1)->az 178 #[p,.slice bd (c9-N1) ea,.slice an k d7,(S.r:Nat)] V fun e w'=>∃ah k,e=.returned (.slice ah S.r k)/\S.r<=k/\Fr w' V.heap.size w' (fun W=>aO W ah ap)/\ag V w' from fun V bd ea h hP=>by
      rw[cb];have d4:aO wr bd (c.drop N1):=by
       rcases hP with rfl|e
       .exact mR ac N1
       .exact ay (jR Qu)
      exact Ca p (c.drop N1) (mA S) (c9-N1) S.r k bd an ea d7 V ey (d4.ext h) ((hk.ext (aT G h)).at) Ro Qu (fun x I=>by have:=d0 x (mx I);omega) (fun r J=>⟨bo.row r J,fun x I=>by have:=bo.el r J x I;omega⟩) bo.1 Qu Qu)
     have hG:=zH (by rw[g9.o,ca,cb]:iO p R S c=ao++ap);have gw:R.l=ao.length:=by rw[ca];exact(kN (fun i hi=>by obtain⟨r,J⟩:=aq (by rw[bi.o.1];exact hi:i < (kS R).length);rw[getD_some J];exact bi.row r (aU J)) N1 (ae _)).q
     have gA:S.r=ap.length:=by rw[cb];exact(kN (fun i hi=>by obtain⟨r,J⟩:=aq (by rw[bo.o.1];exact hi:i < (mA S).length);rw[getD_some J];exact bo.row r (aU J)) k (ae _)).q
     have⟨b9,fy⟩:=aR ((ao++ap).length);obtain⟨hl,hm,cW,Gl,Gu⟩:=pD gw gA fy (by rw[du,ba,kA,<-hG.o];rfl:(K.take (j+1)).map (iO p R S)=(K.take j).map (iO p R S)++[ao++ap]) (by rw[bs,cQ];omega:((K.take j).map (iO p R S)).length=j);obtain⟨u0,av,rfl,-⟩:=H.p;rw[Gu.o]at H Z ⊢;have⟨c5,bp,hg,b5,Gn⟩:=pD H Z ch G a2;have c4:=zH (show ∀g,(Value.slice u0 j av).ownBlock=some g->g < (wr:Nat) from fun g e=>by obtain⟨cs,F⟩:=H;have:=F.η;rw[Gu.o]at this;exact(bS this g e).2)
     have is:N1<=c9:=Qu;have it:N1<=d:=Qu;clear H Z ch G a2 bz ba dT f5 d0 ac ca cb gw gA fy fx;go_upto_region 14 with(fail)
     clear ce;go_region_held3 (fun V=>af V w 0 (zI (R.l:Nat)))
      (first|with_reducible exact cq|with_reducible exact ar (aC _) cq|with_reducible exact ar bq.o cq)
      ((go_at_call 178;(with_reducible refine(g7.o _ (aC wr)).x ?_);rintro e cF ⟨g1,hN,rfl,-,f8,O⟩;have bq:=zH ((aC wr).t (O.x (aC wr).size));have hD:=zH f8.D;clear f8 O))
     have cr:=ar bq gC;clear cq gC;by_cases d4:d=N1
     all_goals
      go_upto_region 15 with(fail)
      go_region_held3 (fun V=>af V ((w:Nat)+1) 1 (zI (S.r:Nat)))
       (first|with_reducible exact cr|with_reducible exact ar (aC _) cr|with_reducible exact ar c8.o cr)
       ((go_at_call 178;(with_reducible refine(g8.o _ _ _ (bq.o.t ((aC cF).x bq.o.size)) (by first|exact ay rfl|exact au d4)).x ?_);rintro e gK ⟨g2,hO,rfl,-,b0,T⟩;have c8:=zH ((aC cF).t (T.x (aC cF).size));have e3:=zH (aT bq c8);have hE:=zH b0.D;have hC:=zH (hD.ext c8);clear b0 T))
      clear cr;go_wp2_with (first|(go_at_call 65;refine(mS ao ap g1 g2 hN hO R.l S.r b9 gK hC hE hl hm cW Qu).x ?_;rintro e cu ⟨b4,cp,rfl,gb,f7,fz⟩;have b8:=zH (aT e3 fz);have hp:=zH gb;have hf:=zH (f7.to (lo':=wr.heap.size) e3.size (ae _));clear gb f7 fz)|(at_builtin;refine de yU rfl (.tmp 80) (.tmp 85) rfl D (cu.alloc (.cells (bZ b4 b9 cp) 26)) (.slice u0 j av) ((K.take j).map (iO p R S)) (ao++ap) [.slice b4 b9 cp] cu ((c5.ext b8).ext (aw _ _)) rfl SU ⟨wr,cu,b5.size,(aw _ _).size,fun g e=>ay (c4 g e),(hf.ext (aw _ _) (ae _)).E fun V h=>⟨b4,cp,by rw[<-cW.o],by rw[<-cW.o];exact hp,h⟩⟩ R5 (aZ b5.size (aZ b8.size (aw _ _).size)) rfl rfl (aH cu _ rfl) ?_;intro a0 hM i4 a1 b1 bu O;rw[Gu.o]at a1 ⊢;have Gv:=zH a1;have HA5:=zH (b8.alloc b8.size (.cells (bZ b4 b9 cp) 26));have cO:=zH ((aT b5 HA5).t O);have cR:=zH ((hg.ext HA5 Gn).grown b1 (aZ Gn HA5.size) fun g e=>bp g e);have cV:=zH (show a0 < (ej:Nat)∨(cB:Nat)<=a0 from bu.elim (fun e=>bp a0 e) fun e=>UD);have c6:=zH (aZ (aZ Gn HA5.size) O.size);clear a1 b1 bu O))
      go_roundw
      case rel=>exact⟨j+1,Qu,Qx,Tb,fun g e=>by cases e;exact cV,cR,cO,c6⟩
      case measure=>simp[intOf];omega
    .obtain rfl:j=K.length:=Qu;rw[cZ (ae _)]at H;obtain⟨u0,av,rfl,fo,-⟩:=H.p;have gs:=(lM fo).at;rw[bs];have⟨hu,b5,hF,a5⟩:=gG gs G (aT b7 G) (ai hs G);have hq:=zH (show(w:Nat)+1+1<wr from(bk.1 a5).1);clear H Z ch G a2 fo gs;go_wp2_with ((go_at_call 179;refine(hv.o _ u0 av hu).x ?_;intro e gK F;unfold lJ at F;obtain⟨be,d,rfl,b0,T⟩:=F;have⟨i1,i2,i3⟩:=aD (ai a5 T);have f0:=aK (ai a5 T) 0;have f1:=aK (ai a5 T) 1;have f2:=aK (ai a5 T) 2;have⟨fc,fd,v0,v1,v2⟩:=yt (d:=d) (ai a5 T) b0 (aT hF T) (b:=(w:Nat)+1+1) Qu hq;have G1:=zH fc;have g3:=zH fd;clear b0 T fc fd;unfold zE at v0 v1 v2))
     exact aI (v:=.agg (dh Q.l Q.r be Q.b d)) (by simp[results,results128,go_sem, *]) rfl ⟨be,d,rfl,G1,g3⟩
def ziU{A B:Rl}(h:2<=p)(hA:A.eV p)(hB:B.eV p):eV p (A.b.length+B.b) (A.l+B.l+(A.r+B.r)) (A.b.map (nU A B)++B.b.map (nV A B)):=by
 refine ML fun sA sB=>?_
 exact sA.X sB
def zeH p R S A1 A2 N1 N2 c1 c2 w(a5:bV p=true)(bg:cS w A1 R.b)(bh:cS w A2 S.b)(Z:R.Ok p)(ab:S.Ok p)(sR:RSm R)(a8:RSm S)(Y:R.b.length=N1)(n2:S.b.length=N2):az 129 (j9 p (dh R.l R.r A1 N1 c1) (dh S.l S.r A2 N2 c2)) w (lJ (EW p R S) w):=by
 have a7:=ziU (cv a5).1 Z.Η ab.Η;rw[Y,n2]at a7;have cq:=Z.ι;have cr:=ab.ι;have cj:=sR.l;have ck:=sR.r;have cn:=a8.l;have co:=a8.r;have⟨L,av⟩:=aR (R.l+S.l);have⟨M,a0⟩:=aR (R.r+S.r);have⟨J,a1⟩:=aR (N1+N2);have cF:IntKind.i64.wrap ((R.l:Int)+(S.l:Int))=(L:Int):=Rt;have cI:IntKind.i64.wrap ((R.r:Int)+(S.r:Int))=(M:Int):=Rt;have⟨Q,a2⟩:=aR (EW p R S);have ce:=zH (show ∀V A ε,bt V A (R.b.map (nU R S)++S.b.map (nV R S))->az 179 (wT p L M A J ε) V (lJ Q V) from fun V A ε G=>by
  have:=mO p L M J (R.b.map (nU R S)++S.b.map (nV R S)) A ε V a5 G (by rw[av,a0,a1];exact a7) Qu Qu;have e:vc p L M (R.b.map (nU R S)++S.b.map (nV R S))=Q:=by rw[av,a0,a2];rfl
  rw[e]at this;exact this)
 have b8:=zH (fun V (G:ag w V) (a9:bA V w (dh R.l R.r A1 N1 c1) 67) (z2:bA V ((w:Nat)+1) (dh S.l S.r A2 N2 c2) 67)=>zgK (nU R S) R.b N1 c1 A1 (zI (R.l:Nat)) (zI (R.r:Nat)) (.pointer (bH w)) (.pointer (some ⟨(w:Nat)+1,0,none⟩)) V Y Qu (bg.ext G) (fun xs h d am a6 H ap a4=>by obtain⟨an,ao⟩:=Z.row xs a6;exact zcD xs R.l R.r N1 c1 d w ((w:Nat)+1) S.l S.r N2 c2 A1 A2 h am (ai a9 H) (ai z2 H) ap an ao a4 Qu Qu))
 have b9:=zH (fun V (G:ag w V) (a9:bA V w (dh R.l R.r A1 N1 c1) 67) (z2:bA V ((w:Nat)+1) (dh S.l S.r A2 N2 c2) 67)=>zgL (nV R S) S.b N2 c2 A2 (zI (S.l:Nat)) (zI (S.r:Nat)) (.pointer (bH w)) (.pointer (some ⟨(w:Nat)+1,0,none⟩)) V n2 Qu (bh.ext G) (fun xs h d am a6 H ap a4=>by obtain⟨an,ao⟩:=ab.row xs a6;exact zcE xs S.l S.r N2 c2 d ((w:Nat)+1) w R.l R.r N1 c1 A2 A1 h am (ai z2 H) (ai a9 H) ap an ao a4 Qu Qu))
 have ba:=zH (by rw[bm,bs,bs,Y,n2,a1]:(R.b.map (nU R S)++S.b.map (nV R S)).length=J);have cB:J<=8192:=Qu;rw[<-a2];refine MW fun hb q0 q1 q2=>?_
 clear av a0 a1 a2;go_enter func129,ntmps129
 go_upto_region 1 with(fail)
 generalize ((w.alloc _).alloc _).alloc _=W at hb q0 q1 q2 ⊢;have⟨bv,bz,b0⟩:=aD q0;obtain⟨ac,ah,O,ci,JU⟩:=pD hb q0 q1 q2 (show(w:Nat)+1+1<W from(bk.1 q2).1);go_upto_region 2 with(go_at_call 173;refine(b8.o _ ac ah O).x ?_;rintro e ct ⟨b4,d1,rfl,bq,a3⟩;have⟨b1,b2,b3⟩:=aD (ai O a3);have bb:=zH bq;have F:=zH a3)
 go_upto_region 3 with(first|(go_at_call 173;refine(b9.o _ (aT ac F) (ai ah F) (ai O F)).x ?_;rintro e cu ⟨b5,d2,rfl,br,bn⟩;have cb:=zH br;have ad:=zH bn)|(at_builtin;refine qL yU rfl (.tmp 11) (.tmp 14) rfl W ct cu (.slice b4 N1 d1) (.slice b5 N2 d2) (R.b.map (nU R S)) (S.b.map (nV R S)) (bb.ext ad) cb.o (fun g e=>by(obtain⟨cs,T⟩:=bb.o;exact(bS T.η g e).2)) F.o.size ad.o.size (by rw[<-bm,ba.o];omega) rfl rfl ?_;intro cV cz bu bo;obtain⟨b6,d3,rfl,bi,-⟩:=bu.p;rw[ba.o];have cc:=zH (lM bi).at;have I:=zH ((aT F ad).t bo)))
 have⟨bv,bz,b0⟩:=aD ((I.block _ Sw).t ah);have⟨b1,b2,b3⟩:=aD ((I.block _ Sw).t O);have⟨bc,ch⟩:=bJ ((I.block _ JU.o).t ci) (aT ac I);have ca:=zH (show(w:Nat)+1+1<cz from(bk.1 bc).1);go_wp2_with ((go_at_call 179;refine(ce.o _ b6 d3 cc).x ?_;intro e cW T;unfold lJ at T;obtain⟨h,d,cp,bp,U⟩:=T;subst cp;have D:=ai bc U;have⟨cK,cO,cR⟩:=aD D;have f0:=aK D 0;have f1:=aK D 1;have f2:=aK D 2;have⟨bd,be,v0,v1,v2⟩:=yt (d:=d) D bp (aT ch U) (b:=(w:Nat)+1+1) Qu ca;have G1:=zH bd;have b7:=zH be;have cA:=zH U;unfold zE at v0 v1 v2))
 exact aI (v:=.agg (dh Q.l Q.r h Q.b d)) (by simp[results,results129,go_sem, *]) rfl ⟨h,d,rfl,G1,b7⟩
def mH{x}{p}(h:p.block≠b)(D:w.cell? p=some x):(((w.setCell ⟨b,0,none⟩ v0).setCell ⟨b,1,none⟩ v1).setCell ⟨b,2,none⟩ v2).cell? p=some x:=(cE h).t ((cE h).t ((cE h).t D))
def ϯ{k}(h:3<=k)(D:k<=8):gwI k=(xz k:Nat)/\gwO k=(mf k:Nat):=by have:k=3∨k=4∨k=5∨k=6∨k=7∨k=8:=Qu;rcases this with rfl|rfl|rfl|rfl|rfl|rfl<;>decide
def Ł k:xz k<=2/\mf k<=2:=by unfold xz mf;constructor<;>(repeat' split)<;>omega
def zc7 k v:(d_ k v).length<=2:=by
 unfold d_
 (repeat' split)<;>simp
def zc8 p k v(G:bV p=true)(h:FD p k v)V A ε a b(D:a=xz k)(F:b=mf k)(H:bt V A (d_ k v)):az 179 (wT p a b A (d_ k v) ε) V (lJ (è p k v) V):=by
 have:=Ł k;have:=zc7 k v;have h:=mO p a b (d_ k v) (d_ k v) A ε V G H (by rw[D,F];exact Cd (cv G).1 h) Qu Qu;have e:vc p a b (d_ k v)=è p k v:=by rw[D,F];rfl
 rw[e]at h;exact h
def zg7 p R(I:bV p=true)(F:R.Ok p)(sR:RSm R)V A c(G:cS V A R.b):az 183 (gj p (dh R.l R.r A R.b c)) V (lJ (ô p R) V):=by
 have:=F.ι;have:=sR.l;have:=sR.r;have h:=F.Η;refine zbS p R R.b c A V I G rfl Qu Qu F.row (eV.yP h fun r D=>?_);have hl:=h.row r D;have H:(r.drop R.l).length=R.r:=Sc;refine⟨by rw[bm,fS,cQ,hl];omega,fun d J=>?_⟩;rw[kf,H];split
 .rw[nG];exact h.vY D Qu
 .rw[nH Qu];exact h.vY D Qu
def zkr:bt (((W.alloc (.cells Ą 3)).alloc (.cells ą 3)).alloc (.cells #[.slice (bH W) 4 4,.slice (some ⟨(W:Nat)+1,0,none⟩) 4 4] 26)) (some ⟨(W:Nat)+1+1,0,none⟩) [[1,0,0,1],[0,1,1,0]]:=by
 have⟨F,G,D⟩:=cD W (.cells Ą 3) (.cells ą 3) (.cells #[.slice (bH W) 4 4,.slice (some ⟨(W:Nat)+1,0,none⟩) 4 4] 26);exact au ⟨_,0,rfl,fun j r h=>by
  match j,h with
  |0,h=>simp at h;subst h;exact⟨_,_,aF D 0 rfl,mC (xs:=[1,0,0,1]) F rfl⟩
  |1,h=>simp at h;subst h;exact⟨_,_,aF D 1 rfl,mC (xs:=[0,1,1,0]) G rfl⟩
  |j+2,h=>simp at h⟩
def BU p k v s bd w(ac:bV p=true)(av:s_ p ⟨k,v,bd⟩):az 130 (gj p (dN k v s)) w (lJ (rm p ⟨k,v,bd⟩) w):=by
 have p2:=(cv ac).1;have⟨Q,G⟩:=aR (rm p ⟨k,v,bd⟩);rw[<-G];unfold rm at G;dsimp only at G;have hB:=((al w w).alloc (ae _) (.cells (dN k v s) 95)).alloc Qt (.cells bx 67);have hq:=(bO (w.alloc (.cells (dN k v s) 95)) (.cells bx 67) (k:=w.heap.size) Qt).t (aH w _ rfl);have hr:=aH (w.alloc (.cells (dN k v s) 95)) (.cells bx 67) (n:=(w:Nat)+1) Qt;by_cases h1:k=1
 .subst h1;rw[ak rfl]at G;have b0:=(tK av.1).1;have b7:0<=v:=by have:=av.1;unfold dI at this;simp at this;omega
  obtain⟨n,rfl⟩:∃n:Nat,v=n:=⟨v.toNat,Qu⟩;have cc:n<=12:=by simpa[pC]using b0
  have b3:=zH (show ∀V,az 182 (fm n) V (lJ Q V) from fun V=>by rw[G];exact vy n V Qu);clear b0 b7 av G ac;go_enter func130,ntmps130
  go_upto_region 1 with(fail)
  generalize (w.alloc _).alloc _=W at hB hq hr ⊢;refine Ow fun n0 n1 n2 HB HQ HR Gn=>?_;clear hB hq hr
  go_wp2_with ((go_at_call 182;refine(b3.o _).x ?_;intro e bp J;unfold lJ at J;obtain⟨D,d,ab,Z,F⟩:=J;subst ab;have h:=ai HR F;have⟨bh,bi,bn⟩:=aD h;have f0:=aK h 0;have f1:=aK h 1;have f2:=aK h 2;have⟨U,Y,v0,v1,v2⟩:=yt (d:=d) h Z (aT HB F) (b:=(w:Nat)+1) Qu Gn;have G1:=zH U;have G2:=zH Y;have b1:=zH F;clear Z F U Y h;unfold zE at v0 v1 v2))
  exact Yh
 have ca:(k==1)=false:=Rp;rw[aj h1]at G;by_cases h2:k=2
 .subst h2;rw[ak rfl]at G;have a4:=zH (show ∀V A ε,bt V A [[1,0,0,1],[0,1,1,0]]->az 179 #[p,.int .i64 2,.int .i64 2,.slice A 2 ε] V (lJ Q V) from fun V A ε ao=>by rw[G];exact mO p 2 2 2 [[1,0,0,1],[0,1,1,0]] A ε V ac ao (zD (n:=4) (M:=[[1,0,0,1],[0,1,1,0]]) (fun r hr=>by simp at hr;rcases hr with rfl|rfl<;>exact⟨rfl,fun x b8=>by simp at b8;omega⟩)) Qu Qu)
  clear av G ac h1;go_enter func130,ntmps130
  go_upto_region 1 with(fail)
  generalize (w.alloc _).alloc _=W at hB hq hr ⊢;refine Ow fun n0 n1 n2 HB HQ HR Gn=>?_;clear hB hq hr
  have br:=ζ W (.cells Ą 3) (.cells ą 3) (.cells #[.slice (bH W) 4 4,.slice (some ⟨(W:Nat)+1,0,none⟩) 4 4] 26);have a8:=zH br;clear br;go_wp2_with ((go_at_call 179;refine(a4.o _ _ _ (zkr (W:=W))).x ?_;intro e bp J;unfold lJ at J;obtain⟨D,d,ab,Z,F⟩:=J;subst ab;have h:=ai (ai HR a8) F;have⟨bh,bi,bn⟩:=aD h;have f0:=aK h 0;have f1:=aK h 1;have f2:=aK h 2;have⟨U,Y,v0,v1,v2⟩:=yt (d:=d) h Z ((aT HB a8).t (F.x (aT HB a8).size)) (b:=(w:Nat)+1) Qu (gm Gn a8.size);have G1:=zH U;have G2:=zH Y;have b1:=zH F;clear Z F U Y h;unfold zE at v0 v1 v2))
  exact Yh
 have cb:(k==2)=false:=Rk;rw[aj h2]at G;have O:=av.gen h1 h2;dsimp only at O;by_cases ab:9<=k
 .rw[ak ab]at G O;have ad:3<=k-6/\k-6<=7:=⟨O.1,O.2.1⟩;have bg:Ò k=k-6:=by unfold Ò;rw[aj Qu,ak Qu]
  have⟨I,bz⟩:=aR (k-6);rw[<-bz]at G O ad bg;have⟨a,ap⟩:=aR (xz I);have⟨b,H⟩:=aR (mf I);have⟨a5,an⟩:=aR ((d_ I v).length);have⟨a2,a3⟩:=aR (è p I v);have bq:=zH (show ∀W,az 172 (bK k) W fun e w'=>e=.returned (zI I)/\W=w' from fun W=>by rw[<-bg];exact vC k W);have bb:=zH (show ∀W,az 167 (bK I) W fun e w'=>e=.returned (.agg (iL a b))/\ag W w' from fun W=>by have:=jt I W ad.1 Qu;rw[(ϯ ad.1 Qu).1,(ϯ ad.1 Qu).2,<-ap,<-H]at this;exact this)
  obtain⟨ba,a4⟩:=bJ (show ∀W,az 184 (bC I v) W fun e w'=>∃A c,e=.returned (.slice A a5 c)/\bt w' A (d_ I v)/\ag W w' from fun W=>by rw[an];exact rh I v W) (show ∀V A ε,bt V A (d_ I v)->az 179 (wT p a b A a5 ε) V (lJ a2 V) from fun V A ε ao=>by rw[a3,an];exact zc8 p I v ac O V A ε a b ap H ao);have b2:=zH (show ∀V A c,cS V A a2.b->az 183 (gj p (dh a2.l a2.r A a2.b c)) V (lJ Q V) from fun V A c ao=>by rw[G,<-a3];have:=Ł I;exact zg7 p a2 ac (by rw[a3];exact(İ ac O).1) ⟨by rw[a3];show xz I<=_;omega,by rw[a3];show mf I<=_;omega⟩ V A c ao)
  clear O ad bg bz ap H an a3 av G ac h1 h2;go_enter func130,ntmps130
  go_upto_region 1 with(fail)
  generalize (w.alloc _).alloc _=W at hB hq hr ⊢;refine Ow fun n0 n1 n2 HB HQ HR Gn=>?_;clear hB hq hr
  go_upto_region 7 with(first|(go_at_call 172;(with_reducible refine(bq.o _).x ?_);rintro e w' ⟨rfl,rfl⟩)|(go_at_call 167;refine(bb.o _).x ?_;rintro e w2 ⟨rfl,H⟩;have Kb:=ai HQ H;have FV:=zH H;clear H))
  refine O9 fun HN1 Ka w6 Mj S0 HQ6 HWW Je=>?_;clear n0 n1 n2 Kb
  go_region_held3 (fun V=>af V w2 0 (zI (a:Nat))/\af V w2 1 (zI (b:Nat))/\af V w 0 (zI k)/\af V w 1 (zI v))
   (first|with_reducible exact S0|with_reducible exact gS (aC _) S0|with_reducible exact gS ah.o S0|with_reducible exact gS am.o S0|with_reducible exact gS T.o S0|with_reducible exact⟨mH HN1.o (gS T.o S0).1,mH HN1.o (gS T.o S0).2.1,mH Ka.o (gS T.o S0).2.2.1,mH Ka.o (gS T.o S0).2.2.2⟩)
   ((first|(go_at_call 172;(with_reducible refine(bq.o _).x ?_);rintro e w' ⟨rfl,rfl⟩)|(go_at_call 184;(with_reducible refine(ba.o _).x ?_);rintro e bo ⟨a9,be,rfl,a7,a6⟩;have ah:=zH ((aC w6).t (a6.x (aC w6).size));have bc:=zH a7;clear a7 a6)|(go_at_call 179;(with_reducible refine(a4.o bo a9 be bc.o).x ?_);intro e b9 J;unfold lJ at J;obtain⟨E,b5,b6,bv,bu⟩:=J;subst b6;have am:=zH (aT ah bu);have b4:=zH bv.D;clear bv bu)|(go_at_call 183;(with_reducible refine(b2.o b9 E b5 b4.o).x ?_);intro e bp J;unfold lJ at J;obtain⟨D,d,ab,Z,F⟩:=J;subst ab;have h:=ai (ai HQ6 am) F;have⟨bh,bi,bn⟩:=aD h;have f0:=aK h 0;have f1:=aK h 1;have f2:=aK h 2;have⟨U,Y,v0,v1,v2⟩:=yt (d:=d) h Z ((aT HWW am).t (F.x (aT HWW am).size)) (b:=(w:Nat)+1) Qu (gm Je am.size);have G1:=zH U;have G2:=zH Y;have T:=zH (aT am F);clear Z F U Y h;unfold zE at v0 v1 v2)))
  exact Yt
 .rw[aj ab]at G O;have ad:3<=k/\k<=7:=⟨O.1,O.2.1⟩;have⟨a,ap⟩:=aR (xz k);have⟨b,H⟩:=aR (mf k);have⟨a5,an⟩:=aR ((d_ k v).length);have bb:=zH (show ∀W,az 167 (bK k) W fun e w'=>e=.returned (.agg (iL a b))/\ag W w' from fun W=>by have:=jt k W ad.1 Qu;rw[(ϯ ad.1 Qu).1,(ϯ ad.1 Qu).2,<-ap,<-H]at this;exact this)
  obtain⟨ba,a4⟩:=bJ (show ∀W,az 184 (bC k v) W fun e w'=>∃A c,e=.returned (.slice A a5 c)/\bt w' A (d_ k v)/\ag W w' from fun W=>by rw[an];exact rh k v W) (show ∀V A ε,bt V A (d_ k v)->az 179 (wT p a b A a5 ε) V (lJ Q V) from fun V A ε ao=>by rw[G,an];exact zc8 p k v ac O V A ε a b ap H ao);clear O ad ap H an av G ac h1 h2;go_enter func130,ntmps130
  go_upto_region 1 with(fail)
  generalize (w.alloc _).alloc _=W at hB hq hr ⊢;refine Ow fun n0 n1 n2 HB HQ HR Gn=>?_;clear hB hq hr
  go_upto_region 9 with(first|(go_at_call 167;refine(bb.o _).x ?_;rintro e w2 ⟨rfl,H⟩;have Kb:=ai HQ H;have FV:=zH H;clear H))
  refine O9 fun HN1 Ka w6 Mj S0 HQ6 HWW Je=>?_;clear n0 n1 n2 Kb
  go_region_held3 (fun V=>af V w2 0 (zI (a:Nat))/\af V w2 1 (zI (b:Nat))/\af V w 0 (zI k)/\af V w 1 (zI v))
   (first|with_reducible exact S0|with_reducible exact gS (aC _) S0|with_reducible exact gS ah.o S0|with_reducible exact gS am.o S0|with_reducible exact gS T.o S0|with_reducible exact⟨mH HN1.o (gS T.o S0).1,mH HN1.o (gS T.o S0).2.1,mH Ka.o (gS T.o S0).2.2.1,mH Ka.o (gS T.o S0).2.2.2⟩)
   ((first|(go_at_call 184;(with_reducible refine(ba.o _).x ?_);rintro e bo ⟨a9,be,rfl,a7,a6⟩;have ah:=zH ((aC w6).t (a6.x (aC w6).size));have bc:=zH a7;clear a7 a6)|(go_at_call 179;(with_reducible refine(a4.o bo a9 be bc.o).x ?_);intro e bp J;unfold lJ at J;obtain⟨D,d,ab,Z,F⟩:=J;subst ab;have h:=ai (ai HQ6 ah) F;have⟨bh,bi,bn⟩:=aD h;have f0:=aK h 0;have f1:=aK h 1;have f2:=aK h 2;have⟨U,Y,v0,v1,v2⟩:=yt (d:=d) h Z ((aT HWW ah).t (F.x (aT HWW ah).size)) (b:=(w:Nat)+1) Qu (gm Je ah.size);have G1:=zH U;have G2:=zH Y;have T:=zH (aT ah F);clear Z F U Y h;unfold zE at v0 v1 v2)))
  exact Yt
def zeh k v w:az 189 (bC k v) w fun e w'=>(∃s,e=.returned (.agg (dN k v s)))/\ag w w':=by
 have h:=aH w (.cells (CX ⟨#[]⟩) 95) rfl;have D:=aw w (.cells (CX ⟨#[]⟩) 95);go_enter func189,ntmps189
 go_upto_region 1 with(fail)
 generalize w.alloc _=W at h D ⊢;have⟨H,I,J⟩:=aD h;have⟨f0,f1,f2⟩:=cd h;have⟨G,F⟩:=bJ h D;clear h D;go_wp2;have y:=ja (v0:=.int .i64 k) (v1:=.int .i64 v) (v2:=.string ⟨#[]⟩) G;have⟨O,T,U⟩:=aD y;clear y H I J f0 f1 f2;exact aI (v:=.agg (dN k v ⟨#[]⟩)) (by simp[results,results189,go_sem, *]) rfl ⟨⟨_,rfl⟩,e_ F (ae _) _ _ _⟩
def zgA l r v w(h:0<=l)(D:l<=1000)(F:0<=r)(G:r<=1000):az 191 (cY (en l r v)) w fun e w'=>e=.returned (zI (l+r))/\ag w w':=by
 go_enter func191,ntmps191
 go_wp2;go_ret
 exact⟨rfl,(al _ _).alloc (ae _) _⟩
section
open Go.Maps
def zl7(w:aa)(A:ax)(D:List (List (Nat×Int))):Prop:=D=[]∨∃g,A=some ⟨g,0,none⟩/\∀(k:Nat) (L:iH),D[k]?=some L->∃b h,af w g k (.map (some b))/\w.ownsMap prog 3 (plainElem prog 3) b 3 h/\pE h L
def zeb{h:DataW Unit}(G:w.ownsMap prog 3 (plainElem prog 3) b n h)(J:ag w w'):w'.ownsMap prog 3 (plainElem prog 3) b n h:=by obtain⟨F,D,H,I⟩:=G;exact⟨F,D,ai H J,I⟩
def Ϟ(h:List (List (Nat×Int)))(w:aa)(e:Ending)(w':aa):Prop:=∃A c,e=.returned (.slice A h c)/\Fr w' w w' (fun V=>zl7 V A h)/\ag w w'
def Fc{h:DataW Unit}(G:w.ownsMap prog 3 (plainElem prog 3) b n h)(e:V.heap[b]?=w.heap[b]?):V.ownsMap prog 3 (plainElem prog 3) b n h:=by obtain⟨F,D,H,I⟩:=G;exact⟨F,D,e.t H,I⟩
def zfF{w8}{D}{L}(hb:ag w w8)(F:w8.ownsMap prog 3 (plainElem prog 3) b 3 D)(H:(w:Nat)<=b)(I:pE D L):Ϟ [L] w (.returned (.slice (bH w8) 1 1)) (w8.alloc (.cells #[.map (some b)] 167)):=by
 have G:=F.lt;refine⟨_,1,rfl,fun V hV=>au ⟨_,rfl,fun k J h=>?_⟩,hb.alloc hb.size _⟩
 match k,h with
 |0,h=>cases h;exact⟨b,D,Vz,Fc F ((hV b H QW).t (bO w8 _ G)),I⟩
 |k+1,h=>simp at h
def zl8{w8}{D F}{L G}(hb:ag w w8)(H:w8.ownsMap prog 3 (plainElem prog 3) b 3 D)(U:(w:Nat)<=b)(Z:pE D L)(I:w8.ownsMap prog 3 (plainElem prog 3) J 3 F)(Y:(w:Nat)<=J)(ab:pE F G):Ϟ [L,G] w (.returned (.slice (bH w8) 2 2)) (w8.alloc (.cells #[.map (some b),.map (some J)] 167)):=by
 have O:=H.lt;have T:=I.lt;refine⟨_,2,rfl,fun V hV=>au ⟨_,rfl,fun k ac h=>?_⟩,hb.alloc hb.size _⟩
 match k,h with
 |0,h=>cases h;exact⟨b,D,Vz,Fc H ((hV b U QW).t (bO w8 _ O)),Z⟩
 |1,h=>cases h;exact⟨J,F,by rw[bB ((hV _ hb.size Qt).t (aH w8 _ rfl)) 1];rfl,Fc I ((hV J Y QW).t (bO w8 _ T)),ab⟩
 |k+2,h=>simp at h
def zb1 e A1 A2 c1 c2 w(hI:aO w A1 (bD e.i))(hO:aO w A2 (bD e.o))(hf:e.jd=true)(hi:∀x∈e.i,x<=4096)(ho:∀x∈e.o,x<=4096)(cn:0<=e.v)(ck:e.v<=97):az 126 (cY (zj e A1 c1 A2 c2)) w (Ϟ e.zbO w):=by
 obtain⟨k,v,li,lo⟩:=e;refine Nz fun hB hq HI HO h3 Nf Ns I2=>?_
 have⟨F,Ni⟩:=aR (if 9<=k then k-6 else k);have⟨J,Nr⟩:=aR (if 9<=k then lo else li);have⟨no,Jv⟩:=aR (if 9<=k then li else lo);have bp:=zH (show(Ed.mk k v li lo).zbO=ã F v J no by unfold Ed.zbO;rw[Ni,Nr,Jv];split<;>rfl)
 have hnn:J.length=xz F/\no.length=mf F:=Y_;have a3:=zH (fun V=>vC k V);have a2:min k (Ò k)=F:=by
  rw[Ni];unfold Ò
  (repeat' split)<;>omega
 have⟨mk,bh⟩:=aR (Ò k);rw[<-bh]at a3 a2;have b4:(if mk<k then mk else k)=F:=by rw[<-a2];split<;>omega
 rw[bp.o];clear hf hI hO Ns I2 bh;obtain⟨ap,ao,ac,cc,bb,bc,ba⟩:=ß hnn (show ∀x∈J,x<=4096 by rw[Nr];split<;>assumption) (show ∀x∈no,x<=4096 by rw[Jv];split<;>assumption) Ni Nr Jv a2;clear hi ho hnn Ni Nr Jv a2 b4;go_enter func126,ntmps126
 go_upto_region 1 with(fail)
 generalize w.alloc _=W at hB hq ⊢;refine NQ fun x0 x1 x2 x3 HB HQ=>?_
 have be:=aQ x0 (aQ x1 (aQ x2 x3));clear hB hq;go_region_held3 (fun V=>af V w 0 (.int .i64 k)/\af V w 1 (.int .i64 v)/\af V w 2 (.slice A1 li c1)/\af V w 3 (.slice A2 lo c2))
  (exact be)
  ((fail))
 go_upto_if 13 with(fail)
 go_cut [3,4] from 7 (fun b8 b9 V=>∃a6 a1 a7 b1,b8=.slice a6 J a1/\b9=.slice a7 no b1/\aO V a6 (bD J)/\aO V a7 (bD no)/\bA V w (eh k v A1 li c1 A2 lo c2) 155/\ag w V)
 case first=>
  by_cases h9:9<=k
  .go_wp2_with fail
   go_meet
   have Nr:=bb.o;have Jv:=bc.o;rw[ak h9]at Nr Jv;subst Nr Jv;exact⟨A2,c2,A1,c1,rfl,rfl,HO.o _ HB.drew,HI.o _ HB.drew,HQ,HB.drew⟩
  .go_wp2_with fail
   go_meet
   have b3:¬9<=k:=Qu;have Nr:=bb.o;have Jv:=bc.o;rw[aj b3]at Nr Jv;subst Nr Jv;exact⟨A1,c1,A2,c2,rfl,rfl,HI.o _ HB.drew,HO.o _ HB.drew,HQ,HB.drew⟩
 case rest=>
  obtain⟨ce,T,ch,co,rfl,rfl,hI,hO,hq,bg⟩:=hcut;have⟨bz,a8,a9,bd⟩:=gG hq bg (fun V (hV:ag wc V)=>hI.ext hV) (fun V (hV:ag wc V)=>hO.ext hV);clear be x0 x1 x2 x3 hI hO bg HQ HB HI HO;have⟨D,y1,b5,b6⟩:=aB hq;have a4:=aQ D y1;clear D y1 b5 b6 hq;obtain⟨a5,rfl⟩:∃a5,a5=wc:=⟨wc,rfl⟩;go_upto_region 5 with(fail)
  go_cut [6] from 7 (fun ca V=>ca=.int .i64 F/\ag a5 V)
  case first=>
   go_region_held3 (fun V=>af V w 0 (.int .i64 k)/\af V w 1 (.int .i64 v))
    (exact a4)
    ((go_at_call 172;(with_reducible refine(a3.o _).x ?_);rintro e w' ⟨rfl,rfl⟩))
   all_goals go_wp2_with fail
   all_goals
    go_meet
    exact⟨oy (Value.int .i64) (by have:=ba.o;omega),aC _⟩
  case rest=>
   obtain⟨rfl,an⟩:=hcut;have⟨Ih,U,av⟩:=er (aT a8 an) (a9.o _ an) (bd.o _ an);have y1:=ar an a4.2;clear an a9 bd a4 a3 ba a8 bz;by_cases ad:F=3
   .have hnn:=ap.o;rw[ad]at hnn;obtain⟨x,rfl⟩:∃x,J=[x]:=oH.1 hnn.1;obtain⟨D,Y,rfl⟩:∃D y1,no=[D,y1]:=by
     match no,hnn.2 with
     |[a,b],_=>exact⟨a,b,rfl⟩
    subst ad;obtain⟨H,I,rfl,-⟩:=U.θ (k:=0) QM;obtain⟨Z,ab,rfl,hco⟩:=av.θ (k:=0) QM;have G:=hco 0 (D:Int) rfl;have a1:=hco 1 (Y:Int) rfl;rw[jf]at G;have O:=aQ G a1;obtain⟨JR,bo⟩:=bJ (fun V (hV:ag wc V)=>(show az 171 #[(D:Nat),.slice (some ⟨H,I,none⟩) 1 T,.int .i64 (-1)] V (Dy (Χ D [x] (-1)) V) from oU D [x] (-1) (some ⟨H,I,none⟩) T V (U.ext hV) (ac D Qt) Qt ao Qw Qw)) (fun V (hV:ag wc V)=>(show az 171 #[(Y:Nat),.slice (some ⟨H,I,none⟩) 1 T,.int .i64 (-1)] V (Dy (Χ Y [x] (-1)) V) from oU Y [x] (-1) (some ⟨H,I,none⟩) T V (U.ext hV) (ac Y Qt) Qt ao Qw Qw));rw[show([x]:bP).length=1 from rfl,show([D,Y]:bP).length=2 from rfl];clear hco G a1 hnn y1;go_wp2_with fail
    go_region_held3 (fun V=>af V Z ab (.int .i64 (D:Nat))/\af V Z (ab+1) (.int .i64 (Y:Nat)))
     (first|with_reducible exact j6 a0.o O|with_reducible exact j6 GY.o O|exact O|(with_reducible exact j6 (a0.o.alloc a0.o.size _) O))
     ((first|(go_at_call 171;(with_reducible refine(JR.o _ (aC _)).x ?_);intro e w7 h;unfold Dy at h;obtain⟨b7,D7,e7,I2,ho,hm,hb⟩:=h;subst e7;have HG7:=zH (aZ Ih.size I2);clear I2;have GY:=zH ((aC wc).t hb);have HO7:=zH ho;have HM7:=zH hm;clear hb ho hm)|(go_at_call 171;(with_reducible refine(bo.o _ GY.o).x ?_);intro e cu h;unfold Dy at h;obtain⟨ci,cb,b2,I2,ho,hm,hb⟩:=h;subst b2;have bq:=zH (aZ (aZ Ih.size GY.size) I2);clear I2;have a0:=zH (aT GY hb);have bu:=zH ho;have br:=zH hm;have bv:=zH (zeb HO7 hb);clear hb ho hm)))
    all_goals
     go_wp2_with fail
     go_ret
     exact zl8 (aT Ih a0) bv HG7 HM7 bu bq br
   by_cases ah:F=5
   .have hnn:=ap.o;rw[ah]at hnn;obtain⟨D,rfl⟩:∃x,no=[x]:=oH.1 hnn.2;obtain⟨x0,x1,rfl⟩:∃D y1,J=[D,y1]:=by
     match J,hnn.1 with
     |[a,b],_=>exact⟨a,b,rfl⟩
    subst ah;obtain⟨H,I,rfl,-⟩:=U.θ (k:=0) QM;obtain⟨Z,ab,rfl,hco⟩:=av.θ (k:=0) QM;have G:=hco 0 (D:Int) rfl;rw[jf]at G;have JR:=zH (fun V (hV:ag wc V)=>(show az 171 #[(D:Nat),.slice (some ⟨H,I,none⟩) 2 T,.int .i64 (-1)] V (Dy (Χ D [x0,x1] (-1)) V) from oU D [x0,x1] (-1) (some ⟨H,I,none⟩) T V (U.ext hV) (ac D Qt) Qt ao Qw Qw));rw[show([x0,x1]:bP).length=2 from rfl,show([D]:bP).length=1 from rfl];exact Zp
   by_cases am:F=6
   .have hnn:=ap.o;rw[am]at hnn;obtain⟨D,rfl⟩:∃x,no=[x]:=oH.1 hnn.2;subst am;obtain⟨Z,ab,rfl,hco⟩:=av.θ (k:=0) QM;have G:=hco 0 (D:Int) rfl;rw[jf]at G;have JR:=zH (fun V (hV:ag wc V)=>(show az 171 #[(D:Nat),dE,()] V (Dy (Χ D [] 0) V) from oU D [] 0 none 0 V (ay rfl) (ac D Qt) Qt Qt Qw Qw));rw[show([D]:bP).length=1 from rfl];exact Zp
   by_cases e7:F=7
   .have hnn:=ap.o;rw[e7]at hnn;obtain⟨D,rfl⟩:∃x,no=[x]:=oH.1 hnn.2;obtain⟨x0,rfl⟩:∃x,J=[x]:=oH.1 hnn.1;subst e7;obtain⟨H,I,rfl,-⟩:=U.θ (k:=0) QM;obtain⟨Z,ab,rfl,hco⟩:=av.θ (k:=0) QM;have G:=hco 0 (D:Int) rfl;rw[jf]at G;have O:=aQ G y1;dsimp only at cn ck;have⟨u,bi⟩:=aR (-v);have cj:IntKind.i64.wrap (-v)=u:=Rt;obtain⟨b0,JR⟩:=bJ bi (fun V (hV:ag wc V)=>(show az 171 #[(D:Nat),.slice (some ⟨H,I,none⟩) 1 T,u] V (Dy (Χ D [x0] u) V) from oU D [x0] u (some ⟨H,I,none⟩) T V (U.ext hV) (ac D Qt) Qt ao Qu Qu));rw[show([x0]:bP).length=1 from rfl,show([D]:bP).length=1 from rfl];clear hco G hnn y1 bi;go_wp2_with fail
    go_region_held3 (fun V=>af V Z ab (.int .i64 (D:Nat))/\af V w 1 (.int .i64 v))
     (first|with_reducible exact j6 GY.o O|exact O|(with_reducible exact j6 (GY.o.alloc GY.o.size _) O))
     ((go_at_call 171;(with_reducible refine(JR.o _ (aC _)).x ?_);intro e w7 h;unfold Dy at h;obtain⟨b7,D7,e7,I2,ho,hm,hb⟩:=h;subst e7;have HG7:=zH (aZ Ih.size I2);clear I2;have GY:=zH ((aC wc).t hb);have HO7:=zH ho;have HM7:=zH hm;clear hb ho hm))
    all_goals
     go_wp2_with fail
     go_ret
     have h:=zfF (aT Ih GY) HO7 HG7 HM7;rw[b0.o]at h;exact h
   have cp:(F==3)=false:=by simpa using ad
   have cq:(F==5)=false:=by simpa using ah
   have cr:(F==6)=false:=by simpa using am
   have ct:(F==7)=false:=by simpa using e7
   have bn:=zH (by unfold ã;rw[aj ad,aj ah,aj am,aj e7]:ã F v J no=[]);clear ad ah am e7 y1;go_wp2;go_ret
   rw[bn.o];exact⟨none,0,rfl,Fr.all fun _=>ay rfl,Ih⟩
end
section
open Go.Maps
def vV(Jf:o.guard=none)s x(J:o.op=.call {callee:=.builtin .append,args:=#[s,x],argTypes:=#[55,55]})B h W v u rows r(O:aY h B v rows)(H:ag h W)(U:aE W h u r)(I:rows.length+1<=1073741824)(G:B<=(h:Nat))(T:a.eval s=v)(Y:a.eval x=.slice (bH W) 1 1)(D:∀g ε w',aY w' B (.slice (bH g) (rows.length+1) ε) (rows++[r])->Below B h w'->(W:Nat)<=w'.heap.size->(∀k,k < (W:Nat)->some k≠v.ownBlock->w'.heap[k]?=W.heap[k]?)->(v.ownBlock=some g∨(W:Nat)<=g)->wpList prog ops Q rest (a.put o.dst (.slice (bH g) (rows.length+1) ε)) w'):wpList prog ops Q (o::rest) a (W.alloc (.cells #[u] 26)):=
 l7 Jf fun K hK=>by have F:=uW (ops:=ops) (E:=True) (K:=K) (Q:=Q) Jf s x J B h W v u rows r O H U I G T Y (fun g ε w' a b c d e=>hK _ _ (D g ε w' a b c d e));rwa[ak Tz]at F
def znf(H:2<=p)(hk:k<N)(G:y<N)(F:k≠y):(kg N k).set y (p-1)=iE p N [(k,1),(y,p-1)]:=by
 have h:(List.replicate N (0:Int)).getD k 0=0:=by rw[bf,fI,ak hk];rfl
 have D:((List.replicate N (0:Int)).set k 1).getD y 0=0:=by rw[Ch Rj,aj F,bf,fI,ak G];rfl
 show((List.replicate N (0:Int)).set k 1).set y (p-1)=((List.replicate N (0:Int)).set k (((List.replicate N (0:Int)).getD k 0+1)%p)).set y ((((List.replicate N (0:Int)).set k (((List.replicate N (0:Int)).getD k 0+1)%p)).getD y 0+(p-1))%p)
 rw[h,show((0:Int)+1)%p=1 from nq Qu Qu,D,uQ,nq Qu Qu]
def Fb(p:Int)(f_ n:Nat)(L:iH)(left:Lit->Bool):List Int:=zR f_ ((List.range n).map fun d:Nat=>if left (.int .i64 d)=true then 0 else iD L d%p)
def zY{f_}{L}{left}:(Fb p f_ n L left).length=f_+n:=by simp[Fb,zR]
def zfE{f_}{L}{D}(F:pE D L):Fb p f_ n L (Maps.has D)=List.replicate (f_+n) 0:=by
 unfold Fb zR;rw[<-List.replicate_append_replicate];congr 1
 refine gk fun d=>?_
 rw[bI,fI];by_cases h:d<n
 .rw[iy h,ak h]
  show some (if Maps.has D (.int .i64 (d:Int))=true then(0:Int) else iD L d%p)=some 0
  rw[F.h d];split
  .rfl
  .rename_i hk;rw[AT Rj];simp
 .rw[eP (by simpa using h),aj h];rfl
def zh3{f_}{L}{left}(F:x<n):(Fb p f_ n L left).set (f_+x) (iD L x%p)=Fb p f_ n L (fun z=>left z&&!z.sameKey (.int .i64 x)):=by
 have h:(List.replicate f_ (0:Int)).length=f_:=fA ..;unfold Fb zR;rw[om _ _ (by rw[h];omega),h,iY];congr 1
 refine gk fun d=>?_
 rw[pV,bI,bs,fK];by_cases D:d<n
 .rw[bI,iy D];by_cases e:x=d
  .subst e;rw[ak rfl,ak F];have:(Lit.int .i64 (x:Int)).sameKey (.int .i64 x)=true:=by simp[Lit.sameKey]
   simp[this]
  .rw[aj e];have:(Lit.int .i64 (d:Int)).sameKey (.int .i64 x)=false:=by simp[Lit.sameKey];omega
   simp[this]
 .have:x≠d:=Qu;rw[bI,eP (by simpa using D),aj this];rfl
def zjV{f_}{L}{left}(h:∀D,left D=false):Fb p f_ n L left=zR f_ (pj p n L):=by unfold Fb pj;simp[h]
def zkU(F:2<=p)(h:∀L∈e.G p,∀q∈L,q.1<g.w):eR p g e=(e.zbO.map (pj p g.w)).map (zR g.f_):=by
 unfold eR;rw[<-Ed.zdO];congr 1
 exact kB fun L D=>zhP F (h L D)
def zkV{L}(h:È L x=true):∃q∈L,q.1=x:=by unfold È at h;rw[nl]at h;obtain⟨q,D,e⟩:=h;exact⟨q,D,by simpa using e⟩
def zkW{M}(G:e.jd=true)(hi:∀x∈e.i,x<n)(U:∀x∈e.o,x<n)(ah:1<=M)(am:0<=e.v/\e.v<=M):∀L∈e.zbO,L.length<=3/\∀q∈L,q.1<n/\-M<=q.2/\q.2<=M:=by
 have gen:∀(k:Int) (i o:bP),xz k<=i.length->mf k<=o.length->(∀x∈i,x<n)->(∀x∈o,x<n)->∀L∈ã k e.v i o,L.length<=3/\∀q∈L,q.1<n/\-M<=q.2/\q.2<=M:=by
  intro k i o H I ac ad L h;have gi:∀j,j<i.length->i.getD j 0<n:=fun j T=>ac _ (ku T)
  have go:∀j,j<o.length->o.getD j 0<n:=fun j T=>ad _ (ku T)
  unfold ã at h;unfold xz at H;unfold mf at I;split at h
  .rename_i F;subst F;simp at H I;simp only[et,gJ,gX]at h;rcases h with rfl|rfl
   all_goals
    refine⟨Qt,fun q D=>?_⟩;simp only[et,gJ,gX]at D;rcases D with rfl|rfl
    .exact WU
    .exact WT
  split at h
  .rename_i F;subst F;simp at H I;simp only[et,gJ,gX]at h;subst h;refine⟨Qt,fun q D=>?_⟩;simp only[et,gJ,gX]at D;rcases D with rfl|rfl|rfl
   .exact WU
   .exact WT
   .exact WT
  split at h
  .rename_i F;subst F;simp at H I;simp only[et,gJ,gX]at h;subst h;refine⟨Qt,fun q D=>?_⟩;simp only[et,gJ,gX]at D;subst D;exact WU
  split at h
  .rename_i F;subst F;simp at H I;simp only[et,gJ,gX]at h;subst h;refine⟨Qt,fun q D=>?_⟩;simp only[et,gJ,gX]at D;rcases D with rfl|rfl
   .exact WU
   .exact WT
  .simp at h
 obtain⟨k,v,an,lo⟩:=e;dsimp only at *;unfold Ed.jd at G;simp only[bN,cf]at G;have⟨Y,Z⟩:=vU (v:=v) G.2.1;have J:=G.2.2.1;have O:=G.2.2.2;try dsimp only at J O
 rw[Y]at J;rw[Z]at O;have ab:=CK G.1;try dsimp only at ab
 unfold Ed.zbO;try dsimp only
 split
 .refine gen _ _ _ ?_ ?_ U hi
  .rw[O];unfold xz BC
   (repeat' split)<;>omega
  .rw[J];unfold mf BB
   (repeat' split)<;>omega
 .refine gen _ _ _ ?_ ?_ hi U
  .rw[J];unfold xz BB
   (repeat' split)<;>omega
  .rw[O];unfold mf BC
   (repeat' split)<;>omega
end
section
open Go.Proofs.Tryz Go.ChangeShapes Go.WideShapes Go.ChangeAt Go.Deep Go.Joins
def Ň:prog.cellsOf 9=1:=QT
def ń:prog.cellsOf 4=1:=QT
def zae:prog.cellsOf 88=3:=QT
def zei:prog.cellsOf 22=1:=QT
def zej:prog.cellsOf 25=1:=QT
def zgB:prog.cellsOf 24=1:=QT
def zbe:prog.cellsOf 28=6:=QT
section
variable{H:Type}{enc:TypeId×Value->H}{W:aa}
def zlh{cs}{y}(ab:DataW.trod enc prog W 0 (fun _=>true) true J 88 cs=some y):∃x:eE,cs=[.int .i64 x.k,.int .i64 x.v,.string x.s]/\x.s.size<=maxLen:=by
 have⟨xs,n,_,_,ac,ad,G⟩:=CZ underlying88 ab;obtain⟨v0,v1,v2,rfl⟩:∃v0 v1 v2,cs=[v0,v1,v2]:=by
  match cs,ac.t zae with
  |[v0,v1,v2],_=>exact⟨v0,v1,v2,rfl⟩
 obtain⟨h,D,F,rfl⟩:∃h D F,xs=[h,D,F]:=by
  match xs,ad with
  |[h,D,F],_=>exact⟨h,D,F,rfl⟩
 have U:=G 0 _ rfl;have Y:=G 1 _ rfl;have Z:=G 2 _ rfl;simp only[mT,Ň,Value.cells,C0,Ċ,w_,oq,dA,dm]at U Y Z;have⟨k,I,_,_⟩:=uw fL U;have⟨a,O,_,_⟩:=uw fL Y;have⟨s,T,_,ah⟩:=DataW.trod_string underlying9 Z;simp[mT,Ň]at I O T;subst I O T;exact⟨⟨k,a,s⟩,rfl,ah⟩
def zio{x}(G:DataW.trod enc prog W 0 (fun _=>true) true J 22 [v]=some x):∃(A:ax) (L:List eE) (ε:Nat),v=.slice A L ε/\bR 3 jK W A L/\L.length<=maxLen/\∀x∈L,x.s.size<=maxLen:=by
 rcases open_slice underlying22 G with⟨G_,_⟩|⟨a,ι,ε,m,n,ao,ap,G_,_,av,a1,ad,_,hi⟩
 .exact Yg
 .obtain rfl:v=.slice (some a) ι ε:=RE;have a0:ι<=m:=by rw[ad];split<;>omega
  have D:∀i,∃x:eE,i<ι->(∀(j:Nat) (y:aG),[Value.int .i64 x.k,.int .i64 x.v,.string x.s][j]?=some y->W.cell? (a.add (i*3+j))=some y)/\x.s.size<=maxLen:=fun i=>by
   by_cases Z:i<ι
   .obtain⟨cs,O,am⟩:=hi i Qu;rw[zae]at O;obtain⟨x,rfl,h1⟩:=zlh am;have⟨_,_,Y⟩:=World.cells?_some O;refine⟨x,fun _=>⟨fun j y F=>?_,h1⟩⟩;have ab:j<3:=(bG.1 F).1;rw[<-Go.Deep.add_add,Y j ab,F]
   .exact⟨⟨0,0,ByteArray.mk #[]⟩,fun G=>absurd G Z⟩
  obtain⟨X,I⟩:∃X:Nat->eE,∀i,i<ι->(∀(j:Nat) (y:aG),[Value.int .i64 (X i).k,.int .i64 (X i).v,.string (X i).s][j]?=some y->W.cell? (a.add (i*3+j))=some y)/\(X i).s.size<=maxLen:=
   ⟨fun i=>Classical.choose (D i),fun i=>Classical.choose_spec (D i)⟩
  have ac:((List.range ι).map X).length=ι:=Qt;refine⟨some a,(List.range ι).map X,ε,by rw[ac],?_,Qu,fun r hr=>?_⟩
  .by_cases U:ι=0
   .subst U;exact ay rfl
   .obtain⟨b,o,an⟩:=a;have ah:an=none:=by obtain⟨h1,_⟩:=I 0 Qu;exact WL
    subst ah;refine au ⟨b,o,rfl,fun k x h=>?_⟩;have T:k<ι:=by have:=(bG.1 h).1;omega
    have D:x=X k:=by simpa[T]using h.q
    subst D;obtain⟨h1,_⟩:=I k T;refine⟨_,fun j y F=>?_,rfl⟩;have:=h1 j y F;rwa[add_plain,<-ow]at this
  .obtain⟨k,h,rfl⟩:=cH.1 hr;exact(I k (fj.1 h)).2
def CC{d}{p}(Y:Value.okWide prog W .any J 24 v)(F:DataW.Trod enc prog W 0 (fun _=>true) true 24 v d p):∃(A:ax) (L:List eE) (ε:Nat),v=.agg (aV A L ε)/\bR 3 jK W A L/\L.length<=maxLen/\∀x∈L,x.s.size<=maxLen:=by
 obtain⟨⟨l⟩,rfl,U⟩:=okWide_struct underlying24 Y;obtain⟨Z,G⟩:=F;obtain⟨v0,rfl⟩:∃v0,l=[v0]:=by
  match l,U.t zgB with
  |[v0],_=>exact⟨v0,rfl⟩
 have⟨xs,n,_,_,_,O,I⟩:=CZ underlying24 G;obtain⟨h,rfl⟩:∃h,xs=[h]:=by
  match xs,O with
  |[h],_=>exact⟨h,rfl⟩
 have D:=I 0 _ rfl;simp only[zei,Value.cells,C0,w_,oq,dA]at D;obtain⟨A,L,ε,rfl,T⟩:=zio D;exact⟨A,L,ε,rfl,T⟩
def Dn{d}{p}(be:Value.okWide prog W .any J 28 v)(a6:DataW.Trod enc prog W 0 (fun _=>true) true 28 v d p):∃(b:Bool) (A:ax) (xs:List j8) (ε:Nat) (ao:Int) (I:ax) (D:aL) (ah:Nat) (O:ax) (F:aL) (am:Nat) (T:ax) (G:aL) (an:Nat),v=.agg (iK b A xs ε ao I D ah O F am T G an)/\(iS W A xs/\xs.length<=maxLen/\∀x∈xs,x.row.length<=maxLen)/\(aO W I D/\D.length<=maxLen)/\(aO W O F/\F.length<=maxLen)/\aO W T G/\G.length<=maxLen:=by
 obtain⟨⟨l⟩,rfl,bd⟩:=okWide_struct underlying28 be;obtain⟨bh,a7⟩:=a6;obtain⟨v0,v1,v2,v3,v4,v5,rfl⟩:∃v0 v1 v2 v3 v4 v5,l=[v0,v1,v2,v3,v4,v5]:=by
  match l,bd.t zbe with
  |[v0,v1,v2,v3,v4,v5],_=>exact⟨v0,v1,v2,v3,v4,v5,rfl⟩
 have⟨xs,n,_,_,_,a8,h⟩:=CZ underlying28 a7;obtain⟨U,Y,Z,ab,ac,ad,rfl⟩:∃U Y Z ab ac ad,xs=[U,Y,Z,ab,ac,ad]:=by
  match xs,a8 with
  |[U,Y,Z,ab,ac,ad],_=>exact⟨U,Y,Z,ab,ac,ad,rfl⟩
 have a0:=h 0 _ rfl;have a1:=h 1 _ rfl;have a2:=h 2 _ rfl;have a3:=h 3 _ rfl;have a4:=h 4 _ rfl;have a5:=h 5 _ rfl;simp only[mT,ţ,ń,zej,Value.cells,C0,Ċ,w_,oq,dA,dm]at a0 a1 a2 a3 a4 a5;have⟨b,ap,_⟩:=DataW.trod_bool underlying4 a0;obtain⟨A,bg,ε,rfl,a9⟩:=ziH a1;have⟨ao,av,_,_⟩:=uw fL a2;obtain⟨I,D,ah,rfl,ba⟩:=CF a3;obtain⟨O,F,am,rfl,bb⟩:=CF a4;obtain⟨T,G,an,rfl,bc⟩:=CF a5;simp[mT,ń]at ap av;subst ap av;exact⟨b,A,bg,ε,ao,I,D,ah,O,F,am,T,G,an,rfl,a9,ba,bb,bc⟩
end
end
end Go.Proofs.YtpieilkmmiopfaaGreatDoor
