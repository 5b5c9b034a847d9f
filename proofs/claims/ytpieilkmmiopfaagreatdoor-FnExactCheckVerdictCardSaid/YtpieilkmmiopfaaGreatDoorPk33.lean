/- Parts of the walks. Conditions: as stated with each. -/
import Derived.Test.YtpieilkmmiopfaaGreatDoorPk24
import Derived.Test.YtpieilkmmiopfaaGreatDoorPk31
import Derived.Test.YtpieilkmmiopfaaGreatDoorPk32
namespace Go.Proofs.YtpieilkmmiopfaaGreatDoor
open Go.RowKit Tryz
set_option linter.all false
set_option maxHeartbeats 4000000
set_option maxRecDepth 100000
variable{A:ax}{c k n:Nat}{p:Int}{w:aa}{xs:aL}
def zeI g(us F:bP)A1 A2 A3 O T c1 c2 c3 ah am w(an:jV w A1 A2 A3 g)(a4:px g)(a0:us.length=F)(D:us.length<=4096)(ap:aO w O (bD us))(av:aO w T (bD F))(a1:∀x∈us,x<g.w)(a2:∀x∈F,x<g.w):az 155 #[.agg (bj g A1 c1 A2 c2 A3 c3),.slice O us ah,.slice T F am] w (yB (js g (us.zip F)) w):=by
 have Y:=zH (fun V (Z:ag w V)=>zcs g us F A1 A2 A3 O T c1 c2 c3 ah am V (an.ext Z) a4 a0 D (ap.ext Z) (av.ext Z) a1 a2);refine Oq fun hB hq hr=>?_
 have⟨h,ao⟩:=aR (js g (us.zip F));unfold zlg at Y;rw[<-ao]at Y ⊢;clear an a4 a0 D ap av a1 a2 ao;go_enter func155,ntmps155
 go_upto_region 1 with(fail)
 generalize (w.alloc _).alloc _=W at hB hq hr ⊢;have⟨a6,a7,a8,a9⟩:=aB hq;obtain⟨U,be,ad⟩:=er hB hr (show(w:Nat)+1<W from(bk.1 hr).1);clear hB hr hq;go_upto_region 2 with(go_at_call 200;(with_reducible refine(Y.o _ U.o).x ?_);intro e a5 bi;obtain⟨G,d1,H,d2,I,d3,B,bq,bu,br,bh,a3,ab⟩:=bi;subst bh;have bc:=zH a3;have ba:=zH ab;have bg:=zH (ai be ab);clear a3 ab)
 clear a6 a7 a8 a9;have⟨D,ac⟩:=bM a5 (.cells (bj h G d1 H d2 I d3) 54);generalize a5.alloc _=b2 at D ac ⊢;have⟨a6,a7,a8,a9⟩:=aB ac;have J:=ai bg D;have⟨bv,bz,b0,b1⟩:=aB J;have⟨f0,f1,f2,f3⟩:=cN J;have y:=cP (v0:=.int .i64 (h.w:Nat)) (v1:=.slice G h.es d1) (v2:=.slice H h.i d2) (v3:=.slice I h.o d3) J;have⟨bn,bo,z2,bp⟩:=aB y;unfold dQ at bn bo z2 bp;have⟨bd,bb⟩:=bJ (bc.ext D) (bY (U.t ((aT ba D).x U.size)) (b:=(w:Nat)+1) Qu (zI (h.w:Nat)) (.slice G h.es d1) (.slice H h.i d2) (.slice I h.o d3));clear D ac J y;go_wp2;exact aI (v:=.agg (bj h G d1 H d2 I d3)) (by simp[results,results155,go_sem, *]) rfl ⟨G,d1,H,d2,I,d3,B,rfl,(bd.dQ ad).x (ix (pU ad)),bb⟩
def ziN(A:ax)(c l:Nat):Option Addr:=if c=l then A else A.map (fun x=>x.add l)
def zcR(h:aO w A xs)(F:xs.length<=c)l:aO w (ziN A c l) (xs.drop l):=by
 unfold ziN;split
 .rename_i e;exact ay (jR Qu)
 .cases A with
  |none=>
   rcases h with h|⟨b,o,e,-⟩
   .exact V_
   .cases e
  |some p=>
   rcases h with h|⟨b,o,e,D⟩
   .exact V_
   .cases e
    have:=mR (au ⟨b,o,rfl,D⟩:aO w (some ⟨b,o,none⟩) xs) l;rw[ox,dF];exact this
def zcS{a b}(G:a.B=true)(H:b.B=true):px (jD a b):=by
 have O:=Gr.iT.1 G;have T:=Gr.iT.1 H;have F:=px.of G;have sb:=px.of H;refine⟨vw F.inr sb.inr,?_,?_,?_,?_,?_⟩
 .show a.w+b.w<=4096;omega
 .show(fG a b).length<=4096
  unfold fG;rw[bm,bs];omega
 .exact F.i
 .show(b.o.map _).length<=4096;rw[bs];exact sb.o
 .intro e J;rcases dP.1 (show e∈a.es++b.es.map _ from J)with D|D
  .exact F.el e D
  .obtain⟨h,I,rfl⟩:=cH.1 D;have:=sb.el h I
   show(h.i.map _).length<=4096/\(h.o.map _).length<=4096
   rw[bs,bs];exact this
def zgT a b A1 A2 A3 D1 D2 D3 c1 c2 c3 d1 d2 d3 w(bd:a.B=true)(I:b.B=true)(dq:a.o.length=b.i)(dc:jV w A1 A2 A3 a)(dl:jV w D1 D2 D3 b):az 108 (iV (bj a A1 c1 A2 c2 A3 c3) (bj b D1 d1 D2 d2 D3 d3)) w (yB (pK a b) w):=by
 have⟨cV,cK⟩:=bJ (fun(V:aa) (ab:ag w V)=>zg a b A1 A2 A3 D1 D2 D3 c1 c2 c3 d1 d2 d3 V (px.of bd) (px.of I) (dc.ext ab) (dl.ext ab)) dq;have cA:=px.of bd;have sb:=px.of I;obtain⟨eA,b7,ev⟩:=er (zcS bd I) (show a.o.length<=4096 from cA.o) (show ∀x∈a.o,x<a.w+b.w from fun x cu=>by have:=cA.inr x (au (ay cu));omega);have es:=zH (show ∀x∈b.i.map (· +a.w),x<a.w+b.w from fun x cu=>by obtain⟨y,fb,rfl⟩:=cH.1 cu;have:=sb.inr y (ay fb);omega);refine PX fun H7 q0 q1 q2=>?_
 have⟨d9,d4⟩:=aR ((ls a b).es.length);have⟨a2,cp⟩:=aR ((ls a b).i.length);have⟨T,cq⟩:=aR ((ls a b).o.length);have⟨n,bi⟩:=aR a.i.length;have⟨m,bh⟩:=aR a.o.length;have fa:n<=a2:=by rw[bi,cp];show _<=(a.i++_).length;rw[bm];omega
 have e9:m<=T:=by rw[bh,cq];show _<=(a.o++_).length;rw[bm];omega
 have⟨c0,a6,a7,ao,an⟩:=pD d4 cp cq bi bh;rw[<-bi,<-bh]at H7 q0 q1 q2 cV ⊢;clear dc dl bd I dq cA sb d4 cp cq bi bh;go_enter func108,ntmps108
 go_upto_region 1 with(fail)
 generalize ((w.alloc _).alloc _).alloc _=W at H7 q0 q1 q2 ⊢;have eg:=zH (show(w:Nat)+1+1<W from(bk.1 q2).1);have⟨fc,fd,bu,bv⟩:=aB q0;have⟨fl,fo,fs,fx⟩:=aB q1;have⟨am,e3,e4⟩:=er H7 q0 q2;clear H7 q0 q1 q2;go_upto_region 2 with(go_at_call 154;(with_reducible refine(cV.o _ am.o).x ?_);intro e cB D;unfold zlC at D;obtain⟨b0,c9,G,F,Y,H,ce,cn,dO,dr⟩:=D;rw[<-c0.o,<-a6.o,<-a7.o]at ce;rw[<-a6.o,<-a7.o]at cn;subst ce;have a5:=zH cn;have ek:=zH dO;have cO:=zH dr;clear cn dO dr)
 have⟨be,cr⟩:=bM cB (.cells (nh ((ls a b).w:Nat) b0 d9 c9 G a2 F Y T H) 54);clear fc fd bu bv fl fo fs fx;have⟨b1,a4,ba⟩:=er (ek.ext be (ae _)) (aT cO be) cO.size;generalize cB.alloc _=a3 at be cr b1 a4 ⊢;obtain⟨-,-,bu,bv⟩:=aB (ai e3 a4);have b8:=aQ bu bv;have b5:=zH cr;clear bu bv be cr;go_region_held3 (fun V=>af V w 2 (.slice A2 n c2)/\af V w 3 (.slice A3 m c3))
  (first|with_reducible exact b8|with_reducible exact j6 (aC _) b8)
  ((fail))
 have b3:=zH ((b1.ext (aC a3) (ix (bk.1 b5).1)).D);have J:=ai b5 (aC a3);have⟨b2,c5,cR⟩:=er (b1.ext (aC a3) (ix (bk.1 b5).1)) (ai (ai e4 a4) (aC a3)) (am.t ((a4.drew).x am.size));have⟨U,d6⟩:=aR a3.drew;rw[<-d6]at b3 J cR b2 c5 ⊢;have⟨h,cz⟩:=aR cB.heap.size;rw[<-cz]at J b2 ba ⊢;have⟨c8,f4⟩:=bJ J cz;have c4:=zH (fun V (ab:ag U V)=>iR Y H (bD a.o) V (by
  have D:=lL (b3.o.o.ext ab) m;rw[show bD (ls a b).o=bD a.o++bD (b.o.map (· +a.w)) from jr _ _,an.o,List.take_left' (aS _)]at D;exact D) (by rw[aS];have:=b7.o;omega))
 have b6:=zH (fun V (ab:ag U V)=>iR (ziN G F n) (F-n) (bD (b.i.map (· +a.w))) V (by
  have D:=zcR (b3.i.ext ab) (c:=F) (by rw[aS,<-a6.o];exact a5.1) n;rw[show bD (ls a b).i=bD a.i++bD (b.i.map (· +a.w)) from jr _ _,ao.o,List.drop_left' (aS _)]at D;rw[ao.o];exact D) (by rw[aS,bs];have:=b7.o;have:=cK.o;omega))
 have cW:=zH (show(bD a.o).length=m from(aS _).t an.q);have b4:=zH (show(bD (b.i.map (· +a.w))).length=a2-n by rw[aS,bs,a6.o,ao.o];show _=(a.i++b.i.map _).length-_;rw[bm,bs];omega);rw[cW.o]at c4;rw[b4.o]at b6;have f5:n<=F:=aZ fa a5.1;have f6:m<=H:=aZ e9 a5.2;obtain⟨-,-,z2,bz⟩:=aB J;have ap:=aQ z2 bz;clear z2 bz b8 J d6 cz;go_upto_region 3 with(fail)
 obtain⟨X3,cj⟩:=aR (ziN Y H m);have⟨e5,ci⟩:=aR (ziN G F n);have e2:=zH cj;rw[<-ci]at b6;have e7:(if F=n then G else Option.map (fun x=>x.add n) G)=e5:=ci.q;have e8:(if H=m then Y else Option.map (fun x=>x.add m) Y)=X3:=cj.q;clear ci cj;go_region_held3 (fun V=>af V h 2 (.slice G a2 F)/\af V h 3 (.slice Y T H))
  (first|with_reducible exact ap|with_reducible exact j6 (aC _) ap|with_reducible exact j6 a8.o ap|with_reducible exact j6 a9.o ap)
  ((first|(go_at_call 70;(with_reducible refine(c4.o _ (aC U)).x ?_);rintro e gi ⟨u7,rfl,a0,I⟩;have a8:=zH ((aC U).t (I.x (aC U).size));have eB:=zH a0;clear a0 I)|(go_at_call 70;(with_reducible refine(b6.o _ a8.o).x ?_);rintro e ea ⟨u8,rfl,a0,I⟩;have a9:=zH (aT a8 I);have e1:=zH (a0.x a8.size);have e0:=zH ((eB.ext I));clear a0 I)))
 have bo:=ai c8 a9;have⟨bp,bq,p2,br⟩:=aB bo;have⟨b9,ca,cb,cc⟩:=cN bo;go_upto_region 5 with(fail)
 have Z:=bE ea h 2 _ _ (.slice G n F) bo;simp only[zA]at Z;clear bp bq p2 br b9 ca cb cc;have⟨cI,ct⟩:=aR (ea.setCell ⟨h,2,none⟩ (.slice G n F));rw[<-ct]at Z ⊢;have c7:=zH ct;have⟨bp,bq,p2,br⟩:=aB Z;have⟨b9,ca,cb,cc⟩:=cN Z;clear ct bo;go_upto_region 6 with(fail)
 have bb:=bE cI h 3 _ _ (.slice X3 (T-m) (H-m)) Z;simp only[zA]at bb;clear bp bq p2 br b9 ca cb cc;have a1:h < (U:Nat):=(bk.1 c8).1;have co:∀k,k<h->(cI.setCell ⟨h,3,none⟩ (.slice X3 (T-m) (H-m))).heap[k]?=U.heap[k]?:=fun k D=>by refine(a_ _ _ _ _ (by show k≠h;omega)).t ?_;rw[c7.o];exact(a_ _ _ _ _ (by show k≠h;omega)).t (a9.block k Qu)
 have av:=(b2.y (fun k ce e6=>co k e6)).D;have ad:=e0.setCell (a:=⟨h,2,none⟩) (show h < (U.drew:Nat) from a1) (.slice G n F);have ah:=e1.setCell (a:=⟨h,2,none⟩) a1 (.slice G n F);have ac:=(aT cR a9).setCell (p:=⟨h,2,none⟩) (by show(w:Nat)<=h;have:=am.size;have:=ba.o;omega) (.slice G n F);rw[<-c7.o]at ad ah ac
 replace ad:=ad.setCell (a:=⟨h,3,none⟩) (show h < (U.drew:Nat) from a1) (.slice X3 (T-m) (H-m))
 replace ah:=ah.setCell (a:=⟨h,3,none⟩) a1 (.slice X3 (T-m) (H-m))
 replace ac:=ac.setCell (p:=⟨h,3,none⟩) (by show(w:Nat)<=h;have:=am.size;have:=ba.o;omega) (.slice X3 (T-m) (H-m))
 have bn:=(co _ (by have:=eg.o;have:=ba.o;omega)).t c5;generalize cI.setCell ⟨h,3,none⟩ _=cF at bb av ad ah ac bn ⊢;obtain⟨eb,f7,db,d7,-⟩:=ad.p;rw[cW.o]at db;subst db;obtain⟨ee,f8,bc,d8,-⟩:=ah.p;rw[b4.o]at bc;subst bc;have dT:jV cF b0 G X3 (jD a b):=by
  refine⟨av.es,?_,?_⟩
  .have D:=lL av.i n;rw[show bD (ls a b).i=bD a.i++bD (b.i.map (· +a.w)) from jr _ _,ao.o,List.take_left' (aS _)]at D;exact D
  .have D:=zcR av.o (c:=H) (by rw[aS,<-a7.o];exact a5.2) m;rw[<-e2.o,show bD (ls a b).o=bD a.o++bD (b.o.map (· +a.w)) from jr _ _,an.o,List.drop_left' (aS _)]at D;exact D
 have bg:=zeI (jD a b) a.o (b.i.map (· +a.w)) b0 G X3 eb ee c9 F (H-m) f7 f8 cF dT eA (by rw[bs];exact cK) b7 d7 d8 ev es;have d0:(jD a b).o.length=T-m:=by
  rw[a7.o,an.o]
  show(b.o.map _).length=(a.o++b.o.map _).length-_
  rw[bm];omega
 rw[d0,show(jD a b).es.length=d9 from c0.o.q,show(jD a b).i.length=n from ao.o.q,show(b.i.map (· +a.w)).length=a2-n by rw[<-aS];exact b4,<-an.o,show(jD a b).w=(ls a b).w from rfl,show js (jD a b) (a.o.zip (b.i.map (· +a.w)))=pK a b from rfl]at bg;have⟨O,ch⟩:=aR (pK a b);rw[<-ch]at bg ⊢;obtain⟨em,eo,ei,ez,c6⟩:=pD ch bg ac bn (show(w:Nat)+1+1<cF from(bk.1 bn).1);have⟨bp,bq,p2,br⟩:=aB bb;clear dT bg d0 ac bn d7 d8 ad ah av co a1 bb Z ch ap e7 e8;go_wp2_with ((go_at_call 155;(with_reducible refine eo.o.x ?_);intro e gd D;unfold yB at D;obtain⟨D1,d1,D2,d2,D3,d3,B,bc,d5,ck⟩:=D;subst bc;have J:=ai ez ck;have⟨f9,ga,gb,gc⟩:=aB J;have⟨f0,f1,f2,f3⟩:=cN J;have y:=cP (v0:=.int .i64 (O.w:Nat)) (v1:=.slice D1 O.es d1) (v2:=.slice D2 O.i d2) (v3:=.slice D3 O.o d3) J;have⟨fy,fz,z2,bz⟩:=aB y;unfold dQ at fy fz z2 bz;have ey:=zH d5;have ej:=zH (bY (aT ei ck) (b:=(w:Nat)+1+1) Qu (zI (O.w:Nat)) (.slice D1 O.es d1) (.slice D2 O.i d2) (.slice D3 O.o d3));clear J y d5 ck))
 refine aI (v:=.agg (bj O D1 d1 D2 d2 D3 d3)) (by simp[results,results108,go_sem, *]) rfl ?_;have e:=em.o;subst e;exact⟨D1,d1,D2,d2,D3,d3,B,rfl,(ey.dQ (b:=(w:Nat)+1+1) c6).x (ix (pU (pU c6))),ej⟩
structure O4(B:Nat)(V:aa)(v1 v2 v3 v4:aG)(l1 l2 l3 l4:aL):Prop where
 o1:bw 3 1 EI V B v1 l1
 o2:bw 3 1 EI V B v2 l2
 o3:bw 3 1 EI V B v3 l3
 o4:bw 3 1 EI V B v4 l4
 Ρ:∀g,v1.ownBlock=some g->v2.ownBlock≠some g
 Ο:∀g,v1.ownBlock=some g->v3.ownBlock≠some g
 d14:∀g,v1.ownBlock=some g->v4.ownBlock≠some g
 d23:∀g,v2.ownBlock=some g->v3.ownBlock≠some g
 d24:∀g,v2.ownBlock=some g->v4.ownBlock≠some g
 d34:∀g,v3.ownBlock=some g->v4.ownBlock≠some g
 le:B<=(V:Nat)
section
variable{B:Nat}{V V' w8:aa}{v1 v2 v3 v4:aG}{l1 l2 l3 l4 l:aL}{o:Obj}{g n ε:Nat}
def O4.nil(h:B<=(V:Nat)):O4 B V (.slice none 0 0) (.slice none 0 0) (.slice none 0 0) (.slice none 0 0) [] [] [] []:=⟨bw.nil ..,bw.nil ..,bw.nil ..,bw.nil ..,nofun,nofun,nofun,nofun,nofun,nofun,h⟩
def O4.ext(h:O4 B V v1 v2 v3 v4 l1 l2 l3 l4)(D:ag V V'):O4 B V' v1 v2 v3 v4 l1 l2 l3 l4:=⟨h.o1.ext D,h.o2.ext D,h.o3.ext D,h.o4.ext D,h.Ρ,h.Ο,h.d14,h.d23,h.d24,h.d34,aZ h.le D.size⟩
def O4.set(h:O4 B V v1 v2 v3 v4 l1 l2 l3 l4){a}(D:a.block<B)u:O4 B (V.setCell a u) v1 v2 v3 v4 l1 l2 l3 l4:=⟨h.o1.setCell D u,h.o2.setCell D u,h.o3.setCell D u,h.o4.setCell D u,h.Ρ,h.Ο,h.d14,h.d23,h.d24,h.d34,by simpa using h.le⟩
def O4.sw(h:O4 B V v1 v2 v3 v4 l1 l2 l3 l4):O4 B V v2 v1 v3 v4 l2 l1 l3 l4:=⟨h.o2,h.o1,h.o3,h.o4,mW h.Ρ,h.d23,h.d24,h.Ο,h.d14,h.d34,h.le⟩
def O4.rot(h:O4 B V v1 v2 v3 v4 l1 l2 l3 l4):O4 B V v3 v4 v1 v2 l3 l4 l1 l2:=⟨h.o3,h.o4,h.o1,h.o2,h.d34,mW h.Ο,mW h.d23,mW h.d14,mW h.d24,h.Ρ,h.le⟩
def O4.X(h:O4 B V v1 v2 v3 v4 l1 l2 l3 l4)(F:(V.alloc o).grownBy w8 v1.ownBlock)(D:v1.ownBlock=some g∨g=(V.alloc o:Nat))(hb:Below B (V.alloc o) w8)(O:bw 3 1 EI w8 B (.slice (bH g) n ε) l):O4 B w8 (.slice (bH g) n ε) v2 v3 v4 l l2 l3 l4:=by have⟨G,H⟩:=lP h.o2 h.Ρ F D;have⟨I,J⟩:=lP h.o3 h.Ο F D;obtain⟨c1,c2⟩:=lP h.o4 h.d14 F D;exact⟨O,G,I,c1,tE H,tE J,tE c2,h.d23,h.d24,h.d34,Vl⟩
end
def By{B n}{l}(h:bw 3 1 EI w B (.slice A n c) l)(D:B<=(w:Nat)):Fr w B w (fun W=>aO W A l):=(h.fr (fun _ _ _ _ _ h=>h) D).E fun W h=>zk h
def zlN{a b}(D:a.B=true)(F:b.B=true):px (pK a b):=by
 have g:=zeN (Gr.nK D) (Gr.nK F);have s:=zcS D F;have e:=zJ (vw (Gr.mE D) (Gr.mE F)) (yX (Gr.mE D) (Gr.mE F));have h:pK a b=js (jD a b) (BV a b):=rfl;refine⟨g.inr,?_,?_,?_,?_,fun e h=>by have:=G1.el g e h;omega⟩
 .rw[h,e]
  show nS _ _ _<=_
  have:=wL (jD a b) (jF (jD a b).w (BV a b)) (jD a b).w;have:=s.w;omega
 .rw[h,e]
  show((jD a b).es.map _).length<=_
  rw[bs];exact s.es
 .rw[h,e]
  show((jD a b).i.map _).length<=_
  rw[bs];exact s.i
 .rw[h,e]
  show((jD a b).o.map _).length<=_
  rw[bs];exact s.o
def zlO{a b}(h:a.B=true)(D:b.B=true):px (ls a b):=by
 have g:=zeO (Gr.nK h) (Gr.nK D);have G:=Gr.iT.1 h;have H:=Gr.iT.1 D;refine⟨g.inr,?_,?_,?_,?_,fun e F=>by have:=G1.el g e F;omega⟩
 .show a.w+b.w<=_;omega
 .show(fG a b).length<=_;unfold fG;rw[bm,bs];omega
 .show(a.i++b.i.map _).length<=_;rw[bm,bs];omega
 .show(a.o++b.o.map _).length<=_;rw[bm,bs];omega
def vlE(p:Int)(e:Ed):Bool:=decide (e.v<p)
def gdG(p:Int)(g:Gr):Bool:=bV p&&g.es.all (vlE p)
def Ð(p:Int)(g:Gr):Bool:=gdG p g&&g.es.all ntE
def zcI g A1 h D c1 c2 G w(I:jV w A1 h D g)(F:g.B=true):az 153 (cY (bj g A1 c1 h c2 D G)) w (dt w true):=by have H:=Gr.nK F;have:=BP g A1 h D c1 c2 G w I H (px.of F);rw[<-H.B,F]at this;exact this
def Dz k w:az 111 (bK k) w fun e w'=>e=.returned (.bool (!dlB k))/\w=w':=by
 unfold dlB;by_cases h1:k=8<;>by_cases h2:k=14
 all_goals
  go_enter func111,ntmps111
  go_wp2;go_ret
  exact⟨Q9,rfl⟩
def zet p g A1 D F d1 d2 d3 w(O:jV w A1 D F g)(Y:g.B=true):az 110 (gj p (bj g A1 d1 D d2 F d3)) w (dt w (gdG p g)):=by
 unfold gdG;have⟨hB,hq⟩:=bM w (.cells (bj g A1 d1 D d2 F d3) 54);obtain⟨an,ao⟩:=bJ (show ∀W,ag w W->jV W A1 D F g from fun W J=>O.ext J) (fun W (J:ag w W)=>zcI g A1 D F d1 d2 d3 W (O.ext J) Y);have a5:g.es.length<=4096:=(px.of Y).es;clear O Y;go_enter func110,ntmps110
 go_upto_region 1 with(fail)
 generalize w.alloc _=W at hB hq ⊢;refine NQ fun x0 x1 x2 x3 HB HQ=>?_
 clear hB hq;cases hf:bV p
 .go_wp2_with (go_at_call 91;refine(Calls.cg (kr _ _) hf).x ?_;rintro e w' ⟨rfl,rfl⟩)
  go_ret
  exact⟨aN (by rw[hf];rfl),HB⟩
 go_upto_region 3 with(first|(go_at_call 91;refine(Calls.cg (kr _ _) hf).x ?_;rintro e w' ⟨rfl,rfl⟩)|(go_at_call 153;refine(ao.o _ HB.o).x ?_;rintro e a0 ⟨rfl,T⟩;have a1:=ar T x1;have am:=zH (aT HB T);clear T))
 clear x0 x1 x2 x3;go_wp2;go_loopw [18] (fun i wr=>∃k:Nat,k<=g.es.length/\i=.int .i64 k/\Hd ((g.es.take k).all (vlE p)=true)/\ag w wr) (fun i _=>g.es.length-(intOf i).toNat)
 case atStart=>exact⟨0,aW _,rfl,zH Qt,am⟩
 case round=>
  obtain⟨k,a4,rfl,Gw,FW⟩:=hrel;clear a1;by_cases ap:k<g.es.length
  .have⟨e,U⟩:=aq ap;obtain⟨a2,a3,ab,ad,ac,ah,rfl,u0,u1,u2,u3,-,-⟩:=fU (an wr FW).es U;obtain⟨I,h,G,H⟩:=e;dsimp only at u0 u1 u2 u3;have⟨HX,Gc⟩:=bJ U (FW.alloc FW.size (.cells (eh I h ab G ad ac H ah) 155));have Z:=aH wr (.cells (eh I h ab G ad ac H ah) 155) rfl;clear U FW;go_upto_region 6 with(fail)
   generalize wr.alloc _=a0 at Gc Z ⊢;have⟨a7,a8,n2,a9⟩:=aB Z;clear u0 u1 u2 u3 Z;by_cases av:h<p
   .have HF:=zH (by unfold vlE;simp[av]:vlE p ⟨I,h,G,H⟩=true);exact YQ
   .have HF:=zH (by unfold vlE;simp;omega:vlE p ⟨I,h,G,H⟩=false);have a6:p<=h:=Qu;go_wp2;exact W_
  .exact Xi
def BO p g A1 F G d1 d2 d3 w(U:jV w A1 F G g)(Z:g.B=true):az 76 (gj p (bj g A1 d1 F d2 G d3)) w (dt w (Ð p g)):=by
 unfold Ð;have⟨hB,hq⟩:=bM w (.cells (bj g A1 d1 F d2 G d3) 54);obtain⟨ap,ah⟩:=bJ (show ∀W,ag w W->jV W A1 F G g from fun W T=>U.ext T) (fun W (T:ag w W)=>zet p g A1 F G d1 d2 d3 W (U.ext T) Z);have a4:g.es.length<=4096:=(px.of Z).es;clear U Z;go_enter func76,ntmps76
 go_upto_region 1 with(fail)
 generalize w.alloc _=W at hB hq ⊢;refine NQ fun x0 x1 x2 x3 HB HQ=>?_
 clear hB hq;cases hf:gdG p g
 .go_wp2_with (go_at_call 110;refine(Calls.bl (ah.o _ HB.o) hf).x ?_;rintro e ao ⟨rfl,h⟩;have FV:=zH (aT HB h);clear h)
  exact Wk
 go_upto_region 3 with(go_at_call 110;refine(Calls.bl (ah.o _ HB.o) hf).x ?_;rintro e ao ⟨rfl,h⟩;have a0:=ar h x1;have FV:=zH (aT HB h);clear h)
 clear x0 x1 x2 x3;go_wp2;go_loopw [14] (fun i wr=>∃k:Nat,k<=g.es.length/\i=.int .i64 k/\Hd ((g.es.take k).all ntE=true)/\ag w wr) (fun i _=>g.es.length-(intOf i).toNat)
 case atStart=>exact⟨0,aW _,rfl,zH Qt,FV⟩
 case round=>
  obtain⟨k,a3,rfl,Gw,FW⟩:=hrel;clear a0;by_cases av:k<g.es.length
  .have⟨e,Y⟩:=aq av;obtain⟨a1,a2,ac,am,ad,an,rfl,u0,u1,u2,u3,-,-⟩:=fU (ap wr FW).es Y;obtain⟨D,O,I,J⟩:=e;dsimp only at u0 u1 u2 u3;have⟨HX,Gc⟩:=bJ Y (FW.alloc FW.size (.cells (eh D O ac I am ad J an) 155));have ab:=aH wr (.cells (eh D O ac I am ad J an) 155) rfl;clear Y FW;go_upto_region 6 with(fail)
   generalize wr.alloc _=ao at Gc ab ⊢;have⟨a5,a6,n2,a7⟩:=aB ab;clear u0 u1 u2 u3 ab;have H:=zH (fun V=>Dz D V);cases hv:dlB D
   .rw[hv]at H;have HF:=zH (Tt:ntE ⟨D,O,I,J⟩=true);go_wp2_with (go_at_call 111;refine(H.o _).x ?_;rintro e w' ⟨rfl,rfl⟩)
    go_roundw
    case rel=>exact⟨k+1,Qu,Qx,zH (by rw[dG _ _ _ _ HX.o,Gw.o,HF.o];rfl),Gc⟩
    case measure=>simp[intOf];omega
   .rw[hv]at H;have HF:=zH (Tt:ntE ⟨D,O,I,J⟩=false);go_wp2_with (go_at_call 111;refine(H.o _).x ?_;rintro e w' ⟨rfl,rfl⟩)
    exact W_
  .exact Xi
def tgB(p:Int)(L:List eE):Bool:=kj (cJ L)&&(bV p&&qp p (cJ L))
def zeu p L A ε w(T:bR 3 jK w A L)(a7:L.length<=1048576):az 74 (gj p (aV A L ε)) w (dt w (tgB p L)):=by
 unfold tgB;refine N5 fun hB hq=>?_
 obtain⟨a2,a3⟩:=bJ (show ∀W,ag w W->bR 3 jK W A L from fun W I=>bQ T I) (fun V (a5:ag w V)=>EF L A ε V (bQ T a5) a7);clear T;go_enter func74,ntmps74
 go_upto_region 1 with(fail)
 generalize w.alloc _=W at hB hq ⊢;have D:=aF hq 0 rfl;have⟨Z,a9⟩:=bJ hB hq;clear hB hq;go_upto_region 2 with(go_at_call 103;(with_reducible refine(a3.o _ Z.o).x ?_);intro e a1 I;unfold zi9 at I;obtain⟨Y,ap,am,ad,av,an,ah,a0,ao,a4,U,-⟩:=I;subst a4;have d0:=ar U D;have ab:=zH (aT Z U);clear U)
 have d1:=ar (aw a1 (.cells #[.slice Y ap am,.slice ad av an,.slice ah a0 ao] 145)) d0;have H:=zH (ab.alloc ab.size (.cells #[.slice Y ap am,.slice ad av an,.slice ah a0 ao] 145));generalize a1.alloc _=bh at d1 H ⊢;clear D d0;cases J:kj (cJ L)
 .go_wp2;go_ret
  exact⟨aN (by rw[J];rfl),H⟩
 cases F:bV p
 .go_wp2_with (go_at_call 91;refine(Calls.cg (kr _ _) F).x ?_;rintro e w' ⟨rfl,rfl⟩)
  go_ret
  exact⟨aN (by rw[F,J];rfl),H⟩
 have ac:=zH (zgo p L);go_upto_region 4 with(go_at_call 91;refine(Calls.cg (kr _ _) F).x ?_;rintro e w' ⟨rfl,rfl⟩)
 go_wp2;go_loopw [24] (fun i wr=>∃k:Nat,k<=L.length/\i=.int .i64 k/\Hd ((L.take k).all (Ñ p)=true)/\ag w wr) (fun i _=>L.length-(intOf i).toNat)
 case atStart=>exact⟨0,aW _,rfl,zH Qt,H⟩
 case round=>
  obtain⟨k,bc,rfl,Gw,FW⟩:=hrel;clear d1;by_cases a6:k<L.length
  .have⟨x,hx⟩:=aq a6;obtain⟨b,o,rfl,D,c1,c2⟩:=iF (a2 wr FW) hx;obtain⟨kk,vv,ss⟩:=x;dsimp only at D c1 c2;refine NH fun HX Gc G6=>?_;clear FW hx
   go_upto_region 7 with(fail)
   generalize wr.alloc _=bi at Gc G6 ⊢;have⟨be,bg,n2⟩:=aD G6;clear D c1 c2 G6;cases h:Ñ p ⟨kk,vv,ss⟩
   .have HF:=zH h;have G:(kk=7∨kk=13)/\p<=vv:=by unfold Ñ Õ at h;simp only[uC,Bool.not_eq_false',jS,cf,uD]at h;omega
    obtain⟨h7,bd⟩:=G;clear h;rcases h7 with rfl|rfl
    all_goals
     go_wp2;go_ret
     exact⟨aN (by rw[<-ac.o];simp[F,J,ξ _ _ _ _ HX.o HF]),Gc⟩
   .have HF:=zH h;have G:(¬kk=7/\¬kk=13)∨vv<p:=by unfold Ñ Õ at h;simp only[jS,uE,uC,cf,uD]at h;exact h
    clear h;by_cases h7:kk=7
    .have a8:vv<p:=Qu;subst h7;clear G;exact YQ
    by_cases O:kk=13
    .have a8:vv<p:=Qu;subst O;clear G h7;exact YQ
    have bb:(kk==7)=false:=Rm;have ba:(kk==13)=false:=by simpa using O
    clear G h7 O;exact YQ
  .go_wp2;go_ret
   exact⟨aN (by rw[<-ac.o];simp[F,J,fZ _ _ _ Gw.o Qu]),FW⟩
def CK{n}(h:dI n=true):n.k<15:=by
 unfold dI at h;rw[bN]at h;have h:=h.2;by_cases D:n.k=1
 .omega
 rw[aj D]at h;by_cases F:n.k=7∨n.k=13
 .omega
 rw[aj F]at h;simp only[bN,cf]at h;omega
def Ep p:∀(L h:iH) (r:aL),vS p (L++h) r=vS p h (vS p L r)
 |[],_,_=>rfl
 |q::L,h,r=>Ep p L h _
def zaO{L:iH}{q}(h:L[k]?=some q):iE p n (L.take (k+1))=(iE p n (L.take k)).set q.1 (((iE p n (L.take k)).getD q.1 0+q.2)%p):=by unfold iE;rw[jl h,Ep];rfl
def zaP p n(L:iH)A ah c c2 w(bg:2<=p)(b0:p<=97)(bz:n<=4096)(bv:L.length<=4096)(a3:aO w A (bD (L.map (·.1))))(a4:aO w ah (L.map (·.2)))(Y:∀q∈L,q.1<n/\0<=q.2/\q.2<=p):az 112 #[p,(n:Nat),.slice A L c,.slice ah L c2] w fun e w'=>∃g,e=.returned (.slice (bH g) n n)/\nC w n g (iE p n L) w'/\ag w w':=by
 have⟨bn,hi,ba,bb,FU⟩:=dp gD;have⟨ap,a1,av,ao⟩:=gG a3 a4 Y (fun k=>sD (p:=p) (n:=n) (L:=L.take k) bg fun q D=>(Y q (AG D)).1);clear a3 a4 Y;go_enter func112,ntmps112
 go_upto_region 2 with((at_make;refine jg _ rfl _ _ 26 rfl w.heap.size 3 bn (zI 0) 1 dR hi ba bb .i64 .i64 n n n rfl rfl rfl rfl RF SL (ae _) ?_;intro bp ab a7;rw[jn]at ab;have a0:=zH ab;have an:=zH (cy a7);clear ab a7))
 have am:=zH (show nC w n w (iE p n (L.take 0)) bp from⟨by unfold aE;rw[show iE p n (L.take 0)=List.replicate n 0 from rfl,fA];exact a0,by show(List.replicate n (0:Int)).length=n;simp,ae _⟩);clear ba bb FU hi;go_wp2;go_loopw [16] (fun i wr=>∃k:Nat,k<=L.length/\i=.int .i64 k/\nC w n w (iE p n (L.take k)) wr/\ag w wr) (fun i _=>L.length-(intOf i).toNat)
 case atStart=>exact⟨0,aW _,rfl,am,an⟩
 case round=>
  obtain⟨k,bu,rfl,F,G⟩:=hrel;clear am a0 an;by_cases Z:k<L.length
  .obtain⟨⟨x,y⟩,D⟩:=aq Z;obtain⟨b,o,rfl,a5⟩:=(ap.ext G).θ (k:=k) (by rw[aS,bs];exact Z);obtain⟨bd,bo,rfl,a6⟩:=(a1.ext G).θ (k:=k) (by rw[bs];exact Z);have bq:=a5 k (x:Int) (dK (by rw[bI,D];rfl));have U:=a6 k y (by rw[bI,D];rfl);obtain⟨a8,a9,bi⟩:=av.o _ (aU D);dsimp only at a8 a9 bi;obtain⟨be,a2⟩:=ao k;have I:=a2 x a8;have⟨v,ac⟩:=aq (Qu:x < (iE p n (L.take k)).length);have ad:(iE p n (L.take k)).getD x 0=v:=by rw[bf,ac];rfl
   rw[ad]at I;have bh:0<=v:=by rw[I];exact gV _ Qu
   have b1:v<p:=by rw[I];exact gW _ Qu
   have O:=zH (zaO (p:=p) (n:=n) D);rw[ad]at O;dsimp only at O;obtain⟨T,br⟩:=F.at ac;have⟨J,H,bc⟩:=er F G (fun V=>za4 p v y V Qu Qu bh Qu a9 Qu);clear a5 a6 D be a2 I ac ad F G ao av ap a1;go_upto_region 5 with(fail)
   refine cU (S:=fun V=>af V w x (zI v)/\af V bd (bo+k) (zI y)) 13 QT ⟨T,U⟩ (fun hHeld=>?_);refine Qj ?_;refine aM 9 ?_;refine aM 10 ?_;refine cm 11 fun K hK=>?_
   go_simp;refine(bc.o _).x ?_;rintro e w' ⟨rfl,rfl⟩;go_simp;refine hK.out _ _ (fun _=>⟨T,U⟩) (fun hHeld=>?_);clear hK K hHeld;refine P9 ?_;refine cm 12 fun K hK=>?_
   go_simp;refine hK.out _ _ (fun _=>⟨T,U⟩) (fun hHeld=>?_);clear hK K hHeld;refine P9 ?_;refine cm 13 fun K hK=>?_
   go_simp;refine Qn ?_;clear K hK;refine gM QT ?_ _;go_wp2;go_roundw
   case rel=>
    have h:=J.o.put x ((v+y)%p);rw[<-O.o]at h;exact⟨k+1,Qu,Qx,Up,by first|exact H.setCell (p:=⟨w,x,none⟩) (ae _) _|exact(H.setCell (p:=⟨w,x,none⟩) (ae _) _).drew|exact H.drew.setCell (p:=⟨w,x,none⟩) (ae _) _⟩
   case measure=>simp[intOf];omega
  .rw[cZ Qu]at F;have⟨J,H⟩:=bJ F G;clear F G;go_wp2;go_ret
   exact⟨_,rfl,J.o,H⟩
end Go.Proofs.YtpieilkmmiopfaaGreatDoor
