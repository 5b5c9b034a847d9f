/- Parts of the walks. Conditions: as stated with each. -/
import Derived.Test.YtpieilkmmiopfaaGreatDoorPk23
namespace Go.Proofs.YtpieilkmmiopfaaGreatDoor
open Go.RowKit Tryz
set_option linter.all false
set_option maxHeartbeats 2000000
set_option maxRecDepth 100000
variable{A:ax}{B' b k n s:Nat}{K:pt}{Q:gZ}{T u:aG}{a:Act}{o:h_}{ops:iI}{rest:List Oper}{rows:aP}{w:aa}
def zeP L A ε w(dT:bR 3 jK w A L)(eA:L.length<=1048576):az 149 #[dE,.agg (aV A L ε)] w (zi9 L w):=by
 have G:=ζ w (.cells (aV A L ε) 35) (.cells rG 145) (.cells rG 145);have⟨ah,ap,am⟩:=cD w (.cells (aV A L ε) 35) (.cells rG 145) (.cells rG 145);have d9:=zH (show ∀wr,ag w wr->bR 3 jK wr A L from fun wr h=>bQ dT h);clear dT;go_enter func149,ntmps149
 go_upto_region 2 with(fail)
 generalize ((w.alloc _).alloc _).alloc _=W at G ah ap am ⊢;have Gn:=zH (show(w:Nat)+1+1<W from(bk.1 am).1);have cr:=aF ah 0 rfl;obtain⟨ea,cA,HY,dc⟩:=gG ah (show X3 W ((w:Nat)+1+1) W (.slice none 0 0) (.slice none 0 0) (.slice none 0 0) [] [] [] from⟨am,bw.nil _ _ _ _ _,bw.nil _ _ _ _ _,bw.nil _ _ _ _ _,(fun g e=>by cases e),(fun g e=>by cases e),(fun g e=>by cases e),Gn,ae _⟩) ap G;clear G ah ap am;cases cj:eU (L:Int) 1 400
 .have HTF:=zH (zaH (L:=cJ L) fun h=>by
   have e:(cJ L).length=L:=by simp[cJ]
   rw[e]at h;have:eU (L:Int) 1 400=true:=RM;rw[cj]at this;cases this)
  have⟨T,z1,z2⟩:=aD cA.Β;have⟨r0,r1,r2⟩:=aD HY;have⟨f0,f1,f2⟩:=cd HY;have hy2:=ik (v0:=dE) (v1:=dE) (v2:=dE) HY;have⟨u0,u1,u2⟩:=aD hy2;clear hy2;go_wp2_with (go_at_call 92;refine(Calls.cg (aX _ _ _ _) cj).x ?_;rintro e w' ⟨rfl,rfl⟩)
  exact aI (v:=.tuple (pQ rG)) TS rfl ⟨_,_,_,_,_,_,_,_,_,by rw[HTF.o],(((dc.setCell (p:=⟨(w:Nat)+1,0,none⟩) (by show(w:Nat)<=w+1;omega) _).setCell (p:=⟨(w:Nat)+1,1,none⟩) (by show(w:Nat)<=w+1;omega) _).setCell (p:=⟨(w:Nat)+1,2,none⟩) (by show(w:Nat)<=w+1;omega) _),fun h=>Tp⟩
 have eo:1<=L.length/\L.length<=400:=by
  have:(1:Int)<=(L:Int)/\(L:Int)<=400:=by simpa[eU]using cj
  omega
 have b3:=zH eo;go_upto_region 4 with(go_at_call 92;refine(Calls.cg (aX _ _ _ _) cj).x ?_;rintro e w' ⟨rfl,rfl⟩)
 clear cj;go_wp2;go_loopw [25] (fun i wr=>∃(k:Nat) (s:vg) (cK:List Tm) (F:ax) (cF:Nat) (I:ax) (cI:Nat) (O:ax) (cO:Nat),i=.int .i64 k/\Eh L s cK k/\X3 W ((w:Nat)+1+1) wr (.slice F k cF) (.slice I k cI) (.slice O k cO) (bD s.f) (bD s.i) (bD s.o)/\xw w W wr/\ag w wr) (fun i _=>L.length-(intOf i).toNat)
 case atStart=>exact⟨0,⟨[],[],[]⟩,[],none,0,none,0,none,0,rfl,Eh.φ L,cA,fun _ _=>rfl,dc⟩
 case round=>
  obtain⟨k,s,cK,F,cF,I,cI,O,cO,rfl,a4,bb,ce,ci⟩:=hrel;clear cr cA;obtain⟨Ii,JQ,JS⟩:=er (by rw[aS,a4.ι]:(bD s.f).length=k) (by rw[aS,a4.ok.li,a4.ι]:(bD s.i).length=k) (by rw[aS,a4.ok.lo,a4.ι]:(bD s.o).length=k);by_cases es:k<L.length
  .have⟨x,U⟩:=aq es;obtain⟨b,o,rfl,dq,c1,c2⟩:=iF (d9 wr ci) U;obtain⟨a0,vv,ss⟩:=x;dsimp only at dq c1 c2;have ez:k<=400:=Qu;have⟨ch,cp⟩:=bM wr (.cells (dN a0 vv ss) 95);have⟨HXX,HS,bc,b6,b5⟩:=pD U a4 (bb.ext ch) (ce.ext Gn bb.le ch) (aT ci ch);clear U a4 bb ce ci;go_upto_region 7 with(fail)
   generalize wr.alloc _=e6 at ch cp bc b6 b5 ⊢;clear dq c1 c2 ch;have⟨n0,an,n2⟩:=aD cp;have⟨b2,cz⟩:=bJ (fun V=>EM a0 vv ss V) cp;clear cp;cases hlf:dI ⟨a0,vv,ss.toList.isEmpty⟩
   .rw[hlf]at b2;by_cases c4:a0=17
    .subst c4;obtain⟨HTF,ct⟩:=bJ (HS.no HXX (ml hlf (fun h=>by have:=h.1;simp[eE.nd]at this))) (fun V=>Ce 17 vv ss V);go_wp2_with (first|(go_at_call 193;refine(b2.o _).x ?_;rintro e w3 ⟨rfl,av⟩;have b8:=ar av n0;have c9:=ar av an;have db:=ar av n2;have a1:=zH av;clear av)|(go_at_call 194;refine(ct.o _).x ?_;rintro e Y ⟨rfl,bd⟩;have d4:=ar bd b8;have e4:=ar bd c9;have e5:=ar bd db;have b1:=zH (aT a1 bd);have⟨T,z1,z2⟩:=aD (bc.ext b1).Β;have b7:=((b6.ext Gn bc.le b1) 1 Qu).t HY;have⟨r0,r1,r2⟩:=aD b7;have f0:=aK b7 0;have f1:=aK b7 1;have f2:=aK b7 2;have d3:=ik (v0:=.slice F k cF) (v1:=.slice I k cI) (v2:=.slice O k cO) b7;have⟨u0,u1,u2⟩:=aD d3;have d6:=zH (aT b5 b1);clear bd b7 d3)|(go_at_call 195;refine(zfi _ _).x ?_;rintro e w' ⟨rfl,rfl⟩))
     exact aI (v:=.tuple (lT F k cF I cI O cO)) TS rfl ⟨_,_,_,_,_,_,_,_,_,by rw[HTF.o],(((d6.setCell (p:=⟨(w:Nat)+1,0,none⟩) (by show(w:Nat)<=w+1;omega) _).setCell (p:=⟨(w:Nat)+1,1,none⟩) (by show(w:Nat)<=w+1;omega) _).setCell (p:=⟨(w:Nat)+1,2,none⟩) (by show(w:Nat)<=w+1;omega) _),fun h=>Tp⟩
    have ei:(a0==17)=false:=by simpa using c4
    go_upto_region 17 with(go_at_call 193;refine(b2.o _).x ?_;rintro e w3 ⟨rfl,av⟩;have b8:=ar av n0;have a1:=zH av;clear av)
    clear n0 an n2 b8;have⟨Mj,HYY,Gc⟩:=er (bc.ext a1) (b6.ext Gn bc.le a1) (aT b5 a1);have⟨n0,an,n2⟩:=aD (ai cz a1);have⟨T,z1,z2⟩:=aD Mj.Β;clear bc b6 b5 cz b2 c4;by_cases c3:a0=15∨a0=16
    rotate_left
    .have e2:(a0 !=15)=true:=QW;have e3:(a0 !=16)=true:=QW;have HTF:=zH (HS.no HXX (ml hlf (fun h=>c3 h.1)));clear c3;have hyy:=(HYY 1 Qu).t HY;have⟨r0,r1,r2⟩:=aD hyy;have⟨f0,f1,f2⟩:=cd hyy;have hy2:=ik (v0:=.slice F k cF) (v1:=.slice I k cI) (v2:=.slice O k cO) hyy;have⟨u0,u1,u2⟩:=aD hy2;clear hy2 hyy;go_wp2;exact aI (v:=.tuple (lT F k cF I cI O cO)) TS rfl ⟨_,_,_,_,_,_,_,_,_,by rw[HTF.o],(((Gc.setCell (p:=⟨(w:Nat)+1,0,none⟩) (by show(w:Nat)<=w+1;omega) _).setCell (p:=⟨(w:Nat)+1,1,none⟩) (by show(w:Nat)<=w+1;omega) _).setCell (p:=⟨(w:Nat)+1,2,none⟩) (by show(w:Nat)<=w+1;omega) _),fun h=>Tp⟩
    rcases c3 with rfl|rfl
    .skip
     by_cases hn:ss.toList.isEmpty=true
     rotate_left
     .exact ZW
     have he1:(ss.toList==[])=true:=by cases e:ss.toList<;>simp_all
     have he2:(!ss.toList==[])=false:=by rw[he1];rfl
     by_cases hv:vv=0
     rotate_left
     .exact ZQ
     by_cases h2:2<=k
     rotate_left
     .exact ZU
     obtain⟨t1,t2,t3,t4,eg,hc1⟩:=wm HS.ok.ch (by rw[HS.o.ι];omega);rw[HS.o.ι]at t1 t2 t3 t4 hc1;have⟨J,Mm⟩:=aR (k-1);have hsn:=fun(be:1<=s.f.getD (k-1) 0)=>Ei (s:=s) (n:=(⟨15,vv,ss⟩:eE).nd) (ay rfl) hv hn (by rw[HS.o.ι];exact h2) (by rw[HS.o.ι];exact be)
     rw[HS.o.ι]at hsn;have⟨fb,JN⟩:=aR (s.f.getD (k-1) 0);have⟨ib,hib⟩:=aR (s.i.getD (k-1) 0);have⟨ob,K7⟩:=aR (s.o.getD (k-1) 0);have hNo:=fun(h:¬1<=fb)=>HS.no HXX (ml hlf (fun h'=>h Vx))
     rw[<-JN]at t2 hsn hc1;rw[<-hib]at t3 hsn;rw[<-K7]at t4 hsn;have nget:∀(l:bP) (j:Nat),j < (bD l).length->(bD l)[j]?=some ((l.getD j 0:Nat):Int):=fun l j be=>dK (CI (by rw[aS]at be;exact be))
     obtain⟨gf,of',rfl,hcF⟩:=(pa Mj.o1).θ (k:=J) RV;obtain⟨gi,oi,rfl,hcI⟩:=(pa Mj.o2).θ (k:=J) RU;obtain⟨go,oo,rfl,hcO⟩:=(pa Mj.o3).θ (k:=J) RR;have cV:=hcF J (fb:Nat) Vo;have cib:=hcI J (ib:Nat) Vn;have cob:=hcO J (ob:Nat) Vm;have ey:IntKind.i64.wrap ((k:Int)-1)=(J:Int):=Rt;have d1:J<k:=Qu;by_cases h1:1<=fb
     rotate_left
     .exact ZX
     refine PF fun a fa ia oa cfa Gq Hl hw3 hak h1' h2' S0 HS1 JM Jw HIB=>?_;clear hn h2 t1 Mm hc1 t2 JN t3 hib hsn t4 K7 hNo nget hcF hcI hcO cib cob h1
     subst hv;refine NV fun _ _ _ HYY Mj Gc n0 cfa=>?_
     clear an n2 T z1 z2;go_region_held3 (fun V=>af V ((w:Nat)+1+1) 1 (.slice (some ⟨gi,oi,none⟩) k cI)/\af V ((w:Nat)+1+1) 2 (.slice (some ⟨go,oo,none⟩) k cO)/\af V gi (oi+a) (zI (ia:Nat))/\af V gi (oi+J) (zI (ib:Nat))/\af V go (oo+a) (zI (oa:Nat))/\af V go (oo+J) (zI (ob:Nat)))
      (first|with_reducible exact S0|with_reducible exact n_ (aC _) S0) (fail)
     replace S0:=n_ (aC w3) S0
     generalize w3.drew=Y at Mj HYY Gc n0 cfa S0 ⊢;have⟨T,z1,z2⟩:=aD Mj.Β;have an:=n0;have n2:=n0;clear cV;by_cases hq:oa=ib
     rotate_left
     .have ev:((oa:Int)!=(ib:Int))=true:=QW;have HTF:=zH (HS.no HXX (HS1.2 (by show gP 15 (ia,oa) (ib,ob)=none;unfold gP;rw[ak rfl,aj hq])));clear hq;go_upto_region 23 with(fail)
      replace HYY:=zH (HYY.ext Gn Mj.le (aC Y));replace Mj:=zH (Mj.ext (aC Y));replace Gc:=zH (Gc.t ((aC Y).x Gc.size))
      replace n0:=ar (aC Y) n0;replace cfa:=ar (aC Y) cfa
      clear an n2 T z1 z2;go_region_held3 (fun V=>af V ((w:Nat)+1+1) 1 (.slice (some ⟨gi,oi,none⟩) k cI)/\af V ((w:Nat)+1+1) 2 (.slice (some ⟨go,oo,none⟩) k cO)/\af V gi (oi+a) (zI (ia:Nat))/\af V gi (oi+J) (zI (ib:Nat))/\af V go (oo+a) (zI (oa:Nat))/\af V go (oo+J) (zI (ob:Nat)))
       (first|with_reducible exact S0|with_reducible exact n_ (aC _) S0) (fail)
      replace S0:=n_ (aC Y) S0
      generalize Y.drew=bz at Mj HYY Gc n0 cfa S0 ⊢;have⟨T,z1,z2⟩:=aD Mj.Β;have an:=n0;have n2:=n0;clear n0 an n2 cfa S0;have hyy:=(HYY 1 Qu).t HY;have⟨r0,r1,r2⟩:=aD hyy;have⟨f0,f1,f2⟩:=cd hyy;have hy2:=ik (v0:=.slice (some ⟨gf,of',none⟩) k cF) (v1:=.slice (some ⟨gi,oi,none⟩) k cI) (v2:=.slice (some ⟨go,oo,none⟩) k cO) hyy;have⟨u0,u1,u2⟩:=aD hy2;clear hy2 hyy;go_wp2;exact aI (v:=.tuple (lT (some ⟨gf,of',none⟩) k cF (some ⟨gi,oi,none⟩) cI (some ⟨go,oo,none⟩) cO)) TS rfl ⟨_,_,_,_,_,_,_,_,_,by rw[HTF.o],(((Gc.setCell (p:=⟨(w:Nat)+1,0,none⟩) (by show(w:Nat)<=w+1;omega) _).setCell (p:=⟨(w:Nat)+1,1,none⟩) (by show(w:Nat)<=w+1;omega) _).setCell (p:=⟨(w:Nat)+1,2,none⟩) (by show(w:Nat)<=w+1;omega) _),fun h=>Tp⟩
     subst hq;have a9:=HS1.1 (ia,ob) (by show gP 15 (ia,oa) (oa,ob)=_;unfold gP;rw[ak rfl,ak rfl]);dsimp only at a9;obtain⟨cc,bv⟩:=HS.Y HXX a9 (by show(s.f++[fa]).length=_;rw[bm,HS.o.ι];rfl);have⟨ca,JR,HE2,Mk⟩:=gG bv (RQ:bD (s.add fa ia ob).f=bD s.f++[(fa:Int)]) (RQ:bD (s.add fa ia ob).i=bD s.i++[(ia:Int)]) (RQ:bD (s.add fa ia ob).o=bD s.o++[(ob:Int)]);have ev:((oa:Int)!=(oa:Int))=false:=Qt;clear a9 bv;go_upto_region 23 with(fail)
     replace HYY:=zH (HYY.ext Gn Mj.le (aC Y));replace Mj:=zH (Mj.ext (aC Y));replace Gc:=zH (Gc.t ((aC Y).x Gc.size))
     replace n0:=ar (aC Y) n0;replace cfa:=ar (aC Y) cfa
     clear an n2 T z1 z2;go_region_held3 (fun V=>af V ((w:Nat)+1+1) 1 (.slice (some ⟨gi,oi,none⟩) k cI)/\af V ((w:Nat)+1+1) 2 (.slice (some ⟨go,oo,none⟩) k cO)/\af V gi (oi+a) (zI (ia:Nat))/\af V gi (oi+J) (zI (oa:Nat))/\af V go (oo+a) (zI (oa:Nat))/\af V go (oo+J) (zI (ob:Nat)))
      (first|with_reducible exact S0|with_reducible exact n_ (aC _) S0) (fail)
     replace S0:=n_ (aC Y) S0
     generalize Y.drew=bz at Mj HYY Gc n0 cfa S0 ⊢;have⟨T,z1,z2⟩:=aD Mj.Β;have an:=n0;have n2:=n0;go_upto_region 25 with(fail)
     replace HYY:=zH (HYY.ext Gn Mj.le (aC bz));replace Mj:=zH (Mj.ext (aC bz));replace Gc:=zH (Gc.t ((aC bz).x Gc.size))
     replace n0:=ar (aC bz) n0;replace cfa:=ar (aC bz) cfa
     clear an n2 T z1 z2;go_region_held3 (fun V=>af V ((w:Nat)+1+1) 1 (.slice (some ⟨gi,oi,none⟩) k cI)/\af V ((w:Nat)+1+1) 2 (.slice (some ⟨go,oo,none⟩) k cO)/\af V gi (oi+a) (zI (ia:Nat))/\af V gi (oi+J) (zI (oa:Nat))/\af V go (oo+a) (zI (oa:Nat))/\af V go (oo+J) (zI (ob:Nat)))
      (first|with_reducible exact S0|with_reducible exact n_ (aC _) S0) (fail)
     replace S0:=n_ (aC bz) S0
     generalize bz.drew=b0 at Mj HYY Gc n0 cfa S0 ⊢;have⟨T,z1,z2⟩:=aD Mj.Β;have an:=n0;have n2:=n0;clear S0;have ej:(ia:Int)<=12:=by have:=JM.o;omega
     have ek:(ob:Int)<=12:=by have:=Jw.o;omega
     have⟨a3,cB,b9⟩:=er (Mj.ext (aC b0)) (HYY.ext Gn Mj.le (aC b0)) (Gc.t ((aC b0).x Gc.size));have bg:=ar (aC b0) T;have cW:=ar (aC b0) cfa;go_upto_region 28 with(fail)
     clear T z1 z2 n0 an n2;refine cU (S:=fun V=>af V ((w:Nat)+1+1) 0 (.slice (some ⟨gf,of',none⟩) k cF)) 10 QT bg (fun hHeld=>?_);refine Qi ?_;refine cm 6 fun K hK=>?_
     go_simp;refine hK.out _ _ (fun _=>bg) (fun hHeld=>?_);clear hK K hHeld;refine P9 ?_;refine Ny fun K hK=>?_
     refine hK.out _ _ (fun _=>ar (aw _ _) bg) (fun hHeld=>?_);clear hK K hHeld;refine P9 ?_;refine cm 8 fun K hK=>?_
     refine im qy rfl (.tmp 180) (.tmp 186) rfl W (b0.drew.alloc (.cells (bK (fa:Int)) 3)) (.slice (some ⟨gf,of',none⟩) k cF) (bD s.f) (fa:Int) [.int .i64 (fa:Int)] b0.drew ((a3.o1).ext (aw _ _)) rfl SU (kn.d ((a3.o1).ext (aw _ _)) (aZ a3.le (aw _ _).size) fun _=>rfl) RV (aZ a3.le (aw _ _).size) rfl rfl (aH b0.drew _ rfl) ?_;intro bq bn ck H ad ac G;rw[Ii.o]at H ⊢;have⟨U,D⟩:=X3.zlD a3 ad ac G H;have⟨ao,a2,p2⟩:=aD D;have⟨ah,ap,am⟩:=cd D;obtain⟨Z,a5,bh⟩:=er U (((b9.alloc b9.size (.cells (bK (fa:Int)) 3)).t (G.x Sx)).setCell (p:=⟨(w:Nat)+1+1,0,none⟩) (by show(w:Nat)<=w+1+1;omega) (.slice (bH bq) (k+1) bn)) (xw.S (i:=0) (x:=.slice (bH bq) (k+1) bn) (cB.ext Gn a3.le (aw _ _)) Gn G);clear H ad ac G U D;refine hK.out _ _ (fun _=>ao) (fun hHeld=>?_);clear hK K hHeld;refine P9 ?_;refine cm 9 fun K hK=>?_
     go_simp;refine hK.out _ _ (fun _=>ao) (fun hHeld=>?_);clear hK K hHeld;refine P9 ?_;refine cm 10 fun K hK=>?_
     go_simp;refine Qn ?_;clear K hK;refine gM QT ?_ _;clear bg cW cfa;clear ao a2 p2 ah ap am;try clear T z1 z2
     generalize ck.setCell ⟨(w:Nat)+1+1,0,none⟩ _=a7 at Z a5 bh ⊢;have⟨T,z1,z2⟩:=aD Z.Β;go_upto_region 30 with((at_builtin;refine de qy rfl (.tmp 190) (.tmp 192) rfl W (a7.alloc (.cells (bK (ia:Int)) 3)) (.slice (some ⟨gi,oi,none⟩) k cI) (bD s.i) (ia:Int) [.int .i64 (ia:Int)] a7 ((Z.o2).ext (aw _ _)) rfl SU (kn.d ((Z.o2).ext (aw _ _)) (aZ Z.le (aw _ _).size) fun _=>rfl) RU (aZ Z.le (aw _ _).size) rfl rfl (aH a7 _ rfl) ?_;intro br bo cn H ad ac G;rw[JQ.o]at H ⊢;have⟨U,D⟩:=X3.ziI Z ad ac G H;have⟨ao,a2,p2⟩:=aD D;have ah:=aK D 0;have ap:=aK D 1;have am:=aK D 2;have ab:=zH U;have a6:=zH (((a5.alloc a5.size (.cells (bK (ia:Int)) 3)).t (G.x Sx)).setCell (p:=⟨(w:Nat)+1+1,1,none⟩) (by show(w:Nat)<=w+1+1;omega) (.slice (bH br) (k+1) bo));have bi:=zH (xw.S (i:=1) (x:=.slice (bH br) (k+1) bo) (bh.ext Gn Z.le (aw _ _)) Gn G);clear H ad ac G U D))
     clear ao a2 p2 ah ap am;try clear T z1 z2
     generalize cn.setCell ⟨(w:Nat)+1+1,1,none⟩ _=a8 at ab a6 bi ⊢;have⟨T,z1,z2⟩:=aD ab.Β;go_wp2_with ((at_builtin;refine de qy rfl (.tmp 196) (.tmp 198) rfl W (a8.alloc (.cells (bK (ob:Int)) 3)) (.slice (some ⟨go,oo,none⟩) k cO) (bD s.o) (ob:Int) [.int .i64 (ob:Int)] a8 ((ab.o3).ext (aw _ _)) rfl SU (kn.d ((ab.o3).ext (aw _ _)) (aZ ab.le (aw _ _).size) fun _=>rfl) RR (aZ ab.le (aw _ _).size) rfl rfl (aH a8 _ rfl) ?_;intro bu bp w3 H ad ac G;rw[JS.o]at H ⊢;have⟨U,D⟩:=X3.ziJ ab ad ac G H;have⟨ao,a2,p2⟩:=aD D;have ah:=aK D 0;have ap:=aK D 1;have am:=aK D 2;have HX3:=zH U;have a1:=zH (((a6.alloc a6.size (.cells (bK (ob:Int)) 3)).t (G.x Sx)).setCell (p:=⟨(w:Nat)+1+1,2,none⟩) (by show(w:Nat)<=w+1+1;omega) (.slice (bH bu) (k+1) bp));have cb:=zH (xw.S (i:=2) (x:=.slice (bH bu) (k+1) bp) (bi.ext Gn ab.le (aw _ _)) Gn G);clear H ad ac G U D))
     go_roundw
     case rel=>exact⟨k+1,s.add fa ia ob,cc,_,_,_,_,_,_,Qx,ca,Uy,cb,a1⟩
     case measure=>simp[intOf];omega
    .skip
     by_cases hn:ss.toList.isEmpty=true
     rotate_left
     .exact ZW
     have he1:(ss.toList==[])=true:=by cases e:ss.toList<;>simp_all
     have he2:(!ss.toList==[])=false:=by rw[he1];rfl
     by_cases hv:vv=0
     rotate_left
     .exact ZQ
     by_cases h2:2<=k
     rotate_left
     .exact ZU
     obtain⟨t1,t2,t3,t4,eg,hc1⟩:=wm HS.ok.ch (by rw[HS.o.ι];omega);rw[HS.o.ι]at t1 t2 t3 t4 hc1;have⟨J,Mm⟩:=aR (k-1);have hsn:=fun(be:1<=s.f.getD (k-1) 0)=>Ei (s:=s) (n:=(⟨16,vv,ss⟩:eE).nd) (au rfl) hv hn (by rw[HS.o.ι];exact h2) (by rw[HS.o.ι];exact be)
     rw[HS.o.ι]at hsn;have⟨fb,JN⟩:=aR (s.f.getD (k-1) 0);have⟨ib,hib⟩:=aR (s.i.getD (k-1) 0);have⟨ob,K7⟩:=aR (s.o.getD (k-1) 0);have hNo:=fun(h:¬1<=fb)=>HS.no HXX (ml hlf (fun h'=>h Vx))
     rw[<-JN]at t2 hsn hc1;rw[<-hib]at t3 hsn;rw[<-K7]at t4 hsn;have nget:∀(l:bP) (j:Nat),j < (bD l).length->(bD l)[j]?=some ((l.getD j 0:Nat):Int):=fun l j be=>dK (CI (by rw[aS]at be;exact be))
     obtain⟨gf,of',rfl,hcF⟩:=(pa Mj.o1).θ (k:=J) RV;obtain⟨gi,oi,rfl,hcI⟩:=(pa Mj.o2).θ (k:=J) RU;obtain⟨go,oo,rfl,hcO⟩:=(pa Mj.o3).θ (k:=J) RR;have cV:=hcF J (fb:Nat) Vo;have cib:=hcI J (ib:Nat) Vn;have cob:=hcO J (ob:Nat) Vm;have ey:IntKind.i64.wrap ((k:Int)-1)=(J:Int):=Rt;have d1:J<k:=Qu;by_cases h1:1<=fb
     rotate_left
     .exact ZX
     refine PF fun a fa ia oa cfa Gq Hl hw3 hak h1' h2' S0 HS1 JM Jw HIB=>?_;clear hn h2 t1 Mm hc1 t2 JN t3 hib hsn t4 K7 hNo nget hcF hcI hcO cib cob h1
     subst hv;refine NV fun _ _ _ HYY Mj Gc n0 cfa=>?_
     clear an n2 T z1 z2;go_region_held3 (fun V=>af V ((w:Nat)+1+1) 1 (.slice (some ⟨gi,oi,none⟩) k cI)/\af V ((w:Nat)+1+1) 2 (.slice (some ⟨go,oo,none⟩) k cO)/\af V gi (oi+a) (zI (ia:Nat))/\af V gi (oi+J) (zI (ib:Nat))/\af V go (oo+a) (zI (oa:Nat))/\af V go (oo+J) (zI (ob:Nat)))
      (first|with_reducible exact S0|with_reducible exact n_ (aC _) S0) (fail)
     replace S0:=n_ (aC w3) S0
     generalize w3.drew=Y at Mj HYY Gc n0 cfa S0 ⊢;have⟨T,z1,z2⟩:=aD Mj.Β;have an:=n0;have n2:=n0;clear cV;by_cases hq:ia+ib<=12/\oa+ob<=12
     rotate_left
     .have HTF:=zH (HS.no HXX (HS1.2 (by show gP 16 (ia,oa) (ib,ob)=none;unfold gP;rw[aj Qw,ak rfl,aj hq])));clear cfa S0;by_cases eB:(12:Int) < (ia:Int)+(ib:Int)
      .exact ZT
      .have e0:(12:Int) < (oa:Int)+(ob:Int):=Qu;exact ZT
     have a9:=HS1.1 (ia+ib,oa+ob) (by show gP 16 (ia,oa) (ib,ob)=_;unfold gP;rw[aj Qw,ak rfl,ak hq]);dsimp only at a9;obtain⟨cc,bv⟩:=HS.Y HXX a9 (by show(s.f++[fa]).length=_;rw[bm,HS.o.ι];rfl);have⟨ca,JR,HE2,Mk⟩:=gG bv (RQ:bD (s.add fa (ia+ib) (oa+ob)).f=bD s.f++[(fa:Int)]) (RQ:bD (s.add fa (ia+ib) (oa+ob)).i=bD s.i++[(ia:Int)+(ib:Int)]) (RQ:bD (s.add fa (ia+ib) (oa+ob)).o=bD s.o++[(oa:Int)+(ob:Int)]);have ej:(ia:Int)+(ib:Int)<=12:=Qu;have ek:(oa:Int)+(ob:Int)<=12:=Qu;clear a9 bv hq S0;have⟨a3,cB,b9⟩:=er (Mj.ext (aC Y)) (HYY.ext Gn Mj.le (aC Y)) (Gc.t ((aC Y).x Gc.size));have bg:=ar (aC Y) T;have cW:=ar (aC Y) cfa;go_upto_region 28 with(fail)
     clear T z1 z2 n0 an n2;refine cU (S:=fun V=>af V ((w:Nat)+1+1) 0 (.slice (some ⟨gf,of',none⟩) k cF)) 10 QT bg (fun hHeld=>?_);refine Qi ?_;refine cm 6 fun K hK=>?_
     go_simp;refine hK.out _ _ (fun _=>bg) (fun hHeld=>?_);clear hK K hHeld;refine P9 ?_;refine Ny fun K hK=>?_
     refine hK.out _ _ (fun _=>ar (aw _ _) bg) (fun hHeld=>?_);clear hK K hHeld;refine P9 ?_;refine cm 8 fun K hK=>?_
     refine im qy rfl (.tmp 180) (.tmp 186) rfl W (Y.drew.alloc (.cells (bK (fa:Int)) 3)) (.slice (some ⟨gf,of',none⟩) k cF) (bD s.f) (fa:Int) [.int .i64 (fa:Int)] Y.drew ((a3.o1).ext (aw _ _)) rfl SU (kn.d ((a3.o1).ext (aw _ _)) (aZ a3.le (aw _ _).size) fun _=>rfl) RV (aZ a3.le (aw _ _).size) rfl rfl (aH Y.drew _ rfl) ?_;intro bq bn ck H ad ac G;rw[Ii.o]at H ⊢;have⟨U,D⟩:=X3.zlD a3 ad ac G H;have⟨ao,a2,p2⟩:=aD D;have⟨ah,ap,am⟩:=cd D;obtain⟨Z,a5,bh⟩:=er U (((b9.alloc b9.size (.cells (bK (fa:Int)) 3)).t (G.x Sx)).setCell (p:=⟨(w:Nat)+1+1,0,none⟩) (by show(w:Nat)<=w+1+1;omega) (.slice (bH bq) (k+1) bn)) (xw.S (i:=0) (x:=.slice (bH bq) (k+1) bn) (cB.ext Gn a3.le (aw _ _)) Gn G);clear H ad ac G U D;refine hK.out _ _ (fun _=>ao) (fun hHeld=>?_);clear hK K hHeld;refine P9 ?_;refine cm 9 fun K hK=>?_
     go_simp;refine hK.out _ _ (fun _=>ao) (fun hHeld=>?_);clear hK K hHeld;refine P9 ?_;refine cm 10 fun K hK=>?_
     go_simp;refine Qn ?_;clear K hK;refine gM QT ?_ _;clear bg cW cfa;clear ao a2 p2 ah ap am;try clear T z1 z2
     generalize ck.setCell ⟨(w:Nat)+1+1,0,none⟩ _=a7 at Z a5 bh ⊢;have⟨T,z1,z2⟩:=aD Z.Β;go_upto_region 30 with((at_builtin;refine de qy rfl (.tmp 190) (.tmp 192) rfl W (a7.alloc (.cells (bK ((ia:Int)+(ib:Int))) 3)) (.slice (some ⟨gi,oi,none⟩) k cI) (bD s.i) ((ia:Int)+(ib:Int)) [.int .i64 ((ia:Int)+(ib:Int))] a7 ((Z.o2).ext (aw _ _)) rfl SU (kn.d ((Z.o2).ext (aw _ _)) (aZ Z.le (aw _ _).size) fun _=>rfl) RU (aZ Z.le (aw _ _).size) rfl rfl (aH a7 _ rfl) ?_;intro br bo cn H ad ac G;rw[JQ.o]at H ⊢;have⟨U,D⟩:=X3.ziI Z ad ac G H;have⟨ao,a2,p2⟩:=aD D;have ah:=aK D 0;have ap:=aK D 1;have am:=aK D 2;have ab:=zH U;have a6:=zH (((a5.alloc a5.size (.cells (bK ((ia:Int)+(ib:Int))) 3)).t (G.x Sx)).setCell (p:=⟨(w:Nat)+1+1,1,none⟩) (by show(w:Nat)<=w+1+1;omega) (.slice (bH br) (k+1) bo));have bi:=zH (xw.S (i:=1) (x:=.slice (bH br) (k+1) bo) (bh.ext Gn Z.le (aw _ _)) Gn G);clear H ad ac G U D))
     clear ao a2 p2 ah ap am;try clear T z1 z2
     generalize cn.setCell ⟨(w:Nat)+1+1,1,none⟩ _=a8 at ab a6 bi ⊢;have⟨T,z1,z2⟩:=aD ab.Β;go_wp2_with ((at_builtin;refine de qy rfl (.tmp 196) (.tmp 198) rfl W (a8.alloc (.cells (bK ((oa:Int)+(ob:Int))) 3)) (.slice (some ⟨go,oo,none⟩) k cO) (bD s.o) ((oa:Int)+(ob:Int)) [.int .i64 ((oa:Int)+(ob:Int))] a8 ((ab.o3).ext (aw _ _)) rfl SU (kn.d ((ab.o3).ext (aw _ _)) (aZ ab.le (aw _ _).size) fun _=>rfl) RR (aZ ab.le (aw _ _).size) rfl rfl (aH a8 _ rfl) ?_;intro bu bp w3 H ad ac G;rw[JS.o]at H ⊢;have⟨U,D⟩:=X3.ziJ ab ad ac G H;have⟨ao,a2,p2⟩:=aD D;have ah:=aK D 0;have ap:=aK D 1;have am:=aK D 2;have HX3:=zH U;have a1:=zH (((a6.alloc a6.size (.cells (bK ((oa:Int)+(ob:Int))) 3)).t (G.x Sx)).setCell (p:=⟨(w:Nat)+1+1,2,none⟩) (by show(w:Nat)<=w+1+1;omega) (.slice (bH bu) (k+1) bp));have cb:=zH (xw.S (i:=2) (x:=.slice (bH bu) (k+1) bp) (bi.ext Gn ab.le (aw _ _)) Gn G);clear H ad ac G U D))
     go_roundw
     case rel=>exact⟨k+1,s.add fa (ia+ib) (oa+ob),cc,_,_,_,_,_,_,Qx,ca,Uy,cb,a1⟩
     case measure=>simp[intOf];omega
   .rw[hlf]at b2;have em:a0<=14:=by
     have:=hlf;unfold dI at this;simp only[bN]at this;have c5:=this.2;split at c5
     .omega
     .split at c5
      .omega
      .simp at c5;omega
    have ei:(a0==17)=false:=QW;have⟨a,ha⟩:=aR (pC ⟨a0,vv,ss.toList.isEmpty⟩);have⟨ba,c6⟩:=aR (sC ⟨a0,vv,ss.toList.isEmpty⟩);have ct:=zH (show ∀V,az 194 (cY (dN a0 vv ss)) V fun e w'=>e=.returned (.tuple (iL a ba))/\ag V w' from fun V=>by rw[ha,c6,<-(zk8 hlf).1,<-(zk8 hlf).2];exact Ce a0 vv ss V)
    have a9:=ze1 (s:=s) hlf;rw[<-ha,<-c6,HS.o.ι]at a9;obtain⟨cc,bv⟩:=HS.Y HXX a9 (by show(s.f++[k]).length=_;rw[bm,HS.o.ι];rfl);have⟨ca,JR,HE2,Mk⟩:=gG bv (RQ:bD (s.add k a ba).f=bD s.f++[(k:Int)]) (RQ:bD (s.add k a ba).i=bD s.i++[(a:Int)]) (RQ:bD (s.add k a ba).o=bD s.o++[(ba:Int)]);clear a9 bv ha c6 em hlf;go_upto_region 14 with(first|(go_at_call 193;refine(b2.o _).x ?_;rintro e w3 ⟨rfl,av⟩;have b8:=ar av n0;have c9:=ar av an;have db:=ar av n2;have a1:=zH av;clear av)|(go_at_call 194;refine(ct.o _).x ?_;rintro e Y ⟨rfl,bd⟩;have d4:=ar bd b8;have b1:=zH (aT a1 bd);clear bd))
    clear n0 an n2 b8 c9 db d4;have⟨Mj,HYY,Gc⟩:=er (bc.ext b1) (b6.ext Gn bc.le b1) (aT b5 b1);have⟨T,z1,z2⟩:=aD Mj.Β;clear bc b6 b5 cz b2;go_upto_region 15 with((at_builtin;refine de qy rfl (.tmp 68) (.tmp 70) rfl W (Y.alloc (.cells (bK (k:Int)) 3)) (.slice F k cF) (bD s.f) (k:Int) [.int .i64 (k:Int)] Y ((Mj.o1).ext (aw _ _)) rfl SU (kn.d ((Mj.o1).ext (aw _ _)) (aZ Mj.le (aw _ _).size) fun _=>rfl) RV (aZ Mj.le (aw _ _).size) rfl rfl (aH Y _ rfl) ?_;intro bq bn ck H ad ac G;rw[Ii.o]at H ⊢;have⟨U,D⟩:=X3.zlD Mj ad ac G H;have⟨ao,a2,p2⟩:=aD D;have ah:=aK D 0;have ap:=aK D 1;have am:=aK D 2;have Z:=zH U;have a5:=zH (((Gc.alloc Gc.size (.cells (bK (k:Int)) 3)).t (G.x Sx)).setCell (p:=⟨(w:Nat)+1+1,0,none⟩) (by show(w:Nat)<=w+1+1;omega) (.slice (bH bq) (k+1) bn));have bh:=zH (xw.S (i:=0) (x:=.slice (bH bq) (k+1) bn) (HYY.ext Gn Mj.le (aw _ _)) Gn G);clear H ad ac G U D))
    clear ao a2 p2 ah ap am;try clear T z1 z2
    generalize ck.setCell ⟨(w:Nat)+1+1,0,none⟩ _=a7 at Z a5 bh ⊢;have⟨T,z1,z2⟩:=aD Z.Β;go_upto_region 16 with((at_builtin;refine de qy rfl (.tmp 74) (.tmp 76) rfl W (a7.alloc (.cells (bK (a:Int)) 3)) (.slice I k cI) (bD s.i) (a:Int) [.int .i64 (a:Int)] a7 ((Z.o2).ext (aw _ _)) rfl SU (kn.d ((Z.o2).ext (aw _ _)) (aZ Z.le (aw _ _).size) fun _=>rfl) RU (aZ Z.le (aw _ _).size) rfl rfl (aH a7 _ rfl) ?_;intro br bo cn H ad ac G;rw[JQ.o]at H ⊢;have⟨U,D⟩:=X3.ziI Z ad ac G H;have⟨ao,a2,p2⟩:=aD D;have ah:=aK D 0;have ap:=aK D 1;have am:=aK D 2;have ab:=zH U;have a6:=zH (((a5.alloc a5.size (.cells (bK (a:Int)) 3)).t (G.x Sx)).setCell (p:=⟨(w:Nat)+1+1,1,none⟩) (by show(w:Nat)<=w+1+1;omega) (.slice (bH br) (k+1) bo));have bi:=zH (xw.S (i:=1) (x:=.slice (bH br) (k+1) bo) (bh.ext Gn Z.le (aw _ _)) Gn G);clear H ad ac G U D))
    clear ao a2 p2 ah ap am;try clear T z1 z2
    generalize cn.setCell ⟨(w:Nat)+1+1,1,none⟩ _=a8 at ab a6 bi ⊢;have⟨T,z1,z2⟩:=aD ab.Β;go_wp2_with ((at_builtin;refine de qy rfl (.tmp 80) (.tmp 82) rfl W (a8.alloc (.cells (bK (ba:Int)) 3)) (.slice O k cO) (bD s.o) (ba:Int) [.int .i64 (ba:Int)] a8 ((ab.o3).ext (aw _ _)) rfl SU (kn.d ((ab.o3).ext (aw _ _)) (aZ ab.le (aw _ _).size) fun _=>rfl) RR (aZ ab.le (aw _ _).size) rfl rfl (aH a8 _ rfl) ?_;intro bu bp w3 H ad ac G;rw[JS.o]at H ⊢;have⟨U,D⟩:=X3.ziJ ab ad ac G H;have⟨ao,a2,p2⟩:=aD D;have ah:=aK D 0;have ap:=aK D 1;have am:=aK D 2;have HX3:=zH U;have a1:=zH (((a6.alloc a6.size (.cells (bK (ba:Int)) 3)).t (G.x Sx)).setCell (p:=⟨(w:Nat)+1+1,2,none⟩) (by show(w:Nat)<=w+1+1;omega) (.slice (bH bu) (k+1) bp));have cb:=zH (xw.S (i:=2) (x:=.slice (bH bu) (k+1) bp) (bi.ext Gn ab.le (aw _ _)) Gn G);clear H ad ac G U D))
    go_roundw
    case rel=>exact⟨k+1,s.add k a ba,cc,_,_,_,_,_,_,Qx,ca,Uy,cb,a1⟩
    case measure=>simp[intOf];omega
  .obtain rfl:k=L.length:=by have:=a4.kl;omega
   obtain⟨dO,c0⟩:=a4.U rfl b3.o.1 b3.o.2;have⟨J,Mm⟩:=aR (L.length-1);have⟨co,c8⟩:=aR (s.f.getD (L.length-1) 0);rw[<-c8]at c0;obtain⟨gf,of',rfl,hcF⟩:=(pa bb.o1).θ (k:=J) (by rw[Ii.o];have:=b3.o;omega);have dr:=hcF J (co:Nat) (by rw[c8,Mm];exact dK (CI (by rw[a4.ι];have:=b3.o;omega)));have Gq:IntKind.i64.wrap ((L:Int)-1)=(J:Int):=by rw[bT];have:=b3.o;omega
   have d1:J<L.length:=by have:=b3.o;omega
   have D:=bb.Β;have cq:=(ce 1 Qu).t HY;have d2:wr.heap[w.heap.size]?=_:=(ce 0 Qu).t ea;have⟨T,z1,z2⟩:=aD D;have⟨r0,r1,r2⟩:=aD cq;have⟨f0,f1,f2⟩:=cd cq;have cr:=aF d2 0 rfl;have hy2:=ik (v0:=.slice (some ⟨gf,of',none⟩) L cF) (v1:=.slice I L cI) (v2:=.slice O L cO) cq;have⟨u0,u1,u2⟩:=aD hy2;have⟨cR,c7⟩:=aR (decide (co=0));have e1:((co:Int)==0)=cR:=by rw[c7,jQ];simp
   obtain⟨eb,d8,d7,HS⟩:=gG (by rw[c0,c7]:kj (cJ L)=cR) (pa bb.o1) dO a4;have d0:gf≠(w:Nat)+1:=fun e=>by obtain⟨cs,h⟩:=bb.o1;have:=(bS h.η gf rfl).1;have:=Gn.o;omega
   have cu:=zH d0;have ee:=zH (show ∀a:dM,some (⟨gf,of',none⟩:dM)=some a->(w:Nat)<=a.block from fun a e=>by
    cases e
    obtain⟨cs,h⟩:=bb.o1;have:=(bS h.η gf rfl).1;have:=Gn.o
    show(w:Nat)<=gf
    omega)
   have⟨b4,dl⟩:=bJ (Qu:(w:Nat)+1+1≠(w:Nat)+1) (Qu:w.heap.size≠(w:Nat)+1);have S0:=aQ T (aQ z1 (aQ z2 (aQ cr dr)));have d5:=zH ci;clear a4 bb ce ci hcF D cq d2 hy2 dO c0 c8 Mm c7 d0 T z1 z2 cr dr;go_upto_region 32 with(fail)
   go_region_held3 (fun V=>af V ((w:Nat)+1+1) 0 (.slice (some ⟨gf,of',none⟩) L cF)/\af V ((w:Nat)+1+1) 1 (.slice I L cI)/\af V ((w:Nat)+1+1) 2 (.slice O L cO)/\af V w 0 (.slice A L ε)/\af V gf (of'+J) (zI (co:Nat)))
    (first|with_reducible exact S0|with_reducible exact kU (aC _) S0|with_reducible exact⟨gO b4.o S0.1,gO b4.o S0.2.1,gO b4.o S0.2.2.1,gO dl.o S0.2.2.2.1,gO cu.o S0.2.2.2.2⟩|with_reducible exact kU (aC _) ⟨gO b4.o S0.1,gO b4.o S0.2.1,gO b4.o S0.2.2.1,gO dl.o S0.2.2.2.1,gO cu.o S0.2.2.2.2⟩) (fail)
   go_wp2;exact aI (v:=.tuple #[.agg #[.slice (some ⟨gf,of',none⟩) L cF,.slice I L cI,.slice O L cO],.bool cR]) TS rfl ⟨_,_,_,_,_,_,_,_,_,by rw[eb.o],(((d5.setCell (p:=⟨(w:Nat)+1,0,none⟩) (by show(w:Nat)<=w+1;omega) _).setCell (p:=⟨(w:Nat)+1,1,none⟩) (by show(w:Nat)<=w+1;omega) _).setCell (p:=⟨(w:Nat)+1,2,none⟩) (by show(w:Nat)<=w+1;omega) _).drew,fun _=>⟨s,cK,d7,HS.ok,HS.ι,rfl,ee,((zaK (b:=(w:Nat)+1) d8 fun e=>cu (by cases e;rfl)).ext (aC _))⟩⟩
def EF L A ε w(ao:bR 3 jK w A L)(bd:L.length<=1048576):az 103 (cY (aV A L ε)) w (zi9 L w):=by
 have Z:=((al w w).alloc (ae _) (.cells (aV A L ε) 35)).alloc Qt (.cells rG 145);have ac:=(bO (w.alloc (.cells (aV A L ε) 35)) (.cells rG 145) (k:=w.heap.size) Qt).t (aH w _ rfl);have F:=aH (w.alloc (.cells (aV A L ε) 35)) (.cells rG 145) (n:=(w:Nat)+1) Qt;have a0:=zH (fun V (bb:ag w V)=>zeP L A ε V (bQ ao bb) bd);clear ao;go_enter func103,ntmps103
 go_upto_region 1 with(fail)
 generalize (w.alloc _).alloc _=W at Z ac F ⊢;have bo:=aF ac 0 rfl;obtain⟨H,a2,a3⟩:=er Z F (show(w:Nat)+1<W from(bk.1 F).1);clear Z ac F;go_wp2_with ((go_at_call 149;(with_reducible refine(a0.o _ H.o).x ?_);intro e bn D;unfold zi9 at D;obtain⟨G,ad,O,I,ah,T,J,am,U,a5,ab,ap⟩:=D;subst a5;have h:=ai a2 ab;have⟨bg,bh,bi⟩:=aD h;have f0:=aK h 0;have f1:=aK h 1;have f2:=aK h 2;have y:=ik (v0:=.slice G ad O) (v1:=.slice I ah T) (v2:=.slice J am U) h;have⟨u0,u1,u2⟩:=aD y;have a1:=zH ap;have av:=zH (aT H ab);clear ab h y ap))
 refine aI (v:=.tuple #[.agg #[.slice G ad O,.slice I ah T,.slice J am U],.bool (kj (cJ L))]) (by simp[results,results103,go_sem, *]) rfl ⟨G,ad,O,I,ah,T,J,am,U,rfl,((av.setCell (p:=⟨(w:Nat)+1,0,none⟩) (by show(w:Nat)<=w+1;omega) _).setCell (p:=⟨(w:Nat)+1,1,none⟩) (by show(w:Nat)<=w+1;omega) _).setCell (p:=⟨(w:Nat)+1,2,none⟩) (by show(w:Nat)<=w+1;omega) _,fun D=>?_⟩;obtain⟨s,a4,a6,a7,a8,a9,an,Y⟩:=a1 D;refine⟨s,a4,a6,a7,a8,a9,fun a e=>aZ H.size (an a e),?_⟩;rcases Y with Y|⟨b,o,e,bc⟩
 .exact ay Y
 .subst e;refine zaK (au ⟨b,o,rfl,bc⟩) fun e=>?_
  have ba:=an _ rfl;have be:=a3.o;cases e
  dsimp only at ba;omega
def zi0:RT prog 33 95 3 (.agg (CX (ByteArray.mk #[]))) 32:=⟨underlying33,QT,Qw,Qw,Qw⟩
def DY(x:eE):List Value:=[.int .i64 x.k,.int .i64 x.v,.string x.s]
def zi1{o}:∀{xs:List eE},(∀(k:Nat) (x:eE),xs[k]?=some x->∃c,(∀(j:Nat) (y:aG),c[j]?=some y->af w b (o+k*3+j) y)/\jK w x c)->∀(j:Nat) (u:aG),(xs.map DY).flatten[j]?=some u->af w b (o+j) u:=by
 intro xs H j u G;have F:∀c∈xs.map DY,c.length=3:=fun c hc=>Ua
 have J:j < (xs.map DY).flatten.length:=(bG.1 G).1;rw[mL F,bs]at J;have⟨x,hx⟩:=aq (Qu:j / 3<xs.length);have D:=mM (j:=j%3) F (RH:(xs.map DY)[j / 3]?=some (DY x)) (Nat.mod_lt _ Qw);rw[show j / 3*3+j%3=j by omega,G]at D;obtain⟨c,I,h⟩:=H _ x hx;unfold jK at h;subst h;have:=I (j%3) u D.q;rwa[show o+j / 3*3+j%3=o+j by omega]at this
def Cn(Y:o.guard=none)I x(ab:o.op=.call {callee:=.builtin .append,args:=#[I,x],argTypes:=#[33,33]})B W v A ε ys(D:bw 95 3 jK W B v [])(T:bR 3 jK W A ys)(O:0<ys.length)(G:B<=(W:Nat))(ap:ys.length<=1048576)(ac:a.eval I=v)(H:a.eval x=.slice A ys ε)(h:∀v' w',bw 95 3 jK w' B v' ys->Below B W w'->wpList prog ops Q rest (a.put o.dst v') w'):wpList prog ops Q (o::rest) a W:=by
 have⟨ao,hi,ah,am,an⟩:=dp zi0.Ï;obtain⟨cs,D⟩:=D;obtain⟨b,of,rfl,hc⟩:=T.θ O;have U:∀c∈ys.map DY,c.length=3:=fun c hc=>Ua
 have J:∀(k:Nat) (x:eE) (c:cL),ys[k]?=some x->(ys.map DY)[k]?=some c->c.length=3/\(∀u∈c,u.oneCell'=true)/\kn jK W B v x c:=fun k x c H hc=>by
  rw[bI,H]at hc;cases hc
  exact⟨rfl,fun u hu=>VB,kn.d ⟨cs,D⟩ G fun W=>rfl⟩
 refine AE W Y I x 33 ab B 95 ao _ 3 32 zi0.und hi ah am an zi0.zs zi0.pos v _ _ ac D.η ⟨b,of,none⟩ ys ε (ys.map DY).flatten H (by rw[mL U,bs]) (fun j u Z=>by rw[dF];exact zi1 hc j u Z) ?_ ?_ ?_ G ?_
 .intro u hu;obtain⟨c,hc,hu⟩:=uv.1 hu;obtain⟨k,F⟩:=eH.1 hc;obtain⟨y,ad⟩:=aq (show k<ys.length by have:=(bG.1 F).1;simpa using this);exact(J k y c ad F).2.1 u hu
 .unfold maxLen;simp;omega
 .simp;omega
 .refine OL fun v' w' FT Gx _ Ha hv=>?_
  exact h v' w' ⟨cs++ys.map DY,D.th (bs ..) J FT Gx hv⟩ ((al _ _).grown Gx G fun k F=>(bS D.η k F).1)
def zaA L A ε w(ad:bR 3 jK w A L)(a5:0<L.length)(a6:L.length<=1048576):az 152 (aV A L ε) w fun e w'=>∃h D,e=.returned (.agg (aV h L D))/\L.length<=D/\Fr w' w w' (fun V=>bR 3 jK V h L)/\ag w w':=by
 have⟨G,I⟩:=bM w (.cells lU 35);have T:=bQ ad G;go_enter func152,ntmps152
 go_upto_region 1 with(fail)
 generalize w.alloc _=W at G I T ⊢;have ac:=zH (show(w:Nat)<W from(bk.1 I).1);have H:=aw W (.cells #[] 95);have⟨av,ap⟩:=bJ (bw.lit 95 3 jK W W (ae _)) (bQ T H);have a2:=zH (aw W (.cells #[] 95)).size;have am:=ai I H;have⟨O,Z,a0⟩:=er G H am;clear ad T G I H am;go_wp2_with ((at_builtin;refine Cn rfl _ _ rfl W _ _ A ε L av.o ap.o a5 a2.o a6 rfl rfl ?_;intro ba an U F;obtain⟨h,D,rfl,-,ah,-⟩:=U.p;have Y:=a0.o;have J:=(F.block w ac).t Y;have bc:=aF J 0 rfl;have f0:=aK J 0;have bb:=aF (bE _ _ 0 _ _ (.slice h L D) J) 0 rfl;have a1:=zH (U.y (w':=an.setCell ⟨w,0,none⟩ (.slice h L D)) (fun k a8 a9=>a_ _ _ _ _ (by show k≠w.heap.size;have:=ac.o;omega)) Qt);have ao:=zH ah;have a3:=zH (show(W:Nat)<=(an.setCell ⟨w,0,none⟩ (.slice h L D)) by have:=Z.size;have:=F.size;simp;omega);have ab:=zH (((aT O Z).t (F.x O.size)).setCell (p:=⟨w,0,none⟩) (ae _) (.slice h L D));clear U F Y J ah))
 refine aI (v:=.agg (aV h L D)) (by simp[results,results152,go_sem, *]) rfl ?_;have Y:=ab.size;have a7:=a3.o;exact⟨h,D,rfl,ao,(a1.fr (fun _ _ _ _ _ a4=>a4) a7).x O.size (ae _),ab⟩
def zaB L x A ε w(H:bR 3 jK w A L)(F:L[L.length-1]?=some x)(T:L.length<=1048576):az 104 (cY (aV A L ε)) w fun e w'=>e=.returned (zI x.k)/\ag w w':=by
 have O:L.length-1<L:=(bG.1 F).1;have⟨h,D⟩:=bM w (.cells (aV A L ε) 35);obtain⟨b,o,e,G,-,-⟩:=iF (bQ H h) F;have⟨m,I⟩:=aR (L.length-1);rw[<-I]at G O;have U:IntKind.i64.wrap ((L:Int)-1)=(m:Int):=Rt;clear H F I;generalize L.length=n at *;subst e;go_enter func104,ntmps104
 go_upto_region 1 with(fail)
 generalize w.alloc _=W at h D G ⊢;have Y:=aF D 0 rfl;have J:=zH h;clear h D;go_wp2;go_ret
 exact⟨rfl,J.o⟩
def DZ n L s:mV (n::L) s=match mj s n with|some h=>mV L h|none=>none:=rfl
def zaC:∀(X h:List Nd) (s:vg),mV (X++h) s=match mV X s with|some D=>mV h D|none=>none
 |[],h,s=>rfl
 |n::X,h,s=>by
  rw[wZ,DZ,DZ];cases mj s n with
  |none=>rfl
  |some F=>exact zaC X h F
def zhc{s D}{n}(h:mj s n=some D):∃a b c,D=s.add a b c:=by
 unfold mj at h;split at h
 .cases h;exact⟨_,_,_,rfl⟩
 .split at h
  .split at h
   .cases h;exact⟨_,_,_,rfl⟩
   .cases h
  .cases h
def zi2{k}{a b}{c}{s}(T:(Tm.op k a b).ty=some c)(h:mV (Tm.op k a b).d ⟨[],[],[]⟩=some s):s.f.length=a.d+b.d+1/\s.f.getD (a.d.length+b.d-1) 0=a.d.length:=by
 obtain⟨x,y,Y,Z,-⟩:=Tm.qE T;have U:(Tm.op k a b).d=(a.d++b.d)++[⟨k,0,true⟩]:=rfl;rw[U,zaC]at h;have I:fp (a.d++b.d) []=some [b,a]:=by rw[wI,sY [] Y];exact sY [a] Z
 rcases DX (a.d++b.d) (s:=⟨[],[],[]⟩) (S:=[]) ⟨rfl,rfl,rfl⟩with⟨D,S',H,F,O⟩|⟨H,F⟩
 .rw[I]at F;cases F
  rw[H]at h;dsimp only at h;unfold mV at h;cases G:mj D ⟨k,0,true⟩with
  |none=>rw[G]at h;cases h
  |some a5=>
   rw[G]at h;dsimp only at h;unfold mV at h;cases h
   obtain⟨u,v,z,rfl⟩:=zhc G;obtain⟨d,av,a0,a1,a2,a3,a4,ab,ac,ad,ah,am,an,ao,J⟩:=O.ch;have ap:D.f.getD (D.f.getD (D.f.length-1) 0-1) 0=0:=J;refine⟨by show(D.f++[u]).length=_;rw[bm,Dd];omega,?_⟩
   show(D.f++[u]).getD _ 0=_
   rw[yZ Qu,show a.d.length+b.d-1=D.f-1 by omega];omega
 .rw[I]at F;cases F
def zeJ x left w(D:x.s.size<=maxLen)(G:0<=left)(H:left<=1048576):az 47 (jy (re x) left) w fun e w'=>∃r,e=.returned (zI r)/\Þ left r x.s.size/\ag w w':=by
 have h:=zH (aw w (.cells (re x) 88));obtain⟨k,v,s⟩:=x;dsimp only at D h ⊢;unfold maxLen at D;by_cases F:left-s.size<0
 .go_enter func47,ntmps47
  go_wp2;go_ret
  exact⟨_,rfl,ay Qw,h⟩
 .go_enter func47,ntmps47
  go_wp2;go_ret
  exact⟨_,rfl,au Qu,h⟩
def zc9 A ε L(left:Int)w(G:bR 3 jK w A L)(ab:L.length<=maxLen)(I:∀x∈L,x.s.size<=maxLen)(av:0<=left)(a0:left<=1048576):az 21 #[.slice A L ε,left] w fun e w'=>∃r,e=.returned (zI r)/\Þ left r L/\ag w w':=by
 unfold maxLen at ab;by_cases am:left-L.length<0
 .go_enter func21,ntmps21
  exact Wu
 .go_enter func21,ntmps21
  go_wp2;go_loopw [1,5] (fun l i wr=>∃(k:Nat) (q:Int),k<=L.length/\i=.int .i64 k/\l=.int .i64 q/\0<=q/\q<=left/\ag w wr) (fun _ i _=>L.length-(intOf i).toNat)
  case atStart=>exact⟨0,_,aW _,rfl,rfl,Qu,Qu,al _ _⟩
  case round=>
   obtain⟨k,q,ap,rfl,rfl,J,ac,h⟩:=hrel;by_cases Z:k<L.length
   .have⟨r,D⟩:=aq Z;obtain⟨b,o,rfl,ah,c1,c2⟩:=iF (bQ G h) D;have⟨U,T⟩:=bJ (I r (aU D)) h;clear D I G h;go_wp2_with ((go_at_call 47;refine(zeJ _ _ _ U J Qu).x ?_;rintro e w' ⟨ad,rfl,O,H⟩;have Y:=zH O;have FV:=zH (aJ T.o H);clear O H))
    .exact Wm
    .go_roundw
     case rel=>
      rcases Y.o with F|⟨F,an,ao⟩
      .omega
      .exact⟨k+1,ad,Qu,Qx,rfl,F,Qu,FV⟩
     case measure=>simp[intOf];omega
   .go_wp2;go_ret
    exact⟨_,rfl,au ⟨J,ac,Qu⟩,h⟩
def tw A ε L left w(D:bR 3 jK w A L)(U:L.length<=maxLen)(Y:∀x∈L,x.s.size<=maxLen)(O:0<=left)(T:left<=1048576):az 6 (jy (aV A L ε) left) w fun e w'=>∃r,e=.returned (zI r)/\Þ left r L/\ag w w':=by
 have h:=aw w (.cells (aV A L ε) 24);have H:=zH h;have J:=bQ D h;clear h D;go_enter func6,ntmps6
 go_wp2_with ((go_at_call 21;refine(zc9 _ _ _ _ _ J U Y O T).x ?_;rintro e w' ⟨Z,rfl,G,F⟩;have I:=zH G;have FV:=zH (aJ H F);clear G F))
 .exact Wm
 .go_ret
  exact⟨_,rfl,I,FV⟩
def zeK x w:az 51 (cY (re x)) w fun e w'=>e=.returned (.agg (re x))/\ag w w':=by
 obtain⟨k,v,s⟩:=x;dsimp only;go_enter func51,ntmps51
 go_wp2;refine aI (v:=.agg (dN k v s)) (by simp[results,results51,go_sem, *]) rfl ⟨rfl,?_⟩
 repeat (refine lj ?_ Rs _)
 exact(((al _ _).alloc Qt _).alloc Qt _).alloc Rs _
def ed(w:aa)(B:Nat)(v:aG)(L:List eE):Prop:=w.ownsRow B 95 3 v L.length (L.map DY).flatten
def zc_:eE:=⟨0,0,ByteArray.mk #[]⟩
def zaw:∀{L:List eE} {k j:Nat} {x:eE},L[k]?=some x->j<3->(L.map DY).flatten[k*3+j]?=(DY x)[j]?
 |L,k,j,x,h,D=>mM (fun c hc=>Ua) (by rw[bI,h];rfl) D
def zg8(L:List eE):(L.map DY).flatten.length=L*3:=by rw[mL (s:=3) (fun c hc=>Ua),bs]
def zax:∀{L:List eE} {k:Nat} (x:eE),k<L.length->((((L.map DY).flatten.set (k*3) (zI x.k)).set (k*3+1) (zI x.v)).set (k*3+2) (.string x.s))=((L.set k x).map DY).flatten
 |[],k,x,hk=>by simp at hk
 |y::L,0,x,hk=>by simp[DY]
 |y::L,k+1,x,hk=>by
  have:=zax (L:=L) (k:=k) x Rj;simp only[xh,se,uH];rw[<-this];have e:∀j,(k+1)*3+j=(k*3+j)+3:=fun j=>Qu
  have h:(k+1)*3=k*3+3:=Qu;simp only[DY,wZ,rP,e,h,xh]
def zeL n:(madeCells (Value.agg #[.int .i64 0,.int .i64 0,.string (ByteArray.mk #[])]).cells (n*3)).toList=((List.replicate n zc_).map DY).flatten:=by
 apply gk;intro i;by_cases hi:i<n*3
 .have D:i / 3<n:=Qu;have:=zaw (L:=List.replicate n zc_) (k:=i / 3) (j:=i%3) (x:=zc_) (by simp[D]) Qu;rw[show i / 3*3+i%3=i by omega]at this;rw[this];have F:i%3=0∨i%3=1∨i%3=2:=Qu;rcases F with h|h|h<;>simp[madeCells,Value.cells,hi,h,DY,zc_]
 .rw[eP (by simp[madeCells];omega),eP (by rw[zg8];simp;omega)]
section
variable{w w':aa}{B:Nat}{v:aG}{L:List eE}
def ed.zmY(h:ed w B v L)(F:B<=(w:Nat)):bw 95 3 jK w B v L:=
 ⟨L.map DY,h,bs _,fun k x c G D=>by
  rw[bI,G]at D;cases D
  exact⟨rfl,fun u hu=>VB,B,B,ae _,F,fun g e=>au (bS h g e).1,Fr.all fun _=>rfl⟩⟩
def ed.ext(D:ed w B v L)(h:ag w w'):ed w' B v L:=jA D (row:=none) ⟨h.os,h.tape,h.output,h.size,fun k F _=>h.block k F⟩ TC
def ed.y(D:ed w B v L)(J:∀k,B<=k->w'.heap[k]?=w.heap[k]?):ed w' B v L:=⟨D.1,D.2.E id fun⟨g,ε,I,F,h,G,H⟩=>⟨g,ε,I,F,h,(J g h).t G,H⟩⟩
def ed.setCell(h:ed w B v L){a}(D:a.block<B)u:ed (w.setCell a u) B v L:=h.y fun k F=>a_ _ _ _ _ Qu
def ed.À(h:ed w B v L)(I:B'<=B):ed w B' v L:=⟨h.1,h.2.E id fun⟨g,ε,G,D,H,F⟩=>⟨g,ε,G,D,Qu,F⟩⟩
def ed.cells{g ε}(J:n=L.length)(F:ed w B (.slice (bH g) n ε) L)(I:k<n):∃x,L[k]?=some x/\(af w g (k*3) (zI x.k)/\af w g (k*3+1) (zI x.v)/\af w g (k*3+2) (.string x.s))/\(w.frozen? ⟨g,k*3,none⟩=false/\w.frozen? ⟨g,k*3+1,none⟩=false/\w.frozen? ⟨g,k*3+2,none⟩=false):=by
 subst J;have⟨x,G⟩:=aq I;have D:∀j,j<3->w.cell? ⟨g,k*3+j,none⟩=(DY x)[j]?:=fun j H=>by rw[World.ownsRow.C F _ Qu,zaw G H]
 have h:=World.ownsRow.g F;exact⟨x,G,⟨D 0 Qw,D 1 Qw,D 2 Qw⟩,⟨h _,h _,h _⟩⟩
def ed.put{g ε}x(I:n=L.length)(G:ed w B (.slice (bH g) n ε) L)(H:k<n):ed (((w.setCell ⟨g,k*3,none⟩ (zI x.k)).setCell ⟨g,k*3+1,none⟩ (zI x.v)).setCell ⟨g,k*3+2,none⟩ (.string x.s)) B (.slice (bH g) n ε) (L.set k x)/\w.grownBy (((w.setCell ⟨g,k*3,none⟩ (zI x.k)).setCell ⟨g,k*3+1,none⟩ (zI x.v)).setCell ⟨g,k*3+2,none⟩ (.string x.s)) (some g):=by subst I;have h:=World.ownsRow.j G (k*3) (zI x.k);have D:=h.1.j (k*3+1) (zI x.v);have F:=D.1.j (k*3+2) (.string x.s);refine⟨?_,cx (cx h.2 D.2) F.2⟩;have:=F.1;rw[zax x H]at this;unfold ed;simpa using this
def ed.p(h:ed w B v L)(G:B<=(w:Nat)):∃A ε,v=.slice A L ε/\bR 3 jK w A L/\L.length<=ε:=by obtain⟨A,ε,e,D,F,-⟩:=(h.zmY G).p;exact⟨A,ε,e,D,F⟩
end
def zda A ε L w(ab:bR 3 jK w A L)(a7:L.length<=1048576):az 26 (aV A L ε) w fun e w'=>∃u,e=.returned u/\ed w' w u L/\ag w w':=by
 have⟨a3,hi,a1,a2,FU⟩:=dp zi0.Ï;go_enter func26,ntmps26
 go_wp2_with ((at_make;refine jg _ rfl _ _ 33 rfl w.heap.size 95 a3 (.agg (CX (ByteArray.mk #[]))) 3 underlying33 hi a1 a2 .i64 .i64 L.length L.length L.length rfl rfl rfl rfl RF SL (ae _) ?_;intro a4 h ad))
 have ac:=cy ad;rw[zeL]at h;have U:=zH (by unfold ed;rw[fA];exact h:ed a4 w (.slice (bH w) L L) (List.replicate L zc_));clear h ad;go_loopw [4] (fun i wr=>∃k:Nat,k<=L.length/\i=.int .i64 k/\ed wr w (.slice (bH w) L L) (eF L zc_ k)/\ag w wr)
  (fun i _=>L.length-(intOf i).toNat)
 case atStart=>exact⟨0,aW _,rfl,by rw[iP];exact U,ac⟩
 case round=>
  obtain⟨k,a6,rfl,h,D⟩:=hrel;have Y:=zH h;clear h U ac;by_cases G:k<L.length
  .have⟨r,I⟩:=aq G;obtain⟨a5,o,rfl,ap,c1,c2⟩:=iF (bQ ab D) I;obtain⟨ao,T⟩:=bJ (jq L zc_ r k I) (by simp[eF];omega:L.length=(eF L zc_ k));have a0:=D.size;have ah:=zH D;clear I ab D;go_wp2_with ((go_at_call 51;refine(zeK _ _).x ?_;rintro e a8 ⟨rfl,F⟩;have J:=zH F;have O:=zH (Y.ext F);obtain⟨a9,_,⟨d0,d1,d2⟩,⟨f0,f1,f2⟩⟩:=O.cells T.o G;clear F))
   have H:=O.put r T.o G;have⟨an,am⟩:=bJ H.1 H.2;clear H d0 d1 d2 f0 f1 f2 ap c1 c2;go_roundw
   case rel=>exact⟨k+1,Qu,Qx,by rw[<-ao.o];exact an,(ah.t (J.o.x a0)).t (rY (al w _) am (by have:=J.o.size;omega) (fun b av=>by cases av;exact ae _))⟩
   case measure=>simp[intOf];omega
  .go_wp2;go_ret
   have Z:=Y.o;rw[jo _ _ _ Qu]at Z;exact⟨_,rfl,Z,D⟩
def tx A ε L w(Y:bR 3 jK w A L)(ao:L.length<=1048576):az 9 (cY (aV A L ε)) w fun e w'=>∃D c2,e=.returned (.agg (aV D L c2))/\L.length<=c2/\ed w' w (.slice D L c2) L/\ag w w':=by
 have F:=ζ w (.cells (aV A L ε) 24) (.cells lU 35) (.cells lU 35);have⟨I,J,G⟩:=cD w (.cells (aV A L ε) 24) (.cells lU 35) (.cells lU 35);go_enter func9,ntmps9
 go_upto_region 2 with(fail)
 generalize ((w.alloc _).alloc _).alloc _=W at F I J G ⊢;have ad:=zH (bQ Y F);have a0:=aF I 0 rfl;obtain⟨O,T,U,ah⟩:=gG F J G (show(w:Nat)+1+1<W from(bk.1 G).1);clear Y F I J G;go_wp2_with (go_at_call 26;(with_reducible refine(zda A ε L W ad.o ao).x ?_);rintro e av ⟨u,rfl,H,h⟩;obtain⟨D,c2,rfl,-,Z⟩:=ed.p H h.size;have am:=zH H;have ac:=zH Z;have ab:=zH (aJ O h);have a1:=aF (ai T.o h) 0 rfl;have f1:=aK (ai T.o h) 0;have a2:=aF (ai U h) 0 rfl;have f2:=aK (ai U h) 0;have ap:=zH h.size;clear H h Z)
 refine aI (v:=.agg (aV D L c2)) (by simp[results,results9,go_sem, *]) rfl ⟨D,c2,rfl,ac,?_,?_⟩
 .have an:=ah.o;exact((am.setCell (a:=⟨(w:Nat)+1+1,0,none⟩) an (.slice D L c2)).setCell (a:=⟨(w:Nat)+1,0,none⟩) (by show(w:Nat)+1<_;omega) (.slice D L c2)).À (by have:=O.size;omega)
 .exact(ab.setCell (p:=⟨(w:Nat)+1+1,0,none⟩) Rs _).setCell (p:=⟨(w:Nat)+1,0,none⟩) Qt _
def za9{D}{E}{xs:List D}(h:bR s E w A xs)n:bR s E w A (xs.take n):=by
 rcases h with h|⟨b,o,e,F⟩
 .exact V_
 .exact au ⟨b,o,e,fun k x G=>F k x (rE G)⟩
def zhZ{F}{E}{o}{xs:List F}(h:bR s E w (some ⟨b,o,none⟩) xs)n:bR s E w (some ⟨b,o+n*s,none⟩) (xs.drop n):=by
 rcases h with h|⟨O,T,e,I⟩
 .exact V_
 .cases e
  refine au ⟨b,o+n*s,rfl,fun k x D=>?_⟩;rw[fQ]at D;obtain⟨c,G,H⟩:=I _ x D;refine⟨c,fun j y J=>?_,H⟩;have:=G j y J;rwa[Nat.add_mul,<-ow]at this
def znd(L:List eE)(m n:Nat)(w:aa)(e:Ending)(w':aa):Prop:=∃A1 c1 h c2,e=.returned (.tuple (iV (bZ A1 m c1) (bZ h n c2)))/\m<=c1/\n<=c2/\bR 3 jK w' A1 (L.take m)/\bR 3 jK w' h ((L.drop m).take n)/\ag w w'
def zd2 k a b c L A ε w(Z:bR 3 jK w A L)(hL:cJ L=(Tm.op k a b).d)(a7:(Tm.op k a b).ty=some c)(b4:L.length<=400)(ac:L.length<=ε):az 106 (cY (aV A L ε)) w (znd L a.d b.d w):=by
 have G:L.length=a.d+b.d+1:=Xs;have br:kj (cJ L)=true:=(zdm (by rw[hL];exact Tm.sQ _) (by rw[show(cJ L).length=L by simp[cJ]];exact b4)).2 ⟨_,hL,_,a7⟩;have a0:=fun s (Y:mV (cJ L) ⟨[],[],[]⟩=some s)=>(zi2 a7 (by rw[<-hL];exact Y)).2
 have ad:=a.sQ;have ah:=b.sQ;obtain⟨H,I,rfl,-⟩:=Z.θ (Qu:0<L.length);have⟨bh,a5,U⟩:=er (fun V (ab:ag w V)=>EF L (some ⟨H,I,none⟩) ε V (bQ Z ab) Qu) (fun V (ab:ag w V)=>zaA (L.take a.d) (some ⟨H,I,none⟩) ε V (za9 (bQ Z ab) _) Rv Rv) (fun V (ab:ag w V)=>zaA ((L.drop a.d).take b.d) (some ⟨H,I+a.d.length*3,none⟩) (ε-a.d.length) V (za9 (zhZ (bQ Z ab) _) _) R6 R6);rw[show(L.take a.d).length=a.d by rw[cQ];omega]at a5;rw[show((L.drop a.d).take b.d).length=b.d by rw[cQ,fS];omega]at U;have hB:=ζ w (.cells (aV (some ⟨H,I,none⟩) L ε) 35) (.cells lU 35) (.cells lU 35);have⟨q0,q1,q2⟩:=cD w (.cells (aV (some ⟨H,I,none⟩) L ε) 35) (.cells lU 35) (.cells lU 35);have⟨am,b7⟩:=aR a.d.length;have⟨bc,b8⟩:=aR b.d.length;have⟨l,a9⟩:=aR L.length;rw[<-b7]at G a0 ad a5 U ⊢;rw[<-b8]at G a0 ah U ⊢;rw[<-a9]at G b4 ac bh hB q0 q1 q2 ⊢;have⟨cO,bi,be⟩:=er a0 br a9;have⟨h,dr⟩:=aR (l-1);have ba:bc=h-am:=Qu;have a3:l=h+1:=Qu;have eo:h<=ε:=Qu;have d1:am<=h:=Qu;have d0:am<=ε:=Qu;rw[ba]at U ⊢;have⟨cB,cF,ei,cV,cR,cA⟩:=ny G a3 ba ah ad ac;clear hL a7 a0 br Z b7 b8 a9 G dr a3 ba ah ad ac;go_enter func106,ntmps106
 go_upto_region 1 with(fail)
 generalize (((w.alloc _).alloc _).alloc _)=W at hB q0 q1 q2 ⊢;have x0:=aF q0 0 rfl
 have⟨bd,co,cp,cq⟩:=gG hB q0 q1 q2;clear hB q0 q1 q2;go_upto_region 2 with(go_at_call 103;(with_reducible refine(bh.o _ bd.o).x ?_);intro e ck Y;unfold zi9 at Y;obtain⟨cn,d6,db,c8,d7,dc,c9,d8,dl,bo,bu,b9⟩:=Y;rw[bi.o]at bo;subst bo;have cK:=zH (b9 bi);have cr:=zH bu;clear bu b9)
 have⟨a1,a4⟩:=bM ck (.cells #[.slice cn d6 db,.slice c8 d7 dc,.slice c9 d8 dl] 145);generalize ck.alloc _=eb at a1 a4 ⊢;obtain⟨s,ej,cc,-,ce,b6,-,bp⟩:=cK.o;have b3:=cO.o s cc;have bq:=bp.ext a1;rw[b6,<-be.o]at a4;have d2:s.f.length=l:=ce.t be.q;have G:=cB.o;have ad:=cR.o;have ah:=cV.o;have ac:=cA.o;have a3:=cF.o;have⟨v,bb⟩:=aq (Qu:am+bc-1<s.f.length);have d3:v=am:=by rw[<-b3,bf,bb];rfl
 subst d3;obtain⟨ek,em,rfl,b1⟩:=bq.θ (Rn:0 < (bD s.f).length);have b2:=b1 _ _ (dK bb);have⟨m,b5⟩:=aR (v+bc-1);rw[<-b5]at b2;have T:=zH (aT cr a1);have ap:=zH (aT bd T.o);have x0:=aF (ai co T.o) 0 rfl;have⟨ee,eg,z2⟩:=aD a4;have⟨ao,O⟩:=bJ (ai cp T.o) (ai cq T.o);have es:¬(ε=v):=Qu;have dT:m<l:=Qu;have d4:IntKind.i64.wrap ((l:Int)-1)=(h:Nat):=Rt;have d5:IntKind.i64.wrap ((h:Int)-1)=(m:Int):=Rt;have⟨bg,cI⟩:=bJ (Qu:w.heap.size≠(w:Nat)+1) (Qu:w.heap.size≠(w:Nat)+1+1);clear a1 a4 b3 bp bq ce b6 bb b1 cc G b5 d2 ad ah ac a3;go_upto_region 4 with(fail)
 clear ee eg z2 d4 d5 b2 dT;have⟨an,ch⟩:=aR eb;rw[<-ch]at T ap ao O x0 ⊢;clear ch;go_region_held3 (fun V=>af V w 0 (.slice (some ⟨H,I,none⟩) l ε))
  (first|with_reducible exact x0|with_reducible exact ar (aC _) x0|with_reducible exact ar av.o x0|with_reducible exact ar D.o x0|with_reducible exact(cE bg.o).t (ar D.o x0)|with_reducible exact(cE cI.o).t ((cE bg.o).t (ar D.o x0)))
  ((first|(go_at_call 152;(with_reducible refine(a5.o _ (ap.o.t ((aC an).x ap.o.size))).x ?_);rintro e ev ⟨A1,c1,rfl,bz,ca,bv⟩;have av:=zH ((aC an).t (bv.x (aC an).size));have bn:=zH (aT ap av);have cu:=zH bz;have cW:=zH ca;clear bz ca bv)|(go_at_call 152;(with_reducible refine(U.o _ bn.o).x ?_);rintro e J ⟨F,c2,rfl,b0,cb,a2⟩;have D:=zH (aT av a2);have c7:=zH (aT bn a2);have cz:=zH b0;have c3:=zH cb;have c5:=zH (cW.ext a2 (ae _));have c6:=zH (av.size);have d9:=aF (ai ao D) 0 rfl;have f0:=aK (ai ao D) 0;have ea:=aF (ai O D) 0 rfl;have f1:=aK (ai O D) 0;clear b0 cb a2)))
 have ci:=ai ao D;have cj:=ai O D;have ey:=(cE (w:=J.setCell ⟨(w:Nat)+1,0,none⟩ (.slice A1 v c1)) (p:=⟨(w:Nat)+1,0,none⟩) (a:=⟨(w:Nat)+1+1,0,none⟩) (u:=.slice F (h-v) c2) (by show(w:Nat)+1≠(w:Nat)+1+1;omega)).t (aF (bE _ _ 0 _ _ (.slice A1 v c1) ci) 0 rfl);have ez:=aF (bE _ _ 0 _ _ (.slice F (h-v) c2) ((a_ J ⟨(w:Nat)+1,0,none⟩ (.slice A1 v c1) ((w:Nat)+1+1) (by show(w:Nat)+1+1≠(w:Nat)+1;omega)).t cj)) 0 rfl;have dO:(w:Nat)+1+1<an:=(bk.1 O).1;have a8:∀k,(an:Nat)<=k->((J.setCell ⟨(w:Nat)+1,0,none⟩ (.slice A1 v c1)).setCell ⟨(w:Nat)+1+1,0,none⟩ (.slice F (h-v) c2)).heap[k]?=J.heap[k]?:=fun k Y=>(a_ _ _ _ _ (by show k≠(w:Nat)+1+1;omega)).t (a_ _ _ _ _ (by show k≠(w:Nat)+1;omega))
 have c0:=zH (c5.y (w':=(J.setCell ⟨(w:Nat)+1,0,none⟩ (.slice A1 v c1)).setCell ⟨(w:Nat)+1+1,0,none⟩ (.slice F (h-v) c2)) fun k a6 dq=>a8 k a6).D;have c4:=zH (c3.y (w':=(J.setCell ⟨(w:Nat)+1,0,none⟩ (.slice A1 v c1)).setCell ⟨(w:Nat)+1+1,0,none⟩ (.slice F (h-v) c2)) fun k a6 dq=>a8 k (aZ c6 a6)).D;have ct:=zH ((c7.setCell (p:=⟨(w:Nat)+1,0,none⟩) (by show(w:Nat)<=w+1;omega) (.slice A1 v c1)).setCell (p:=⟨(w:Nat)+1+1,0,none⟩) (by show(w:Nat)<=w+1+1;omega) (.slice F (h-v) c2));clear ci cj dO a8 d9 ea f0 f1 x0 d1 d0;go_wp2;exact aI (v:=.tuple (iV (bZ A1 v c1) (bZ F (h-v) c2))) (by simp[results,results106,go_sem, *]) rfl ⟨A1,c1,F,c2,rfl,cu,cz,c0,c4,ct⟩
def zl2:(prog.info? 57).map (fun i=>(i.zero,i.size,i.bytes))=some (some (.agg bx),3,40):=QT
def aY.zle{w w'}{B}{D}{v}{xs}(h:aY w B u rows)(O:26≠D)(T:3≠D)(I:w.ownsRow B' D s v n xs)(F:w.grownBy w' v.ownBlock):aY w' B u rows:=by obtain⟨us,h⟩:=h;exact⟨us,jA h.η F (vT O h.η I),fun k J r H G=>aE.kept (h.ν k J r H G) F (vT T (h.ν k J r H G) I),h.apart⟩
def kx(x:Sy)(u:aG):List Value:=[.int .i64 x.v,.int .i64 x.h,u]
def xT:List Sy->List Value->List Value
 |x::xs,u::us=>kx x u++xT xs us
 |_,_=>[]
def BL{j}(F:j<3):∀{xs:List Sy} {us:cL} {k:Nat} {x:Sy} {u:aG},xs[k]?=some x->us[k]?=some u->(xT xs us)[k*3+j]?=(kx x u)[j]?
 |[],us,k,x,u,h,_=>QO
 |x::xs,[],k,_,_,_,h=>QO
 |x::xs,u::us,0,y,t,h,D=>by simp at h D;subst h D;rw[xT,dU (by simp[kx];omega)];simp
 |x::xs,u::us,k+1,y,t,h,D=>by
  simp only[dm]at h D;have:=BL F h D;rw[xT,fi (by simp[kx];omega)];rw[<-this];congr 1
  simp[kx];omega
def E9:∀{xs:List Sy} {us:cL} (x:Sy) (u:aG),us.length=xs->xT (xs++[x]) (us++[u])=xT xs us++kx x u
 |[],us,x,u,h=>by have:us=[]:=iq Q_;subst this;simp[xT]
 |x::xs,[],_,_,h=>QO
 |x::xs,u::us,y,t,h=>by have:=E9 (xs:=xs) (us:=us) y t Q_;simp[xT,this]
structure tT(w:aa)(B:Nat)(v:aG)(xs:List Sy)(us:cL):Prop where
 ι:us.length=xs
 η:w.ownsRow B 57 3 v xs.length (xT xs us)
 ν:∀(k:Nat) (u:aG) (x:Sy),us[k]?=some u->xs[k]?=some x->aY w B u x.rows
def uY(w:aa)(B:Nat)(v:aG)(xs:List Sy):Prop:=∃us,tT w B v xs us
def zmL(w:aa)(A:ax)(xs:List Sy):Prop:=
 xs=[]∨∃b o,A=some ⟨b,o,none⟩/\∀(k:Nat) (x:Sy),xs[k]?=some x->∃h ε,(af w b (o+k*3) (zI x.v)/\af w b (o+k*3+1) (zI x.h)/\af w b (o+k*3+2) (.slice h x.rows ε))/\bt w h x.rows
section
variable{w w':aa}{B:Nat}{v:aG}{xs:List Sy}{us:cL}
def tT.F(h:tT w B v xs us){x}(hx:xs[k]?=some x):∃u,us[k]?=some u/\aY w B u x.rows:=Ye
def uY.p(h:uY w B v xs):∃A ε,v=.slice A xs ε/\zmL w A xs/\xs.length<=ε/\ε<=maxLen:=by
 obtain⟨us,h⟩:=h;have I:=fun g=>oz h.η (g:=g)
 rcases h.η.2 with⟨rfl,hn⟩|⟨g,ε,U,rfl,Y,Z,hn,hm,ab⟩
 .exact WH
 .refine MG fun k x hk=>?_
  obtain⟨u,O,J⟩:=h.F hk;obtain⟨F,G,rfl,hi,_⟩:=J.p;have D:∀(j:Nat) (y:aG),j<3->(kx x (.slice F x.rows G))[j]?=some y->af w g (0+k*3+j) y:=fun j y H T=>by have:=I g rfl (k*3+j) y (by rw[BL H hk O];exact T);rwa[dF,<-ow]at this
  exact⟨F,G,⟨D 0 _ Qw rfl,D 1 _ Qw rfl,D 2 _ Qw rfl⟩,hi⟩
def tT.ext(D:tT w B v xs us)(h:ag w w'):tT w' B v xs us:=⟨D.ι,jA D.η (row:=none) ⟨h.os,h.tape,h.output,h.size,fun k F _=>h.block k F⟩ TC,fun k u r H G=>(D.ν k u r H G).ext h⟩
def uY.ext(h:uY w B v xs)(D:ag w w'):uY w' B v xs:=by obtain⟨us,h⟩:=h;exact⟨us,h.ext D⟩
def uY.ψ(W:aa)B x u(F:B<=(W:Nat))(G:aY W B u x.rows):uY (W.alloc (.cells #[x.v,x.h,u] 57)) B (.slice (bH W) 1 1) [x]:=by
 refine⟨[u],rfl,?_,fun k H I h D=>?_⟩
 .exact⟨rfl,au ⟨W,1,#[.int .i64 x.v,.int .i64 x.h,u],rfl,F,aH _ _ rfl,ae _,Qw,rfl,rfl⟩⟩
 .cases k with
  |zero=>simp at h D;subst h D;exact G.ext ((al _ _).alloc (ae _) _)
  |succ k=>simp at h
def tT.snoc{x}(h:tT w B v xs us)(O:aY w B u x.rows)(J:w'.ownsRow B 57 3 T (xs.length+1) (xT xs us++kx x u))(G:w.grownBy w' v.ownBlock):tT w' B T (xs++[x]) (us++[u]):=by
 refine⟨by simp[h.ι],by rw[E9 _ _ h.ι];simpa using J,?_⟩;intro k U Y D F;by_cases H:k<us.length
 .rw[dU H]at D;rw[dU (by rw[<-h.ι];exact H)]at F;exact aY.zle (h.ν k U Y D F) Qw Qw h.η G
 .have I:k=us.length:=by have:=(bG.1 D).1;simp at this;omega
  subst I;simp at D;rw[h.ι]at F;simp at F;subst D F;exact aY.zle O Qw Qw h.η G
end
def FO{E}(T:o.guard=none)s x(U:o.op=.call {callee:=.builtin .append,args:=#[s,x],argTypes:=#[106,106]})B W v u xs y(Z:uY W B v xs)(H:aY W B u y.rows)(av:xs.length+1<=1048576)(O:B<=(W:Nat))(ac:a.eval s=v)(ad:a.eval x=.slice (bH W) 1 1)(J:∀g ε w',uY w' B (.slice (bH g) (xs.length+1) ε) (xs++[y])->W.grownBy w' v.ownBlock->Below B W w'->K (a.put o.dst (.slice (bH g) (xs.length+1) ε)) w'):if Region.wanted o (yielded ops a.tmps)=true then Oper.wp prog o a (W.alloc (.cells #[y.v,y.h,u] 57)) K Q else E:=by
 have⟨ao,hi,ah,am,an⟩:=dp zl2;obtain⟨us,D⟩:=Z;obtain⟨F,G,rfl,_⟩:=H.p;have Y:=nm D.η (.cells (da y F G) 57);refine step_append_lies _ T s x 106 U B 57 ao (.agg bx) 3 40 underlying106 hi ah am an rfl Qw v _ _ ac Y ⟨W,0,none⟩ 1 1 (kx y (.slice F y.rows G)) ad rfl ?_ ?_ Qw ?_ ?_ ?_ _ rfl ?_
 .intro j ap h
  match j,h with
  |0,h=>simp[kx]at h;subst h;simp[Addr.add]
  |1,h=>simp[kx]at h;subst h;simp[Addr.add]
  |2,h=>simp[kx]at h;subst h;simp[Addr.add]
  |j+3,h=>simp[kx]at h
 .intro ap I;simp[kx]at I;rcases I with rfl|rfl|rfl<;>rfl
 .unfold maxLen;omega
 .omega
 .simp;omega
 .intro g ε w' ab Gx _ _;refine Pc fun hg=>?_
  exact J g ε w' ⟨_,D.snoc H ab hg⟩ hg ((al _ _).grown hg O fun k hk=>(bS D.η k hk).1)
def Ψ(M:aP)(v:aL):List Int:=M.map fun b=>v.getD (ew b) 0
def zbV M U bc v A ε w(ab:bt w U M)(ac:aO w A v)(bi:M.length<=1048576)(bp:v.length<=1048576)(ao:∀r∈M,r.length<=1048576/\ew r<v.length):az 160 (mv U M bc A v ε) w fun e w'=>∃u,e=.returned u/\aE w' w u (Ψ M v)/\ag w w':=by
 have⟨ba,a8,a4⟩:=er ac ab ao;clear ac ab ao;go_enter func160,ntmps160
 go_wp2;go_loopw [5,10] (fun u i wr=>∃k:Nat,k<=M.length/\i=.int .i64 k/\aE wr w u ((Ψ M v).take k)/\ag w wr)
  (fun _ i _=>M.length-(intOf i).toNat)
 case atStart=>exact⟨0,aW _,rfl,S_,al _ _⟩
 case round=>
  obtain⟨k,bo,rfl,F,h⟩:=hrel;by_cases av:k<M.length
  .have⟨r,G⟩:=aq av;obtain⟨a1,O⟩:=a4 r (aU G);obtain⟨bg,o,rfl,am⟩:=(a8.ext h).θ av;obtain⟨a2,bb,bn,an⟩:=am k r G;have⟨x,T⟩:=aq O;obtain⟨b,br,rfl,ah⟩:=(ba.ext h).θ O;have J:=ah _ _ T;have a9:=zH (show(Ψ M v).take (k+1)=(Ψ M v).take k++[x] by rw[du];unfold Ψ;rw[bI,G];show _++[v.getD (ew r) 0]=_;rw[bf,T];rfl)
   have⟨a5,Z,H,I⟩:=gG (by rw[cQ];unfold Ψ;rw[bs];omega:((Ψ M v).take k).length=k) (yw r a2 bb wr an a1) h F;have⟨bq,ap⟩:=aR (ew r);rw[<-ap]at Z J O;clear F h am an ah T G a1 ap;go_wp2_with (first|(go_at_call 201;refine Z.x ?_;rintro e be ⟨rfl,D⟩;have bh:=ar D J;have a6:=zH (I.ext D);have Y:=zH (aT H D);clear D J)|(at_builtin;refine qm rfl _ _ rfl _ be _ _ _ rfl rfl a6.o (by rw[a5.o];omega) Y.o.size ?_;intro bu bv a0 _ ad;have a7:=zH a0;have a3:=zH (Y.t ad);clear a0 ad))
   go_roundw
   case rel=>exact⟨k+1,Qu,Qx,by rw[a9.o];exact a7,a3⟩
   case measure=>simp[intOf];omega
  .obtain rfl:k=M.length:=Qu;have⟨I,H⟩:=bJ F h;clear F h;go_wp2;go_ret
   exact⟨_,rfl,by have bd:=I.o;rwa[cZ (by simp[Ψ])]at bd,H⟩
end Go.Proofs.YtpieilkmmiopfaaGreatDoor
