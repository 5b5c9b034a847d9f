/- Parts of the walks. Conditions: as stated with each. -/
import Derived.Test.YtpieilkmmiopfaaGreatDoorPk41
import Derived.Test.YtpieilkmmiopfaaGreatDoorPk47
namespace Go.Proofs.YtpieilkmmiopfaaGreatDoor
open Go.RowKit Tryz
set_option linter.all false
set_option maxHeartbeats 8000000
set_option maxRecDepth 100000
variable{A:ax}{B' J x:Nat}{R:Rl}{T z2:aG}
structure Kl(n0 l:Nat)(W W':aa):Prop where
 lo:Below n0 W W'
 hi:∀k,l<k->k < (W:Nat)->W'.heap[k]?=W.heap[k]?
def zeS(p:Int)(n:Nat)(h:List Int->Bool)(e:Ed):Bool:=(e.yk p).all fun r=>h (iE p n ((e.i++e.o).zip r))
def zdd(V:aa)(B D:Nat)(R:Rl):Prop:=∃A c,bA V D (dh R.l R.r A R.b c) 67/\Fr V B V (fun h=>cS h A R.b)
def zdd.of{V}{B c}(D:Fr V B' V (fun h=>cS h A R.b))(F:B<=B'):zdd (V.alloc (.cells (dh R.l R.r A R.b c) 67)) B V R:=⟨A,c,aH V _ rfl,(D.ext (aw V _) (ae _)).x F Qt⟩
def zdd.of3{V}{B c}{H}(G:bA V J #[T,H,z2] 67)(D:Fr V B' V (fun h=>cS h A R.b))(U:B<=B')(Y:J<B'):zdd (((V.setCell ⟨J,0,none⟩ (zI (R.l:Nat))).setCell ⟨J,1,none⟩ (zI (R.r:Nat))).setCell ⟨J,2,none⟩ (.slice A R.b c)) B J R:=⟨A,c,ja G,fun h F=>D h fun k I O=>(F k Qu QW).t (zaU Qu)⟩
def zmx{k v}{b}(h:3<=k):pC ⟨k,v,b⟩<=2/\sC ⟨k,v,b⟩<=2/\1<=pC ⟨k,v,b⟩ +sC ⟨k,v,b⟩:=by
 unfold pC sC;dsimp only
 (repeat' split)<;>omega
structure xt(B n ga c:Nat)(l:aL)(V:aa):Prop where
 row:V.ownsRow B 3 1 (.slice (bH ga) n c) n (l.map (Value.int .i64))
 ι:l.length=n
section
variable{B n ga c:Nat}{l:aL}{V V':aa}
def xt.μ(h:xt B n ga c l V):aE V B (.slice (bH ga) n c) l:=by unfold aE;rw[h.ι];exact h.row
def xt.ext(h:xt B n ga c l V)(D:ag V V'):xt B n ga c l V':=⟨by
 have:=h.μ.ext D;unfold aE at this;rw[h.ι]at this;exact this,h.ι⟩
def xt.ints(h:xt B n ga c l V):aO V (some ⟨ga,0,none⟩) l:=by obtain⟨A,ε,e,hi,-⟩:=h.μ.p;cases e;exact hi
def xt.at(h:xt B n ga c l V){y}(hx:l[x]?=some y):af V ga x (zI y)/\V.frozen? ⟨ga,x,none⟩=false:=Yd
def xt.put(h:xt B n ga c l V)x y:xt B n ga c (l.set x y) (V.setCell ⟨ga,x,none⟩ (zI y)):=by have D:=(h.row.j x (zI y)).1;rw[<-eW]at D;exact⟨D,SM⟩
def xt.la(h:xt B n ga c l V):B<=ga:=(bS h.row ga rfl).1
end
def zeT p g G A1 d5 d6 c1 c2 hZ(Z cr:aa)l e9 a0(ap e7:j4)(bc:bV p=true)(fo:jV Z A1 d5 d6 g)(hg:g.B=true)(g4:g.pf p)(gd:bA Z e9 (bj g A1 c1 d5 c2 d6 hZ) 54)(gi:bA Z a0 (bK p) 3)(h5:(Z:Nat)<=l)(g0:l < (cr:Nat))(d2:ag Z cr)(fy:∀A B,ap A->ag A B->ap B)(fd:ap cr)(gb:∀row A ε a7,ap a7->ag Z a7->row.length=g.w->(∀x∈row,0<=x/\x<p)->aO a7 A row->l<a7.heap.size->YieldAt Fence.wide 2 prog l #[.slice A g.w ε] a7 fun e a6=>(e=.returned (.bool true)/\G row=true/\ap a6/\Kl Z l a7 a6)∨(e=.returned (.bool false)/\G row=false/\e7 a6)):az 188 #[.func (.yield l) #[] #[],.pointer (bH e9),.pointer (bH a0)] cr fun e a6=>(∃v,e=.returned v)/\((g.es.all (zeS p g.w G)=true/\ap a6)∨(g.es.all (zeS p g.w G)=false/\e7 a6)):=by
 have⟨g6,kk⟩:=cv bc;refine OF fun G8 If Ie F0=>?_
 have⟨hv,em,hM,e4,eo,ct,cu,hE,hW,hC⟩:=zjZ (fun V (c9:ag Z V)=>fo.ext c9) If g4 gb fy gd gi g0 d2 fd;have⟨D,bz⟩:=aR g.w;have hw:=zH bz;rw[<-bz]at Ie e4 ct ⊢;obtain⟨-,id,-,-⟩:=aB (ai ct d2);clear fo hg G8 If g4 bz gb fy gd gi h5 g0 d2 fd;go_enter func188,ntmps188
 go_wp2;clear id;go_loopw [16] (fun i wr=>∃j:Nat,j<=g.es.length/\i=.int .i64 j/\(g.es.take j).all (zeS p D G)=true/\ap wr/\ag Z wr/\l < (wr:Nat)) (fun i _=>g.es.length-(intOf i).toNat)
 case atStart=>exact⟨0,aW _,rfl,rfl,hC,hW,hE⟩
 case round=>
  obtain⟨j,kc,rfl,bu,f3,gs,g1⟩:=hrel;have⟨ea,ev,cz,b6⟩:=gG bu f3 gs g1;clear bu f3 gs g1;by_cases h6:j<g.es.length
  rotate_left
  .obtain rfl:j=g.es.length:=Qu;go_wp2;go_end0
   refine⟨⟨_,rfl⟩,ay ⟨?_,ev⟩⟩;have:=ea.o;rw[cZ (ae _)]at this;exact this
  have⟨e,ci⟩:=aq h6;have⟨i9,jp,d7,fa,d8,fb,dl,u0,u1,u2,u3,dr,dO⟩:=fU (hv wr cz).es ci;subst dl;have b1:=aU ci;obtain⟨hG,hU⟩:=bJ b1 (by rw[du,ci,rV];simp:(g.es.take (j+1)).all (zeS p D G)=((g.es.take j).all (zeS p D G)&&zeS p D G e));obtain⟨Y,T,H,I⟩:=e;dsimp only at u0 u1 u2 u3 dr dO;obtain⟨dq,b0⟩:=hM.o _ b1;dsimp only at b0;have cj:=tf dq;obtain⟨c0,c3,c4,-⟩:=CN bc b0;have⟨R,ce⟩:=aR (rm p ⟨Y,T,true⟩);have ei:=zH (show ∀s V,az 130 (gj p (dN Y T s)) V (lJ R V) from fun s V=>by rw[ce];exact BU p Y T s _ V bc b0);rw[<-ce]at c0 c3 c4;have f8:R.l=H.length:=c0.t cj.2.2.1.q;have f9:R.r=I.length:=c3.t cj.2.2.2.q;obtain⟨a4,a5,cR,eB,hT,hx,hz⟩:=zH7 f8 f9 c4 (by rw[ce];rfl:Ed.yk p ⟨Y,T,H,I⟩=ql p R.b (H.length+I)) (Ed.zdp bc dq b0) dr dO;have b5:=zH (show ∀x∈H++I,x<D from fun x O=>by
   rw[hw.o];rcases dP.1 O with h|h
   .exact em x (au (au ⟨_,b1,ay h⟩))
   .exact em x (au (au ⟨_,b1,au h⟩)))
  have Gn:=zH (show H.length+I<=24/\0<H.length+I from by have fl:=cj;dsimp only at fl;have:=zmx (v:=T) (b:=true) fl.1;omega);clear ci b1 dq b0 cj c0 c3 c4 ce f8 f9 dr dO;go_upto_region 3 with(fail)
  have⟨ch,ck⟩:=bM wr (.cells (eh Y T d7 H fa d8 I fb) 155);have bi:=zH ch;generalize wr.alloc _=an at ch ck bi ⊢;have⟨hI,eg⟩:=bJ ck (aT cz ch);have bd:=aF (ai cu eg) 0 rfl;obtain⟨hf,hh,-,-⟩:=aB ck;have U:af an a0 0 (zI p)/\af an wr 0 (zI Y)/\af an wr 1 (zI T):=⟨bd,hf,hh⟩;clear u0 u1 u2 u3 ck ch bd hf hh;go_cut [6] from 20 to 27 (fun io V=>∃e8,io=.pointer (bH e8)/\zdd V an e8 R/\ag an V)
  case first=>
   go_region_held3 (fun V=>af V a0 0 (zI p)/\af V wr 0 (zI Y)/\af V wr 1 (zI T))
    (first|with_reducible exact U|with_reducible exact jH (aC _) U|with_reducible exact jH (aw _ _).drew U|with_reducible exact jH GY.o U|with_reducible exact jH (GY.o.alloc GY.o.size _) U|with_reducible exact jH ad.o U|with_reducible exact jH (ad.o.alloc ad.o.size _) U|with_reducible exact jH (e_ ad.o (ae _) _ _ _) U|with_reducible exact jH (e_ ad.o GY.o.size _ _ _) U)
    ((first|(go_at_call 189;refine(zeh Y T _).x ?_;rintro e b2 ⟨⟨sb,rfl⟩,FR⟩;have GY:Hd (ag an b2):=VZ;have G5:=zH FR;clear FR)|(go_at_call 130;refine(ei sb _).x ?_;intro e hk h;unfold lJ at h;obtain⟨i0,i8,h1,av,Gg⟩:=h;subst h1;have ad:Hd (ag an hk):=V7;have cO:=zH av;have i1:=zH Gg;(first|(have F:=ai (ai (ky an _) G5) Gg;have⟨ia,hj,ib⟩:=aD F;have f0:=aK F 0;have f1:=aK F 1;have f2:=aK F 2;have cW:=zH F;clear F)|(have F:=ai (aH b2 _ rfl) Gg;have⟨ia,hj,ib⟩:=aD F;have f0:=aK F 0;have f1:=aK F 1;have f2:=aK F 2;have cW:=zH F;clear F)|skip);clear av Gg)))
   all_goals
    go_wp2_with fail
    go_meet
    first
     |with_reducible exact⟨hk,rfl,zdd.of cO.o GY.o.size,ad.o.alloc ad.o.size _⟩
     |with_reducible exact⟨b2,rfl,zdd.of3 cW.o cO.o (aZ GY.o.size (aw _ _).size) Qt,e_ ad.o GY.o.size _ _ _⟩
     |with_reducible exact⟨an,rfl,zdd.of3 cW.o cO.o GY.o.size UN,e_ ad.o (ae _) _ _ _⟩
  case rest=>
   obtain⟨a8,rfl,gu,ba⟩:=hcut;obtain⟨d4,rfl⟩:∃d4,d4=wc:=⟨wc,rfl⟩;have⟨ee,eb,hq,hJ⟩:=gG gu ba (aT eg ba) (ai hI ba);obtain⟨-,-,n2,h8⟩:=aB hJ;have⟨hy,hA⟩:=bJ (hx.ext (aT bi ba)) (hz.ext (aT bi ba));clear gu ba U;have⟨J,f5⟩:=aR (H.length+I);have ac:=zH f5;clear f5;go_upto_region 5 with(go_at_call 65;(with_reducible refine(mS (bD H) (bD I) d7 d8 fa fb H I J d4 hy.o hA.o (aS _).q (aS _).q (by rw[bm,aS,aS];exact ac.o) Sx).x ?_);rintro e bh ⟨is,i5,rfl,-,gC,gc⟩;have b7:=zH gc;have ek:=zH gC;clear gC gc)
   clear n2 h8;have ho:=zH (aT hq b7);obtain⟨b3,cb,hb,av⟩:=ee.o;have⟨hc,hd,he⟩:=aD (ai hb b7);have bp:af bh a0 0 (zI p)/\af bh a8 0 (zI (R.l:Nat))/\af bh a8 1 (zI (R.r:Nat))/\af bh a8 2 (.slice b3 R.b cb):=⟨aF (ai cu ho) 0 rfl,hc,hd,he⟩;have e2:=zH (av.D.at.ext b7);clear hb av hc hd he;have e3:=zH (fun v V=>(by have:=zgA (R.l:Nat) (R.r:Nat) v V Qu (by rw[a4.o];have:=Gn.o;omega) Qu (by rw[a5.o];have:=Gn.o;omega);rw[show((R.l:Nat):Int)+(R.r:Nat)=(J:Nat) by rw[ac.o,a4.o,a5.o];omega]at this;exact this:az 191 #[.agg #[(R.l:Nat),(R.r:Nat),v]] V fun e w'=>e=.returned (zI (J:Nat))/\ag V w'));have⟨ah,c8⟩:=aR (Ed.yk p ⟨Y,T,H,I⟩);have cK:=zH c8;have eA:=zH (fun V (c9:ag bh V)=>(by
    have s:=cR.Η;unfold Rl.eV at s;have:=DU p R.b b3 cb R.b (R.l+R.r) V bc (e2.ext c9) s (by have:=Rl.Ok.ι cR;rw[a4.o,a5.o]at this;have:=Gn.o;omega) (by rw[a4.o,a5.o];have:=Gn.o;omega);rw[a4.o,a5.o,<-eB.o,<-c8,<-ac.o]at this;exact this:az 190 #[p,.slice b3 R.b cb,(J:Nat)] V (Ct ah V)))
   clear c8;go_region_held3 (fun V=>af V a0 0 (zI p)/\af V a8 0 (zI (R.l:Nat))/\af V a8 1 (zI (R.r:Nat))/\af V a8 2 (.slice b3 R.b cb))
    (first|with_reducible exact bp|with_reducible exact gS b9.o bp|with_reducible exact gS b8.o bp|exact bp)
    ((first|(go_at_call 191;refine(e3.o _ _).x ?_;rintro e k4 ⟨rfl,am⟩;have b8:=zH ((aC bh).t am);clear am)|(go_at_call 190;refine(eA.o _ b8.o).x ?_;intro e d3 h;unfold Ct at h;obtain⟨it,i6,h0,av,am⟩:=h;subst h0;have b9:=zH (aT b8 am);have ey:=zH (av.fr am.size);have hS:=zH b8.size;clear am av)))
   clear bp;have O:=aT bi eb;have O:=aT O b7;obtain⟨ca,e0,hL⟩:=er (aT O b9) ((ek.ext b9 (ae _)).x (lo':=l+1) (by have:=b6.o;have:=bi.size;have:=eb.size;omega) b9.size) (ey.x (lo':=l+1) (by have:=b6.o;have:=hS.o;have:=O.size;omega) (ae _));have⟨hD,hp⟩:=bJ (eo.o _ _ ev ca) (aT cz ca);clear O;have⟨bo,c7⟩:=aR ah.length;have Ka:=zH c7;rw[<-c7];clear c7 ek ey e3 eA ei e2 ee;have⟨L,br⟩:=aR (H++I);obtain⟨cI,ej,hP⟩:=er (by rw[br,bm,ac.o]:L.length=J) (show zeS p D G ⟨Y,T,H,I⟩=ah.all fun r=>G (iE p D (L.zip r)) by rw[br,cK.o];rfl) (by rw[br,jr]:bD H++bD I=bD L);rw[hP.o]at e0;rw[<-br]at b5;clear br;have j1:J<=24:=by have:=Gn.o;have:=ac.o;omega
   have j0:bo<=24:=by have s:=cR.Η;unfold Rl.eV at s;rw[a4.o,a5.o,<-ac.o]at s;obtain⟨hj,k1,a9,a1,-⟩:=xV bc g6 s;have a2:=a1.1;rw[ac.o,<-eB.o,<-cK.o,<-Ka.o]at a2;omega
   obtain⟨hl,rfl⟩:∃hl,hl=wr:=⟨wr,rfl⟩;go_wp2;go_loopw [40] (fun i ao=>∃q:Nat,q<=bo/\i=.int .i64 q/\((ah.take q).all fun r=>G (iE p D (L.zip r)))=true/\ap ao/\ag Z ao/\(∀k,l+1<=k->k < (d3:Nat)->ao.heap[k]?=d3.heap[k]?)/\(d3:Nat)<=ao) (fun i _=>bo-(intOf i).toNat)
   case atStart=>exact⟨0,aW _,rfl,rfl,hD,hp,fun _ _ _=>rfl,ae _⟩
   case round=>
    obtain⟨q,g7,rfl,bu,fz,gn,gR,g8⟩:=hrel;have⟨d9,es,b4,cF,bn⟩:=pD bu fz gn gR g8;clear bu fz gn gR g8;by_cases kd:q<bo
    rotate_left
    .obtain rfl:q=bo:=Qu;go_wp2;go_roundw
     case rel=>exact⟨j+1,Qu,Qx,by
      have h:=d9.o;rw[cZ Sv]at h;rw[hU.o,ea.o,ej.o,h];rfl,es,b4,by have:=b6.o;have:=bn.o;have:=ca.size;omega⟩
     case measure=>simp[intOf];omega
    obtain⟨r,hr⟩:=aq (show q<ah.length by have:=Ka.o;omega);have hH:=zH (aU hr);have dT:eV p ah J ah:=by have s:=hT.o;rw[<-cK.o,<-ac.o]at s;exact s
    have cn:r.length=J:=dT.row r (aU hr);have hQ:=zH (show ∀y∈r,0<=y/\y<p from fun y ha=>by obtain⟨d,bv⟩:=eH.1 ha;have:=dT.vY (aU hr) (d:=d) (by rw[<-cn];exact(bG.1 bv).1);rw[bf,bv]at this;exact this)
    rcases hL wr cF with h|⟨k2,k3,dl,gv⟩
    .exact V9
    subst dl;obtain⟨ip,i7,gw,gK⟩:=gv q r hr;rw[cn]at gw;obtain⟨hV,hO,hB,e1⟩:=gG (by rw[du,hr,rV];simp:((ah.take (q+1)).all fun r=>G (iE p D (L.zip r)))=(((ah.take q).all fun r=>G (iE p D (L.zip r)))&&G (iE p D (L.zip r)))) (e0 wr cF) gK cn;have bz:0<D:=by have a9:=Gn.2;have a1:=cI.o;have a2:=ac.o;have⟨x,O⟩:=aq (Qu:0<L.length);have:=b5 x (aU O);omega
    obtain⟨ii,-,-,-⟩:=aB (ai ct b4);have hN:=zH (aF (ai cu b4) 0 rfl);clear gv hr dT gK cn;go_upto_region 9 with(go_at_call 98;refine(ziS D _ Qu bz).x ?_;rintro e b2 ⟨ga,c5,rfl,g5,am⟩;have ez:=zH g5;have hX:=zH am;clear g5 am)
    clear ii gw;obtain⟨hn,e6,e5⟩:=er (show xt wr D ga c5 (iE p D ((L.zip r).take 0)) b2 from⟨ez,by show(List.replicate D (0:Int)).length=D;simp⟩) (by rw[List.length_zip,cI.o,e1.o,rX]:(L.zip r).length=J) (fun k=>sD (p:=p) (n:=D) (L:=(L.zip r).take k) g6 fun q g7=>b5 q.1 (pS (AG g7)).1);clear ez;obtain⟨ao,rfl⟩:∃ao,ao=wr:=⟨wr,rfl⟩;go_wp2;go_loopw [49] (fun i hm=>∃m:Nat,m<=J/\i=.int .i64 m/\xt ao D ga c5 (iE p D ((L.zip r).take m)) hm/\ag ao hm) (fun i _=>J-(intOf i).toNat)
    case atStart=>exact⟨0,aW _,rfl,hn,hX⟩
    case round=>
     obtain⟨m,ke,rfl,cc,bb⟩:=hrel;have⟨a3,ab⟩:=bJ cc bb;by_cases g2:m<J
     .obtain⟨⟨x,y⟩,F⟩:=aq (show m < (L.zip r).length by have:=e6.o;omega);obtain⟨cp,cq⟩:=Aj.1 F;dsimp only at cp cq;have f6:=hO.ext bb;obtain⟨b,o,h3,gA⟩:=f6.θ (k:=m) (by rw[aS,cI.o];exact g2);subst h3;obtain⟨hY,h9,h2,gB⟩:=(hB.ext bb).θ (k:=m) (by rw[e1.o];exact g2);subst h2;have j2:=gA m (x:Int) (dK cp);have dc:=gB m y cq;have h7:=b5 x (aU cp);obtain⟨kw,k0⟩:=hQ y (aU cq);obtain⟨be,bg⟩:=e5.o m;have co:=bg x h7;have⟨v,d0⟩:=aq (Qu:x < (iE p D ((L.zip r).take m)).length);have d1:(iE p D ((L.zip r).take m)).getD x 0=v:=by rw[bf,d0];rfl
      rw[d1]at co;have kl:0<=v:=by rw[co];exact gV _ Qu
      have kp:v<p:=by rw[co];exact gW _ Qu
      have cV:=zH (zaO (p:=p) (n:=D) F);rw[d1]at cV;dsimp only at cV;obtain⟨db,j3⟩:=cc.at d0;have bd:=ar bb hN;have hF:=zH (fun V=>CL p (v+y) V Qu Qu Qu Qu);have ks:IntKind.i64.wrap (v+y)=v+y:=Rt;clear f6 gA gB F cp cq be bg co d0 d1 cc bb;go_upto_region 12 with(fail)
      refine cU (S:=fun V=>af V a0 0 (zI p)/\af V ga x (zI v)/\af V hY (h9+m) (zI y)) 14 QT ⟨bd,db,dc⟩ (fun hHeld=>?_);refine Qj ?_;refine aM 9 ?_;refine aM 10 ?_;refine aM 11 ?_;refine cm 12 fun K hK=>?_
      go_simp;refine(hF.o _).x ?_;rintro e w' ⟨rfl,rfl⟩;go_simp;refine hK.out _ _ (fun _=>⟨bd,db,dc⟩) (fun hHeld=>?_);clear hK K hHeld;refine P9 ?_;refine cm 13 fun K hK=>?_
      go_simp;refine hK.out _ _ (fun _=>⟨bd,db,dc⟩) (fun hHeld=>?_);clear hK K hHeld;refine P9 ?_;refine MU fun K hK=>?_
      refine Qn ?_;clear K hK;refine gM QT ?_ _;go_wp2;go_roundw
      case rel=>
       have h:=a3.put x ((v+y)%p);rw[<-cV.o]at h;exact⟨m+1,Qu,Qx,Up,by first|exact ab.setCell (p:=⟨ga,x,none⟩) a3.la _|exact(ab.setCell (p:=⟨ga,x,none⟩) a3.la _).drew|exact ab.drew.setCell (p:=⟨ga,x,none⟩) a3.la _⟩
      case measure=>simp[intOf];omega
     .obtain rfl:m=J:=Qu;clear cc bb;have g9:(L.zip r).take m=L.zip r:=cZ (gp e6.o);obtain⟨be,bg⟩:=e5.o m;rw[g9]at be bg a3;have f4:=eo.o _ _ es ab;have c6:=aT b4 ab;have g3:l < (wr:Nat):=by have:=bn.o;have:=ca.size;have:=b6.o;have:=ab.size;omega
      obtain⟨fn,tm,i3,i4,ha,f7⟩:=e4 (iE p D (L.zip r)) (some ⟨ga,0,none⟩) c5 wr f4 c6 be (fun x O=>by obtain⟨d,bv⟩:=eH.1 O;have a2:=bg d (by rw[<-be];exact(bG.1 bv).1);rw[bf,bv]at a2;have a2:x=_:=a2;rw[a2];exact⟨gV _ Qu,gW _ Qu⟩) a3.ints g3
      have⟨hs,hR⟩:=bJ c6 f7;clear g9 be bg f4 c6 f7 g3;go_upto_region 14 with(fail)
      refine(wpIn_wide (n:=3)).1 ?_
      gi_wp2
      refine hR.x ?_;rintro e i2 (⟨rfl,fx,bq,gL⟩|⟨rfl,fs,bq⟩)
      .have⟨hu,cA,cB⟩:=er fx bq gL;clear fx bq gL
       gi_wp2
       go_wp2;go_roundw
       case rel=>exact⟨q+1,Qu,Qx,by rw[hV.o,d9.o,hu.o];rfl,cA,hs.t cB.lo,fun k a9 a1=>(cB.hi k Qu (by have:=bn.o;have:=ab.size;omega)).t ((ab.block k (by have:=bn.o;omega)).t (cF k a9 a1)),by have:=bn.o;have:=ab.size;have:=cB.lo.size;omega⟩
       case measure=>simp[intOf];omega
      .have⟨ht,cA⟩:=bJ fs bq;clear fs bq
       gi_wp2
       go_wp2;refine aI (results_none rfl _ _ _) rfl ?_;refine⟨⟨_,rfl⟩,au ⟨?_,cA⟩⟩;rw[uF];intro h4;have a9:=eD.1 h4 _ hG.o;rw[ej.o]at a9;have a1:=eD.1 a9 _ hH.o;rw[ht.o]at a1;cases a1
end Go.Proofs.YtpieilkmmiopfaaGreatDoor
