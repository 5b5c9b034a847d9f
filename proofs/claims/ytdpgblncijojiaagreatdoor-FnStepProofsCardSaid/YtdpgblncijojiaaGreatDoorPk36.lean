/- Parts of the walks. Conditions: as stated with each. -/
import Derived.Test.YtdpgblncijojiaaGreatDoorPk23
namespace Go.Proofs.YtdpgblncijojiaaGreatDoor
open Go.RowKit Tryz
set_option linter.all false
set_option maxHeartbeats 2000000
set_option maxRecDepth 100000
variable{D b i j k x:Nat}{Rs:bW}{g:Gr}{ps:qX}
structure Ck(B n ga:Nat)(l:bW)(V:aa):Prop where
 a:au V B (.slice (aX ga) n n) (bC l)
 len:l.length=n
 la:B<=ga
section
variable{B n ga:Nat}{l:bW}{V V':aa}
def Ck.ext(h:Ck B n ga l V)(z:aj V V'):Ck B n ga l V':=⟨h.a.ext z,h.len,h.la⟩
def Ck.row(h:Ck B n ga l V):V.ownsRow B 3 1 (.slice (aX ga) n n) n ((bC l).map (Value.int .i64)):=h.a.row (by rw[bf,h.len])
def Ck.at(h:Ck B n ga l V){y:Nat}(z:l[x]?=some y):af V ga x (zI (y:Nat))/\V.frozen? ⟨ga,x,none⟩=false:=by have D:=(bs.1 z).1;refine⟨?_,h.row.frozenAt x⟩;rw[h.row.cellAt x (by have:=h.len;omega),bR,fk z];rfl
def Ck.put(h:Ck B n ga l V)(x y:Nat):Ck B n ga (l.set x y) (V.setCell ⟨ga,x,none⟩ (zI (y:Nat))):=by
 have z:=(h.row.stored x (zI (y:Nat))).1;rw[<-fQ]at z;have e:(bC l).set x ((y:Nat):Int)=bC (l.set x y):=by simp only[bC];rw[fQ]
 rw[e]at z;refine⟨by unfold au;rw[bf,fx,h.len];exact z,Tc,h.la⟩
end
def jC(x y q:Nat):Nat:=if q=max x y then min x y else q
def zes(c:bW)(a b:Nat):yc c a b=c.map (jC (c.getD a 0) (c.getD b 0)):=rfl
def xE(f:gj)(c:bW)(j:Nat):List Nat:=(c.take j).map f++c.drop j
def zet(f:gj)(c:bW):xE f c 0=c:=by simp[xE]
def zgj(f:gj)(c:bW):xE f c c=c.map f:=by simp[xE]
def AL(f:gj){c:bW}(h:j<c.length):(xE f c j)[j]?=c[j]?:=by unfold xE;rw[gD RX,fI,bl,dX,iV Ry,tb,jJ]
def Cl(f:gj){c:bW}{q:Nat}(h:c[j]?=some q):(xE f c j).set j (f q)=xE f c (j+1):=by
 have z:=(bs.1 h).1;have D:c.drop j=q::c.drop (j+1):=by rw[tk z];congr 1;exact(bs.1 h).2
 unfold xE;rw[fZ,h,D,wM,tj _ _ (by simp;exact Nat.min_le_left _ _)];simp[iV (js z)]
def zeu(f:gj){c:bW}{q:Nat}(h:c[j]?=some q)(D:f q=q):xE f c j=xE f c (j+1):=by
 rw[<-Cl f h,D];have z:=(AL f (bs.1 h).1).trans h;apply eQ;intro k;by_cases e:j=k
 .subst e;rw[dJ (bs.1 z).1,z]
 .rw[df e]
def zhr{us:bW}{a:Nat}(z:us[k]?=some a)(D:Rs[k]?=some b):(us.zip Rs)[k]?=some (a,b):=by rw[List.getElem?_zip_eq_some];exact⟨z,D⟩
def zix{us:bW}{n:Nat}(D:∀x∈us,x<n)(E:∀x∈Rs,x<n):∀q∈us.zip Rs,q.1<n/\q.2<n:=fun q z=>by obtain⟨F,H⟩:=q;exact⟨D _ (qB z).1,E _ (qB z).2⟩
def zhs{n:Nat}(h:∀q∈ps,q.1<n/\q.2<n):oL n (ji n ps):=C9 ps _ (An n) h
def Ck.other{B n ga:Nat}{l:bW}{V:aa}(h:Ck B n ga l V)(D:b≠ga)(i:Nat)(v:av):Ck B n ga l (V.setCell ⟨b,i,none⟩ v):=⟨h.a.mY (rF V b i v) (fun g e z=>by cases e;cases z;exact D rfl),h.len,h.la⟩
def nc.other{B n ga:Nat}{l m:bW}{V:aa}(h:nc B n ga D l m V)(E:b≠ga)(F:b≠D)(i:Nat)(v:av):nc B n ga D l m (V.setCell ⟨b,i,none⟩ v):=⟨h.a.mY (rF V b i v) (fun g e z=>by cases e;cases z;exact E rfl),h.b.mY (rF V b i v) (fun g e z=>by cases e;cases z;exact F rfl),h.ne,h.la,h.lb⟩
structure uF(B n ga:Nat)(l:zdo)(V:aa):Prop where
 row:V.ownsRow B 4 1 (.slice (aX ga) n n) n (l.map Value.bool)
 len:l.length=n
 la:B<=ga
section
variable{B n ga:Nat}{l:zdo}{V V':aa}
def uF.ext(h:uF B n ga l V)(z:aj V V'):uF B n ga l V':=⟨ic h.row (row:=none) ⟨z.os,z.tape,z.output,z.size,fun k D _=>z.block k D⟩ (aB TE),h.len,h.la⟩
def uF.at(h:uF B n ga l V){y:Bool}(hx:l[x]?=some y):af V ga x (.bool y)/\V.frozen? ⟨ga,x,none⟩=false:=Yl
def uF.put(h:uF B n ga l V)(x:Nat)(y:Bool):uF B n ga (l.set x y) (V.setCell ⟨ga,x,none⟩ (.bool y)):=by have z:=(h.row.stored x (.bool y)).1;rw[<-fQ]at z;exact⟨z,Tc,h.la⟩
end
def qZ(g:Gr)(C:bW)(k:Nat):List Bool:=(List.range g.w).map fun r=>(List.range k).any fun x=>g.onB x&&decide (C.getD x 0=r)
def rP(g:Gr)(C:bW)(k:Nat):(qZ g C k).length=g.w:=by simp[qZ]
def zgk(g:Gr)(C:bW):qZ g C 0=List.replicate g.w false:=by
 apply eQ;intro r;unfold qZ;rw[bR,fR];by_cases h:r<g.w
 .rw[kx h,ar h];rfl
 .rw[fy RX,ak h];rfl
def Cm{C:bW}(r:Nat):((List.range (k+1)).any fun x=>g.onB x&&decide (C.getD x 0=r))=(((List.range k).any fun x=>g.onB x&&decide (C.getD x 0=r))||(g.onB k&&decide (C.getD k 0=r))):=by rw[mo,List.any_append];simp
def zgl{C:bW}(h:g.onB k=false):qZ g C k=qZ g C (k+1):=by
 unfold qZ;refine jr fun r _=>?_
 rw[Cm,h];simp
def zht{C:bW}(h:g.onB k=true):(qZ g C k).set (C.getD k 0) true=qZ g C (k+1):=by
 apply eQ;intro r;by_cases z:r<g.w
 .have D:(qZ g C (k+1))[r]?=some ((List.range (k+1)).any fun x=>g.onB x&&decide (C.getD x 0=r)):=by unfold qZ;rw[bR,kx z];rfl
  rw[D,Cm,h];by_cases e:C.getD k 0=r
  .rw[e,dJ (by rw[rP];exact z)];simp
  .rw[df e,fh e];unfold qZ;rw[bR,kx z];simp
 .rw[fy (by rw[fx,rP];omega),fy (by rw[rP];omega)]
def zgm{C:bW}(D:g.In):qZ g C g.w=tP g.w C (ft g):=by
 unfold qZ tP;refine jr fun r _=>?_
 rw[nl,Av,mn];constructor
 .rintro⟨x,z,h⟩;rw[bn,cw]at h;exact⟨x,Gr.j9.1 h.1,h.2⟩
 .rintro⟨x,z,h⟩;exact⟨x,dQ.2 (D x z),by rw[Gr.j9.2 z];simpa using h⟩
def zev:(g.i++eG g.es).count x+(g.o++jN g.es).count x=0↔g.onB x=false:=by
 constructor
 .intro h;rw[<-td,Gr.j9];intro F;have:=zax F;omega
 .intro h;have I:¬g.On x:=fun F=>by rw[Gr.j9.2 F]at h;cases h
  have J:x∉g.i++eG g.es:=fun E=>I (by
   rcases eO.1 E with h|h
   .exact aG h
   .obtain⟨l,D,H⟩:=qI.1 h;obtain⟨e,z,rfl⟩:=cd.1 D;exact aB (aB ⟨e,z,aB H⟩))
  have O:x∉g.o++jN g.es:=fun E=>I (by
   rcases eO.1 E with h|h
   .exact aB (aG h)
   .obtain⟨l,D,H⟩:=qI.1 h;obtain⟨e,z,rfl⟩:=cd.1 D;exact aB (aB ⟨e,z,aG H⟩))
  rw[List.count_eq_zero.2 J,List.count_eq_zero.2 O]
structure lZ(B n ga:Nat)(l:aH)(V:aa):Prop where
 a:au V B (.slice (aX ga) n n) l
 len:l.length=n
 la:B<=ga
section
variable{B n ga:Nat}{l:aH}{V V':aa}
def lZ.ext(h:lZ B n ga l V)(z:aj V V'):lZ B n ga l V':=⟨h.a.ext z,h.len,h.la⟩
def lZ.row(h:lZ B n ga l V):V.ownsRow B 3 1 (.slice (aX ga) n n) n (l.map (Value.int .i64)):=h.a.row h.len
def lZ.at(h:lZ B n ga l V){y:Int}(hx:l[x]?=some y):af V ga x (zI y)/\V.frozen? ⟨ga,x,none⟩=false:=Yl
def lZ.put(h:lZ B n ga l V)(x:Nat)(y:Int):lZ B n ga (l.set x y) (V.setCell ⟨ga,x,none⟩ (zI y)):=by have z:=(h.row.stored x (zI y)).1;rw[<-fQ]at z;exact⟨by unfold au;rw[fx,h.len];exact z,Tc,h.la⟩
def uF.other{l:zdo}(h:uF B n ga l V)(z:b≠ga)(i:Nat)(v:av):uF B n ga l (V.setCell ⟨b,i,none⟩ v):=⟨ic h.row (row:=some b) (rF V b i v) (aB Us),h.len,h.la⟩
end
def qn(g:Gr)(C:bW)(j:Nat):List Int:=(List.range g.w).map fun x=>if x<j/\C.getD x 0=x/\qY C (ft g) x=true then(ql g C x:Int) else 0
def pQ(g:Gr)(C:bW)(j:Nat):(qn g C j).length=g.w:=by simp[qn]
def rQ{C:bW}(h:x<g.w):(qn g C j)[x]?=some (if x<j/\C.getD x 0=x/\qY C (ft g) x=true then(ql g C x:Int) else 0):=by simp[qn,h]
def zgn(g:Gr)(C:bW):qn g C 0=List.replicate g.w 0:=by
 apply eQ;intro r;by_cases h:r<g.w
 .rw[rQ h,fR,ar h,ak Ry]
 .rw[fy (by rw[pQ];omega),fR,ak h]
def zaJ{C:bW}(h:¬(C.getD j 0=j/\qY C (ft g) j=true)):qn g C j=qn g C (j+1):=by
 unfold qn;refine jr fun x _=>?_
 by_cases e:x=j
 .subst e;rw[ak Ry,ak (fun z=>h z.2)]
 .have:x<j↔x<j+1:=Ry;simp only[this]
def zhu{C:bW}(D:C.getD j 0=j)(E:qY C (ft g) j=true):(qn g C j).set j (ql g C j:Int)=qn g C (j+1):=by
 apply eQ;intro r;by_cases z:r<g.w
 .rw[rQ z];by_cases e:j=r
  .subst e;rw[dJ (by rw[pQ];exact z),ar ⟨Ry,D,E⟩]
  .rw[df e,rQ z];have:r<j↔r<j+1:=Ry;simp only[this]
 .rw[fy (by rw[fx,pQ];omega),fy (by rw[pQ];omega)]
def rS(a b:aH)(j:Nat):List Int:=a.take j++b.drop j
def zew(a b:aH):rS a b 0=b:=by simp[rS]
def zgo{a b:aH}(h:i<j)(z:j<=a.length):(rS a b j)[i]?=a[i]?:=by unfold rS;rw[dr Sd,fP,ar h]
def zgp{a b:aH}(z:j<=a.length):(rS a b j)[j]?=b[j]?:=by unfold rS;rw[gD Sd,fI,dX,iV z,tb,jJ]
def Cn{a b:aH}{v:Int}(h:a[j]?=some v)(D:a.length=b):(rS a b j).set j v=rS a b (j+1):=by have E:=(bs.1 h).1;have z:b.drop j=b[j]'Ry::b.drop (j+1):=tk Ry;unfold rS;rw[fZ,h,z,tj _ _ Sd,dX,iV Ry,tb];simp only[kW,jK,Option.toList_some,y_,tc]
def zgq{a b:aH}(z:a.length=j)(D:b.length=j):rS a b j=a:=by unfold rS;rw[fO Ry,nx Ry,mv]
def zgr{a b:aH}{n:Nat}(z:a.length=n)(D:b.length=n)(E:j<=n):(rS a b j).length=n:=by unfold rS;rw[bS,dX,mh];omega
def ziy(g:Gr)(ps:qX)(w:aa)(e:Ending)(w':aa):Prop:=∃A1 c1 A2 c2 A3 c3 B z E D,e=.returned (.tuple #[.agg #[.int .i64 ((iB g ps).w:Nat),.slice A1 (iB g ps).es c1,.slice A2 (iB g ps).i c2,.slice A3 (iB g ps).o c3],.slice z E D])/\vh w B w' A1 c1 A2 c2 A3 c3 (iB g ps)/\aj w w'
def zaK(g:Gr)(us H:bW)(A1 A2 A3 e5 e6:aq)(c1 c2 c3 hZ h0:Nat)(w:aa)(d7:oI w A1 A2 A3 g)(E:sq g)(ee:us.length=H)(h5:us.length<=4096)(gK:aU w e5 (bC us))(gL:aU w e6 (bC H))(bm:∀x∈us,x<g.w)(bo:∀x∈H,x<g.w):ax 153 #[.agg (bF g A1 c1 A2 c2 A3 c3),.slice e5 us hZ,.slice e6 H h0] w (ziy g (us.zip H) w):=by
 obtain⟨hm,hi,hk,hl,Ev⟩:=cM fq;have b6:=zH E;have h9:=E.w;have hz:=zH (fun V (a5:aj w V)=>d7.ext a5);have ib:(eG g.es).length<=4096*4096:=bE (pJ (·.o) 4096 g.es fun e bi=>(E.el e bi).2) (ti _ E.es);have ii:(jN g.es).length<=4096*4096:=bE (pJ (·.i) 4096 g.es fun e bi=>(E.el e bi).1) (ti _ E.es);have ip:=E.i;have is:=E.o;have io:=E.es;have cu:(g.i++eG g.es).length<=33554432/\(g.o++jN g.es).length<=33554432:=by rw[bS,bS];omega
 obtain⟨f5,fs⟩:=bL cu (fun V (a5:aj w V)=>vE g A1 A2 A3 c1 c2 c3 V (d7.ext a5) E.inr Ry Ry cu.1 cu.2);clear ib ii ip is io cu;obtain⟨hD,hE⟩:=bL (fun V (a5:aj w V)=>gK.ext a5) (fun V (a5:aj w V)=>gL.ext a5);obtain⟨n,en⟩:=aK g.w;have O:=zH en;rw[<-en]at bm bo h9 fs ⊢;obtain⟨gf,hH,hI⟩:=dD (zix bm bo) bm bo;obtain⟨m,ac⟩:=aK us.length;obtain⟨c0,c7⟩:=bL (show us.length=m from ac.symm) (show H.length=m from ee.symm.trans ac.symm);rw[<-ee,<-ac];rw[<-ac]at h5;have d5:=((ai w w).alloc (ah _) (.cells (fG n A1 g.es c1 A2 g.i c2 A3 g.o c3) 151)).alloc Rx (.cells cf 151);have R:=(bZ (w.alloc (.cells (fG n A1 g.es c1 A2 g.i c2 A3 g.o c3) 151)) (.cells cf 151) (k:=w.heap.size) Rx).trans (aD w _ rfl);have ev:=aD (w.alloc (.cells (fG n A1 g.es c1 A2 g.i c2 A3 g.o c3) 151)) (.cells cf 151) (n:=(w:Nat)+1) Rx;clear d7 E gK gL bm bo en ac ee;go_enter func153,ntmps153
 go_upto_region 1 with(fail)
 generalize (w.alloc _).alloc _=W at d5 R ev ⊢;obtain⟨T,U,Z,ab⟩:=aJ R;obtain⟨e9,hQ,hP⟩:=dD d5 ev R;clear d5 ev R;go_upto_region 2 with((at_make;refine iJ _ rfl _ _ 27 rfl W.heap.size 3 hm (zI 0) 1 dA hi hk hl .i64 .i64 n n n rfl rfl rfl rfl SB TB (ah _) ?_;intro i4 Es a1;have gb:=zH Es;have hC:=zH a1;clear Es a1))
 have hq:=zH (bT hC);obtain⟨ga,ei⟩:=aK W.heap.size;obtain⟨hN,da⟩:=bL (show i4.ownsRow W 3 1 (.slice (aX ga) n n) n ((eV (iota n) 0 0).map (Value.int .i64)) by have Es:=gb.o;rw[gl]at Es;rw[jd,fE,ei];exact Es) (Ry:(W:Nat)<=ga);clear T U Z ab gb;rw[<-ei];clear ei;go_wp2;go_loopw [9,28] (fun _ i wr=>∃k:Nat,k<=n/\i=.int .i64 k/\wr.ownsRow W 3 1 (.slice (aX ga) n n) n ((eV (iota n) 0 k).map (Value.int .i64))/\aj W wr) (fun _ i _=>n-(intOf i).toNat)
 case atStart=>exact⟨0,aT _,rfl,hN,hq⟩
 case round=>
  obtain⟨k,a6,rfl,Es,z⟩:=hrel;by_cases EC:k<n
  .have kc:af wr ga k (zI 0):=Xy;have k4:=Es.frozenAt k;have eA:=(Es.stored k (zI k)).1;rw[<-fQ,j4 _ _ _ _ (rp EC)]at eA;obtain⟨hS,a4⟩:=bL eA (z.setCell (p:=⟨ga,k,none⟩) da (zI k));clear eA Es;go_wp2;go_roundw
   case rel=>exact⟨k+1,Ry,RB,hS,a4⟩
   case measure=>simp[intOf];omega
  .obtain rfl:k=n:=Ry;rw[j3 _ _ _ Sp]at Es;obtain⟨hv,hs⟩:=bL (show Ck W k ga (ji k []) wr from⟨by unfold au;rw[show bC (ji k [])=iota k from rfl,fE];exact Es,hJ,da⟩) z;clear Es z EC a6;go_wp2;go_loopw [10,11,12,13,38] (fun _ _ _ _ i wr=>∃j:Nat,j<=m/\i=.int .i64 j/\Ck W k ga (ji k ((us.zip H).take j)) wr/\aj W wr) (fun _ _ _ _ i _=>m-(intOf i).toNat)
   case atStart=>exact⟨0,aT _,rfl,hv,hs⟩
   case round=>
    obtain⟨j,em,rfl,D,z⟩:=hrel;by_cases EC:j<m
    .obtain⟨a,ha⟩:=aw (by rw[c0.o];exact EC:j<us.length);obtain⟨b,hb⟩:=aw (by rw[c7.o];exact EC:j<H.length);have e3:=bQ e9 z;obtain⟨hV,hW,rfl,gR⟩:=(hD wr e3).here (by rw[bf,c0.o];omega:0 < (bC us).length);obtain⟨hX,hY,rfl,gV⟩:=(hE wr e3).here (by rw[bf,c7.o];omega:0 < (bC H).length);have bv:=gR _ _ (fk ha);have bz:=gV _ _ (fk hb);have h6:=hH a (aR ha);have h7:=hI b (aR hb);have cK:ji k ((us.zip H).take (j+1))=(ji k ((us.zip H).take j)).map (jC ((ji k ((us.zip H).take j)).getD a 0) ((ji k ((us.zip H).take j)).getD b 0)):=by rw[kd (zhr ha hb),zfx,zes]
     obtain⟨C,gC⟩:=aK (ji k ((us.zip H).take j));rw[<-gC]at D cK;have Ex:=D.len;obtain⟨x,e4⟩:=aw (Ry:a<C.length);obtain⟨y,hy⟩:=aw (Ry:b<C.length);rw[bg,bg,e4,hy]at cK;have hd:=(D.at e4).1;have cc:=(D.at hy).1;obtain⟨hR,fo,fd,IF⟩:=fS (show ji k ((us.zip H).take (j+1))=C.map (jC x y) from cK) D z Ex;have a0:=aY bv (aY bz (aY hd cc));clear e3 gR gV bv bz ha hb cK gC Ex e4 hy hd cc D z;go_upto_region 10 with(fail)
     go_region_held3 (fun V=>af V hV (hW+j) (zI (a:Nat))/\af V hX (hY+j) (zI (b:Nat))/\af V ga a (zI (x:Nat))/\af V ga b (zI (y:Nat)))
      (first|with_reducible exact a0|with_reducible exact zbs (aF _) a0)
      ((fail))
     obtain⟨fn,fa⟩:=bL (fo.ext (aF wr)) fd.drew;clear a0;obtain⟨dc,f4⟩:=bL (fun V=>zU (x:Int) (y:Int) V) (fun V=>xZ (x:Int) (y:Int) V);obtain⟨M,d9⟩:=aK (max (x:Int) (y:Int));obtain⟨N,ea⟩:=aK (min (x:Int) (y:Int));rw[<-d9]at dc;rw[<-ea]at f4;obtain⟨f7,hL⟩:=bL d9 ea;obtain⟨lw,hg⟩:=aK wr.drew;rw[<-hg]at fn fa ⊢;clear d9 ea hg fo fd h6 h7;go_wp2;go_loopw [13,57] (fun _ i wr=>∃t:Nat,t<=k/\i=.int .i64 t/\Ck W k ga (xE (jC x y) C t) wr/\aj W wr) (fun _ i _=>k-(intOf i).toNat)
     case atStart=>exact⟨0,aT _,rfl,by rw[zet];exact fn,fa⟩
     case round=>
      obtain⟨t,g6,rfl,D,z⟩:=hrel;by_cases FC:t<k
      .obtain⟨q,R⟩:=aw (TW:t<C.length);have a8:=(D.at ((AL (jC x y) TW).trans R));obtain⟨a8,g1⟩:=a8;by_cases es:q=max x y
       .have ao:((q:Int)==M)=true:=by rw[qF,f7.o];omega
        have k0:=((D.ext (aF wr)).at ((AL (jC x y) TW).trans R)).2;have J:=(D.ext (aF wr)).put t (jC x y q);rw[Cl _ R,show((jC x y q:Nat):Int)=N by rw[hL.o,show jC x y q=min x y from ar es];omega]at J;obtain⟨HP,KT⟩:=bL J ((z.drew.setCell (p:=⟨ga,t,none⟩) da (zI N)));clear D J z R es;go_upto_region 14 with(fail)
        go_region_held3 (fun V=>af V ga t (zI (q:Nat)))
         (first|with_reducible exact a8|with_reducible exact ag (aF _) a8)
         ((go_at_call 130;(with_reducible refine(dc.o _).mono ?_);rintro e w' ⟨rfl,rfl⟩))
        clear a8 g1;go_wp2_with (go_at_call 151;(with_reducible refine(f4.o _).mono ?_);rintro e w' ⟨rfl,rfl⟩)
        exact Yg
       .have ao:((q:Int)==M)=false:=by rw[<-td,qF,f7.o];omega
        have J:=D;rw[zeu (jC x y) R (ak es)]at J;obtain⟨HP,KT⟩:=bL (J.ext (aF _)) z.drew;clear D J z R;go_upto_region 14 with(fail)
        go_region_held3 (fun V=>af V ga t (zI (q:Nat)))
         (first|with_reducible exact a8|with_reducible exact ag (aF _) a8)
         ((go_at_call 130;(with_reducible refine(dc.o _).mono ?_);rintro e w' ⟨rfl,rfl⟩))
        go_wp2;exact Yg
      .obtain rfl:t=k:=Ry;rw[show xE (jC x y) C t=C.map (jC x y) by have:=zgj (jC x y) C;rw[IF.o]at this;exact this]at D;obtain⟨HP,KT⟩:=bL D z;clear D z;go_wp2;go_roundw
       case rel=>exact⟨j+1,Ry,RB,by rw[hR.o];exact HP,KT⟩
       case measure=>simp[intOf];omega
    .obtain rfl:j=m:=Ry;rw[fO (by rw[List.length_zip,c0.o,c7.o];omega)]at D;have cn:=zH (show oL k (ji k (us.zip H)) from zhs gf);obtain⟨C,d6⟩:=aK (ji k (us.zip H));rw[<-d6]at D cn;obtain⟨hw,c8⟩:=bL d6 D;have br:=aA hP z;obtain⟨T,U,Z,ab⟩:=aJ br;obtain⟨co,gi,d4,ht⟩:=fS br (aA hQ z) (bQ e9 z) z;obtain⟨a2,he⟩:=aK wr;rw[<-he]at c8 T U Z ab co gi d4 ht ⊢;clear D z EC em br he d6;go_upto_region 19 with(go_at_call 160;(with_reducible refine(fs.o _ d4.o).mono ?_);intro e b1 h;unfold zit at h;obtain⟨bd,be,gA,D,hb⟩:=h;rw[<-O.o]at gA D;subst gA;have c9:=zH D;have b3:=zH hb;clear D hb)
     clear T U Z ab;obtain⟨T,U,Z,ab⟩:=aJ (aA co b3);obtain⟨i3,ia,it,i0,i1⟩:=cM zfS;go_upto_region 20 with((at_make;refine iJ _ rfl _ _ 187 rfl b1.heap.size 4 i3 (.bool false) 1 underlying187 ia it i0 .i64 .i64 k k k rfl rfl rfl rfl (by rw[i1];omega) TB (ah _) ?_;intro cO Es a1;have gc:=zH Es;have c4:=zH (bT a1);clear Es a1))
     clear T U Z ab;obtain⟨ge,ej⟩:=aK b1.heap.size;obtain⟨hT,hn,hF⟩:=dD (show uF b1 k ge (qZ g C 0) cO from⟨by rw[zgk,<-O.o,ej];have h:=gc.o;rw[zcl]at h;exact h,by rw[rP];exact O.symm,Ry⟩) (show Ck W k ga C cO from(c8.ext b3).ext c4) (show nc a2 k bd be (g.i++eG g.es) (g.o++jN g.es) cO from c9.ext c4);have db:=zH (show ge≠ga/\ge≠bd/\ge≠be from by have h2:=b_ c8.o.row ga rfl;have h3:=b_ c9.o.a bd rfl;have h4:=b_ c9.o.b be rfl;have ka:=b3.size;omega)
     obtain⟨hr,hB⟩:=bL (show aj a2 cO from bQ b3 c4) (show(a2:Nat)<=ge from by have:=b3.size;omega);rw[<-ej];clear ej gc;go_wp2;go_loopw [17,18,86] (fun _ _ i wr=>∃t:Nat,t<=k/\i=.int .i64 t/\uF b1 k ge (qZ g C t) wr/\Ck W k ga C wr/\nc a2 k bd be (g.i++eG g.es) (g.o++jN g.es) wr/\aj a2 wr) (fun _ _ i _=>k-(intOf i).toNat)
     case atStart=>exact⟨0,aT _,rfl,hT,hn,hF,hr⟩
     case round=>
      obtain⟨t,g6,rfl,F,ha,a6,z⟩:=hrel;by_cases FC:t<k
      .obtain⟨y,hy⟩:=aw (TV:t<C.length);have KU:C.getD t 0=y:=SH;have i2:y<=t:=by have:=cn.le t FC;omega
       have cc:=(ha.at hy).1;have bv:=(a6.at FC).1;have bz:=(a6.swap.at FC).1;obtain⟨lm,g8⟩:=aw (by rw[rP,<-O.o];omega:y < (qZ g C t).length);obtain⟨kb,g1⟩:=(F.ext (aF wr)).at g8;have bm:=bE pk f5.1 (n:=List.count t (g.i++eG g.es));have bo:=bE pk f5.2 (n:=List.count t (g.o++jN g.es));have b0:=zev (g:=g) (x:=t);obtain⟨ba,g3⟩:=aK ((g.i++eG g.es).count t);obtain⟨bb,g4⟩:=aK ((g.o++jN g.es).count t);rw[<-g3]at bv bm b0;rw[<-g4]at bz bo b0;have k6:IntKind.i64.wrap ((ba:Int)+(bb:Int))=(ba:Int)+(bb:Int):=Sq;have a0:=aY bv bz;obtain⟨fl,e8,fz,gn⟩:=fS z.drew (ha.ext (aF wr)) (a6.ext (aF wr)) (F.ext (aF wr));have k9:y<k:=Ry;clear bv bz g3 g4 g8 F ha a6 z hy i2;cases a7:g.onB t
       .have ao:decide ((0:Int) < (ba:Int)+(bb:Int))=false:=by have:=b0.2 a7;simp;omega
        have f9:=zH (zgl (C:=C) a7);clear a7 b0;go_upto_region 23 with(fail)
        go_region_held3 (fun V=>af V bd t (zI (ba:Nat))/\af V be t (zI (bb:Nat)))
         (first|with_reducible exact a0|with_reducible exact mR (aF _) a0)
         ((fail))
        go_wp2;go_roundw
        case rel=>exact⟨t+1,Ry,RB,by rw[<-f9.o];exact gn,e8,fz,fl⟩
        case measure=>simp[intOf];omega
       .have ao:decide ((0:Int) < (ba:Int)+(bb:Int))=true:=by
         have:¬(ba+bb=0):=fun h=>by rw[b0.1 h]at a7;cases a7
         simp;omega
        have cI:=zht (C:=C) a7;rw[KU]at cI;have f9:=zH cI;have J:=gn.put y true;rw[cI]at J;obtain⟨HP,hp,hG,KT⟩:=fS J (e8.other db.1 y (.bool true)) (fz.other db.2.1 db.2.2 y (.bool true)) (fl.setCell (p:=⟨ge,y,none⟩) hB (.bool true));clear a7 b0 cI J;go_upto_region 23 with(fail)
        go_region_held3 (fun V=>af V bd t (zI (ba:Nat))/\af V be t (zI (bb:Nat)))
         (first|with_reducible exact a0|with_reducible exact mR (aF _) a0)
         ((fail))
        go_wp2;go_roundw
        case rel=>exact⟨t+1,Ry,RB,HP,hp,hG,KT⟩
        case measure=>simp[intOf];omega
      .obtain rfl:t=k:=Ry;have g7:qZ g C t=tP t C (ft g):=by rw[O.o];exact zgm b6.inr
       rw[g7]at F;obtain⟨d0,cR,c5⟩:=dD F ha z;have br:=aA co z;obtain⟨T,U,Z,ab⟩:=aJ br;obtain⟨a3,hf⟩:=aK wr;rw[<-hf]at d0 cR c5 T U Z ab ⊢;clear F ha a6 z br hf g7 FC g6;go_upto_region 27 with((at_make;refine iJ _ rfl _ _ 27 rfl a3.heap.size 3 hm (zI 0) 1 dA hi hk hl .i64 .i64 t t t rfl rfl rfl rfl SB TB (ah _) ?_;intro i5 Es a1;have gd:=zH Es;have c6:=zH (bT a1);clear Es a1))
       clear T U Z ab;obtain⟨Q,ek⟩:=aK a3.heap.size;have hM:=zH (show lZ a3 t Q (qn g C 0) i5 from by have h:=gd.o;rw[gl]at h;refine⟨?_,by rw[pQ];exact O.symm,Ry⟩;unfold au;rw[zgn,iU,<-O.o,ek];exact h)
       obtain⟨ho,hU,hu⟩:=dD (cR.ext c6) (d0.ext c6) (bQ c5 c6);have ad:=zH (show Q≠ga/\Q≠ge/\(a2:Nat)<=Q from by have h2:=b_ cR.o.row ga rfl;have h3:=b_ d0.o.row ge rfl;have h4:=c5.size;omega)
       rw[<-ek];clear ek gd;go_wp2;go_loopw [20,21,110] (fun u _ i wr=>∃j:Nat,j<=t/\i=.int .i64 j/\u=.int .i64 (ql g C j:Nat)/\lZ a3 t Q (qn g C j) wr/\uF b1 t ge (tP t C (ft g)) wr/\Ck W t ga C wr/\aj a2 wr) (fun _ _ i _=>t-(intOf i).toNat)
       case atStart=>exact⟨0,aT _,rfl,rfl,hM,hU,ho,hu⟩
       case round=>
        obtain⟨j,em,rfl,rfl,I,F,ha,z⟩:=hrel;by_cases FC:j<t
        .obtain⟨y,hy⟩:=aw (TV:j<C.length);have KU:C.getD j 0=y:=SH;have cc:=(ha.at hy).1;obtain⟨g9,-⟩:=F.at (xr C (ft g) FC);have h8:=Dj g C j;have jp:=zH KU;by_cases e:y=j
         .subst e;cases hb:qY C (ft g) y
          .rw[hb]at g9;have ca:=zaJ (g:=g) (C:=C) (j:=y) (fun ct=>by rw[hb]at ct;cases ct.2);have am:=zaz (C:=C) (k:=y) b6.inr (aG SR);obtain⟨b5,b4,b7,b2,a4⟩:=l_ (by rw[<-ca];exact I:lZ a3 t Q (qn g C (y+1)) wr) am F ha z;clear ca am I F ha z hb KU hy;go_wp2;go_roundw
           case rel=>exact⟨y+1,Ry,RB,by rw[b4.o],b5,b7,b2,a4⟩
           case measure=>simp[intOf];omega
          .rw[hb]at g9;have am:=zhi (C:=C) (k:=y) b6.inr SR KU;obtain⟨kl,k3⟩:=I.at (rQ (C:=C) (j:=y) (by rw[<-O.o];exact FC:y<g.w));have J:=I.put y (ql g C y:Int);rw[zhu KU hb]at J;obtain⟨b8,g0⟩:=aK (ql g C y);rw[<-g0]at J h8 am ⊢;have e2:IntKind.i64.wrap ((b8:Int)+1)=(b8:Int)+1:=Sq;obtain⟨b5,b4,b7,b2,a4⟩:=l_ J am (F.other ad.2.1 y (zI (b8:Nat))) (ha.other ad.1 y (zI (b8:Nat))) (z.setCell (p:=⟨Q,y,none⟩) ad.2.2 (zI (b8:Nat)));clear J am I F ha z hb KU hy g0;go_wp2;go_roundw
           case rel=>exact⟨y+1,Ry,RB,by rw[b4.o];rfl,b5,b7,b2,a4⟩
           case measure=>simp[intOf];omega
         .have ao:((y:Int)==(j:Int))=false:=by rw[<-td,qF];omega
          have ca:=zaJ (g:=g) (C:=C) (j:=j) (fun ct=>e (by rw[<-KU];exact ct.1));have am:=zaz (C:=C) (k:=j) b6.inr (aB (by rw[KU];exact e));obtain⟨b5,b4,b7,b2,a4⟩:=l_ (by rw[<-ca];exact I:lZ a3 t Q (qn g C (j+1)) wr) am F ha z;clear ca am I F ha z KU hy;go_wp2;go_roundw
          case rel=>exact⟨j+1,Ry,RB,by rw[b4.o],b5,b7,b2,a4⟩
          case measure=>simp[intOf];omega
        .obtain rfl:j=t:=Ry;obtain⟨gm,e7,fb,ap,cj,f8⟩:=lq F ha z (show(toL g C).length=j from(zcY g C).trans O.symm) (show(qn g C j).length=j from(pQ g C j).trans O.symm) (by rw[zew];exact I:lZ a3 j Q (rS (toL g C) (qn g C j) 0) wr);obtain⟨wc,e2⟩:=aK wr;rw[<-e2]at gm e7 fb f8 ⊢;clear F ha z I e2 FC em;go_wp2;go_loopw [22,134] (fun _ i wr=>∃m:Nat,m<=j/\i=.int .i64 m/\lZ a3 j Q (rS (toL g C) (qn g C j) m) wr/\uF b1 j ge (tP j C (ft g)) wr/\Ck W j ga C wr/\aj a2 wr) (fun _ i _=>j-(intOf i).toNat)
         case atStart=>exact⟨0,aT _,rfl,f8,gm,e7,fb⟩
         case round=>
          obtain⟨m,ac,rfl,I,F,ha,z⟩:=hrel;by_cases FC:m<j
          .obtain⟨y,hy⟩:=aw (TV:m<C.length);have KU:C.getD m 0=y:=SH;have hj:y<=m:=by have:=cn.le m FC;omega
           have cz:m<g.w:=by rw[<-O.o];exact FC
           have Ex:=zgr (j:=m) ap cj ac;obtain⟨v0,a9⟩:=aw (SF:y < (rS (toL g C) (qn g C j) m).length);obtain⟨v1,e0⟩:=aw (SF:m < (rS (toL g C) (qn g C j) m).length);have e1:qY C (ft g) y=true->v0=toN g C m:=fun hb=>by
            by_cases e:y<m
            .rw[zgo e (by rw[ap.o];exact ac),yI C Ry]at a9;cases a9
             rw[zhg (k:=m) (by rw[<-O.o];exact cn) cz,KU]
            .obtain rfl:y=m:=Ry;rw[zgp (by rw[ap.o];exact ac),rQ cz,ar ⟨FC,KU,hb⟩]at a9;cases a9
             rw[zhh SR KU]
           have cc:=(ha.at hy).1;obtain⟨kw,-⟩:=I.at a9;obtain⟨ke,k1⟩:=I.at e0;have b9:=ha.other ad.1 m (zI v0);have cb:=F.other ad.2.1 m (zI v0);have bp:=I.put m v0;have cr:=z.setCell (p:=⟨Q,m,none⟩) ad.2.2 (zI v0);have k5:=(b9.at hy).1;have hc:=(cb.at (xr C (ft g) (Ry:y<j))).1;have k8:y<j:=Ry;cases hb:qY C (ft g) y
           .rw[hb]at hc;obtain⟨kk,k2⟩:=bp.at (x:=m) (y:=v0) (by rw[dJ (by rw[Ex];exact FC)]);have eo:=bp.put m (-1);rw[th,Cn (by rw[yI C cz,zhf SR]) (by rw[ap.o,cj.o])]at eo;obtain⟨KS,KR,Gk,Eu⟩:=fS eo (b9.other ad.1 m (zI (-1))) (cb.other ad.2.1 m (zI (-1))) (cr.setCell (p:=⟨Q,m,none⟩) ad.2.2 (zI (-1)));clear b9 cb bp cr eo e1 a9 e0 hy KU hj Ex I F ha z hb;exact YA
           .rw[hb]at hc;rw[Cn (by rw[yI C cz,<-e1 hb]) (by rw[ap.o,cj.o])]at bp;obtain⟨KS,KR,Gk,Eu⟩:=fS bp b9 cb cr;clear b9 cb bp cr e1 a9 e0 hy KU hj Ex I F ha z hb;exact YA
          .obtain rfl:m=j:=Ry;rw[zgq ap cj]at I;obtain⟨i9,j0,gw,gB,-⟩:=I.a.view;rw[ap.o]at gw;cases gw
           have eb:=bQ d4 z;have E:=b6.o;have cF:=sr g (ql g C g.w) (toL g C) (CV g C) A1 A2 A3 (some ⟨Q,0,none⟩) c1 c2 c3 m wr (hz wr eb) gB (zei E.inr) (by rw[zcY];have:=E.w;omega) (by have:=E.w;omega) (by have:=Dj g C g.w;have:=E.w;omega) (by have:=E.es;omega) (by have:=E.i;omega) (by have:=E.o;omega) (fun e bi=>⟨by have:=(E.el e bi).1;omega,by have:=(E.el e bi).2;omega⟩);have g2:g.map (ql g C m) (CV g C)=iB g (us.zip H):=by rw[zaA E.inr (by rw[<-O.o];exact gf),<-O.o,<-hw.o]
           rw[ap.o,<-O.o,g2]at cF;obtain⟨G,d8⟩:=aK (iB g (us.zip H));rw[<-d8]at cF;obtain⟨f6,hA⟩:=bL cF d8;obtain⟨T,U,Z,ab⟩:=aJ (aA co z);obtain⟨dl,gs⟩:=bL (aA gi z) eb;have dT:=zH (show(w:Nat)+1<wr from(aP.1 dl).1);clear I F ha z FC ac gB eb E cF g2 d8;obtain⟨lx,hh⟩:=aK wr;rw[<-hh]at f6 T U Z ab dl gs dT ⊢;clear hh;go_wp2_with ((go_at_call 161;(with_reducible refine f6.o.mono ?_);intro e ln h;unfold m7 at h;obtain⟨ce,d1,ch,d2,ci,d3,B,h1,g5,eg⟩:=h;subst h1;have ao:=aA dl eg;obtain⟨la,lb,lc,li⟩:=aJ ao;obtain⟨f0,f1,f2,f3⟩:=cH ao;have y:=cJ (v0:=.int .i64 (G.w:Nat)) (v1:=.slice ce G.es d1) (v2:=.slice ch G.i d2) (v3:=.slice ci G.o d3) ao;obtain⟨i6,i7,z2,i8⟩:=aJ y;unfold ed at i6 i7 z2 i8;have hO:=zH g5;have hx:=zH (cX (bQ gs eg) (b:=(w:Nat)+1) Ry (zI (G.w:Nat)) (.slice ce G.es d1) (.slice ch G.i d2) (.slice ci G.o d3));clear ao y g5 eg))
           exact az (v:=.tuple #[.agg (bF G ce d1 ch d2 ci d3),.slice (aX Q) m m]) (by simp[results,results153,go_sem, *]) rfl (by unfold ziy;rw[<-hA.o];exact⟨ce,d1,ch,d2,ci,d3,B,some ⟨Q,0,none⟩,m,m,rfl,(hO.ed dT).mono (js (ny dT)),hx⟩)
end Go.Proofs.YtdpgblncijojiaaGreatDoor
