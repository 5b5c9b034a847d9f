/- Parts of the walks. Conditions: as stated with each. -/
import Derived.Test.YtdpgblncijojiaaGreatDoorPk39
namespace Go.Proofs.YtdpgblncijojiaaGreatDoor
open Go.RowKit Tryz
set_option linter.all false
set_option maxHeartbeats 2000000
set_option maxRecDepth 100000
variable{D b i j k x:Nat}{RO:bX}{g:Gr}{ps:qx}
structure BF(B n ga:Nat)(l:bX)(V:aa):Prop where
 a:ar V B (.slice (aY ga) n n) (bF l)
 len:l.length=n
 la:B<=ga
section
variable{B n ga:Nat}{l:bX}{V V':aa}
def BF.ext(h:BF B n ga l V)(z:ai V V'):BF B n ga l V':=⟨h.a.ext z,h.len,h.la⟩
def BF.row(h:BF B n ga l V):V.ownsRow B 3 1 (.slice (aY ga) n n) n ((bF l).map (Value.int .i64)):=h.a.row (by rw[bj,h.len])
def BF.at(h:BF B n ga l V){y:Nat}(z:l[x]?=some y):ah V ga x (zI (y:Nat))/\V.frozen? ⟨ga,x,none⟩=false:=by have D:=(bA.1 z).1;refine⟨?_,h.row.frozenAt x⟩;rw[h.row.cellAt x (by have:=h.len;omega),cp,fv z];rfl
def BF.put(h:BF B n ga l V)(x y:Nat):BF B n ga (l.set x y) (V.setCell ⟨ga,x,none⟩ (zI (y:Nat))):=by
 have z:=(h.row.stored x (zI (y:Nat))).1;rw[<-h_]at z;have e:(bF l).set x ((y:Nat):Int)=bF (l.set x y):=by simp only[bF];rw[h_]
 rw[e]at z;refine⟨by unfold ar;rw[bj,fP,h.len];exact z,Tw,h.la⟩
end
def jC(x y q:Nat):Nat:=if q=max x y then min x y else q
def zdQ(c:bX)(a b:Nat):wX c a b=c.map (jC (c.getD a 0) (c.getD b 0)):=rfl
def wo(f:gF)(c:bX)(j:Nat):List Nat:=(c.take j).map f++c.drop j
def zdR(f:gF)(c:bX):wo f c 0=c:=by simp[wo]
def zfM(f:gF)(c:bX):wo f c c=c.map f:=by simp[wo]
def zr(f:gF){c:bX}(h:j<c.length):(wo f c j)[j]?=c[j]?:=by unfold wo;rw[gv Sk,fL,bt,dH,iM RU,vA,jz]
def BG(f:gF){c:bX}{q:Nat}(h:c[j]?=some q):(wo f c j).set j (f q)=wo f c (j+1):=by
 have z:=(bA.1 h).1;have D:c.drop j=q::c.drop (j+1):=by rw[sr z];congr 1;exact(bA.1 h).2
 unfold wo;rw[gK,h,D,gu,sq _ _ (by simp;exact Nat.min_le_left _ _)];simp[iM (jy z)]
def zdS(f:gF){c:bX}{q:Nat}(h:c[j]?=some q)(D:f q=q):wo f c j=wo f c (j+1):=by
 rw[<-BG f h,D];have z:=(zr f (bA.1 h).1).trans h;apply fu;intro k;by_cases e:j=k
 .subst e;rw[eu (bA.1 z).1,z]
 .rw[dz e]
def zg2{us:bX}{a:Nat}(z:us[k]?=some a)(D:RO[k]?=some b):(us.zip RO)[k]?=some (a,b):=by rw[List.getElem?_zip_eq_some];exact⟨z,D⟩
def zic{us:bX}{n:Nat}(D:∀x∈us,x<n)(E:∀x∈RO,x<n):∀q∈us.zip RO,q.1<n/\q.2<n:=fun q z=>by obtain⟨F,H⟩:=q;exact⟨D _ (pT z).1,E _ (pT z).2⟩
def zg3{n:Nat}(h:∀q∈ps,q.1<n/\q.2<n):nZ n (jb n ps):=Cs ps _ (yY n) h
def BF.other{B n ga:Nat}{l:bX}{V:aa}(h:BF B n ga l V)(D:b≠ga)(i:Nat)(v:au):BF B n ga l (V.setCell ⟨b,i,none⟩ v):=⟨h.a.mJ (qR V b i v) (fun g e z=>by cases e;cases z;exact D rfl),h.len,h.la⟩
def mR.other{B n ga:Nat}{l m:bX}{V:aa}(h:mR B n ga D l m V)(E:b≠ga)(F:b≠D)(i:Nat)(v:au):mR B n ga D l m (V.setCell ⟨b,i,none⟩ v):=⟨h.a.mJ (qR V b i v) (fun g e z=>by cases e;cases z;exact E rfl),h.b.mJ (qR V b i v) (fun g e z=>by cases e;cases z;exact F rfl),h.ne,h.la,h.lb⟩
structure ts(B n ga:Nat)(l:zcM)(V:aa):Prop where
 row:V.ownsRow B 4 1 (.slice (aY ga) n n) n (l.map Value.bool)
 len:l.length=n
 la:B<=ga
section
variable{B n ga:Nat}{l:zcM}{V V':aa}
def ts.ext(h:ts B n ga l V)(z:ai V V'):ts B n ga l V':=⟨hJ h.row (row:=none) ⟨z.os,z.tape,z.output,z.size,fun k D _=>z.block k D⟩ (aA (by simp[Value.ownBlock])),h.len,h.la⟩
def ts.at(h:ts B n ga l V){y:Bool}(hx:l[x]?=some y):ah V ga x (.bool y)/\V.frozen? ⟨ga,x,none⟩=false:=Yx
def ts.put(h:ts B n ga l V)(x:Nat)(y:Bool):ts B n ga (l.set x y) (V.setCell ⟨ga,x,none⟩ (.bool y)):=by have z:=(h.row.stored x (.bool y)).1;rw[<-h_]at z;exact⟨z,Tw,h.la⟩
end
def qB(g:Gr)(C:bX)(k:Nat):List Bool:=(List.range g.w).map fun r=>(List.range k).any fun x=>g.DT x&&decide (C.getD x 0=r)
def qZ(g:Gr)(C:bX)(k:Nat):(qB g C k).length=g.w:=by simp[qB]
def zfN(g:Gr)(C:bX):qB g C 0=List.replicate g.w false:=by
 apply fu;intro r;unfold qB;rw[cp,ie];by_cases h:r<g.w
 .rw[lu h,ay h];rfl
 .rw[fQ Sk,al h];rfl
def BH{C:bX}(r:Nat):((List.range (k+1)).any fun x=>g.DT x&&decide (C.getD x 0=r))=(((List.range k).any fun x=>g.DT x&&decide (C.getD x 0=r))||(g.DT k&&decide (C.getD k 0=r))):=by rw[oE,List.any_append];simp
def zfO{C:bX}(h:g.DT k=false):qB g C k=qB g C (k+1):=by
 unfold qB;refine jD fun r _=>?_
 rw[BH,h];simp
def zg4{C:bX}(h:g.DT k=true):(qB g C k).set (C.getD k 0) true=qB g C (k+1):=by
 apply fu;intro r;by_cases z:r<g.w
 .have D:(qB g C (k+1))[r]?=some ((List.range (k+1)).any fun x=>g.DT x&&decide (C.getD x 0=r)):=by unfold qB;rw[cp,lu z];rfl
  rw[D,BH,h];by_cases e:C.getD k 0=r
  .rw[e,eu (by rw[qZ];exact z)];simp
  .rw[dz e,gM e];unfold qB;rw[cp,lu z];simp
 .rw[fQ (by rw[fP,qZ];omega),fQ (by rw[qZ];omega)]
def zfP{C:bX}(D:g.In):qB g C g.w=sS g.w C (fy g):=by
 unfold qB sS;refine jD fun r _=>?_
 rw[mY,zf,lT];constructor
 .rintro⟨x,z,h⟩;rw[bC,cK]at h;exact⟨x,Gr.jY.1 h.1,h.2⟩
 .rintro⟨x,z,h⟩;exact⟨x,et.2 (D x z),by rw[Gr.jY.2 z];simpa using h⟩
def zdT:(g.i++eK g.es).count x+(g.o++jF g.es).count x=0↔g.DT x=false:=by
 constructor
 .intro h;rw[<-se,Gr.jY];intro F;have:=D9 F;omega
 .intro h;have I:¬g.On x:=fun F=>by rw[Gr.jY.2 F]at h;cases h
  have J:x∉g.i++eK g.es:=fun E=>I (by
   rcases fc.1 E with h|h
   .exact aF h
   .obtain⟨l,D,H⟩:=qf.1 h;obtain⟨e,z,rfl⟩:=cf.1 D;exact aA (aA ⟨e,z,aA H⟩))
  have O:x∉g.o++jF g.es:=fun E=>I (by
   rcases fc.1 E with h|h
   .exact aA (aF h)
   .obtain⟨l,D,H⟩:=qf.1 h;obtain⟨e,z,rfl⟩:=cf.1 D;exact aA (aA ⟨e,z,aF H⟩))
  rw[List.count_eq_zero.2 J,List.count_eq_zero.2 O]
structure lF(B n ga:Nat)(l:aG)(V:aa):Prop where
 a:ar V B (.slice (aY ga) n n) l
 len:l.length=n
 la:B<=ga
section
variable{B n ga:Nat}{l:aG}{V V':aa}
def lF.ext(h:lF B n ga l V)(z:ai V V'):lF B n ga l V':=⟨h.a.ext z,h.len,h.la⟩
def lF.row(h:lF B n ga l V):V.ownsRow B 3 1 (.slice (aY ga) n n) n (l.map (Value.int .i64)):=h.a.row h.len
def lF.at(h:lF B n ga l V){y:Int}(hx:l[x]?=some y):ah V ga x (zI y)/\V.frozen? ⟨ga,x,none⟩=false:=Yx
def lF.put(h:lF B n ga l V)(x:Nat)(y:Int):lF B n ga (l.set x y) (V.setCell ⟨ga,x,none⟩ (zI y)):=by have z:=(h.row.stored x (zI y)).1;rw[<-h_]at z;exact⟨by unfold ar;rw[fP,h.len];exact z,Tw,h.la⟩
def ts.other{l:zcM}(h:ts B n ga l V)(z:b≠ga)(i:Nat)(v:au):ts B n ga l (V.setCell ⟨b,i,none⟩ v):=⟨hJ h.row (row:=some b) (qR V b i v) (aA UL),h.len,h.la⟩
end
def pG(g:Gr)(C:bX)(j:Nat):List Int:=(List.range g.w).map fun x=>if x<j/\C.getD x 0=x/\qz C (fy g) x=true then(pE g C x:Int) else 0
def pg(g:Gr)(C:bX)(j:Nat):(pG g C j).length=g.w:=by simp[pG]
def q7{C:bX}(h:x<g.w):(pG g C j)[x]?=some (if x<j/\C.getD x 0=x/\qz C (fy g) x=true then(pE g C x:Int) else 0):=by simp[pG,h]
def zfQ(g:Gr)(C:bX):pG g C 0=List.replicate g.w 0:=by
 apply fu;intro r;by_cases h:r<g.w
 .rw[q7 h,ie,ay h,al RU]
 .rw[fQ (by rw[pg];omega),ie,al h]
def El{C:bX}(h:¬(C.getD j 0=j/\qz C (fy g) j=true)):pG g C j=pG g C (j+1):=by
 unfold pG;refine jD fun x _=>?_
 by_cases e:x=j
 .subst e;rw[al RU,al (fun z=>h z.2)]
 .have:x<j↔x<j+1:=RU;simp only[this]
def zg5{C:bX}(D:C.getD j 0=j)(E:qz C (fy g) j=true):(pG g C j).set j (pE g C j:Int)=pG g C (j+1):=by
 apply fu;intro r;by_cases z:r<g.w
 .rw[q7 z];by_cases e:j=r
  .subst e;rw[eu (by rw[pg];exact z),ay ⟨RU,D,E⟩]
  .rw[dz e,q7 z];have:r<j↔r<j+1:=RU;simp only[this]
 .rw[fQ (by rw[fP,pg];omega),fQ (by rw[pg];omega)]
def q8(a b:aG)(j:Nat):List Int:=a.take j++b.drop j
def zdU(a b:aG):q8 a b 0=b:=by simp[q8]
def zfR{a b:aG}(h:i<j)(z:j<=a.length):(q8 a b j)[i]?=a[i]?:=by unfold q8;rw[dx Sw,fY,ay h]
def zfS{a b:aG}(z:j<=a.length):(q8 a b j)[j]?=b[j]?:=by unfold q8;rw[gv Sw,fL,dH,iM z,vA,jz]
def BI{a b:aG}{v:Int}(h:a[j]?=some v)(D:a.length=b):(q8 a b j).set j v=q8 a b (j+1):=by have E:=(bA.1 h).1;have z:b.drop j=b[j]'RU::b.drop (j+1):=sr RU;unfold q8;rw[gK,h,z,sq _ _ Sw,dH,iM RU,vA];simp only[kI,jA,Option.toList_some,xS,r_]
def zfT{a b:aG}(z:a.length=j)(D:b.length=j):q8 a b j=a:=by unfold q8;rw[gq RU,nc RU,nf]
def zfU{a b:aG}{n:Nat}(z:a.length=n)(D:b.length=n)(E:j<=n):(q8 a b j).length=n:=by unfold q8;rw[bQ,dH,lR];omega
def zid(g:Gr)(ps:qx)(w:aa)(e:Ending)(w':aa):Prop:=∃A1 c1 A2 c2 A3 c3 B z E D,e=.returned (.tuple #[.agg #[.int .i64 ((iK g ps).w:Nat),.slice A1 (iK g ps).es c1,.slice A2 (iK g ps).i c2,.slice A3 (iK g ps).o c3],.slice z E D])/\tZ w B w' A1 c1 A2 c2 A3 c3 (iK g ps)/\ai w w'
def Em(g:Gr)(us H:bX)(A1 A2 A3 e5 e6:an)(c1 c2 c3 h0 h1:Nat)(w:aa)(d6:nX w A1 A2 A3 g)(E:rC g)(eb:us.length=H)(h6:us.length<=4096)(gC:aT w e5 (bF us))(gL:aT w e6 (bF H))(bm:∀x∈us,x<g.w)(bo:∀x∈H,x<g.w):aw 153 #[.agg (bI g A1 c1 A2 c2 A3 c3),.slice e5 us h0,.slice e6 H h1] w (zid g (us.zip H) w):=by
 obtain⟨hn,hi,hl,hm,Es⟩:=cU fI;have b6:=zH E;have ia:=E.w;have hA:=zH (fun V (a5:ai w V)=>d6.ext a5);have ii:(eK g.es).length<=4096*4096:=bc (pb (·.o) 4096 g.es fun e bi=>(E.el e bi).2) (oF _ E.es);have io:(jF g.es).length<=4096*4096:=bc (pb (·.i) 4096 g.es fun e bi=>(E.el e bi).1) (oF _ E.es);have is:=E.i;have it:=E.o;have ip:=E.es;have ct:(g.i++eK g.es).length<=33554432/\(g.o++jF g.es).length<=33554432:=by rw[bQ,bQ];omega
 obtain⟨f4,fo⟩:=bS ct (fun V (a5:ai w V)=>uH g A1 A2 A3 c1 c2 c3 V (d6.ext a5) E.inr RU RU ct.1 ct.2);clear ii io is it ip ct;obtain⟨hE,hF⟩:=bS (fun V (a5:ai w V)=>gC.ext a5) (fun V (a5:ai w V)=>gL.ext a5);obtain⟨n,en⟩:=aO g.w;have O:=zH en;rw[<-en]at bm bo ia fo ⊢;obtain⟨gd,hI,hL⟩:=d_ (zic bm bo) bm bo;obtain⟨m,ac⟩:=aO us.length;obtain⟨cR,c6⟩:=bS (show us.length=m from ac.symm) (show H.length=m from eb.symm.trans ac.symm);rw[<-eb,<-ac];rw[<-ac]at h6;have d4:=((aj w w).alloc (ag _) (.cells (fJ n A1 g.es c1 A2 g.i c2 A3 g.o c3) 151)).alloc RS (.cells cw 151);have R:=(b_ (w.alloc (.cells (fJ n A1 g.es c1 A2 g.i c2 A3 g.o c3) 151)) (.cells cw 151) (k:=w.heap.size) RS).trans (az w _ rfl);have ev:=az (w.alloc (.cells (fJ n A1 g.es c1 A2 g.i c2 A3 g.o c3) 151)) (.cells cw 151) (n:=(w:Nat)+1) RS;clear d6 E gC gL bm bo en ac eb;go_enter func153,ntmps153
 go_upto_region 1 with(fail)
 generalize (w.alloc _).alloc _=W at d4 R ev ⊢;obtain⟨U,Y,Z,ab⟩:=aK R;obtain⟨e9,hR,hQ⟩:=d_ d4 ev R;clear d4 ev R;go_upto_region 2 with((at_make;refine jg _ rfl _ _ 27 rfl W.heap.size 3 hn (zI 0) 1 dS hi hl hm .i64 .i64 n n n rfl rfl rfl rfl SW TS (ag _) ?_;intro i5 Eo a1;have f9:=zH Eo;have hD:=zH a1;clear Eo a1))
 have hr:=zH (cd hD);obtain⟨ga,ei⟩:=aO W.heap.size;obtain⟨hO,c9⟩:=bS (show i5.ownsRow W 3 1 (.slice (aY ga) n n) n ((fh (iota n) 0 0).map (Value.int .i64)) by have Eo:=f9.o;rw[ig]at Eo;rw[jT,fG,ei];exact Eo) (RU:(W:Nat)<=ga);clear U Y Z ab f9;rw[<-ei];clear ei;go_wp2;go_loopw [9,28] (fun _ i wr=>∃k:Nat,k<=n/\i=.int .i64 k/\wr.ownsRow W 3 1 (.slice (aY ga) n n) n ((fh (iota n) 0 k).map (Value.int .i64))/\ai W wr) (fun _ i _=>n-(intOf i).toNat)
 case atStart=>exact⟨0,bf _,rfl,hO,hr⟩
 case round=>
  obtain⟨k,a6,rfl,Eo,z⟩:=hrel;by_cases Ez:k<n
  .have kl:ah wr ga k (zI 0):=XP;have k8:=Eo.frozenAt k;have eA:=(Eo.stored k (zI k)).1;rw[<-h_,kO _ _ _ _ (qG Ez)]at eA;obtain⟨hT,a4⟩:=bS eA (z.setCell (p:=⟨ga,k,none⟩) c9 (zI k));clear eA Eo;go_wp2;go_roundw
   case rel=>exact⟨k+1,RU,RW,hT,a4⟩
   case measure=>simp[intOf];omega
  .obtain rfl:k=n:=RU;rw[kN _ _ _ SI]at Eo;obtain⟨hw,ht⟩:=bS (show BF W k ga (jb k []) wr from⟨by unfold ar;rw[show bF (jb k [])=iota k from rfl,fG];exact Eo,g_,c9⟩) z;clear Eo z Ez a6;go_wp2;go_loopw [10,11,12,13,38] (fun _ _ _ _ i wr=>∃j:Nat,j<=m/\i=.int .i64 j/\BF W k ga (jb k ((us.zip H).take j)) wr/\ai W wr) (fun _ _ _ _ i _=>m-(intOf i).toNat)
   case atStart=>exact⟨0,bf _,rfl,hw,ht⟩
   case round=>
    obtain⟨j,em,rfl,D,z⟩:=hrel;by_cases Ez:j<m
    .obtain⟨a,ha⟩:=aB (by rw[cR.o];exact Ez:j<us.length);obtain⟨b,hb⟩:=aB (by rw[c6.o];exact Ez:j<H.length);have e3:=cC e9 z;obtain⟨hW,hX,rfl,gV⟩:=(hE wr e3).here (by rw[bj,cR.o];omega:0 < (bF us).length);obtain⟨hY,hZ,rfl,g0⟩:=(hF wr e3).here (by rw[bj,c6.o];omega:0 < (bF H).length);have bv:=gV _ _ (fv ha);have bz:=g0 _ _ (fv hb);have h7:=hI a (a_ ha);have h8:=hL b (a_ hb);have cF:jb k ((us.zip H).take (j+1))=(jb k ((us.zip H).take j)).map (jC ((jb k ((us.zip H).take j)).getD a 0) ((jb k ((us.zip H).take j)).getD b 0)):=by rw[j1 (zg2 ha hb),ze4,zdQ]
     obtain⟨C,gB⟩:=aO (jb k ((us.zip H).take j));rw[<-gB]at D cF;have Ev:=D.len;obtain⟨x,e4⟩:=aB (RU:a<C.length);obtain⟨y,hy⟩:=aB (RU:b<C.length);rw[bu,bu,e4,hy]at cF;have he:=(D.at e4).1;have cc:=(D.at hy).1;obtain⟨hS,fn,fd,Kz⟩:=fU (show jb k ((us.zip H).take (j+1))=C.map (jC x y) from cF) D z Ev;have a0:=bn bv (bn bz (bn he cc));clear e3 gV g0 bv bz ha hb cF gB Ev e4 hy he cc D z;go_upto_region 10 with(fail)
     go_region_held3 (fun V=>ah V hW (hX+j) (zI (a:Nat))/\ah V hY (hZ+j) (zI (b:Nat))/\ah V ga a (zI (x:Nat))/\ah V ga b (zI (y:Nat)))
      (first|with_reducible exact a0|with_reducible exact zaW (aI _) a0)
      ((fail))
     obtain⟨fl,fa⟩:=bS (fn.ext (aI wr)) fd.drew;clear a0;obtain⟨db,fz⟩:=bS (fun V=>yH (x:Int) (y:Int) V) (fun V=>wR (x:Int) (y:Int) V);obtain⟨M,d8⟩:=aO (max (x:Int) (y:Int));obtain⟨N,d9⟩:=aO (min (x:Int) (y:Int));rw[<-d8]at db;rw[<-d9]at fz;obtain⟨f6,hM⟩:=bS d8 d9;obtain⟨ly,hh⟩:=aO wr.drew;rw[<-hh]at fl fa ⊢;clear d8 d9 hh fn fd h7 h8;go_wp2;go_loopw [13,57] (fun _ i wr=>∃t:Nat,t<=k/\i=.int .i64 t/\BF W k ga (wo (jC x y) C t) wr/\ai W wr) (fun _ i _=>k-(intOf i).toNat)
     case atStart=>exact⟨0,bf _,rfl,by rw[zdR];exact fl,fa⟩
     case round=>
      obtain⟨t,g7,rfl,D,z⟩:=hrel;by_cases FN:t<k
      .obtain⟨q,R⟩:=aB (Uc:t<C.length);have a8:=(D.at ((zr (jC x y) Uc).trans R));obtain⟨a8,g2⟩:=a8;by_cases es:q=max x y
       .have ao:((q:Int)==M)=true:=by rw[pZ,f6.o];omega
        have k3:=((D.ext (aI wr)).at ((zr (jC x y) Uc).trans R)).2;have J:=(D.ext (aI wr)).put t (jC x y q);rw[BG _ R,show((jC x y q:Nat):Int)=N by rw[hM.o,show jC x y q=min x y from ay es];omega]at J;obtain⟨HP,Kx⟩:=bS J ((z.drew.setCell (p:=⟨ga,t,none⟩) c9 (zI N)));clear D J z R es;go_upto_region 14 with(fail)
        go_region_held3 (fun V=>ah V ga t (zI (q:Nat)))
         (first|with_reducible exact a8|with_reducible exact av (aI _) a8)
         ((go_at_call 130;(with_reducible refine(db.o _).mono ?_);rintro e w' ⟨rfl,rfl⟩))
        clear a8 g2;go_wp2_with (go_at_call 151;(with_reducible refine(fz.o _).mono ?_);rintro e w' ⟨rfl,rfl⟩)
        exact Yr
       .have ao:((q:Int)==M)=false:=by rw[<-se,pZ,f6.o];omega
        have J:=D;rw[zdS (jC x y) R (al es)]at J;obtain⟨HP,Kx⟩:=bS (J.ext (aI _)) z.drew;clear D J z R;go_upto_region 14 with(fail)
        go_region_held3 (fun V=>ah V ga t (zI (q:Nat)))
         (first|with_reducible exact a8|with_reducible exact av (aI _) a8)
         ((go_at_call 130;(with_reducible refine(db.o _).mono ?_);rintro e w' ⟨rfl,rfl⟩))
        go_wp2;exact Yr
      .obtain rfl:t=k:=RU;rw[show wo (jC x y) C t=C.map (jC x y) by have:=zfM (jC x y) C;rw[Kz.o]at this;exact this]at D;obtain⟨HP,Kx⟩:=bS D z;clear D z;go_wp2;go_roundw
       case rel=>exact⟨j+1,RU,RW,by rw[hS.o];exact HP,Kx⟩
       case measure=>simp[intOf];omega
    .obtain rfl:j=m:=RU;rw[gq (by rw[List.length_zip,cR.o,c6.o];omega)]at D;have ck:=zH (show nZ k (jb k (us.zip H)) from zg3 gd);obtain⟨C,d5⟩:=aO (jb k (us.zip H));rw[<-d5]at D ck;obtain⟨hx,c7⟩:=bS d5 D;have br:=ak hQ z;obtain⟨U,Y,Z,ab⟩:=aK br;obtain⟨cn,gf,d0,hu⟩:=fU br (ak hR z) (cC e9 z) z;obtain⟨a2,hf⟩:=aO wr;rw[<-hf]at c7 U Y Z ab cn gf d0 hu ⊢;clear D z Ez em br hf d5;go_upto_region 19 with(go_at_call 160;(with_reducible refine(fo.o _ d0.o).mono ?_);intro e b1 h;unfold zh_ at h;obtain⟨bd,be,gw,D,hb⟩:=h;rw[<-O.o]at gw D;subst gw;have c8:=zH D;have b3:=zH hb;clear D hb)
     clear U Y Z ab;obtain⟨U,Y,Z,ab⟩:=aK (ak cn b3);obtain⟨i4,ib,i0,i1,i2⟩:=cU zfp;go_upto_region 20 with((at_make;refine jg _ rfl _ _ 187 rfl b1.heap.size 4 i4 (.bool false) 1 underlying187 ib i0 i1 .i64 .i64 k k k rfl rfl rfl rfl (by rw[i2];omega) TS (ag _) ?_;intro cI Eo a1;have gb:=zH Eo;have c0:=zH (cd a1);clear Eo a1))
     clear U Y Z ab;obtain⟨ge,ej⟩:=aO b1.heap.size;obtain⟨hU,ho,hG⟩:=d_ (show ts b1 k ge (qB g C 0) cI from⟨by rw[zfN,<-O.o,ej];have h:=gb.o;rw[zbJ]at h;exact h,by rw[qZ];exact O.symm,RU⟩) (show BF W k ga C cI from(c7.ext b3).ext c0) (show mR a2 k bd be (g.i++eK g.es) (g.o++jF g.es) cI from c8.ext c0);have da:=zH (show ge≠ga/\ge≠bd/\ge≠be from by have h3:=bZ c7.o.row ga rfl;have h4:=bZ c8.o.a bd rfl;have h5:=bZ c8.o.b be rfl;have ke:=b3.size;omega)
     obtain⟨hs,hC⟩:=bS (show ai a2 cI from cC b3 c0) (show(a2:Nat)<=ge from by have:=b3.size;omega);rw[<-ej];clear ej gb;go_wp2;go_loopw [17,18,86] (fun _ _ i wr=>∃t:Nat,t<=k/\i=.int .i64 t/\ts b1 k ge (qB g C t) wr/\BF W k ga C wr/\mR a2 k bd be (g.i++eK g.es) (g.o++jF g.es) wr/\ai a2 wr) (fun _ _ i _=>k-(intOf i).toNat)
     case atStart=>exact⟨0,bf _,rfl,hU,ho,hG,hs⟩
     case round=>
      obtain⟨t,g7,rfl,F,ha,a6,z⟩:=hrel;by_cases FN:t<k
      .obtain⟨y,hy⟩:=aB (Ub:t<C.length);have Ky:C.getD t 0=y:=S8;have i3:y<=t:=by have:=ck.le t FN;omega
       have cc:=(ha.at hy).1;have bv:=(a6.at FN).1;have bz:=(a6.swap.at FN).1;obtain⟨lw,g9⟩:=aB (by rw[qZ,<-O.o];omega:y < (qB g C t).length);obtain⟨kk,g2⟩:=(F.ext (aI wr)).at g9;have bm:=bc oJ f4.1 (n:=List.count t (g.i++eK g.es));have bo:=bc oJ f4.2 (n:=List.count t (g.o++jF g.es));have b0:=zdT (g:=g) (x:=t);obtain⟨ba,g4⟩:=aO ((g.i++eK g.es).count t);obtain⟨bb,g5⟩:=aO ((g.o++jF g.es).count t);rw[<-g4]at bv bm b0;rw[<-g5]at bz bo b0;have la:IntKind.i64.wrap ((ba:Int)+(bb:Int))=(ba:Int)+(bb:Int):=SQ;have a0:=bn bv bz;obtain⟨fi,e8,fs,gm⟩:=fU z.drew (ha.ext (aI wr)) (a6.ext (aI wr)) (F.ext (aI wr));have lc:y<k:=RU;clear bv bz g4 g5 g9 F ha a6 z hy i3;cases a7:g.DT t
       .have ao:decide ((0:Int) < (ba:Int)+(bb:Int))=false:=by have:=b0.2 a7;simp;omega
        have f8:=zH (zfO (C:=C) a7);clear a7 b0;go_upto_region 23 with(fail)
        go_region_held3 (fun V=>ah V bd t (zI (ba:Nat))/\ah V be t (zI (bb:Nat)))
         (first|with_reducible exact a0|with_reducible exact mC (aI _) a0)
         ((fail))
        go_wp2;go_roundw
        case rel=>exact⟨t+1,RU,RW,by rw[<-f8.o];exact gm,e8,fs,fi⟩
        case measure=>simp[intOf];omega
       .have ao:decide ((0:Int) < (ba:Int)+(bb:Int))=true:=by
         have:¬(ba+bb=0):=fun h=>by rw[b0.1 h]at a7;cases a7
         simp;omega
        have cz:=zg4 (C:=C) a7;rw[Ky]at cz;have f8:=zH cz;have J:=gm.put y true;rw[cz]at J;obtain⟨HP,hq,hH,Kx⟩:=fU J (e8.other da.1 y (.bool true)) (fs.other da.2.1 da.2.2 y (.bool true)) (fi.setCell (p:=⟨ge,y,none⟩) hC (.bool true));clear a7 b0 cz J;go_upto_region 23 with(fail)
        go_region_held3 (fun V=>ah V bd t (zI (ba:Nat))/\ah V be t (zI (bb:Nat)))
         (first|with_reducible exact a0|with_reducible exact mC (aI _) a0)
         ((fail))
        go_wp2;go_roundw
        case rel=>exact⟨t+1,RU,RW,HP,hq,hH,Kx⟩
        case measure=>simp[intOf];omega
      .obtain rfl:t=k:=RU;have g8:qB g C t=sS t C (fy g):=by rw[O.o];exact zfP b6.inr
       rw[g8]at F;obtain⟨dT,cO,c4⟩:=d_ F ha z;have br:=ak cn z;obtain⟨U,Y,Z,ab⟩:=aK br;obtain⟨a3,hg⟩:=aO wr;rw[<-hg]at dT cO c4 U Y Z ab ⊢;clear F ha a6 z br hg g8 FN g7;go_upto_region 27 with((at_make;refine jg _ rfl _ _ 27 rfl a3.heap.size 3 hn (zI 0) 1 dS hi hl hm .i64 .i64 t t t rfl rfl rfl rfl SW TS (ag _) ?_;intro i6 Eo a1;have gc:=zH Eo;have c5:=zH (cd a1);clear Eo a1))
       clear U Y Z ab;obtain⟨Q,ek⟩:=aO a3.heap.size;have hN:=zH (show lF a3 t Q (pG g C 0) i6 from by have h:=gc.o;rw[ig]at h;refine⟨?_,by rw[pg];exact O.symm,RU⟩;unfold ar;rw[zfQ,kj,<-O.o,ek];exact h)
       obtain⟨hp,hV,hv⟩:=d_ (cO.ext c5) (dT.ext c5) (cC c4 c5);have ad:=zH (show Q≠ga/\Q≠ge/\(a2:Nat)<=Q from by have h3:=bZ cO.o.row ga rfl;have h4:=bZ dT.o.row ge rfl;have h5:=c4.size;omega)
       rw[<-ek];clear ek gc;go_wp2;go_loopw [20,21,110] (fun u _ i wr=>∃j:Nat,j<=t/\i=.int .i64 j/\u=.int .i64 (pE g C j:Nat)/\lF a3 t Q (pG g C j) wr/\ts b1 t ge (sS t C (fy g)) wr/\BF W t ga C wr/\ai a2 wr) (fun _ _ i _=>t-(intOf i).toNat)
       case atStart=>exact⟨0,bf _,rfl,rfl,hN,hV,hp,hv⟩
       case round=>
        obtain⟨j,em,rfl,rfl,I,F,ha,z⟩:=hrel;by_cases FN:j<t
        .obtain⟨y,hy⟩:=aB (Ub:j<C.length);have Ky:C.getD j 0=y:=S8;have cc:=(ha.at hy).1;obtain⟨hc,-⟩:=F.at (wh C (fy g) FN);have h9:=Cy g C j;have j0:=zH Ky;by_cases e:y=j
         .subst e;cases hb:qz C (fy g) y
          .rw[hb]at hc;have ca:=El (g:=g) (C:=C) (j:=y) (fun cr=>by rw[hb]at cr;cases cr.2);have am:=Ea (C:=C) (k:=y) b6.inr (aF Ti);obtain⟨b5,b4,b7,b2,a4⟩:=lv (by rw[<-ca];exact I:lF a3 t Q (pG g C (y+1)) wr) am F ha z;clear ca am I F ha z hb Ky hy;go_wp2;go_roundw
           case rel=>exact⟨y+1,RU,RW,by rw[b4.o],b5,b7,b2,a4⟩
           case measure=>simp[intOf];omega
          .rw[hb]at hc;have am:=zgV (C:=C) (k:=y) b6.inr Ti Ky;obtain⟨k1,k6⟩:=I.at (q7 (C:=C) (j:=y) (by rw[<-O.o];exact FN:y<g.w));have J:=I.put y (pE g C y:Int);rw[zg5 Ky hb]at J;obtain⟨b8,g1⟩:=aO (pE g C y);rw[<-g1]at J h9 am ⊢;have e2:IntKind.i64.wrap ((b8:Int)+1)=(b8:Int)+1:=SQ;obtain⟨b5,b4,b7,b2,a4⟩:=lv J am (F.other ad.2.1 y (zI (b8:Nat))) (ha.other ad.1 y (zI (b8:Nat))) (z.setCell (p:=⟨Q,y,none⟩) ad.2.2 (zI (b8:Nat)));clear J am I F ha z hb Ky hy g1;go_wp2;go_roundw
           case rel=>exact⟨y+1,RU,RW,by rw[b4.o];rfl,b5,b7,b2,a4⟩
           case measure=>simp[intOf];omega
         .have ao:((y:Int)==(j:Int))=false:=by rw[<-se,pZ];omega
          have ca:=El (g:=g) (C:=C) (j:=j) (fun cr=>e (by rw[<-Ky];exact cr.1));have am:=Ea (C:=C) (k:=j) b6.inr (aA (by rw[Ky];exact e));obtain⟨b5,b4,b7,b2,a4⟩:=lv (by rw[<-ca];exact I:lF a3 t Q (pG g C (j+1)) wr) am F ha z;clear ca am I F ha z Ky hy;go_wp2;go_roundw
          case rel=>exact⟨j+1,RU,RW,by rw[b4.o],b5,b7,b2,a4⟩
          case measure=>simp[intOf];omega
        .obtain rfl:j=t:=RU;obtain⟨gi,e7,fb,ap,cj,f7⟩:=mA F ha z (show(toL g C).length=j from(zcl g C).trans O.symm) (show(pG g C j).length=j from(pg g C j).trans O.symm) (by rw[zdU];exact I:lF a3 j Q (q8 (toL g C) (pG g C j) 0) wr);obtain⟨wc,e2⟩:=aO wr;rw[<-e2]at gi e7 fb f7 ⊢;clear F ha z I e2 FN em;go_wp2;go_loopw [22,134] (fun _ i wr=>∃m:Nat,m<=j/\i=.int .i64 m/\lF a3 j Q (q8 (toL g C) (pG g C j) m) wr/\ts b1 j ge (sS j C (fy g)) wr/\BF W j ga C wr/\ai a2 wr) (fun _ i _=>j-(intOf i).toNat)
         case atStart=>exact⟨0,bf _,rfl,f7,gi,e7,fb⟩
         case round=>
          obtain⟨m,ac,rfl,I,F,ha,z⟩:=hrel;by_cases FN:m<j
          .obtain⟨y,hy⟩:=aB (Ub:m<C.length);have Ky:C.getD m 0=y:=S8;have hk:y<=m:=by have:=ck.le m FN;omega
           have cu:m<g.w:=by rw[<-O.o];exact FN
           have Ev:=zfU (j:=m) ap cj ac;obtain⟨v0,a9⟩:=aB (SZ:y < (q8 (toL g C) (pG g C j) m).length);obtain⟨v1,e0⟩:=aB (SZ:m < (q8 (toL g C) (pG g C j) m).length);have e1:qz C (fy g) y=true->v0=toN g C m:=fun hb=>by
            by_cases e:y<m
            .rw[zfR e (by rw[ap.o];exact ac),xv C RU]at a9;cases a9
             rw[zgT (k:=m) (by rw[<-O.o];exact ck) cu,Ky]
            .obtain rfl:y=m:=RU;rw[zfS (by rw[ap.o];exact ac),q7 cu,ay ⟨FN,Ky,hb⟩]at a9;cases a9
             rw[zgU Ti Ky]
           have cc:=(ha.at hy).1;obtain⟨k2,-⟩:=I.at a9;obtain⟨kw,k4⟩:=I.at e0;have b9:=ha.other ad.1 m (zI v0);have cb:=F.other ad.2.1 m (zI v0);have bp:=I.put m v0;have co:=z.setCell (p:=⟨Q,m,none⟩) ad.2.2 (zI v0);have k9:=(b9.at hy).1;have hd:=(cb.at (wh C (fy g) (RU:y<j))).1;have lb:y<j:=RU;cases hb:qz C (fy g) y
           .rw[hb]at hd;obtain⟨k0,k5⟩:=bp.at (x:=m) (y:=v0) (by rw[eu (by rw[Ev];exact FN)]);have eo:=bp.put m (-1);rw[List.set_set,BI (by rw[xv C cu,zgS Ti]) (by rw[ap.o,cj.o])]at eo;obtain⟨Kw,Kv,KA,Er⟩:=fU eo (b9.other ad.1 m (zI (-1))) (cb.other ad.2.1 m (zI (-1))) (co.setCell (p:=⟨Q,m,none⟩) ad.2.2 (zI (-1)));clear b9 cb bp co eo e1 a9 e0 hy Ky hk Ev I F ha z hb;exact YJ
           .rw[hb]at hd;rw[BI (by rw[xv C cu,<-e1 hb]) (by rw[ap.o,cj.o])]at bp;obtain⟨Kw,Kv,KA,Er⟩:=fU bp b9 cb co;clear b9 cb bp co e1 a9 e0 hy Ky hk Ev I F ha z hb;exact YJ
          .obtain rfl:m=j:=RU;rw[zfT ap cj]at I;obtain⟨jp,kc,gs,gA,-⟩:=I.a.view;rw[ap.o]at gs;cases gs
           have ea:=cC d0 z;have E:=b6.o;have cy:=rE g (pE g C g.w) (toL g C) (Cj g C) A1 A2 A3 (some ⟨Q,0,none⟩) c1 c2 c3 m wr (hA wr ea) gA (zdG E.inr) (by rw[zcl];have:=E.w;omega) (by have:=E.w;omega) (by have:=Cy g C g.w;have:=E.w;omega) (by have:=E.es;omega) (by have:=E.i;omega) (by have:=E.o;omega) (fun e bi=>⟨by have:=(E.el e bi).1;omega,by have:=(E.el e bi).2;omega⟩);have g3:g.map (pE g C m) (Cj g C)=iK g (us.zip H):=by rw[Eb E.inr (by rw[<-O.o];exact gd),<-O.o,<-hx.o]
           rw[ap.o,<-O.o,g3]at cy;obtain⟨G,d7⟩:=aO (iK g (us.zip H));rw[<-d7]at cy;obtain⟨f5,hB⟩:=bS cy d7;obtain⟨U,Y,Z,ab⟩:=aK (ak cn z);obtain⟨dc,gn⟩:=bS (ak gf z) ea;have dl:=zH (show(w:Nat)+1<wr from(aM.1 dc).1);clear I F ha z FN ac gA ea E cy g3 d7;obtain⟨lz,hj⟩:=aO wr;rw[<-hj]at f5 U Y Z ab dc gn dl ⊢;clear hj;go_wp2_with ((go_at_call 161;(with_reducible refine f5.o.mono ?_);intro e lx h;unfold mP at h;obtain⟨ce,d1,ch,d2,ci,d3,B,h2,g6,eg⟩:=h;subst h2;have ao:=ak dc eg;obtain⟨li,lm,ln,ls⟩:=aK ao;obtain⟨f0,f1,f2,f3⟩:=cP ao;have y:=cT (v0:=.int .i64 (G.w:Nat)) (v1:=.slice ce G.es d1) (v2:=.slice ch G.i d2) (v3:=.slice ci G.o d3) ao;obtain⟨i7,i8,z2,i9⟩:=aK y;unfold eh at i7 i8 z2 i9;have hP:=zH g6;have hz:=zH (de (cC gn eg) (b:=(w:Nat)+1) RU (zI (G.w:Nat)) (.slice ce G.es d1) (.slice ch G.i d2) (.slice ci G.o d3));clear ao y g6 eg))
           exact ax (v:=.tuple #[.agg (bI G ce d1 ch d2 ci d3),.slice (aY Q) m m]) (by simp[results,results153,go_sem, *]) rfl (by unfold zid;rw[<-hB.o];exact⟨ce,d1,ch,d2,ci,d3,B,some ⟨Q,0,none⟩,m,m,rfl,(hP.eh dl).mono (jy (ng dl)),hz⟩)
end Go.Proofs.YtdpgblncijojiaaGreatDoor
