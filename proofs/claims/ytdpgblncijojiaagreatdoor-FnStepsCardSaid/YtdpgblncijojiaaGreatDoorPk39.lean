/- Parts of the walks. Conditions: as stated with each. -/
import Derived.Test.YtdpgblncijojiaaGreatDoorPk26
import Derived.Test.YtdpgblncijojiaaGreatDoorPk34
namespace Go.Proofs.YtdpgblncijojiaaGreatDoor
open Go.RowKit Tryz
set_option linter.all false
set_option maxHeartbeats 2000000
set_option maxRecDepth 100000
variable{A:an}{RN:List Ed}{c k n x:Nat}{g:Gr}{l:bX}{w:aa}{xs:aG}
def zdu:(ByteArray.mk #[]).toList.isEmpty=true:=by first|decide|(unfold ByteArray.toList;unfold ByteArray.toList.loop;rfl)|simp[ByteArray.toList,ByteArray.toList.loop]
def uk{k v:Int}(h:3<=k):pz ⟨k,v,true⟩=nP k/\sN ⟨k,v,true⟩=qq k:=by unfold pz sN nP qq;have z:¬k=1:=RU;have D:¬k=2:=RU;simp only[z,D,ki,false_or];exact⟨trivial,trivial⟩
def Ct(h:∀x∈l,x<n):((bF l).all fun x=>eX x 0 ((n:Int)-1))=true:=by rw[fp];intro x z;obtain⟨y,D,rfl⟩:=cf.1 z;have:=h y D;rw[bk];omega
def zbe(e:Ed)(n:Nat)(A1 A2:an)(c1 c2:Nat)(w:aa)(am:aT w A1 (bF e.i))(ao:aT w A2 (bF e.o))(Q:e.mE=true)(hi:∀x∈e.i,x<n)(a0:∀x∈e.o,x<n)(br:n<=1048576):aw 186 #[.agg (Cr e A1 c1 A2 c2),(n:Nat)] w fun bd w'=>bd=.returned (.bool true)/\ai w w':=by
 obtain⟨k,v,ac,ad⟩:=e;unfold Ed.mE at Q;simp only[bC,cK]at Q;dsimp only at *;obtain⟨z,ap,U,Y⟩:=Q;have bm:=uf z;have bi:k<=14:=by
  unfold dZ at z;dsimp only at z;rw[al RU]at z;by_cases be:k=7∨k=13
  .omega
  .rw[al be]at z;simp only[bC,cK]at z;omega
 have R:=uk (v:=v) ap;rw[R.1]at U;rw[R.2]at Y;have D:=zH (fun W=>tq k W);rw[<-U,<-Y]at D;obtain⟨a8,a9⟩:=bS (fun W=>Calls.dQ (aL k 3 14 W) SL) (fun W=>Calls.bl (y:=true) (zp k v (ByteArray.mk #[]) W) (by rw[zdu];exact z));have bv:IntKind.i64.wrap ((n:Int)-1)=(n:Int)-1:=SQ;obtain⟨bo,Z⟩:=aO ac.length;obtain⟨bp,ab⟩:=aO ad.length;have H:=fun W (h:ai w W)=>Calls.dQ (j3 0 ((n:Int)-1) A1 c1 (bF ac) W (am.ext h) UR) (Ct hi)
 have I:=fun W (h:ai w W)=>Calls.dQ (j3 0 ((n:Int)-1) A2 c2 (bF ad) W (ao.ext h) UR) (Ct a0)
 rw[bj,<-Z]at H;rw[bj,<-ab]at I;rw[<-Z]at D ⊢;rw[<-ab]at D ⊢;obtain⟨a5,a6⟩:=bS H I;obtain⟨J,E⟩:=dK w (.cells #[k,v,.slice A1 bo c1,.slice A2 bp c2] 166);clear am ao hi a0 z ap U Y bi R Z ab H I bm;go_enter func186,ntmps186
 go_upto_region 1 with(fail)
 generalize w.alloc _=W at J E ⊢;obtain⟨a7,ba⟩:=bS J E;obtain⟨a1,a2,a3,a4⟩:=aK E;clear J E;go_upto_region 3 with((first|(go_at_call 69;(refine(a8.o _).mono ?_);rintro e w' ⟨rfl,rfl⟩)|(go_at_call 188;(refine(a9.o _).mono ?_);rintro e bz ⟨rfl,O⟩;have F:=zH (cC a7 O);have bb:=zH (ak ba O);clear O)))
 clear a1 a2 a3 a4;obtain⟨a1,a2,a3,a4⟩:=aK bb;go_wp2_with ((first|(go_at_call 173;(refine(D.o _).mono ?_);rintro e w' ⟨rfl,rfl⟩)|(go_at_call 72;(with_reducible refine(a5.o _ F.o).mono ?_);rintro e w' ⟨rfl,rfl⟩)|(go_at_call 72;(with_reducible refine(a6.o _ F.o).mono ?_);rintro e w' ⟨rfl,rfl⟩)))
 go_ret
 exact⟨rfl,F⟩
def Ao(n:Nat)(l:bX):List Nat:=(List.range n).map fun x=>l.count x
def mv{n:Nat}{l:bX}:(Ao n l).length=n:=by simp[Ao]
def uG{n:Nat}{l:bX}(h:x<n):(Ao n l)[x]?=some (l.count x):=by simp[Ao,h]
def zfJ(n:Nat):bF (Ao n [])=List.replicate n 0:=by
 apply fu;intro k;simp only[bF,Ao,ko,cp,ie];by_cases h:k<n
 .simp[h]
 .simp[h]
def zdK{n:Nat}{l:bX}:(bF (Ao n l)).set x ((l.count x:Int)+1)=bF (Ao n (l++[x])):=by
 apply fu;intro k;by_cases z:k<n
 .by_cases e:x=k
  .subst e;rw[eu (by rw[bj,mv];exact z),fv (uG z),List.count_append];simp
  .rw[dz e,fv (uG z),fv (uG z),List.count_append];have:List.count k [x]=0:=by rw[List.count_eq_zero];simp;omega
   rw[this];simp
 .rw[fQ (by rw[fP,bj,mv];omega),fQ (by rw[bj,mv];omega)]
structure mR(B n ga gb:Nat)(l m:bX)(V:aa):Prop where
 a:ar V B (.slice (aY ga) n n) (bF (Ao n l))
 b:ar V B (.slice (aY gb) n n) (bF (Ao n m))
 ne:ga≠gb
 la:B<=ga
 lb:B<=gb
section
variable{B n ga gb:Nat}{l m:bX}{V V':aa}
def mR.ext(h:mR B n ga gb l m V)(z:ai V V'):mR B n ga gb l m V':=⟨h.a.ext z,h.b.ext z,h.ne,h.la,h.lb⟩
def mR.swap(h:mR B n ga gb l m V):mR B n gb ga m l V:=⟨h.b,h.a,fun e=>h.ne e.symm,h.lb,h.la⟩
def ar.row{n:Nat}(h:ar w B (.slice A n c) xs)(z:xs.length=n):w.ownsRow B 3 1 (.slice A n c) n (xs.map (Value.int .i64)):=by unfold ar at h;rw[z]at h;exact h
def mR.at(h:mR B n ga gb l m V)(D:x<n):ah V ga x (zI (l.count x:Nat))/\V.frozen? ⟨ga,x,none⟩=false:=by have z:=h.a.row (by rw[bj,mv]);refine⟨?_,z.frozenAt x⟩;rw[z.cellAt x RU,cp,fv (uG D)];rfl
def mR.inc(h:mR B n ga gb l m V)(x:Nat):mR B n ga gb (l++[x]) m (V.setCell ⟨ga,x,none⟩ (zI ((l.count x:Int)+1))):=by have z:=(h.a.row (by rw[bj,mv])).stored x (zI ((l.count x:Int)+1)) |>.1;rw[<-h_,zdK]at z;exact⟨by unfold ar;rw[bj,mv];exact z,h.b.mJ (qR V ga x _) (fun g e D=>by cases e;cases D;exact h.ne rfl),h.ne,h.la,h.lb⟩
end
def eK(z:List Ed):List Nat:=(z.map (·.o)).flatten
def jF(z:List Ed):List Nat:=(z.map (·.i)).flatten
def Ef{e:Ed}(h:RN[k]?=some e):eK (RN.take (k+1))=eK (RN.take k)++e.o:=by rw[gK,h];simp[eK]
def zdL{e:Ed}(h:RN[k]?=some e):jF (RN.take (k+1))=jF (RN.take k)++e.i:=by rw[gK,h];simp[jF]
def zdM(z:List Ed)(m:Nat):(eK (z.take m)).length<=(eK z):=by
 have h:eK z=eK (z.take m)++eK (z.drop m):=by rw[eK,eK,eK,<-CU,<-gu,CQ]
 rw[h,bQ];omega
def zgZ(z:List Ed)(m:Nat):(jF (z.take m)).length<=(jF z):=by
 have h:jF z=jF (z.take m)++jF (z.drop m):=by rw[jF,jF,jF,<-CU,<-gu,CQ]
 rw[h,bQ];omega
def j1{z:Type}{l:List z}{x:z}(h:l[k]?=some x):l.take (k+1)=l.take k++[x]:=by rw[gK,h];rfl
def zh_(g:Gr)(w:aa)(e:Ending)(w':aa):Prop:=∃ga gb,e=.returned (.tuple #[.slice (aY ga) g.w g.w,.slice (aY gb) g.w g.w])/\mR w g.w ga gb (g.i++eK g.es) (g.o++jF g.es) w'/\ai w w'
def uH(g:Gr)(A1 A2 A3:an)(c1 c2 c3:Nat)(w:aa)(cu:nX w A1 A2 A3 g)(a8:g.In)(fb:g.w<=65536)(O:g.es.length<=65536)(cO:(g.i++eK g.es).length<=33554432)(cR:(g.o++jF g.es).length<=33554432):aw 160 (cJ (bI g A1 c1 A2 c2 A3 c3)) w (zh_ g w):=by
 obtain⟨c8,hi,c5,c6,Es⟩:=cU fI;obtain⟨n,z,D,go⟩:=g;dsimp only at *;obtain⟨eb,eg,cj,be,bi,bm⟩:=mA (fun x (hx:x∈D)=>(a8 x (aF hx):x<n)) (fun x (hx:x∈go)=>(a8 x (aA (aF hx)):x<n)) (fun e (O:e∈z) x (hx:x∈e.i∨x∈e.o)=>(a8 x (aA (aA ⟨e,O,hx⟩)):x<n)) (fun(V:aa) (es:ai w V)=>cu.ext es) cO cR;obtain⟨b1,a4⟩:=dK w (.cells (fJ n A1 z c1 A2 D c2 A3 go c3) 151);clear cu a8 cO cR;go_enter func160,ntmps160
 go_upto_region 1 with(fail)
 generalize w.alloc _=W at b1 a4 ⊢;obtain⟨Z,co⟩:=bS b1 a4;have eA:=(aM.1 a4).1;obtain⟨Q,R,U,Y⟩:=aK a4;clear b1 a4 eA;go_upto_region 2 with((at_make;refine jg _ rfl _ _ 27 rfl W.heap.size 3 c8 (zI 0) 1 dS hi c5 c6 .i64 .i64 n n n rfl rfl rfl rfl SW TS (ag _) ?_;intro b8 a3 a1;have cn:=zH a3;have d9:=zH a1;clear a3 a1))
 have ap:=zH (cd d9);clear Q R U Y;have b7:=ak co ap;obtain⟨Q,R,U,Y⟩:=aK b7;have ej:=zH b7;clear b7;go_upto_region 3 with((at_make;refine jg _ rfl _ _ 27 rfl W.heap.size 3 c8 (zI 0) 1 dS hi c5 c6 .i64 .i64 n n n rfl rfl rfl rfl SW TS ap.o.size ?_;intro e3 a3 a1;have ei:=zH a3;have ea:=zH a1;clear a3 a1))
 have bb:=zH (cd ea);clear Q R U Y;obtain⟨Q,R,U,Y⟩:=aK (ak ej bb);have ev:(W:Nat)<b8:=by
  have h:=cn.o;rcases h.2 with⟨e,-⟩|⟨g,cap,cur,e,ab,J,-⟩
  .cases e
  .cases e;exact(aM.1 J).1
 have cc:=zH (show mR W n W b8 [] [] e3 from by have ab:=cn.o;have J:=ei.o;rw[ig,<-zfJ]at ab J;exact⟨ar.ext (by unfold ar;rw[bj,mv];exact ab) bb,by unfold ar;rw[bj,mv];exact J,RU,ag _,ap.size⟩)
 have da:=zH (cC ap bb);obtain⟨ga,cF⟩:=aO W.heap.size;obtain⟨gb,cI⟩:=aO b8.heap.size;have cr:=zH (show ∀V,ai W V->aU V w (fJ n A1 z c1 A2 D c2 A3 go c3) 151 from fun V h=>ak co h);clear ev;obtain⟨a0,Kj⟩:=bS (RU:(W:Nat)<=ga) (show(W:Nat)<=gb by have:=ap.size;omega);rw[<-cF,<-cI]at cc ⊢;have e6:D.length<=33554432:=by have:=bi.o;rw[bQ]at this;omega
 have fa:go.length<=33554432:=by have:=bm.o;rw[bQ]at this;omega
 clear cF cI;go_wp2;go_loopw [7,25] (fun _ i wr=>∃k:Nat,k<=D.length/\i=.int .i64 k/\mR ga n ga gb ([]++D.take k) ([]) wr/\ai W wr) (fun _ i _=>D.length-(intOf i).toNat)
 case atStart=>exact⟨0,bf _,rfl,by rw[vN,nf];exact cc,da⟩
 case round=>
  obtain⟨k,ao,rfl,hc,EO⟩:=hrel;by_cases I:k<D.length
  .obtain⟨x,hx⟩:=aB I;obtain⟨bo,bp,rfl,Ki⟩:=((be wr (cC Z.o EO)).i).here (SF:0 < (bF D).length);have b2:=Ki _ _ (fv hx);have am:=eb x (a_ hx);obtain⟨ad,b3⟩:=hc.at am;have hs:=(hc.inc x);have ac:([]++D.take k).count x<=33554432:=by refine bc oJ ?_;have:=bi.o;exact W9
   obtain⟨c,Kg⟩:=aO (([]++D.take k).count x);rw[<-Kg]at ad hs ac;rw[kI ([]) (D.take k),<-j1 hx]at hs;have Kh:IntKind.i64.wrap ((c:Int)+1)=(c:Int)+1:=SQ;obtain⟨HS,Kf⟩:=bS hs (EO.setCell (p:=⟨ga,x,none⟩) (by have:=hc.la;exact a0) (zI ((c:Int)+1)));clear Ki hx Kg hs hc EO;go_wp2;go_roundw
   case rel=>exact⟨k+1,RU,RW,HS,Kf⟩
   case measure=>simp[intOf];omega
  .obtain rfl:k=D.length:=RU;rw[qg]at hc;obtain⟨ce,ca⟩:=bS hc EO;obtain⟨Q,R,U,Y⟩:=aK (cr.o _ EO);obtain⟨fi,c0⟩:=aO wr;rw[<-c0]at ce ca Q R U Y ⊢;clear hc EO I ao c0;go_wp2;go_loopw [9,39] (fun _ i wr=>∃k:Nat,k<=go.length/\i=.int .i64 k/\mR ga n ga gb (([]++D)) ([]++go.take k) wr/\ai W wr) (fun _ i _=>go.length-(intOf i).toNat)
   case atStart=>exact⟨0,bf _,rfl,by rw[vN,nf];exact ce,ca⟩
   case round=>
    obtain⟨k,ao,rfl,hc,EO⟩:=hrel;by_cases I:k<go.length
    .obtain⟨x,hx⟩:=aB I;obtain⟨bo,bp,rfl,Ki⟩:=((be wr (cC Z.o EO)).o).here (SF:0 < (bF go).length);have b2:=Ki _ _ (fv hx);have am:=eg x (a_ hx);obtain⟨ad,b3⟩:=hc.swap.at am;have hs:=(hc.swap.inc x).swap;have ac:([]++go.take k).count x<=33554432:=by refine bc oJ ?_;have:=bm.o;exact W9
     obtain⟨c,Kg⟩:=aO (([]++go.take k).count x);rw[<-Kg]at ad hs ac;rw[kI ([]) (go.take k),<-j1 hx]at hs;exact Zo
    .obtain rfl:k=go.length:=RU;rw[qg]at hc;obtain⟨ch,cb⟩:=bS hc EO;obtain⟨Q,R,U,Y⟩:=aK (cr.o _ EO);obtain⟨fl,c4⟩:=aO wr;rw[<-c4]at ch cb Q R U Y ⊢;clear hc EO I ao c4;go_wp2;go_loopw [13,15,53] (fun _ _ i wr=>∃k:Nat,k<=z.length/\i=.int .i64 k/\mR ga n ga gb (([]++D)++eK (z.take k)) (([]++go)++jF (z.take k)) wr/\ai W wr) (fun _ _ i _=>z.length-(intOf i).toNat)
     case atStart=>exact⟨0,bf _,rfl,by rw[vN];simp only[eK,jF,List.map_nil,List.flatten_nil,nf];simpa using ch.o,cb⟩
     case round=>
      obtain⟨E,e7,rfl,hc,EO⟩:=hrel;by_cases I:E<z.length
      .obtain⟨e,O⟩:=aB I;obtain⟨e4,e5,a9,br,ba,bv,rfl,u0,u1,u2,u3,b4,b5⟩:=pt (be w (aj _ _)).es O;have a5:=cC Z.o EO
       replace u0:=av a5 u0;replace u1:=av a5 u1;replace u2:=av a5 u2;replace u3:=av a5 u3
       have a6:=Ef O;have a7:=zdL O;obtain⟨bz,b0,H,F⟩:=e;dsimp only at u0 u1 u2 u3 b4 b5 a6 a7;have b6:=a_ O;obtain⟨d5,d6,d3,d4,d7,d8⟩:=mA (fun x (hx:x∈H)=>(cj.o _ b6 x (aF hx):x<n)) (fun x (hx:x∈F)=>(cj.o _ b6 x (aA hx):x<n)) (fun V (h:ai w V)=>b4.ext h) (fun V (h:ai w V)=>b5.ext h) a6 a7;have bd:=zH (show(D++(eK (z.take E)++F)).length<=33554432/\(go++(jF (z.take E)++H)).length<=33554432 from by have ab:=zdM z (E+1);have J:=zgZ z (E+1);have en:=bi.o;have eo:=bm.o;rw[a6]at ab;rw[a7]at J;simp only[bQ]at ab J en eo ⊢;omega)
       have ck:=zH (show F.length<=33554432/\H.length<=33554432 from by have h:=bd.o;simp only[bQ]at h;omega)
       obtain⟨cy,a2⟩:=dK wr (.cells (ju bz b0 a9 H br ba F bv) 166);obtain⟨b9,ci⟩:=bS (EO.alloc EO.size (.cells (ju bz b0 a9 H br ba F bv) 166)) (hc.ext cy);have ct:=zH (show wr.heap.size≠ga/\wr.heap.size≠gb from by have ab:=bZ hc.a ga rfl;have J:=bZ hc.b gb rfl;omega)
       clear O EO hc a5 a6 a7 b4 b5 b6 cy;go_upto_region 16 with(fail)
       generalize wr.alloc _=fd at a2 b9 ci ⊢;obtain⟨c9,c7⟩:=aO wr.heap.size;rw[<-c7]at a2 ct ⊢;obtain⟨ek,em⟩:=bS a2 ct.1;have e9:=ck.1;have e8:=ck.2;obtain⟨e0,e1,n2,e2⟩:=aK a2;clear u0 u1 u2 u3 a2 c7;go_wp2;go_loopw [13,60] (fun _ i wr=>∃k:Nat,k<=F.length/\i=.int .i64 k/\mR ga n ga gb ((([]++D)++eK (z.take E))++F.take k) ((([]++go)++jF (z.take E))) wr/\ai W wr/\Hd (aU wr c9 (ju bz b0 a9 H br ba F bv) 166)) (fun _ i _=>F.length-(intOf i).toNat)
       case atStart=>exact⟨0,bf _,rfl,by rw[vN,nf];exact ci,b9,ek⟩
       case round=>
        obtain⟨k,ao,rfl,hc,EO,cz⟩:=hrel;by_cases I:k<F.length
        .obtain⟨x,hx⟩:=aB I;obtain⟨bo,bp,rfl,Ki⟩:=(d4 wr (cC Z.o EO)).here (SF:0 < (bF F).length);have b2:=Ki _ _ (fv hx);have am:=d6 x (a_ hx);obtain⟨ad,b3⟩:=hc.at am;have hs:=(hc.inc x);have ac:((([]++D)++eK (z.take E))++F.take k).count x<=33554432:=by refine bc oJ ?_;have:=bd.1;exact W9
         obtain⟨c,Kg⟩:=aO (((([]++D)++eK (z.take E))++F.take k).count x);rw[<-Kg]at ad hs ac;rw[kI ((([]++D)++eK (z.take E))) (F.take k),<-j1 hx]at hs;have Kh:IntKind.i64.wrap ((c:Int)+1)=(c:Int)+1:=SQ;obtain⟨HS,Kf,dl⟩:=d_ hs (EO.setCell (p:=⟨ga,x,none⟩) (by have:=hc.la;exact a0) (zI ((c:Int)+1))) ((bw wr ⟨ga,x,none⟩ (zI ((c:Int)+1)) c9 em).trans cz);clear Ki hx Kg hs hc EO;go_wp2;go_roundw
         case rel=>exact⟨k+1,RU,RW,HS,Kf,dl⟩
         case measure=>simp[intOf];omega
        .obtain rfl:k=F.length:=RU;rw[qg]at hc;obtain⟨d0,dc⟩:=bS hc EO;obtain⟨e0,e1,n2,e2⟩:=aK cz;clear hc EO I ao;go_wp2;go_loopw [15,74] (fun _ i wr=>∃k:Nat,k<=H.length/\i=.int .i64 k/\mR ga n ga gb (((([]++D)++eK (z.take E))++F)) ((([]++go)++jF (z.take E))++H.take k) wr/\ai W wr) (fun _ i _=>H.length-(intOf i).toNat)
         case atStart=>exact⟨0,bf _,rfl,by rw[vN,nf];exact d0,dc⟩
         case round=>
          obtain⟨k,ao,rfl,hc,EO⟩:=hrel;by_cases I:k<H.length
          .obtain⟨x,hx⟩:=aB I;obtain⟨bo,bp,rfl,Ki⟩:=(d3 wr (cC Z.o EO)).here (SF:0 < (bF H).length);have b2:=Ki _ _ (fv hx);have am:=d5 x (a_ hx);obtain⟨ad,b3⟩:=hc.swap.at am;have hs:=(hc.swap.inc x).swap;have ac:((([]++go)++jF (z.take E))++H.take k).count x<=33554432:=by refine bc oJ ?_;have:=bd.2;exact W9
           obtain⟨c,Kg⟩:=aO (((([]++go)++jF (z.take E))++H.take k).count x);rw[<-Kg]at ad hs ac;rw[kI ((([]++go)++jF (z.take E))) (H.take k),<-j1 hx]at hs;exact Zo
          .obtain rfl:k=H.length:=RU;rw[qg]at hc;obtain⟨d2,dT⟩:=bS hc EO;clear hc EO;go_wp2;go_roundw
           case rel=>exact⟨E+1,RU,RW,by rw[d7.o,d8.o,<-kI,<-kI];exact d2,dT⟩
           case measure=>simp[intOf];omega
      .obtain rfl:E=z.length:=RU;rw[qg]at hc;have d1:=zH (show mR w n ga gb (D++eK z) (go++jF z) wr from by
        have hx:=Z.o.size;refine⟨?_,?_,hc.ne,bc hx a0,bc hx Kj⟩
        .exact hc.a.mono (bc hx a0)
        .exact hc.b.mono (bc hx a0))
       have db:=zH (cC Z.o EO);clear hc EO;go_wp2;exact ax (v:=.tuple #[.slice (aY ga) n n,.slice (aY gb) n n]) (by simp[results,results160,go_sem, *]) rfl ⟨ga,gb,rfl,d1,db⟩
def D9(h:g.On x):0 < (g.i++eK g.es).count x+(g.o++jF g.es).count x:=by
 have D:x∈g.i++eK g.es∨x∈g.o++jF g.es:=by
  rcases h with h|h|⟨e,z,h|h⟩
  .exact aF (r5 _ h)
  .exact aA (r5 _ h)
  .exact aA (oD _ (qf.2 ⟨e.i,cf.2 ⟨e,z,rfl⟩,h⟩))
  .exact aF (oD _ (qf.2 ⟨e.o,cf.2 ⟨e,z,rfl⟩,h⟩))
 rcases D with h|h
 .have:=List.count_pos_iff.2 h;omega
 .have:=List.count_pos_iff.2 h;omega
def pb{z:Type}(f:z->List Nat)(m:Nat):∀(L:List z),(∀e∈L,(f e).length<=m)->((L.map f).flatten).length<=L*m
 |[],_=>RS
 |e::L,h=>by
  rw[List.map_cons,sl,bQ,lU,vI];have:=h e (lW ..);have:=pb f m L fun e D=>h e (lV _ D)
  omega
def D_(g:Gr)(A1 A2 A3:an)(c1 c2 c3:Nat)(w:aa)(ac:nX w A1 A2 A3 g)(ap:g.G1)(F:rC g):aw 176 (cJ (bI g A1 c1 A2 c2 A3 c3)) w (fC w (mH g)):=by
 have a8:=G1.el ap;have eg:=F.w;have cz:=F.es;have ea:=F.i;have eb:=F.o;obtain⟨c9,dc⟩:=bS ap.fit (fun x (H:x<g.w)=>D9 (ap.on x H));have d5:(eK g.es).length<=4096*12:=bc (pb (·.o) 12 g.es fun e E=>(a8 e E).2) (oF _ cz);have d6:(jF g.es).length<=4096*12:=bc (pb (·.i) 12 g.es fun e E=>(a8 e E).1) (oF _ cz);have ct:(g.i++eK g.es).length<=65536/\(g.o++jF g.es).length<=65536:=by rw[bQ,bQ];omega
 obtain⟨b0,c7,db,bz,br,bv⟩:=mA ct (fun V (h:ai w V)=>uH g A1 A2 A3 c1 c2 c3 V (ac.ext h) F.inr RU RU RU RU) (fun V (h:ai w V)=>ac.ext h) F.inr (fun V (h:ai w V)=>Calls.dQ (j3 0 ((g.w:Int)-1) A2 c2 (bF g.i) V (ac.ext h).i UR) (Ct fun x H=>F.inr x (aF H))) (fun V (h:ai w V)=>Calls.dQ (j3 0 ((g.w:Int)-1) A3 c3 (bF g.o) V (ac.ext h).o UR) (Ct fun x H=>F.inr x (aA (aF H))));rw[bj]at br bv;have J:=zH (show mH g=(decide (g.w<=100)&&(decide (g.es.length<=60)&&(decide (g.i.length<=12)&&decide (g.o.length<=12)))) from rfl);obtain⟨n,z,I,go⟩:=g;dsimp only at *;obtain⟨ao,cy⟩:=aO (mH ⟨n,z,I,go⟩);rw[<-cy]at J ⊢;obtain⟨a7,a0⟩:=dK w (.cells (fJ n A1 z c1 A2 I c2 A3 go c3) 151);have ei:IntKind.i64.wrap ((n:Int)-1)=(n:Int)-1:=SQ;clear ac ap F a8 d5 d6 ct cy;go_enter func176,ntmps176
 go_upto_region 1 with(fail)
 generalize w.alloc _=W at a7 a0 ⊢;obtain⟨HB,b1⟩:=bS a7 a0;obtain⟨U,Y,Z,ab⟩:=aK a0;clear a7 a0;by_cases b8:n<=100
 .have KF:=zH (fun V=>Calls.dQ (y:=true) (aL (n:Int) 0 100 V) SL);by_cases b9:z.length<=60
  .have d2:decide ((60:Int) < (z:Int))=false:=Sk;by_cases ca:I.length<=12
   .have d3:decide ((12:Int) < (I:Int))=false:=Sk;by_cases cb:go.length<=12
    .have d4:decide ((12:Int) < (go:Int))=false:=Sk;obtain rfl:ao=true:=by rw[J.o];simp[b8,b9,ca,cb]
     go_upto_region 3 with((first|(go_at_call 69;(refine(KF.o _).mono ?_);rintro e w' ⟨rfl,rfl⟩)|(go_at_call 72;(with_reducible refine(br.o _ HB.o).mono ?_);rintro e w' ⟨rfl,rfl⟩)|(go_at_call 72;(with_reducible refine(bv.o _ HB.o).mono ?_);rintro e w' ⟨rfl,rfl⟩)))
     clear d2 d3 d4;obtain⟨c4,c8,da⟩:=d_ (aj W W) (fun k e (E:z[k]?=some e)=>pt (db w (aj _ _)).es E) (fun e (E:e∈z) A B O Q V (hi:aT V A (bF e.i)) (d7:aT V B (bF e.o))=>zbe e n A B O Q V hi d7 (c9 e E) (fun x H=>bz x (aA (aA ⟨e,E,aF H⟩))) (fun x H=>bz x (aA (aA ⟨e,E,aA H⟩))) RU);go_wp2;go_loopw [51] (fun i wr=>∃k:Nat,k<=z.length/\i=.int .i64 k/\ai W wr) (fun i _=>z.length-(intOf i).toNat)
     case atStart=>exact⟨0,bf _,rfl,c4⟩
     case round=>
      obtain⟨k,cn,rfl,D⟩:=hrel;clear U Y Z ab;obtain⟨U,Y,Z,ab⟩:=aK (ak b1 D);by_cases R:k<z.length
      .obtain⟨e,E⟩:=aB R;have cu:=a_ E;obtain⟨d8,d9,a1,a5,a2,a6,rfl,u0,u1,u2,u3,cj,ck⟩:=c8.o _ _ E;have am:=cC HB D
       replace u0:=av am u0;replace u1:=av am u1;replace u2:=av am u2;replace u3:=av am u3
       have bb:=fun V (ce:ai w V)=>da e cu a1 a2 a5 a6 V (cj.ext ce) (ck.ext ce)
       obtain⟨b5,b7,b4,b6⟩:=e;dsimp only at u0 u1 u2 u3 bb;have c6:=zH bb;have be:=az wr (.cells (ju b5 b7 a1 b4 a5 a2 b6 a6) 166) rfl;have a9:=aD wr (.cells (ju b5 b7 a1 b4 a5 a2 b6 a6) 166);obtain⟨a3,b2⟩:=bS (cC D a9) (ak (ak b1 D) a9);clear E cu cj ck bb am D a9;go_upto_region 6 with(fail)
       generalize wr.alloc _=es at be a3 b2 ⊢;clear u0 u1 u2 u3 U Y Z ab;obtain⟨em,en,n2,eo⟩:=aK be;obtain⟨U,Y,Z,ab⟩:=aK b2;have dT:=zH (cC HB a3);clear be;go_wp2_with (go_at_call 186;(with_reducible refine(c6.o _ dT.o).mono ?_);rintro e ev ⟨rfl,ad⟩;have cI:=zH (cC a3 ad);clear ad)
       go_roundw
       case rel=>exact⟨k+1,RU,RW,cI⟩
       case measure=>simp[intOf];omega
      .obtain rfl:k=z.length:=RU;obtain⟨cR,a4⟩:=bS D (cC HB D);clear D R cn;obtain⟨eA,cF⟩:=aO wr;rw[<-cF]at cR a4 U Y Z ab ⊢;clear cF;go_wp2_with (go_at_call 160;(with_reducible refine(c7.o _ a4.o).mono ?_);intro e bp h;unfold zh_ at h;obtain⟨d0,d1,cc,ba,ad⟩:=h;dsimp only at cc ba;subst cc;have c5:=zH ba;have cO:=zH (cC a4 ad);clear ba ad)
       clear U Y Z ab;have dl:=zH (aj bp bp);go_loopw [7,68] (fun _ i wr=>∃k:Nat,k<=n/\i=.int .i64 k/\ai bp wr) (fun _ i _=>n-(intOf i).toNat)
       case atStart=>exact⟨0,bf _,rfl,dl⟩
       case round=>
        obtain⟨k,cn,rfl,D⟩:=hrel;by_cases R:k<n
        .have bd:=c5.ext D;have bi:=dc k R;have bm:=(bd.at R).1;have bo:=(bd.swap.at R).1;have co:=bc oJ b0.1 (n:=List.count k (I++eK z));have cr:=bc oJ b0.2 (n:=List.count k (go++jF z));obtain⟨O,ch⟩:=aO ((I++eK z).count k);obtain⟨Q,ci⟩:=aO ((go++jF z).count k);rw[<-ch]at bm bi co;rw[<-ci]at bo bi cr;have ej:IntKind.i64.wrap ((O:Int)+(Q:Int))=(O:Int)+(Q:Int):=SQ;have ek:((O:Int)+(Q:Int)==0)=false:=by rw[<-se,pZ];omega
         have c0:=zH D;have b3:=bn bm bo;clear bd ch ci D bi co cr;go_upto_region 13 with(fail)
         clear bm bo;go_region_held3 (fun V=>ah V d0 k (zI (O:Nat))/\ah V d1 k (zI (Q:Nat)))
          (first|with_reducible exact b3|with_reducible exact mC (aI _) b3)
          ((fail))
         go_wp2;go_roundw
         case rel=>exact⟨k+1,RU,RW,c0.drew⟩
         case measure=>simp[intOf];omega
        .obtain rfl:k=n:=RU;go_wp2;go_ret
         exact⟨rfl,cC cO D⟩
    .have d4:decide ((12:Int) < (go:Int))=true:=Sk;obtain rfl:ao=false:=by rw[J.o];simp[cb]
     exact Yp
   .have d3:decide ((12:Int) < (I:Int))=true:=Sk;obtain rfl:ao=false:=by rw[J.o];simp[ca]
    exact Yp
  .have d2:decide ((60:Int) < (z:Int))=true:=Sk;obtain rfl:ao=false:=by rw[J.o];simp[b9]
   exact Yp
 .have KF:=zH (fun V=>Calls.dQ (y:=false) (aL (n:Int) 0 100 V) (by rw[<-se,bk];omega));obtain rfl:ao=false:=by rw[J.o];simp[b8]
  exact Yp
def ziL(g:Gr)(A1:an)(c1:Nat)(A2:an)(c2:Nat)(A3:an)(c3:Nat)(w:aa)(e:Ending)(w':aa):Prop:=
 ((mH g=false/\e=.returned (.tuple (dy cw)))∨
 (mH g=true/\e=.returned (.tuple (dN (bI g A1 c1 A2 c2 A3 c3)))))/\ai w w'
def DP(g:Gr)(A1 A2 A3:an)(c1 c2 c3:Nat)(w:aa)(ap:nX w A1 A2 A3 g)(a0:g.G1)(a1:rC g):aw 165 (cJ (bI g A1 c1 A2 c2 A3 c3)) w (ziL g A1 c1 A2 c2 A3 c3 w):=by
 have am:=zH (fun V (h:ai w V)=>D_ g A1 A2 A3 c1 c2 c3 V (ap.ext h) a0 a1);obtain⟨n,z,D,go⟩:=g;dsimp only at *;have J:=((aj w w).alloc (ag _) (.cells (fJ n A1 z c1 A2 D c2 A3 go c3) 151)).alloc RS (.cells cw 151);have F:=(b_ (w.alloc (.cells (fJ n A1 z c1 A2 D c2 A3 go c3) 151)) (.cells cw 151) (k:=w.heap.size) RS).trans (az w _ rfl);have Q:=az (w.alloc (.cells (fJ n A1 z c1 A2 D c2 A3 go c3) 151)) (.cells cw 151) (n:=(w:Nat)+1) RS;clear ap a0 a1;go_enter func165,ntmps165
 go_upto_region 1 with(fail)
 generalize (w.alloc _).alloc _=W at J F Q ⊢;obtain⟨ab,ba,bb⟩:=d_ J F Q;obtain⟨be,bi,bm,bo⟩:=aK F;clear J F Q;unfold ziL;cases O:mH ⟨n,z,D,go⟩
 all_goals
  rw[O]at am;have ad:=zH O;clear O;go_wp2_with (go_at_call 176;(with_reducible refine(am.o _ ab.o).mono ?_);rintro e bd ⟨rfl,E⟩;have ac:=zH (cC ab E);have H:=ak bb E;obtain⟨a6,a7,a8,a9⟩:=aK H;obtain⟨f0,f1,f2,f3⟩:=cP H;have a2:=ak ba E;obtain⟨a3,a4,p2,a5⟩:=aK a2;have ao:=zH H;clear H a2 E)
 .have y:=cT (v0:=()) (v1:=fe) (v2:=fe) (v3:=fe) ao;obtain⟨R,U,Y,Z⟩:=aK y;unfold eh at R U Y Z;have I:=zH (de ac (b:=(w:Nat)+1) RU (zI 0) (.slice none 0 0) (.slice none 0 0) (.slice none 0 0));clear y a6 a7 a8 a9 f0 f1 f2 f3 a3 a4 p2 a5;exact ax (v:=.tuple (dy cw)) VL rfl ⟨aF ⟨ad,rfl⟩,I⟩
 .have y:=cT (v0:=.int .i64 (n:Nat)) (v1:=.slice A1 z c1) (v2:=.slice A2 D c2) (v3:=.slice A3 go c3) ao;obtain⟨R,U,Y,Z⟩:=aK y;unfold eh at R U Y Z;have I:=zH (de ac (b:=(w:Nat)+1) RU (zI (n:Nat)) (.slice A1 z c1) (.slice A2 D c2) (.slice A3 go c3));clear y a6 a7 a8 a9 f0 f1 f2 f3 a3 a4 p2 a5;exact ax (v:=.tuple (dN (fJ n A1 z c1 A2 D c2 A3 go c3))) VL rfl ⟨aA ⟨ad,rfl⟩,I⟩
end Go.Proofs.YtdpgblncijojiaaGreatDoor
