/- Parts of the walks. Conditions: as stated with each. -/
import Derived.Test.YtpieilkmmiopfaaGreatDoorPk25
import Derived.Test.YtpieilkmmiopfaaGreatDoorPk30
namespace Go.Proofs.YtpieilkmmiopfaaGreatDoor
open Go.RowKit Tryz
set_option linter.all false
set_option maxHeartbeats 2000000
set_option maxRecDepth 100000
variable{A:ax}{C l:bP}{b c i j k n q x y:Nat}{e:Ed}{g:Gr}{ps:ng}{w:aa}{xs:aL}
def zh2:(ByteArray.mk #[]).toList.isEmpty=true:=by first|decide|(unfold ByteArray.toList;unfold ByteArray.toList.loop;rfl)|simp[ByteArray.toList,ByteArray.toList.loop]
def vU{k v}(F:3<=k):pC ⟨k,v,true⟩=BB k/\sC ⟨k,v,true⟩=BC k:=by unfold pC sC BB BC;have h:¬k=1:=Qu;have D:¬k=2:=Qu;simp only[h,D,lp,false_or];exact⟨trivial,trivial⟩
def zb0(h:∀x∈l,x<n):((bD l).all fun x=>eU x 0 ((n:Int)-1))=true:=by rw[eD];intro x D;obtain⟨y,F,rfl⟩:=cH.1 D;have:=h y F;rw[dx];omega
def zfD e n A1 D c1 c2 w(ao:aO w A1 (bD e.i))(ap:aO w D (bD e.o))(Y:e.jd=true)(hi:∀x∈e.i,x<n)(a0:∀x∈e.o,x<n)(bn:n<=1048576):az 196 #[.agg (zj e A1 c1 D c2),(n:Nat)] w fun bc w'=>bc=.returned (.bool true)/\ag w w':=by
 obtain⟨k,v,am,an⟩:=e;unfold Ed.jd at Y;simp only[bN,cf]at Y;dsimp only at *;obtain⟨h,av,ab,ac⟩:=Y;have bg:=tK h;have be:k<=14:=by
  unfold dI at h;dsimp only at h;rw[aj Qu]at h;by_cases bd:k=7∨k=13
  .omega
  .rw[aj bd]at h;simp only[bN,cf]at h;omega
 have Z:=vU (v:=v) av;rw[Z.1]at ab;rw[Z.2]at ac;have F:=zH (fun W=>yv k W);rw[<-ab,<-ac]at F;obtain⟨a8,a9⟩:=bJ (fun W=>Calls.cg (aX k 3 14 W) (by rw[dx];omega)) (fun W=>Calls.bl (y:=true) (EM k v (ByteArray.mk #[]) W) (by rw[zh2];exact h));have bo:IntKind.i64.wrap ((n:Int)-1)=(n:Int)-1:=Rt;have⟨bh,ad⟩:=aR am.length;have⟨bi,ah⟩:=aR an.length;have J:=fun W (I:ag w W)=>Calls.cg (nP 0 ((n:Int)-1) A1 c1 (bD am) W (ao.ext I) TU) (zb0 hi)
 have O:=fun W (I:ag w W)=>Calls.cg (nP 0 ((n:Int)-1) D c2 (bD an) W (ap.ext I) TU) (zb0 a0)
 rw[aS,<-ad]at J;rw[aS,<-ah]at O;rw[<-ad]at F ⊢;rw[<-ah]at F ⊢;have⟨a5,a6⟩:=bJ J O;have⟨T,G⟩:=bM w (.cells (wW k v A1 bh c1 D bi c2) 155);clear ao ap hi a0 h av ab ac be Z ad ah J O bg;go_enter func196,ntmps196
 go_upto_region 1 with(fail)
 generalize w.alloc _=W at T G ⊢;have⟨a7,ba⟩:=bJ T G;have⟨a1,a2,a3,a4⟩:=aB G;clear T G;go_upto_region 3 with((first|(go_at_call 92;(refine(a8.o _).x ?_);rintro e w' ⟨rfl,rfl⟩)|(go_at_call 193;(refine(a9.o _).x ?_);rintro e bp ⟨rfl,U⟩;have H:=zH (aT a7 U);have bb:=zH (ai ba U);clear U)))
 clear a1 a2 a3 a4;have⟨a1,a2,a3,a4⟩:=aB bb;go_wp2_with ((first|(go_at_call 151;(refine(F.o _).x ?_);rintro e w' ⟨rfl,rfl⟩)|(go_at_call 114;(with_reducible refine(a5.o _ H.o).x ?_);rintro e w' ⟨rfl,rfl⟩)|(go_at_call 114;(with_reducible refine(a6.o _ H.o).x ?_);rintro e w' ⟨rfl,rfl⟩)))
 go_ret
 exact⟨rfl,H⟩
def Fk(n:Nat)(l:bP):List Nat:=(List.range n).map fun x=>l.count x
def oT{n}{l}:(Fk n l).length=n:=by simp[Fk]
def yK{n}{l}(h:x<n):(Fk n l)[x]?=some (l.count x):=by simp[Fk,h]
def ziz n:bD (Fk n [])=List.replicate n 0:=by
 apply gk;intro k;simp only[bD,Fk,nr,bI,fI];by_cases h:k<n
 .simp[h]
 .simp[h]
def zgM{n}{l}:(bD (Fk n l)).set x ((l.count x:Int)+1)=bD (Fk n (l++[x])):=by
 apply gk;intro k;by_cases h:k<n
 .by_cases e:x=k
  .subst e;rw[gl (by rw[aS,oT];exact h),dK (yK h),List.count_append];simp
  .rw[gI e,dK (yK h),dK (yK h),List.count_append];have:List.count k [x]=0:=by rw[List.count_eq_zero];simp;omega
   rw[this];simp
 .rw[eP (by rw[iW,aS,oT];omega),eP (by rw[aS,oT];omega)]
structure pG(B n ga gb:Nat)(l m:bP)(V:aa):Prop where
 a:aE V B (.slice (bH ga) n n) (bD (Fk n l))
 b:aE V B (.slice (bH gb) n n) (bD (Fk n m))
 ne:ga≠gb
 la:B<=ga
 lb:B<=gb
section
variable{B n ga gb:Nat}{l m:bP}{V V':aa}
def pG.ext(h:pG B n ga gb l m V)(D:ag V V'):pG B n ga gb l m V':=⟨h.a.ext D,h.b.ext D,h.ne,h.la,h.lb⟩
def pG.J(h:pG B n ga gb l m V):pG B n gb ga m l V:=⟨h.b,h.a,fun e=>h.ne e.q,h.lb,h.la⟩
def aE.row{n}(h:aE w B (.slice A n c) xs)(D:xs.length=n):w.ownsRow B 3 1 (.slice A n c) n (xs.map (Value.int .i64)):=by unfold aE at h;rw[D]at h;exact h
def pG.at(D:pG B n ga gb l m V)(F:x<n):af V ga x (zI (l.count x:Nat))/\V.frozen? ⟨ga,x,none⟩=false:=by have h:=D.a.row (by rw[aS,oT]);refine⟨?_,h.g x⟩;rw[h.C x Qu,bI,dK (yK F)];rfl
def pG.Ν(h:pG B n ga gb l m V)x:pG B n ga gb (l++[x]) m (V.setCell ⟨ga,x,none⟩ (zI ((l.count x:Int)+1))):=by have D:=(h.a.row (by rw[aS,oT])).j x (zI ((l.count x:Int)+1)) |>.1;rw[<-eW,zgM]at D;exact⟨by unfold aE;rw[aS,oT];exact D,h.b.o_ (zbw V ga x _) (fun g e F=>by cases e;cases F;exact h.ne rfl),h.ne,h.la,h.lb⟩
end
def fB(h:List Ed):List Nat:=(h.map (·.o)).flatten
def lq(h:List Ed):List Nat:=(h.map (·.i)).flatten
def zcF{h:List Ed}(D:h[k]?=some e):fB (h.take (k+1))=fB (h.take k)++e.o:=by rw[du,D];simp[fB]
def zgN{h:List Ed}(D:h[k]?=some e):lq (h.take (k+1))=lq (h.take k)++e.i:=by rw[du,D];simp[lq]
def zgO h m:(fB (h.take m)).length<=(fB h):=by
 have D:fB h=fB (h.take m)++fB (h.drop m):=by rw[fB,fB,fB,<-zcc,<-kA,zcd]
 rw[D,bm];omega
def zkf h m:(lq (h.take m)).length<=(lq h):=by
 have D:lq h=lq (h.take m)++lq (h.drop m):=by rw[lq,lq,lq,<-zcc,<-kA,zcd]
 rw[D,bm];omega
def jl{h:Type}{l:List h}{x}(D:l[k]?=some x):l.take (k+1)=l.take k++[x]:=by rw[du,D];rfl
def zll(g:Gr)(w:aa)(e:Ending)(w':aa):Prop:=∃ga gb,e=.returned (.tuple #[.slice (bH ga) g.w g.w,.slice (bH gb) g.w g.w])/\pG w g.w ga gb (g.i++fB g.es) (g.o++lq g.es) w'/\ag w w'
def yL g A1 a5 a6 c1 c2 bo w(co:jV w A1 a5 a6 g)(a9:g.In)(ez:g.w<=65536)(T:g.es.length<=65536)(cu:(g.i++fB g.es).length<=33554432)(cz:(g.o++lq g.es).length<=33554432):az 197 (cY (bj g A1 c1 a5 c2 a6 bo)) w (zll g w):=by
 have⟨cO,hi,cF,cI,FU⟩:=dp gD;obtain⟨n,h,D,go⟩:=g;dsimp only at *;have⟨dT,d0,ce,be,bg,bh⟩:=ny (fun x (hx:x∈D)=>(a9 x (ay hx):x<n)) (fun x (hx:x∈go)=>(a9 x (au (ay hx)):x<n)) (fun e (T:e∈h) x (hx:x∈e.i∨x∈e.o)=>(a9 x (au (au ⟨e,T,hx⟩)):x<n)) (fun(V:aa) (d7:ag w V)=>co.ext d7) cu cz;have⟨bv,a3⟩:=bM w (.cells (fw n A1 h c1 a5 D c2 a6 go bo) 54);clear co a9 cu cz;go_enter func197,ntmps197
 go_upto_region 1 with(fail)
 generalize w.alloc _=W at bv a3 ⊢;have⟨ac,cj⟩:=bJ bv a3;have d9:=(bk.1 a3).1;have⟨U,Y,Z,ab⟩:=aB a3;clear bv a3 d9;go_upto_region 2 with((at_make;refine jg _ rfl _ _ 26 rfl W.heap.size 3 cO (zI 0) 1 dR hi cF cI .i64 .i64 n n n rfl rfl rfl rfl RF SL (ae _) ?_;intro b5 a2 a0;have ci:=zH a2;have dr:=zH a0;clear a2 a0))
 have ap:=zH (cy dr);clear U Y Z ab;have b4:=ai cj ap;have⟨U,Y,Z,ab⟩:=aB b4;have d2:=zH b4;clear b4;go_upto_region 3 with((at_make;refine jg _ rfl _ _ 26 rfl W.heap.size 3 cO (zI 0) 1 dR hi cF cI .i64 .i64 n n n rfl rfl rfl rfl RF SL ap.o.size ?_;intro eg a2 a0;have d1:=zH a2;have dO:=zH a0;clear a2 a0))
 have bc:=zH (cy dO);clear U Y Z ab;have⟨U,Y,Z,ab⟩:=aB (ai d2 bc);have d8:(W:Nat)<b5:=by
  have J:=ci.o;rcases J.2 with⟨e,-⟩|⟨g,ε,ei,e,ad,O,-⟩
  .cases e
  .cases e;exact(bk.1 O).1
 have b9:=zH (show pG W n W b5 [] [] eg from by have ad:=ci.o;have O:=d1.o;rw[jn,<-ziz]at ad O;exact⟨aE.ext (by unfold aE;rw[aS,oT];exact ad) bc,by unfold aE;rw[aS,oT];exact O,Qu,ae _,ap.size⟩)
 have cV:=zH (aT ap bc);have⟨ga,cr⟩:=aR W.heap.size;have⟨gb,ct⟩:=aR b5.heap.size;have ck:=zH (show ∀V,ag W V->bA V w (fw n A1 h c1 a5 D c2 a6 go bo) 54 from fun V J=>ai cj J);clear d8;obtain⟨av,KY⟩:=bJ (Qu:(W:Nat)<=ga) (show(W:Nat)<=gb by have:=ap.size;omega);rw[<-cr,<-ct]at b9 ⊢;have em:D.length<=33554432:=by have:=bg.o;rw[bm]at this;omega
 have ey:go.length<=33554432:=by have:=bh.o;rw[bm]at this;omega
 clear cr ct;go_wp2;go_loopw [7,25] (fun _ i wr=>∃k:Nat,k<=D.length/\i=.int .i64 k/\pG ga n ga gb ([]++D.take k) ([]) wr/\ag W wr) (fun _ i _=>D.length-(intOf i).toNat)
 case atStart=>exact⟨0,aW _,rfl,by rw[oq,lZ];exact b9,cV⟩
 case round=>
  obtain⟨k,ao,rfl,hc,FW⟩:=hrel;by_cases I:k<D.length
  .have⟨x,hx⟩:=aq I;obtain⟨bi,bn,rfl,Jz⟩:=((be wr (aT ac FW)).i).θ (Rn:0 < (bD D).length);have bz:=Jz _ _ (dK hx);have an:=dT x (aU hx);obtain⟨am,b0⟩:=hc.at an;have hs:=(hc.Ν x);have ah:([]++D.take k).count x<=33554432:=by refine aZ rQ ?_;have:=bg.o;exact Wh
   have⟨c,J7⟩:=aR (([]++D.take k).count x);rw[<-J7]at am hs ah;rw[fJ ([]) (D.take k),<-jl hx]at hs;have hwc:IntKind.i64.wrap ((c:Int)+1)=(c:Int)+1:=Rt;obtain⟨HS,HBS⟩:=bJ hs (FW.setCell (p:=⟨ga,x,none⟩) (by have:=hc.la;exact av) (zI ((c:Int)+1)));clear Jz hx J7 hs hc FW;go_wp2;go_roundw
   case rel=>exact⟨k+1,Qu,Qx,HS,HBS⟩
   case measure=>simp[intOf];omega
  .obtain rfl:k=D.length:=Qu;rw[uA]at hc;have⟨ca,b7⟩:=bJ hc FW;have⟨U,Y,Z,ab⟩:=aB (ck.o _ FW);have⟨eB,cA⟩:=aR wr;rw[<-cA]at ca b7 U Y Z ab ⊢;clear hc FW I ao cA;go_wp2;go_loopw [9,39] (fun _ i wr=>∃k:Nat,k<=go.length/\i=.int .i64 k/\pG ga n ga gb (([]++D)) ([]++go.take k) wr/\ag W wr) (fun _ i _=>go.length-(intOf i).toNat)
   case atStart=>exact⟨0,aW _,rfl,by rw[oq,lZ];exact ca,b7⟩
   case round=>
    obtain⟨k,ao,rfl,hc,FW⟩:=hrel;by_cases I:k<go.length
    .have⟨x,hx⟩:=aq I;obtain⟨bi,bn,rfl,Jz⟩:=((be wr (aT ac FW)).o).θ (Rn:0 < (bD go).length);have bz:=Jz _ _ (dK hx);have an:=d0 x (aU hx);obtain⟨am,b0⟩:=hc.J.at an;have hs:=(hc.J.Ν x).J;have ah:([]++go.take k).count x<=33554432:=by refine aZ rQ ?_;have:=bh.o;exact Wh
     have⟨c,J7⟩:=aR (([]++go.take k).count x);rw[<-J7]at am hs ah;rw[fJ ([]) (go.take k),<-jl hx]at hs;exact Zm
    .obtain rfl:k=go.length:=Qu;rw[uA]at hc;have⟨cb,b8⟩:=bJ hc FW;have⟨U,Y,Z,ab⟩:=aB (ck.o _ FW);have⟨e0,cB⟩:=aR wr;rw[<-cB]at cb b8 U Y Z ab ⊢;clear hc FW I ao cB;go_wp2;go_loopw [13,15,53] (fun _ _ i wr=>∃k:Nat,k<=h.length/\i=.int .i64 k/\pG ga n ga gb (([]++D)++fB (h.take k)) (([]++go)++lq (h.take k)) wr/\ag W wr) (fun _ _ i _=>h.length-(intOf i).toNat)
     case atStart=>exact⟨0,aW _,rfl,by rw[oq];simp only[fB,lq,rU,List.flatten_nil,lZ];simpa using cb.o,b8⟩
     case round=>
      obtain⟨F,eo,rfl,hc,FW⟩:=hrel;by_cases I:F<h.length
      .have⟨e,T⟩:=aq I;obtain⟨ej,ek,ba,bp,bb,bq,rfl,u0,u1,u2,u3,b1,b2⟩:=fU (be w (al _ _)).es T;have a4:=aT ac FW
       replace u0:=ar a4 u0;replace u1:=ar a4 u1;replace u2:=ar a4 u2;replace u3:=ar a4 u3
       have a7:=zcF T;have a8:=zgN T;obtain⟨br,bu,H,G⟩:=e;dsimp only at u0 u1 u2 u3 b1 b2 a7 a8;have b3:=aU T;have⟨db,dc,c8,c9,dl,dq⟩:=ny (fun x (hx:x∈H)=>(ce.o _ b3 x (ay hx):x<n)) (fun x (hx:x∈G)=>(ce.o _ b3 x (au hx):x<n)) (fun V (J:ag w V)=>b1.ext J) (fun V (J:ag w V)=>b2.ext J) a7 a8;have bd:=zH (show(D++(fB (h.take F)++G)).length<=33554432/\(go++(lq (h.take F)++H)).length<=33554432 from by have ad:=zgO h (F+1);have O:=zkf h (F+1);have d5:=bg.o;have d6:=bh.o;rw[a7]at ad;rw[a8]at O;simp only[bm]at ad O d5 d6 ⊢;omega)
       have ch:=zH (show G.length<=33554432/\H.length<=33554432 from by have J:=bd.o;simp only[bm]at J;omega)
       have⟨cp,a1⟩:=bM wr (.cells (eh br bu ba H bp bb G bq) 155);have⟨b6,cc⟩:=bJ (FW.alloc FW.size (.cells (eh br bu ba H bp bb G bq) 155)) (hc.ext cp);have cn:=zH (show wr.heap.size≠ga/\wr.heap.size≠gb from by have ad:=bS hc.a ga rfl;have O:=bS hc.b gb rfl;omega)
       clear T FW hc a4 a7 a8 b1 b2 b3 cp;go_upto_region 16 with(fail)
       generalize wr.alloc _=eA at a1 b6 cc ⊢;have⟨cR,cK⟩:=aR wr.heap.size;rw[<-cK]at a1 cn ⊢;have⟨d3,d4⟩:=bJ a1 cn.1;have ev:=ch.1;have es:=ch.2;have⟨ea,eb,n2,ee⟩:=aB a1;clear u0 u1 u2 u3 a1 cK;go_wp2;go_loopw [13,60] (fun _ i wr=>∃k:Nat,k<=G.length/\i=.int .i64 k/\pG ga n ga gb ((([]++D)++fB (h.take F))++G.take k) ((([]++go)++lq (h.take F))) wr/\ag W wr/\Hd (bA wr cR (eh br bu ba H bp bb G bq) 155)) (fun _ i _=>G.length-(intOf i).toNat)
       case atStart=>exact⟨0,aW _,rfl,by rw[oq,lZ];exact cc,b6,d3⟩
       case round=>
        obtain⟨k,ao,rfl,hc,FW,cq⟩:=hrel;by_cases I:k<G.length
        .have⟨x,hx⟩:=aq I;obtain⟨bi,bn,rfl,Jz⟩:=(c9 wr (aT ac FW)).θ (Rn:0 < (bD G).length);have bz:=Jz _ _ (dK hx);have an:=dc x (aU hx);obtain⟨am,b0⟩:=hc.at an;have hs:=(hc.Ν x);have ah:((([]++D)++fB (h.take F))++G.take k).count x<=33554432:=by refine aZ rQ ?_;have:=bd.1;exact Wh
         have⟨c,J7⟩:=aR (((([]++D)++fB (h.take F))++G.take k).count x);rw[<-J7]at am hs ah;rw[fJ ((([]++D)++fB (h.take F))) (G.take k),<-jl hx]at hs;have hwc:IntKind.i64.wrap ((c:Int)+1)=(c:Int)+1:=Rt;obtain⟨HS,HBS,c3⟩:=er hs (FW.setCell (p:=⟨ga,x,none⟩) (by have:=hc.la;exact av) (zI ((c:Int)+1))) ((a_ wr ⟨ga,x,none⟩ (zI ((c:Int)+1)) cR d4).t cq);clear Jz hx J7 hs hc FW;go_wp2;go_roundw
         case rel=>exact⟨k+1,Qu,Qx,HS,HBS,c3⟩
         case measure=>simp[intOf];omega
        .obtain rfl:k=G.length:=Qu;rw[uA]at hc;have⟨c5,c0⟩:=bJ hc FW;have⟨ea,eb,n2,ee⟩:=aB cq;clear hc FW I ao;go_wp2;go_loopw [15,74] (fun _ i wr=>∃k:Nat,k<=H.length/\i=.int .i64 k/\pG ga n ga gb (((([]++D)++fB (h.take F))++G)) ((([]++go)++lq (h.take F))++H.take k) wr/\ag W wr) (fun _ i _=>H.length-(intOf i).toNat)
         case atStart=>exact⟨0,aW _,rfl,by rw[oq,lZ];exact c5,c0⟩
         case round=>
          obtain⟨k,ao,rfl,hc,FW⟩:=hrel;by_cases I:k<H.length
          .have⟨x,hx⟩:=aq I;obtain⟨bi,bn,rfl,Jz⟩:=(c8 wr (aT ac FW)).θ (Rn:0 < (bD H).length);have bz:=Jz _ _ (dK hx);have an:=db x (aU hx);obtain⟨am,b0⟩:=hc.J.at an;have hs:=(hc.J.Ν x).J;have ah:((([]++go)++lq (h.take F))++H.take k).count x<=33554432:=by refine aZ rQ ?_;have:=bd.2;exact Wh
           have⟨c,J7⟩:=aR (((([]++go)++lq (h.take F))++H.take k).count x);rw[<-J7]at am hs ah;rw[fJ ((([]++go)++lq (h.take F))) (H.take k),<-jl hx]at hs;exact Zm
          .obtain rfl:k=H.length:=Qu;rw[uA]at hc;have⟨c7,c4⟩:=bJ hc FW;clear hc FW;go_wp2;go_roundw
           case rel=>exact⟨F+1,Qu,Qx,by rw[dl.o,dq.o,<-fJ,<-fJ];exact c7,c4⟩
           case measure=>simp[intOf];omega
      .obtain rfl:F=h.length:=Qu;rw[uA]at hc;have c6:=zH (show pG w n ga gb (D++fB h) (go++lq h) wr from by
        have hx:=ac.size;refine⟨?_,?_,hc.ne,aZ hx av,aZ hx KY⟩
        .exact hc.a.x (aZ hx av)
        .exact hc.b.x (aZ hx av))
       have cW:=zH (aT ac FW);clear hc FW;go_wp2;exact aI (v:=.tuple (nj (bH ga) n n (bH gb) n n)) (by simp[results,results197,go_sem, *]) rfl ⟨ga,gb,rfl,c6,cW⟩
def zc0(h:g.On x):0 < (g.i++fB g.es).count x+(g.o++lq g.es).count x:=by
 have F:x∈g.i++fB g.es∨x∈g.o++lq g.es:=by
  rcases h with h|h|⟨e,D,h|h⟩
  .exact ay (oD _ h)
  .exact au (oD _ h)
  .exact au (kE _ (uv.2 ⟨e.i,cH.2 ⟨e,D,rfl⟩,h⟩))
  .exact ay (kE _ (uv.2 ⟨e.o,cH.2 ⟨e,D,rfl⟩,h⟩))
 rcases F with h|h
 .have:=List.count_pos_iff.2 h;omega
 .have:=List.count_pos_iff.2 h;omega
def sL{D:Type}(f:D->List Nat)m:∀(L:List D),(∀e∈L,(f e).length<=m)->((L.map f).flatten).length<=L*m
 |[],_=>Qt
 |e::L,h=>by
  rw[se,uH,bm,jT,AF];have:=h e (kb ..);have:=sL f m L fun e F=>h e (kC _ F)
  omega
def BP g A1 ah am c1 c2 a0 w(an:jV w A1 ah am g)(a1:g.G1)(H:px g):az 153 (cY (bj g A1 c1 ah c2 am a0)) w (dt w (jc g)):=by
 have ba:=G1.el a1;have dr:=H.w;have cq:=H.es;have dl:=H.i;have dq:=H.o;have⟨cR,c0⟩:=bJ a1.fit (fun x (I:x<g.w)=>zc0 (a1.on x I));have c7:(fB g.es).length<=4096*12:=aZ (sL (·.o) 12 g.es fun e F=>(ba e F).2) (Am _ cq);have c8:(lq g.es).length<=4096*12:=aZ (sL (·.i) 12 g.es fun e F=>(ba e F).1) (Am _ cq);have cn:(g.i++fB g.es).length<=65536/\(g.o++lq g.es).length<=65536:=by rw[bm,bm];omega
 have⟨bu,cK,cW,br,bp,bq⟩:=ny cn (fun V (G:ag w V)=>yL g A1 ah am c1 c2 a0 V (an.ext G) H.inr Qu Qu Qu Qu) (fun V (G:ag w V)=>an.ext G) H.inr (fun V (G:ag w V)=>Calls.cg (nP 0 ((g.w:Int)-1) ah c2 (bD g.i) V (an.ext G).i TU) (zb0 fun x I=>H.inr x (ay I))) (fun V (G:ag w V)=>Calls.cg (nP 0 ((g.w:Int)-1) am a0 (bD g.o) V (an.ext G).o TU) (zb0 fun x I=>H.inr x (au (ay I))));rw[aS]at bp bq;have O:=zH (show jc g=(decide (g.w<=100)&&(decide (g.es.length<=60)&&(decide (g.i.length<=12)&&decide (g.o.length<=12)))) from rfl);obtain⟨n,h,J,go⟩:=g;dsimp only at *;have⟨av,cp⟩:=aR (jc ⟨n,h,J,go⟩);rw[<-cp]at O ⊢;have⟨a9,a2⟩:=bM w (.cells (fw n A1 h c1 ah J c2 am go a0) 54);have dO:IntKind.i64.wrap ((n:Int)-1)=(n:Int)-1:=Rt;clear an a1 H ba c7 c8 cn cp;go_enter func153,ntmps153
 go_upto_region 1 with(fail)
 generalize w.alloc _=W at a9 a2 ⊢;have⟨HB,bv⟩:=bJ a9 a2;have⟨Z,ab,ac,ad⟩:=aB a2;clear a9 a2;by_cases b5:n<=100
 .have HLI:=zH (fun V=>Calls.cg (y:=true) (aX (n:Int) 0 100 V) (by rw[dx];omega));by_cases b6:h.length<=60
  .have d2:decide ((60:Int) < (h:Int))=false:=QW;by_cases b7:J.length<=12
   .have d3:decide ((12:Int) < (J:Int))=false:=QW;by_cases b8:go.length<=12
    .have d4:decide ((12:Int) < (go:Int))=false:=QW;obtain rfl:av=true:=by rw[O.o];simp[b5,b6,b7,b8]
     go_upto_region 3 with((first|(go_at_call 92;(refine(HLI.o _).x ?_);rintro e w' ⟨rfl,rfl⟩)|(go_at_call 114;(with_reducible refine(bp.o _ HB.o).x ?_);rintro e w' ⟨rfl,rfl⟩)|(go_at_call 114;(with_reducible refine(bq.o _ HB.o).x ?_);rintro e w' ⟨rfl,rfl⟩)))
     clear d2 d3 d4;have⟨cB,cO,cV⟩:=er (al W W) (fun k e (F:h[k]?=some e)=>fU (cW w (al _ _)).es F) (fun e (F:e∈h) A B T U V (hi:aO V A (bD e.i)) (c9:aO V B (bD e.o))=>zfD e n A B T U V hi c9 (cR e F) (fun x I=>br x (au (au ⟨e,F,ay I⟩))) (fun x I=>br x (au (au ⟨e,F,au I⟩))) Qu);go_wp2;go_loopw [51] (fun i wr=>∃k:Nat,k<=h.length/\i=.int .i64 k/\ag W wr) (fun i _=>h.length-(intOf i).toNat)
     case atStart=>exact⟨0,aW _,rfl,cB⟩
     case round=>
      obtain⟨k,ci,rfl,D⟩:=hrel;clear Z ab ac ad;have⟨Z,ab,ac,ad⟩:=aB (ai bv D);by_cases Y:k<h.length
      .have⟨e,F⟩:=aq Y;have co:=aU F;obtain⟨db,dc,a3,a7,a4,a8,rfl,u0,u1,u2,u3,ce,ch⟩:=cO.o _ _ F;have ap:=aT HB D
       replace u0:=ar ap u0;replace u1:=ar ap u1;replace u2:=ar ap u2;replace u3:=ar ap u3
       have bd:=fun V (ca:ag w V)=>cV e co a3 a4 a7 a8 V (ce.ext ca) (ch.ext ca)
       obtain⟨b2,b4,b1,b3⟩:=e;dsimp only at u0 u1 u2 u3 bd;have cI:=zH bd;have bg:=aH wr (.cells (eh b2 b4 a3 b1 a7 a4 b3 a8) 155) rfl;have bb:=aw wr (.cells (eh b2 b4 a3 b1 a7 a4 b3 a8) 155);have⟨a5,bz⟩:=bJ (aT D bb) (ai (ai bv D) bb);clear F co ce ch bd ap D bb;go_upto_region 6 with(fail)
       generalize wr.alloc _=d7 at bg a5 bz ⊢;clear u0 u1 u2 u3 Z ab ac ad;have⟨d1,d5,n2,d6⟩:=aB bg;have⟨Z,ab,ac,ad⟩:=aB bz;have c4:=zH (aT HB a5);clear bg;go_wp2_with (go_at_call 196;(with_reducible refine(cI.o _ c4.o).x ?_);rintro e d8 ⟨rfl,ao⟩;have ct:=zH (aT a5 ao);clear ao)
       go_roundw
       case rel=>exact⟨k+1,Qu,Qx,ct⟩
       case measure=>simp[intOf];omega
      .obtain rfl:k=h.length:=Qu;have⟨cz,a6⟩:=bJ D (aT HB D);clear D Y ci;have⟨d9,cr⟩:=aR wr;rw[<-cr]at cz a6 Z ab ac ad ⊢;clear cr;go_wp2_with (go_at_call 197;(with_reducible refine(cK.o _ a6.o).x ?_);intro e bo G;unfold zll at G;obtain⟨c5,c6,b9,bc,ao⟩:=G;dsimp only at b9 bc;subst b9;have cF:=zH bc;have cu:=zH (aT a6 ao);clear bc ao)
       clear Z ab ac ad;have c3:=zH (al bo bo);go_loopw [7,68] (fun _ i wr=>∃k:Nat,k<=n/\i=.int .i64 k/\ag bo wr) (fun _ i _=>n-(intOf i).toNat)
       case atStart=>exact⟨0,aW _,rfl,c3⟩
       case round=>
        obtain⟨k,ci,rfl,D⟩:=hrel;by_cases Y:k<n
        .have be:=cF.ext D;have bh:=c0 k Y;have bi:=(be.at Y).1;have bn:=(be.J.at Y).1;have cj:=aZ rQ bu.1 (n:=List.count k (J++fB h));have ck:=aZ rQ bu.2 (n:=List.count k (go++lq h));have⟨T,cb⟩:=aR ((J++fB h).count k);have⟨U,cc⟩:=aR ((go++lq h).count k);rw[<-cb]at bi bh cj;rw[<-cc]at bn bh ck;have dT:IntKind.i64.wrap ((T:Int)+(U:Int))=(T:Int)+(U:Int):=Rt;have d0:((T:Int)+(U:Int)==0)=false:=by rw[<-Al,pT];omega
         have cA:=zH D;have b0:=aQ bi bn;clear be cb cc D bh cj ck;go_upto_region 13 with(fail)
         clear bi bn;go_region_held3 (fun V=>af V c5 k (zI (T:Nat))/\af V c6 k (zI (U:Nat)))
          (first|with_reducible exact b0|with_reducible exact j6 (aC _) b0)
          ((fail))
         go_wp2;go_roundw
         case rel=>exact⟨k+1,Qu,Qx,cA.drew⟩
         case measure=>simp[intOf];omega
        .obtain rfl:k=n:=Qu;go_wp2;go_ret
         exact⟨rfl,aT cu D⟩
    .have d4:decide ((12:Int) < (go:Int))=true:=QW;obtain rfl:av=false:=by rw[O.o];simp[b8]
     exact X6
   .have d3:decide ((12:Int) < (J:Int))=true:=QW;obtain rfl:av=false:=by rw[O.o];simp[b7]
    exact X6
  .have d2:decide ((60:Int) < (h:Int))=true:=QW;obtain rfl:av=false:=by rw[O.o];simp[b6]
   exact X6
 .have HLI:=zH (fun V=>Calls.cg (y:=false) (aX (n:Int) 0 100 V) (by rw[<-Al,dx];omega));obtain rfl:av=false:=by rw[O.o];simp[b5]
  exact X6
def zmD(g:Gr)(A1:ax)(c1:Nat)(h:ax)(c2:Nat)(D:ax)(F:Nat)(w:aa)(e:Ending)(w':aa):Prop:=
 ((jc g=false/\e=.returned (.tuple (dz cw)))∨
 (jc g=true/\e=.returned (.tuple (fH (bj g A1 c1 h c2 D F)))))/\ag w w'
def zdr g A1 h D c1 c2 F w(an:jV w A1 h D g)(ao:g.G1)(ap:px g):az 107 (cY (bj g A1 c1 h c2 D F)) w (zmD g A1 c1 h c2 D F w):=by
 have ah:=zH (fun V (a9:ag w V)=>BP g A1 h D c1 c2 F V (an.ext a9) ao ap);obtain⟨n,G,H,go⟩:=g;dsimp only at *;have U:=((al w w).alloc (ae _) (.cells (fw n A1 G c1 h H c2 D go F) 54)).alloc Qt (.cells cw 54);have J:=(bO (w.alloc (.cells (fw n A1 G c1 h H c2 D go F) 54)) (.cells cw 54) (k:=w.heap.size) Qt).t (aH w _ rfl);have Z:=aH (w.alloc (.cells (fw n A1 G c1 h H c2 D go F) 54)) (.cells cw 54) (n:=(w:Nat)+1) Qt;clear an ao ap;go_enter func107,ntmps107
 go_upto_region 1 with(fail)
 generalize (w.alloc _).alloc _=W at U J Z ⊢;have⟨ab,a7,a8⟩:=er U J Z;have⟨bb,bc,bd,be⟩:=aB J;clear U J Z;unfold zmD;cases Y:jc ⟨n,G,H,go⟩
 all_goals
  rw[Y]at ah;have ad:=zH Y;clear Y;go_wp2_with (go_at_call 153;(with_reducible refine(ah.o _ ab.o).x ?_);rintro e ba ⟨rfl,I⟩;have ac:=zH (aT ab I);have O:=ai a8 I;have⟨a3,a4,a5,a6⟩:=aB O;have⟨f0,f1,f2,f3⟩:=cN O;have av:=ai a7 I;have⟨a0,a1,p2,a2⟩:=aB av;have am:=zH O;clear O av I)
 .have y:=cP (v0:=()) (v1:=dE) (v2:=dE) (v3:=dE) am;refine O2 fun y0 y1 y2 y3=>?_
  have T:=zH (bY ac (b:=(w:Nat)+1) Qu (zI 0) (.slice none 0 0) (.slice none 0 0) (.slice none 0 0));clear y a3 a4 a5 a6 f0 f1 f2 f3 a0 a1 p2 a2;exact aI (v:=.tuple (dz cw)) Uv rfl ⟨ay ⟨ad,rfl⟩,T.o⟩
 .have y:=cP (v0:=.int .i64 (n:Nat)) (v1:=.slice A1 G c1) (v2:=.slice h H c2) (v3:=.slice D go F) am;refine O2 fun y0 y1 y2 y3=>?_
  have T:=zH (bY ac (b:=(w:Nat)+1) Qu (zI (n:Nat)) (.slice A1 G c1) (.slice h H c2) (.slice D go F));clear y a3 a4 a5 a6 f0 f1 f2 f3 a0 a1 p2 a2;exact aI (v:=.tuple (fH (fw n A1 G c1 h H c2 D go F))) Uv rfl ⟨au ⟨ad,rfl⟩,T.o⟩
section
variable{J:Nat}
structure FQ(B n ga:Nat)(l:bP)(V:aa):Prop where
 a:aE V B (.slice (bH ga) n n) (bD l)
 ι:l.length=n
 la:B<=ga
section
variable{B n ga:Nat}{l:bP}{V V':aa}
def FQ.ext(h:FQ B n ga l V)(D:ag V V'):FQ B n ga l V':=⟨h.a.ext D,h.ι,h.la⟩
def FQ.row(h:FQ B n ga l V):V.ownsRow B 3 1 (.slice (bH ga) n n) n ((bD l).map (Value.int .i64)):=h.a.row (by rw[aS,h.ι])
def FQ.at(h:FQ B n ga l V)(D:l[x]?=some y):af V ga x (zI (y:Nat))/\V.frozen? ⟨ga,x,none⟩=false:=by have F:=(bG.1 D).1;refine⟨?_,h.row.g x⟩;rw[h.row.C x (by have:=h.ι;omega),bI,dK D];rfl
def FQ.put(h:FQ B n ga l V)x y:FQ B n ga (l.set x y) (V.setCell ⟨ga,x,none⟩ (zI (y:Nat))):=by
 have D:=(h.row.j x (zI (y:Nat))).1;rw[<-eW]at D;have e:(bD l).set x ((y:Nat):Int)=bD (l.set x y):=by simp only[bD];rw[eW]
 rw[e]at D;refine⟨by unfold aE;rw[aS,iW,h.ι];exact D,SM,h.la⟩
end
def jC(x y q:Nat):Nat:=if q=max x y then min x y else q
def zgu c a b:mI c a b=c.map (jC (c.getD a 0) (c.getD b 0)):=rfl
def AP(f:gN)(c:bP)(j:Nat):List Nat:=(c.take j).map f++c.drop j
def zgv f c:AP f c 0=c:=by simp[AP]
def zif f c:AP f c c=c.map f:=by simp[AP]
def Dm f{c}(h:j<c.length):(AP f c j)[j]?=c[j]?:=by unfold AP;rw[fi QW,fQ,bs,cQ,iw Qu,pR,jf]
def zaa f{c}(h:c[j]?=some q):(AP f c j).set j (f q)=AP f c (j+1):=by
 have D:=(bG.1 h).1;have F:c.drop j=q::c.drop (j+1):=by
  rw[uu D];congr 1
  exact(bG.1 h).2
 unfold AP;rw[du,h,F,kA,om _ _ (by simp;exact Nat.min_le_left _ _)];simp[iw (ix D)]
def zgw f{c}(h:c[j]?=some q)(F:f q=q):AP f c j=AP f c (j+1):=by
 rw[<-zaa f h,F];have D:=(Dm f (bG.1 h).1).t h;apply gk;intro k;by_cases e:j=k
 .subst e;rw[gl (bG.1 D).1,D]
 .rw[gI e]
def zj5{us h:bP}{a}(D:us[k]?=some a)(F:h[k]?=some b):(us.zip h)[k]?=some (a,b):=by rw[Aj];exact⟨D,F⟩
def zlf{us D:bP}{n}(F:∀x∈us,x<n)(G:∀x∈D,x<n):∀q∈us.zip D,q.1<n/\q.2<n:=fun q h=>by obtain⟨H,I⟩:=q;exact⟨F _ (pS h).1,G _ (pS h).2⟩
def zj6{n}(h:∀q∈ps,q.1<n/\q.2<n):l9 n (jF n ps):=Ef ps _ (qx n) h
def FQ.Α{B n ga}{l}{V}(h:FQ B n ga l V)(F:b≠ga)i v:FQ B n ga l (V.setCell ⟨b,i,none⟩ v):=⟨h.a.o_ (zbw V b i v) (fun g e D=>by cases e;cases D;exact F rfl),h.ι,h.la⟩
def pG.Α{B n ga}{l m}{V}(h:pG B n ga J l m V)(F:b≠ga)(G:b≠J)i v:pG B n ga J l m (V.setCell ⟨b,i,none⟩ v):=⟨h.a.o_ (zbw V b i v) (fun g e D=>by cases e;cases D;exact F rfl),h.b.o_ (zbw V b i v) (fun g e D=>by cases e;cases D;exact G rfl),h.ne,h.la,h.lb⟩
structure xU(B n ga:Nat)(l:Fg)(V:aa):Prop where
 row:V.ownsRow B 4 1 (.slice (bH ga) n n) n (l.map Value.bool)
 ι:l.length=n
 la:B<=ga
section
variable{B n ga:Nat}{l:Fg}{V V':aa}
def xU.ext(D:xU B n ga l V)(h:ag V V'):xU B n ga l V':=⟨jA D.row (row:=none) ⟨h.os,h.tape,h.output,h.size,fun k F _=>h.block k F⟩ (au SY),D.ι,D.la⟩
def xU.at(h:xU B n ga l V){y}(hx:l[x]?=some y):af V ga x (.bool y)/\V.frozen? ⟨ga,x,none⟩=false:=Yd
def xU.put(h:xU B n ga l V)x y:xU B n ga (l.set x y) (V.setCell ⟨ga,x,none⟩ (.bool y)):=by have D:=(h.row.j x (.bool y)).1;rw[<-eW]at D;exact⟨D,SM,h.la⟩
end
def uZ(g:Gr)(C:bP)(k:Nat):List Bool:=(List.range g.w).map fun r=>(List.range k).any fun x=>g.O x&&decide (C.getD x 0=r)
def vh g C k:(uZ g C k).length=g.w:=by simp[uZ]
def zig g C:uZ g C 0=List.replicate g.w false:=by
 apply gk;intro r;unfold uZ;rw[bI,fI];by_cases h:r<g.w
 .rw[iy h,ak h];rfl
 .rw[eP QW,aj h];rfl
def zab r:((List.range (k+1)).any fun x=>g.O x&&decide (C.getD x 0=r))=(((List.range k).any fun x=>g.O x&&decide (C.getD x 0=r))||(g.O k&&decide (C.getD k 0=r))):=by rw[nk,CY];simp
def zih(h:g.O k=false):uZ g C k=uZ g C (k+1):=by
 unfold uZ;refine kB fun r _=>?_
 rw[zab,h];simp
def zj7(F:g.O k=true):(uZ g C k).set (C.getD k 0) true=uZ g C (k+1):=by
 apply gk;intro r;by_cases h:r<g.w
 .have D:(uZ g C (k+1))[r]?=some ((List.range (k+1)).any fun x=>g.O x&&decide (C.getD x 0=r)):=by unfold uZ;rw[bI,iy h];rfl
  rw[D,zab,F];by_cases e:C.getD k 0=r
  .rw[e,gl (by rw[vh];exact h)];simp
  .rw[gI e,fR e];unfold uZ;rw[bI,iy h];simp
 .rw[eP (by rw[iW,vh];omega),eP (by rw[vh];omega)]
def zii(F:g.In):uZ g C g.w=mP g.w C (ec g):=by
 unfold uZ mP;refine kB fun r _=>?_
 rw[jQ,EJ,nl];constructor
 .rintro⟨x,D,h⟩;rw[bN,cf]at h;exact⟨x,Gr.lO.1 h.1,h.2⟩
 .rintro⟨x,D,h⟩;exact⟨x,fj.2 (F x D),by rw[Gr.lO.2 D];simpa using h⟩
def zgx:(g.i++fB g.es).count x+(g.o++lq g.es).count x=0↔g.O x=false:=by
 constructor
 .intro h;rw[<-Al,Gr.lO];intro H;have:=zc0 H;omega
 .intro h;have J:¬g.On x:=fun H=>by rw[Gr.lO.2 H]at h;cases h
  have O:x∉g.i++fB g.es:=fun G=>J (by
   rcases dP.1 G with h|h
   .exact ay h
   .obtain⟨l,F,I⟩:=uv.1 h;obtain⟨e,D,rfl⟩:=cH.1 F;exact au (au ⟨e,D,au I⟩))
  have T:x∉g.o++lq g.es:=fun G=>J (by
   rcases dP.1 G with h|h
   .exact au (ay h)
   .obtain⟨l,F,I⟩:=uv.1 h;obtain⟨e,D,rfl⟩:=cH.1 F;exact au (au ⟨e,D,ay I⟩))
  rw[List.count_eq_zero.2 O,List.count_eq_zero.2 T]
structure nC(B n ga:Nat)(l:aL)(V:aa):Prop where
 a:aE V B (.slice (bH ga) n n) l
 ι:l.length=n
 la:B<=ga
section
variable{B n ga:Nat}{l:aL}{V V':aa}
def nC.ext(h:nC B n ga l V)(D:ag V V'):nC B n ga l V':=⟨h.a.ext D,h.ι,h.la⟩
def nC.row(h:nC B n ga l V):V.ownsRow B 3 1 (.slice (bH ga) n n) n (l.map (Value.int .i64)):=h.a.row h.ι
def nC.at(h:nC B n ga l V){y}(hx:l[x]?=some y):af V ga x (zI y)/\V.frozen? ⟨ga,x,none⟩=false:=Yd
def nC.put(h:nC B n ga l V)x y:nC B n ga (l.set x y) (V.setCell ⟨ga,x,none⟩ (zI y)):=by have D:=(h.row.j x (zI y)).1;rw[<-eW]at D;exact⟨by unfold aE;rw[iW,h.ι];exact D,SM,h.la⟩
def xU.Α{l}(h:xU B n ga l V)(D:b≠ga)i v:xU B n ga l (V.setCell ⟨b,i,none⟩ v):=⟨jA h.row (row:=some b) (zbw V b i v) (au TQ),h.ι,h.la⟩
end
def ti(g:Gr)(C:bP)(j:Nat):List Int:=(List.range g.w).map fun x=>if x<j/\C.getD x 0=x/\pH C (ec g) x=true then(nS g C x:Int) else 0
def sE g C j:(ti g C j).length=g.w:=by simp[ti]
def vj(h:x<g.w):(ti g C j)[x]?=some (if x<j/\C.getD x 0=x/\pH C (ec g) x=true then(nS g C x:Int) else 0):=by simp[ti,h]
def zij g C:ti g C 0=List.replicate g.w 0:=by
 apply gk;intro r;by_cases h:r<g.w
 .rw[vj h,fI,ak h,aj Qu]
 .rw[eP (by rw[sE];omega),fI,aj h]
def zcr(h:¬(C.getD j 0=j/\pH C (ec g) j=true)):ti g C j=ti g C (j+1):=by
 unfold ti;refine kB fun x _=>?_
 by_cases e:x=j
 .subst e;rw[aj Qu,aj (fun D=>h D.2)]
 .have:x<j↔x<j+1:=Qu;simp only[this]
def zj8(D:C.getD j 0=j)(F:pH C (ec g) j=true):(ti g C j).set j (nS g C j:Int)=ti g C (j+1):=by
 apply gk;intro r;by_cases h:r<g.w
 .rw[vj h];by_cases e:j=r
  .subst e;rw[gl (by rw[sE];exact h),ak ⟨Qu,D,F⟩]
  .rw[gI e,vj h];have:r<j↔r<j+1:=Qu;simp only[this]
 .rw[eP (by rw[iW,sE];omega),eP (by rw[sE];omega)]
def vk(a b:aL)(j:Nat):List Int:=a.take j++b.drop j
def zgy a b:vk a b 0=b:=by simp[vk]
def zik{a b}(h:i<j)(D:j<=a.length):(vk a b j)[i]?=a[i]?:=by unfold vk;rw[dU Rv,iM,ak h]
def zil{a b}(h:j<=a.length):(vk a b j)[j]?=b[j]?:=by unfold vk;rw[fi Rv,fQ,cQ,iw h,pR,jf]
def zac{a b:aL}{v}(h:a[j]?=some v)(F:a.length=b):(vk a b j).set j v=vk a b (j+1):=by have G:=(bG.1 h).1;have D:b.drop j=b[j]'Qu::b.drop (j+1):=uu Qu;unfold vk;rw[du,h,D,om _ _ Rv,cQ,iw Qu,pR];simp only[fJ,rO,Option.toList_some,wZ,rP]
def zim{a b}(h:a.length=j)(D:b.length=j):vk a b j=a:=by unfold vk;rw[cZ Qu,jR Qu,lZ]
def zin{a b}{n}(h:a.length=n)(D:b.length=n)(F:j<=n):(vk a b j).length=n:=by unfold vk;rw[bm,cQ,fS];omega
def zlg(g:Gr)(ps:ng)(w:aa)(e:Ending)(w':aa):Prop:=∃A1 c1 h c2 D F B G I H,e=.returned (.tuple #[.agg (nh ((js g ps).w:Nat) A1 (js g ps).es c1 h (js g ps).i c2 D (js g ps).o F),.slice G I H])/\BH w B w' A1 c1 h c2 D F (js g ps)/\ag w w'
def zcs g(us I:bP)A1 a4 a5 ee eg c1 c2 bc hF hG w(c5:jV w A1 a4 a5 g)(F:px g)(db:us.length=I)(hM:us.length<=4096)(fy:aO w ee (bD us))(fz:aO w eg (bD I))(be:∀x∈us,x<g.w)(bg:∀x∈I,x<g.w):az 200 #[.agg (bj g A1 c1 a4 c2 a5 bc),.slice ee us hF,.slice eg I hG] w (zlg g (us.zip I) w):=by
 have⟨g2,hi,g0,g1,FU⟩:=dp gD;have b0:=zH F;have hQ:=F.w;have hg:=zH (fun V (a7:ag w V)=>c5.ext a7);have hS:(fB g.es).length<=4096*4096:=aZ (sL (·.o) 4096 g.es fun e bd=>(F.el e bd).2) (Am _ F.es);have hT:(lq g.es).length<=4096*4096:=aZ (sL (·.i) 4096 g.es fun e bd=>(F.el e bd).1) (Am _ F.es);have hV:=F.i;have hW:=F.o;have hU:=F.es;have ci:(g.i++fB g.es).length<=33554432/\(g.o++lq g.es).length<=33554432:=by rw[bm,bm];omega
 have⟨e1,eA⟩:=bJ ci (fun V (a7:ag w V)=>yL g A1 a4 a5 c1 c2 bc V (c5.ext a7) F.inr Qu Qu ci.1 ci.2);clear hS hT hV hW hU ci;have⟨hl,hm⟩:=bJ (fun V (a7:ag w V)=>fy.ext a7) (fun V (a7:ag w V)=>fz.ext a7);have⟨n,dT⟩:=aR g.w;have T:=zH dT;rw[<-dT]at be bg hQ eA ⊢;have⟨e9,hp,hq⟩:=er (zlf be bg) be bg;have⟨m,am⟩:=aR us.length;obtain⟨cr,cA⟩:=bJ (show us.length=m from am.q) (show I.length=m from db.q.t am.q);rw[<-db,<-am];rw[<-am]at hM;have c3:=((al w w).alloc (ae _) (.cells (fw n A1 g.es c1 a4 g.i c2 a5 g.o bc) 54)).alloc Qt (.cells cw 54);have Z:=(bO (w.alloc (.cells (fw n A1 g.es c1 a4 g.i c2 a5 g.o bc) 54)) (.cells cw 54) (k:=w.heap.size) Qt).t (aH w _ rfl);have d5:=aH (w.alloc (.cells (fw n A1 g.es c1 a4 g.i c2 a5 g.o bc) 54)) (.cells cw 54) (n:=(w:Nat)+1) Qt;clear c5 F fy fz be bg dT am db;go_enter func200,ntmps200
 go_upto_region 1 with(fail)
 generalize (w.alloc _).alloc _=W at c3 Z d5 ⊢;have⟨ab,ac,ad,ah⟩:=aB Z;have⟨ek,hw,hv⟩:=er c3 d5 Z;clear c3 d5 Z;go_upto_region 2 with((at_make;refine jg _ rfl _ _ 26 rfl W.heap.size 3 g2 (zI 0) 1 dR hi g0 g1 .i64 .i64 n n n rfl rfl rfl rfl RF SL (ae _) ?_;intro h2 FT a1;have e6:=zH FT;have hk:=zH a1;clear FT a1))
 have g6:=zH (cy hk);have⟨ga,dl⟩:=aR W.heap.size;obtain⟨ht,cI⟩:=bJ (show h2.ownsRow W 3 1 (.slice (bH ga) n n) n ((eF (υ n) 0 0).map (Value.int .i64)) by have FT:=e6.o;rw[jn]at FT;rw[iP,dX,dl];exact FT) (Qu:(W:Nat)<=ga);clear ab ac ad ah e6;rw[<-dl];clear dl;go_wp2;go_loopw [9,28] (fun _ i wr=>∃k:Nat,k<=n/\i=.int .i64 k/\wr.ownsRow W 3 1 (.slice (bH ga) n n) n ((eF (υ n) 0 k).map (Value.int .i64))/\ag W wr) (fun _ i _=>n-(intOf i).toNat)
 case atStart=>exact⟨0,aW _,rfl,ht,g6⟩
 case round=>
  obtain⟨k,a8,rfl,FT,h⟩:=hrel;by_cases FX:k<n
  .have id:af wr ga k (zI 0):=Xg;have i3:=FT.g k;have d6:=(FT.j k (zI k)).1;rw[<-eW,jq _ _ _ _ (sM FX)]at d6;have⟨hy,a6⟩:=bJ d6 (h.setCell (p:=⟨ga,k,none⟩) cI (zI k));clear d6 FT;go_wp2;go_roundw
   case rel=>exact⟨k+1,Qu,Qx,hy,a6⟩
   case measure=>simp[intOf];omega
  .obtain rfl:k=n:=Qu;rw[jo _ _ _ Ru]at FT;obtain⟨hd,g8⟩:=bJ (show FQ W k ga (jF k []) wr from⟨by unfold aE;rw[show bD (jF k [])=υ k from rfl,dX];exact FT,fK,cI⟩) h;clear FT h FX a8;go_wp2;go_loopw [10,11,12,13,38] (fun _ _ _ _ i wr=>∃j:Nat,j<=m/\i=.int .i64 j/\FQ W k ga (jF k ((us.zip I).take j)) wr/\ag W wr) (fun _ _ _ _ i _=>m-(intOf i).toNat)
   case atStart=>exact⟨0,aW _,rfl,hd,g8⟩
   case round=>
    obtain⟨j,dO,rfl,D,h⟩:=hrel;by_cases FX:j<m
    .obtain⟨a,ha⟩:=aq (by rw[cr.o];exact FX:j<us.length);obtain⟨b,hb⟩:=aq (by rw[cA.o];exact FX:j<I.length);have ea:=aT ek h;obtain⟨hB,hC,rfl,f4⟩:=(hl wr ea).θ (by rw[aS,cr.o];omega:0 < (bD us).length);obtain⟨hD,hE,rfl,f5⟩:=(hm wr ea).θ (by rw[aS,cA.o];omega:0 < (bD I).length);have bn:=f4 _ _ (dK ha);have bo:=f5 _ _ (dK hb);have hN:=hp a (aU ha);have hO:=hq b (aU hb);have co:jF k ((us.zip I).take (j+1))=(jF k ((us.zip I).take j)).map (jC ((jF k ((us.zip I).take j)).getD a 0) ((jF k ((us.zip I).take j)).getD b 0)):=by rw[jl (zj5 ha hb),zcK,zgu]
     have⟨C,fx⟩:=aR (jF k ((us.zip I).take j));rw[<-fx]at D co;have Gb:=D.ι;have⟨x,eb⟩:=aq (Qu:a<C.length);have⟨y,H⟩:=aq (Qu:b<C.length);rw[bf,bf,eb,H]at co;have gA:=(D.at eb).1;have b6:=(D.at H).1;obtain⟨hx,ez,es,H8⟩:=gG (show jF k ((us.zip I).take (j+1))=C.map (jC x y) from co) D h Gb;have S0:=aQ bn (aQ bo (aQ gA b6));clear ea f4 f5 bn bo ha hb co fx Gb eb H gA b6 D h;go_upto_region 10 with(fail)
     go_region_held3 (fun V=>af V hB (hC+j) (zI (a:Nat))/\af V hD (hE+j) (zI (b:Nat))/\af V ga a (zI (x:Nat))/\af V ga b (zI (y:Nat)))
      (first|with_reducible exact S0|with_reducible exact gS (aC _) S0)
      ((fail))
     have⟨ey,em⟩:=bJ (ez.ext (aC wr)) es.drew;clear S0;have⟨cO,e0⟩:=bJ (fun V=>zfe (x:Int) (y:Int) V) (fun V=>zdN (x:Int) (y:Int) V);have⟨M,c7⟩:=aR (max (x:Int) (y:Int));have⟨N,c8⟩:=aR (min (x:Int) (y:Int));rw[<-c7]at cO;rw[<-c8]at e0;have⟨e3,hr⟩:=bJ c7 c8;have⟨j3,gK⟩:=aR wr.drew;rw[<-gK]at ey em ⊢;clear c7 c8 gK ez es hN hO;go_wp2;go_loopw [13,57] (fun _ i wr=>∃t:Nat,t<=k/\i=.int .i64 t/\FQ W k ga (AP (jC x y) C t) wr/\ag W wr) (fun _ i _=>k-(intOf i).toNat)
     case atStart=>exact⟨0,aW _,rfl,by rw[zgv];exact ey,em⟩
     case round=>
      obtain⟨t,gn,rfl,D,h⟩:=hrel;by_cases JO:t<k
      .have⟨q,Z⟩:=aq (Tk:t<C.length);have ba:=(D.at ((Dm (jC x y) Tk).t Z));obtain⟨ba,f7⟩:=ba;by_cases d4:q=max x y
       .have av:((q:Int)==M)=true:=by rw[pT,e3.o];omega
        have it:=((D.ext (aC wr)).at ((Dm (jC x y) Tk).t Z)).2;have O:=(D.ext (aC wr)).put t (jC x y q);rw[zaa _ Z,show((jC x y q:Nat):Int)=N by rw[hr.o,show jC x y q=min x y from ak d4];omega]at O;have⟨HP,HBP⟩:=bJ O ((h.drew.setCell (p:=⟨ga,t,none⟩) cI (zI N)));clear D O h Z d4;go_upto_region 14 with(fail)
        go_region_held3 (fun V=>af V ga t (zI (q:Nat)))
         (first|with_reducible exact ba|with_reducible exact ar (aC _) ba)
         ((go_at_call 217;(with_reducible refine(cO.o _).x ?_);rintro e w' ⟨rfl,rfl⟩))
        clear ba f7;go_wp2_with (go_at_call 218;(with_reducible refine(e0.o _).x ?_);rintro e w' ⟨rfl,rfl⟩)
        exact X_
       .have av:((q:Int)==M)=false:=by rw[<-Al,pT,e3.o];omega
        have O:=D;rw[zgw (jC x y) Z (aj d4)]at O;have⟨HP,HBP⟩:=bJ (O.ext (aC _)) h.drew;clear D O h Z;go_upto_region 14 with(fail)
        go_region_held3 (fun V=>af V ga t (zI (q:Nat)))
         (first|with_reducible exact ba|with_reducible exact ar (aC _) ba)
         ((go_at_call 217;(with_reducible refine(cO.o _).x ?_);rintro e w' ⟨rfl,rfl⟩))
        go_wp2;exact X_
      .obtain rfl:t=k:=Qu;rw[show AP (jC x y) C t=C.map (jC x y) by have:=zif (jC x y) C;rw[H8.o]at this;exact this]at D;have⟨HP,HBP⟩:=bJ D h;clear D h;go_wp2;go_roundw
       case rel=>exact⟨j+1,Qu,Qx,by rw[hx.o];exact HP,HBP⟩
       case measure=>simp[intOf];omega
    .obtain rfl:j=m:=Qu;rw[cZ (by rw[List.length_zip,cr.o,cA.o];omega)]at D;have cb:=zH (show l9 k (jF k (us.zip I)) from zj6 e9);have⟨C,c4⟩:=aR (jF k (us.zip I));rw[<-c4]at D cb;have⟨he,cB⟩:=bJ c4 D;have bi:=ai hv h;have⟨ab,ac,ad,ah⟩:=aB bi;have⟨cc,fa,c0,g9⟩:=gG bi (ai hw h) (aT ek h) h;have⟨a2,gB⟩:=aR wr;rw[<-gB]at cB ab ac ad ah cc fa c0 g9 ⊢;clear D h FX dO bi gB c4;go_upto_region 19 with(go_at_call 197;(with_reducible refine(eA.o _ c0.o).x ?_);intro e bq Y;unfold zll at Y;obtain⟨gc,gd,fo,D,hb⟩:=Y;rw[<-T.o]at fo D;subst fo;have cF:=zH D;have bu:=zH hb;clear D hb)
     clear ab ac ad ah;have⟨ab,ac,ad,ah⟩:=aB (ai cc bu);have⟨h1,hR,hX,hY,hZ⟩:=dp Ds;go_upto_region 20 with((at_make;refine jg _ rfl _ _ 209 rfl bq.heap.size 4 h1 (.bool false) 1 underlying209 hR hX hY .i64 .i64 k k k rfl rfl rfl rfl (by rw[hZ];omega) SL (ae _) ?_;intro cp FT a1;have e7:=zH FT;have ct:=zH (cy a1);clear FT a1))
     clear ab ac ad ah;have⟨ge,dq⟩:=aR bq.heap.size;obtain⟨hz,g3,hn⟩:=er (show xU bq k ge (uZ g C 0) cp from⟨by rw[zig,<-T.o,dq];have Y:=e7.o;rw[xW]at Y;exact Y,by rw[vh];exact T.o.q,Qu⟩) (show FQ W k ga C cp from(cB.ext bu).ext ct) (show pG a2 k gc gd (g.i++fB g.es) (g.o++lq g.es) cp from cF.ext ct);have cK:=zH (show ge≠ga/\ge≠gc/\ge≠gd from by have hI:=bS cB.o.row ga rfl;have hJ:=bS cF.o.a gc rfl;have hL:=bS cF.o.b gd rfl;have ia:=bu.size;omega)
     obtain⟨g7,hj⟩:=bJ (show ag a2 cp from aT bu ct) (show(a2:Nat)<=ge from by have:=bu.size;omega);rw[<-dq];clear dq e7;go_wp2;go_loopw [17,18,86] (fun _ _ i wr=>∃t:Nat,t<=k/\i=.int .i64 t/\xU bq k ge (uZ g C t) wr/\FQ W k ga C wr/\pG a2 k gc gd (g.i++fB g.es) (g.o++lq g.es) wr/\ag a2 wr) (fun _ _ i _=>k-(intOf i).toNat)
     case atStart=>exact⟨0,aW _,rfl,hz,g3,hn,g7⟩
     case round=>
      obtain⟨t,gn,rfl,G,ha,a8,h⟩:=hrel;by_cases JO:t<k
      .have⟨y,H⟩:=aq (Tj:t<C.length);have hyk:C.getD t 0=y:=by rw[bf,H];rfl
       have h0:y<=t:=by have:=cb.le t JO;omega
       have b6:=(ha.at H).1;have bn:=(a8.at JO).1;have bo:=(a8.J.at JO).1;obtain⟨j1,gu⟩:=aq (by rw[vh,<-T.o];omega:y < (uZ g C t).length);obtain⟨ib,f7⟩:=(G.ext (aC wr)).at gu;have be:=aZ rQ e1.1 (n:=List.count t (g.i++fB g.es));have bg:=aZ rQ e1.2 (n:=List.count t (g.o++lq g.es));have bp:=zgx (g:=g) (x:=t);have⟨na,f9⟩:=aR ((g.i++fB g.es).count t);have⟨nb,gb⟩:=aR ((g.o++lq g.es).count t);rw[<-f9]at bn be bp;rw[<-gb]at bo bg bp;have i5:IntKind.i64.wrap ((na:Int)+(nb:Int))=(na:Int)+(nb:Int):=Rt;have S0:=aQ bn bo;have⟨ev,ej,eB,fc⟩:=gG h.drew (ha.ext (aC wr)) (a8.ext (aC wr)) (G.ext (aC wr));have i7:y<k:=Qu;clear bn bo f9 gb gu G ha a8 h H h0;cases a9:g.O t
       .have av:decide ((0:Int) < (na:Int)+(nb:Int))=false:=by have:=bp.2 a9;simp;omega
        have e5:=zH (zih (C:=C) a9);clear a9 bp;refine Nj ?_;go_roundw
        case rel=>exact⟨t+1,Qu,Qx,by rw[<-e5.o];exact fc,ej,eB,ev⟩
        case measure=>simp[intOf];omega
       .have av:decide ((0:Int) < (na:Int)+(nb:Int))=true:=by
         have:¬(na+nb=0):=fun Y=>by rw[bp.1 Y]at a9;cases a9
         simp;omega
        have cn:=zj7 (C:=C) a9;rw[hyk]at cn;have e5:=zH cn;have O:=fc.put y true;rw[cn]at O;have⟨HP,g5,ho,HBP⟩:=gG O (ej.Α cK.1 y (.bool true)) (eB.Α cK.2.1 cK.2.2 y (.bool true)) (ev.setCell (p:=⟨ge,y,none⟩) hj (.bool true));clear a9 bp cn O;refine Nj ?_;go_roundw
        case rel=>exact⟨t+1,Qu,Qx,HP,g5,ho,HBP⟩
        case measure=>simp[intOf];omega
      .obtain rfl:t=k:=Qu;have gs:uZ g C t=mP t C (ec g):=by rw[T.o];exact zii b0.inr
       rw[gs]at G;have⟨cW,cq,cu⟩:=er G ha h;have bi:=ai cc h;have⟨ab,ac,ad,ah⟩:=aB bi;have⟨a3,gC⟩:=aR wr;rw[<-gC]at cW cq cu ab ac ad ah ⊢;clear G ha a8 h bi gC gs JO gn;go_upto_region 27 with((at_make;refine jg _ rfl _ _ 26 rfl a3.heap.size 3 g2 (zI 0) 1 dR hi g0 g1 .i64 .i64 t t t rfl rfl rfl rfl RF SL (ae _) ?_;intro h3 FT a1;have e8:=zH FT;have cz:=zH (cy a1);clear FT a1))
       clear ab ac ad ah;have⟨U,dr⟩:=aR a3.heap.size;have hs:=zH (show nC a3 t U (ti g C 0) h3 from by have Y:=e8.o;rw[jn]at Y;refine⟨?_,by rw[sE];exact T.o.q,Qu⟩;unfold aE;rw[zij,fA,<-T.o,dr];exact Y)
       have⟨g4,hA,hc⟩:=er (cq.ext cz) (cW.ext cz) (aT cu cz);have ao:=zH (show U≠ga/\U≠ge/\(a2:Nat)<=U from by have hI:=bS cq.o.row ga rfl;have hJ:=bS cW.o.row ge rfl;have hL:=cu.size;omega)
       rw[<-dr];clear dr e8;go_wp2;go_loopw [20,21,110] (fun u _ i wr=>∃j:Nat,j<=t/\i=.int .i64 j/\u=.int .i64 (nS g C j:Nat)/\nC a3 t U (ti g C j) wr/\xU bq t ge (mP t C (ec g)) wr/\FQ W t ga C wr/\ag a2 wr) (fun _ _ i _=>t-(intOf i).toNat)
       case atStart=>exact⟨0,aW _,rfl,rfl,hs,hA,g4,hc⟩
       case round=>
        obtain⟨j,dO,rfl,rfl,J,G,ha,h⟩:=hrel;by_cases JO:j<t
        .have⟨y,H⟩:=aq (Tj:j<C.length);have hyk:C.getD j 0=y:=by rw[bf,H];rfl
         have b6:=(ha.at H).1;obtain⟨gv,-⟩:=G.at (nD C (ec g) JO);have hP:=wL g C j;have h8:=zH hyk;by_cases e:y=j
         .subst e;cases hb:pH C (ec g) y
          .rw[hb]at gv;have b4:=zcr (g:=g) (C:=C) (j:=y) (fun ch=>by rw[hb]at ch;cases ch.2);have ap:=zG (C:=C) (k:=y) b0.inr (ay Sf);obtain⟨bz,bv,b1,br,a6⟩:=pD (by rw[<-b4];exact J:nC a3 t U (ti g C (y+1)) wr) ap G ha h;clear b4 ap J G ha h hb hyk H;go_wp2;go_roundw
           case rel=>exact⟨y+1,Qu,Qx,by rw[bv.o],bz,b1,br,a6⟩
           case measure=>simp[intOf];omega
          .rw[hb]at gv;have ap:=zgg (C:=C) (k:=y) b0.inr Sf hyk;obtain⟨ip,i2⟩:=J.at (vj (C:=C) (j:=y) (by rw[<-T.o];exact JO:y<g.w));have O:=J.put y (nS g C y:Int);rw[zj8 hyk hb]at O;have⟨b2,f6⟩:=aR (nS g C y);rw[<-f6]at O hP ap ⊢;have d9:IntKind.i64.wrap ((b2:Int)+1)=(b2:Int)+1:=Rt;have⟨bz,bv,b1,br,a6⟩:=pD O ap (G.Α ao.2.1 y (zI (b2:Nat))) (ha.Α ao.1 y (zI (b2:Nat))) (h.setCell (p:=⟨U,y,none⟩) ao.2.2 (zI (b2:Nat)));clear O ap J G ha h hb hyk H f6;go_wp2;go_roundw
           case rel=>exact⟨y+1,Qu,Qx,by rw[bv.o];rfl,bz,b1,br,a6⟩
           case measure=>simp[intOf];omega
         .have av:((y:Int)==(j:Int))=false:=by rw[<-Al,pT];omega
          have b4:=zcr (g:=g) (C:=C) (j:=j) (fun ch=>e (by rw[<-hyk];exact ch.1));have ap:=zG (C:=C) (k:=j) b0.inr (au (by rw[hyk];exact e));obtain⟨bz,bv,b1,br,a6⟩:=pD (by rw[<-b4];exact J:nC a3 t U (ti g C (j+1)) wr) ap G ha h;clear b4 ap J G ha h hyk H;go_wp2;go_roundw
          case rel=>exact⟨j+1,Qu,Qx,by rw[bv.o],bz,b1,br,a6⟩
          case measure=>simp[intOf];omega
        .obtain rfl:j=t:=Qu;obtain⟨fb,ei,eo,a0,ca,e4⟩:=ny G ha h (show(Υ g C).length=j from(CO g C).t T.o.q) (show(ti g C j).length=j from(sE g C j).t T.o.q) (by rw[zgy];exact J:nC a3 j U (vk (Υ g C) (ti g C j) 0) wr);have⟨wc,d9⟩:=aR wr;rw[<-d9]at fb ei eo e4 ⊢;clear G ha h J d9 JO dO;go_wp2;go_loopw [22,134] (fun _ i wr=>∃m:Nat,m<=j/\i=.int .i64 m/\nC a3 j U (vk (Υ g C) (ti g C j) m) wr/\xU bq j ge (mP j C (ec g)) wr/\FQ W j ga C wr/\ag a2 wr) (fun _ i _=>j-(intOf i).toNat)
         case atStart=>exact⟨0,aW _,rfl,e4,fb,ei,eo⟩
         case round=>
          obtain⟨m,am,rfl,J,G,ha,h⟩:=hrel;by_cases JO:m<j
          .have⟨y,H⟩:=aq (Tj:m<C.length);have hyk:C.getD m 0=y:=by rw[bf,H];rfl
           have gR:y<=m:=by have:=cb.le m JO;omega
           have cj:m<g.w:=by rw[<-T.o];exact JO
           have Gb:=zin (j:=m) a0 ca am;have⟨v0,bb⟩:=aq (RN:y < (vk (Υ g C) (ti g C j) m).length);have⟨v1,d7⟩:=aq (RN:m < (vk (Υ g C) (ti g C j) m).length);have d8:pH C (ec g) y=true->v0=Æ g C m:=fun hb=>by
            by_cases e:y<m
            .rw[zik e (by rw[a0.o];exact am),wK C Qu]at bb;cases bb
             rw[zge (k:=m) (by rw[<-T.o];exact cb) cj,hyk]
            .obtain rfl:y=m:=Qu;rw[zil (by rw[a0.o];exact am),vj cj,ak ⟨JO,hyk,hb⟩]at bb;cases bb
             rw[zgf Sf hyk]
           have b6:=(ha.at H).1;obtain⟨is,-⟩:=J.at bb;obtain⟨ii,i0⟩:=J.at d7;have b3:=ha.Α ao.1 m (zI v0);have b5:=G.Α ao.2.1 m (zI v0);have bh:=J.put m v0;have ce:=h.setCell (p:=⟨U,m,none⟩) ao.2.2 (zI v0);have i4:=(b3.at H).1;have gw:=(b5.at (nD C (ec g) (Qu:y<j))).1;have i6:y<j:=Qu;cases hb:pH C (ec g) y
           .rw[hb]at gw;obtain⟨io,i1⟩:=bh.at (x:=m) (y:=v0) (by rw[gl (by rw[Gb];exact JO)]);have d0:=bh.put m (-1);rw[List.set_set,zac (by rw[wK C cj,zgd Sf]) (by rw[a0.o,ca.o])]at d0;have⟨HN3,HA3,HU3,FZ⟩:=gG d0 (b3.Α ao.1 m (zI (-1))) (b5.Α ao.2.1 m (zI (-1))) (ce.setCell (p:=⟨U,m,none⟩) ao.2.2 (zI (-1)));clear b3 b5 bh ce d0 d8 bb d7 H hyk gR Gb J G ha h hb;exact Yv
           .rw[hb]at gw;rw[zac (by rw[wK C cj,<-d8 hb]) (by rw[a0.o,ca.o])]at bh;have⟨HN3,HA3,HU3,FZ⟩:=gG bh b3 b5 ce;clear b3 b5 bh ce d8 bb d7 H hyk gR Gb J G ha h hb;exact Yv
          .obtain rfl:m=j:=Qu;rw[zim a0 ca]at J;obtain⟨h7,h9,fl,fs,-⟩:=J.a.p;rw[a0.o]at fl;cases fl
           have c9:=aT c0 h;have F:=b0.o;have ck:=BM g (nS g C g.w) (Υ g C) (DD g C) A1 a4 a5 (some ⟨U,0,none⟩) c1 c2 bc m wr (hg wr c9) fs (zaW F.inr) (by rw[CO];have:=F.w;omega) (by have:=F.w;omega) (by have:=wL g C g.w;have:=F.w;omega) (by have:=F.es;omega) (by have:=F.i;omega) (by have:=F.o;omega) (fun e bd=>⟨by have:=(F.el e bd).1;omega,by have:=(F.el e bd).2;omega⟩);have f8:g.map (nS g C m) (DD g C)=js g (us.zip I):=by rw[zJ F.inr (by rw[<-T.o];exact e9),<-T.o,<-he.o]
           rw[a0.o,<-T.o,f8]at ck;have⟨an,c6⟩:=aR (js g (us.zip I));rw[<-c6]at ck;have⟨e2,hh⟩:=bJ ck c6;have⟨ab,ac,ad,ah⟩:=aB (ai cc h);have⟨cR,fd⟩:=bJ (ai fa h) c9;have cV:=zH (show(w:Nat)+1<wr from(bk.1 cR).1);clear J G ha h JO am fs c9 F ck f8 c6;have⟨kc,gL⟩:=aR wr;rw[<-gL]at e2 ab ac ad ah cR fd cV ⊢;clear gL;go_wp2_with ((go_at_call 199;(with_reducible refine e2.o.x ?_);intro e j2 Y;unfold yB at Y;obtain⟨b7,d1,b8,d2,b9,d3,B,hH,gi,dc⟩:=Y;subst hH;have av:=ai cR dc;have⟨i8,i9,jp,j0⟩:=aB av;have⟨f0,f1,f2,f3⟩:=cN av;have y:=cP (v0:=.int .i64 (an.w:Nat)) (v1:=.slice b7 an.es d1) (v2:=.slice b8 an.i d2) (v3:=.slice b9 an.o d3) av;have⟨h4,h5,z2,h6⟩:=aB y;unfold dQ at h4 h5 z2 h6;have hu:=zH gi;have hf:=zH (bY (aT fd dc) (b:=(w:Nat)+1) Qu (zI (an.w:Nat)) (.slice b7 an.es d1) (.slice b8 an.i d2) (.slice b9 an.o d3));clear av y gi dc))
           exact aI (v:=.tuple #[.agg (bj an b7 d1 b8 d2 b9 d3),.slice (bH U) m m]) (by simp[results,results200,go_sem, *]) rfl (by unfold zlg;rw[<-hh.o];exact⟨b7,d1,b8,d2,b9,d3,B,some ⟨U,0,none⟩,m,m,rfl,(hu.dQ cV).x (ix (pU cV)),hf⟩)
end
end Go.Proofs.YtpieilkmmiopfaaGreatDoor
