/- Parts of the walks. Conditions: as stated with each. -/
import Derived.Test.YtdpgblncijojiaaGreatDoorPk20
import Derived.Test.YtdpgblncijojiaaGreatDoorPk21
import Derived.Test.YtdpgblncijojiaaGreatDoorPk22
namespace Go.Proofs.YtdpgblncijojiaaGreatDoor
open Go.RowKit Tryz
set_option linter.all false
set_option maxHeartbeats 2000000
set_option maxRecDepth 100000
variable{A:aq}{Rr:List Ed}{c k n x:Nat}{g:Gr}{l:bW}{w:aa}{xs:aH}



def zgW:List Bool->Nat
 |[]=>0
 |b::l=>zgW l+if b=true then 1 else 0
def Eg:∀{l:zdo},(∀b∈l,b=true)->zgW l=l.length
 |[],_=>rfl
 |b::l,h=>by
  have:=Eg (l:=l) fun b z=>h b (nv _ z)
  simp only[zgW,mr,this,h b (nw ..),jo]
def zbq(h:x<n):(List.range n).getD x 0=x:=by simp[List.getD,h]
def zcJ(n:Nat)(d:List (List Nat)):List Bool:=tP n (List.range n) d
def G1.el(h:g.G1):∀e∈g.es,e.i.length<=12/\e.o.length<=12:=fun e z=>by have:=h.fit e z;unfold Ed.mT at this;simp only[bn,cw]at this;obtain⟨B,_,hi,D⟩:=this;have:=vq B;omega
def G1.count(h:g.G1):zgW (zcJ g.w (ft g))=g.w:=by
 rw[Eg,show(zcJ g.w (ft g)).length=g.w from B4 ..];intro b D;obtain⟨r,z⟩:=eN.1 D;have B:r<g.w:=by have:=(bs.1 z).1;rw[show(zcJ g.w (ft g)).length=g.w from B4 ..]at this;exact this
 unfold zcJ at z;rw[xr _ _ B]at z;cases z
 obtain⟨l,E,F⟩:=(uk g r).2 (h.on r B);unfold qY;rw[mn];refine⟨l,E,?_⟩;rw[mn];exact⟨r,F,by rw[zbq B];simp⟩
def zd5:(ByteArray.mk #[]).toList.isEmpty=true:=by first|decide|(unfold ByteArray.toList;unfold ByteArray.toList.loop;rfl)|simp[ByteArray.toList,ByteArray.toList.loop]
def vu{k v:Int}(h:3<=k):qe ⟨k,v,true⟩=oB k/\tK ⟨k,v,true⟩=qT k:=by unfold qe tK oB qT;have z:¬k=1:=Ry;have B:¬k=2:=Ry;simp only[z,B,ku,false_or];exact⟨trivial,trivial⟩
def C_(h:∀x∈l,x<n):((bC l).all fun x=>eW x 0 ((n:Int)-1))=true:=by rw[eD];intro x z;obtain⟨y,B,rfl⟩:=cd.1 z;have:=h y B;rw[bh];omega
def zbK(e:Ed)(n:Nat)(A1 A2:aq)(c1 c2:Nat)(w:aa)(ad:aU w A1 (bC e.i))(am:aU w A2 (bC e.o))(O:e.mT=true)(hi:∀x∈e.i,x<n)(ap:∀x∈e.o,x<n)(bp:n<=1048576):ax 186 #[.agg (C8 e A1 c1 A2 c2),(n:Nat)] w fun bb w'=>bb=.returned (.bool true)/\aj w w':=by
 obtain⟨k,v,ab,ac⟩:=e;unfold Ed.mT at O;simp only[bn,cw]at O;dsimp only at *;obtain⟨z,ao,R,T⟩:=O;have bi:=vq z;have be:k<=14:=by
  unfold dV at z;dsimp only at z;rw[ak Ry]at z;by_cases bd:k=7∨k=13
  .omega
  .rw[ak bd]at z;simp only[bn,cw]at z;omega
 have Q:=vu (v:=v) ao;rw[Q.1]at R;rw[Q.2]at T;have B:=zH (fun W=>uE k W);rw[<-R,<-T]at B;obtain⟨a7,a8⟩:=bL (fun W=>Calls.dN (aM k 3 14 W) Sr) (fun W=>Calls.bj (y:=true) (AK k v (ByteArray.mk #[]) W) (by rw[zd5];exact z));have br:IntKind.i64.wrap ((n:Int)-1)=(n:Int)-1:=Sq;obtain⟨bm,U⟩:=aK ab.length;obtain⟨bo,Z⟩:=aK ac.length;have F:=fun W (h:aj w W)=>Calls.dN (kg 0 ((n:Int)-1) A1 c1 (bC ab) W (ad.ext h) Uw) (C_ hi)
 have H:=fun W (h:aj w W)=>Calls.dN (kg 0 ((n:Int)-1) A2 c2 (bC ac) W (am.ext h) Uw) (C_ ap)
 rw[bf,<-U]at F;rw[bf,<-Z]at H;rw[<-U]at B ⊢;rw[<-Z]at B ⊢;obtain⟨a4,a5⟩:=bL F H;obtain⟨I,D⟩:=dC w (.cells #[k,v,.slice A1 bm c1,.slice A2 bo c2] 166);clear ad am hi ap z ao R T be Q U Z F H bi;go_enter func186,ntmps186
 go_upto_region 1 with(fail)
 generalize w.alloc _=W at I D ⊢;obtain⟨a6,a9⟩:=bL I D;obtain⟨a0,a1,a2,a3⟩:=aJ D;clear I D;go_upto_region 3 with((first|(go_at_call 69;(refine(a7.o _).mono ?_);rintro e w' ⟨rfl,rfl⟩)|(go_at_call 188;(refine(a8.o _).mono ?_);rintro e bv ⟨rfl,J⟩;have E:=zH (bQ a6 J);have ba:=zH (aA a9 J);clear J)))
 clear a0 a1 a2 a3;obtain⟨a0,a1,a2,a3⟩:=aJ ba;go_wp2_with ((first|(go_at_call 173;(refine(B.o _).mono ?_);rintro e w' ⟨rfl,rfl⟩)|(go_at_call 72;(with_reducible refine(a4.o _ E.o).mono ?_);rintro e w' ⟨rfl,rfl⟩)|(go_at_call 72;(with_reducible refine(a5.o _ E.o).mono ?_);rintro e w' ⟨rfl,rfl⟩)))
 go_ret
 exact⟨rfl,E.o⟩
def Bs(n:Nat)(l:bW):List Nat:=(List.range n).map fun x=>l.count x
def mP{n:Nat}{l:bW}:(Bs n l).length=n:=by simp[Bs]
def vD{n:Nat}{l:bW}(h:x<n):(Bs n l)[x]?=some (l.count x):=by simp[Bs,h]
def zge(n:Nat):bC (Bs n [])=List.replicate n 0:=by
 apply eQ;intro k;simp only[bC,Bs,kB,bR,fR];by_cases h:k<n
 .simp[h]
 .simp[h]
def zem{n:Nat}{l:bW}:(bC (Bs n l)).set x ((l.count x:Int)+1)=bC (Bs n (l++[x])):=by
 apply eQ;intro k;by_cases z:k<n
 .by_cases e:x=k
  .subst e;rw[dJ (by rw[bf,mP];exact z),fk (vD z),List.count_append];simp
  .rw[df e,fk (vD z),fk (vD z),List.count_append];have:List.count k [x]=0:=by rw[List.count_eq_zero];simp;omega
   rw[this];simp
 .rw[fy (by rw[fx,bf,mP];omega),fy (by rw[bf,mP];omega)]
structure nc(B n ga gb:Nat)(l m:bW)(V:aa):Prop where
 a:au V B (.slice (aX ga) n n) (bC (Bs n l))
 b:au V B (.slice (aX gb) n n) (bC (Bs n m))
 ne:ga≠gb
 la:B<=ga
 lb:B<=gb
section
variable{B n ga gb:Nat}{l m:bW}{V V':aa}
def nc.ext(h:nc B n ga gb l m V)(z:aj V V'):nc B n ga gb l m V':=⟨h.a.ext z,h.b.ext z,h.ne,h.la,h.lb⟩
def nc.swap(h:nc B n ga gb l m V):nc B n gb ga m l V:=⟨h.b,h.a,fun e=>h.ne e.symm,h.lb,h.la⟩
def au.row{n:Nat}(h:au w B (.slice A n c) xs)(z:xs.length=n):w.ownsRow B 3 1 (.slice A n c) n (xs.map (Value.int .i64)):=by unfold au at h;rw[z]at h;exact h
def nc.at(h:nc B n ga gb l m V)(D:x<n):af V ga x (zI (l.count x:Nat))/\V.frozen? ⟨ga,x,none⟩=false:=by have z:=h.a.row (by rw[bf,mP]);refine⟨?_,z.frozenAt x⟩;rw[z.cellAt x Ry,bR,fk (vD D)];rfl
def nc.inc(h:nc B n ga gb l m V)(x:Nat):nc B n ga gb (l++[x]) m (V.setCell ⟨ga,x,none⟩ (zI ((l.count x:Int)+1))):=by have z:=(h.a.row (by rw[bf,mP])).stored x (zI ((l.count x:Int)+1)) |>.1;rw[<-fQ,zem]at z;exact⟨by unfold au;rw[bf,mP];exact z,h.b.mY (rF V ga x _) (fun g e D=>by cases e;cases D;exact h.ne rfl),h.ne,h.la,h.lb⟩
end
def eG(z:List Ed):List Nat:=(z.map (·.o)).flatten
def jN(z:List Ed):List Nat:=(z.map (·.i)).flatten
def zaE{e:Ed}(h:Rr[k]?=some e):eG (Rr.take (k+1))=eG (Rr.take k)++e.o:=by rw[fZ,h];simp[eG]
def zen{e:Ed}(h:Rr[k]?=some e):jN (Rr.take (k+1))=jN (Rr.take k)++e.i:=by rw[fZ,h];simp[jN]
def zeo(z:List Ed)(m:Nat):(eG (z.take m)).length<=(eG z):=by
 have h:eG z=eG (z.take m)++eG (z.drop m):=by rw[eG,eG,eG,<-DJ,<-wM,DF]
 rw[h,bS];omega
def zhn(z:List Ed)(m:Nat):(jN (z.take m)).length<=(jN z):=by
 have h:jN z=jN (z.take m)++jN (z.drop m):=by rw[jN,jN,jN,<-DJ,<-wM,DF]
 rw[h,bS];omega
def kd{z:Type}{l:List z}{x:z}(h:l[k]?=some x):l.take (k+1)=l.take k++[x]:=by rw[fZ,h];rfl
def zit(g:Gr)(w:aa)(e:Ending)(w':aa):Prop:=∃ga gb,e=.returned (.tuple #[.slice (aX ga) g.w g.w,.slice (aX gb) g.w g.w])/\nc w g.w ga gb (g.i++eG g.es) (g.o++jN g.es) w'/\aj w w'
def vE(g:Gr)(A1 A2 A3:aq)(c1 c2 c3:Nat)(w:aa)(cz:oI w A1 A2 A3 g)(a8:g.In)(fb:g.w<=65536)(O:g.es.length<=65536)(cR:(g.i++eG g.es).length<=33554432)(c0:(g.o++jN g.es).length<=33554432):ax 160 (cB (bF g A1 c1 A2 c2 A3 c3)) w (zit g w):=by
 obtain⟨c9,hi,c6,c7,Ev⟩:=cM fq;obtain⟨n,z,D,go⟩:=g;dsimp only at *;obtain⟨ee,eg,cj,be,bi,bm⟩:=lq (fun x (hx:x∈D)=>(a8 x (aG hx):x<n)) (fun x (hx:x∈go)=>(a8 x (aB (aG hx)):x<n)) (fun e (O:e∈z) x (hx:x∈e.i∨x∈e.o)=>(a8 x (aB (aB ⟨e,O,hx⟩)):x<n)) (fun(V:aa) (es:aj w V)=>cz.ext es) cR c0;obtain⟨b1,a4⟩:=dC w (.cells (fG n A1 z c1 A2 D c2 A3 go c3) 151);clear cz a8 cR c0;go_enter func160,ntmps160
 go_upto_region 1 with(fail)
 generalize w.alloc _=W at b1 a4 ⊢;obtain⟨Z,cr⟩:=bL b1 a4;have eA:=(aP.1 a4).1;obtain⟨Q,R,T,U⟩:=aJ a4;clear b1 a4 eA;go_upto_region 2 with((at_make;refine iJ _ rfl _ _ 27 rfl W.heap.size 3 c9 (zI 0) 1 dA hi c6 c7 .i64 .i64 n n n rfl rfl rfl rfl SB TB (ah _) ?_;intro b8 a3 a1;have co:=zH a3;have ea:=zH a1;clear a3 a1))
 have ap:=zH (bT ea);clear Q R T U;have b7:=aA cr ap;obtain⟨Q,R,T,U⟩:=aJ b7;have ej:=zH b7;clear b7;go_upto_region 3 with((at_make;refine iJ _ rfl _ _ 27 rfl W.heap.size 3 c9 (zI 0) 1 dA hi c6 c7 .i64 .i64 n n n rfl rfl rfl rfl SB TB ap.o.size ?_;intro e3 a3 a1;have ei:=zH a3;have eb:=zH a1;clear a3 a1))
 have bb:=zH (bT eb);clear Q R T U;obtain⟨Q,R,T,U⟩:=aJ (aA ej bb);have ev:(W:Nat)<b8:=by
  have h:=co.o;rcases h.2 with⟨e,-⟩|⟨g,cap,cur,e,ab,J,-⟩
  .cases e
  .cases e;exact(aP.1 J).1
 have cc:=zH (show nc W n W b8 [] [] e3 from by have ab:=co.o;have J:=ei.o;rw[gl,<-zge]at ab J;exact⟨au.ext (by unfold au;rw[bf,mP];exact ab) bb,by unfold au;rw[bf,mP];exact J,Ry,ah _,ap.size⟩)
 have db:=zH (bQ ap bb);obtain⟨ga,cK⟩:=aK W.heap.size;obtain⟨gb,cO⟩:=aK b8.heap.size;have ct:=zH (show ∀V,aj W V->aW V w (fG n A1 z c1 A2 D c2 A3 go c3) 151 from fun V h=>aA cr h);clear ev;obtain⟨a0,KB⟩:=bL (Ry:(W:Nat)<=ga) (show(W:Nat)<=gb by have:=ap.size;omega);rw[<-cK,<-cO]at cc ⊢;have e6:D.length<=33554432:=by have:=bi.o;rw[bS]at this;omega
 have fa:go.length<=33554432:=by have:=bm.o;rw[bS]at this;omega
 clear cK cO;go_wp2;go_loopw [7,25] (fun _ i wr=>∃k:Nat,k<=D.length/\i=.int .i64 k/\nc ga n ga gb ([]++D.take k) ([]) wr/\aj W wr) (fun _ i _=>D.length-(intOf i).toNat)
 case atStart=>exact⟨0,aT _,rfl,by rw[wR,mv];exact cc,db⟩
 case round=>
  obtain⟨k,ao,rfl,hc,Ey⟩:=hrel;by_cases I:k<D.length
  .obtain⟨x,hx⟩:=aw I;obtain⟨bo,bp,rfl,KA⟩:=((be wr (bQ Z Ey)).i).here (Sl:0 < (bC D).length);have b2:=KA _ _ (fk hx);have am:=ee x (aR hx);obtain⟨ad,b3⟩:=hc.at am;have hs:=(hc.inc x);have ac:([]++D.take k).count x<=33554432:=by refine bE pk ?_;have:=bi.o;exact WJ
   obtain⟨c,Ky⟩:=aK (([]++D.take k).count x);rw[<-Ky]at ad hs ac;rw[kW ([]) (D.take k),<-kd hx]at hs;have Kz:IntKind.i64.wrap ((c:Int)+1)=(c:Int)+1:=Sq;obtain⟨HS,Kx⟩:=bL hs (Ey.setCell (p:=⟨ga,x,none⟩) (by have:=hc.la;exact a0) (zI ((c:Int)+1)));clear KA hx Ky hs hc Ey;go_wp2;go_roundw
   case rel=>exact⟨k+1,Ry,RB,HS,Kx⟩
   case measure=>simp[intOf];omega
  .obtain rfl:k=D.length:=Ry;rw[pf]at hc;obtain⟨ce,ca⟩:=bL hc Ey;obtain⟨Q,R,T,U⟩:=aJ (ct.o _ Ey);obtain⟨fl,c4⟩:=aK wr;rw[<-c4]at ce ca Q R T U ⊢;clear hc Ey I ao c4;go_wp2;go_loopw [9,39] (fun _ i wr=>∃k:Nat,k<=go.length/\i=.int .i64 k/\nc ga n ga gb (([]++D)) ([]++go.take k) wr/\aj W wr) (fun _ i _=>go.length-(intOf i).toNat)
   case atStart=>exact⟨0,aT _,rfl,by rw[wR,mv];exact ce,ca⟩
   case round=>
    obtain⟨k,ao,rfl,hc,Ey⟩:=hrel;by_cases I:k<go.length
    .obtain⟨x,hx⟩:=aw I;obtain⟨bo,bp,rfl,KA⟩:=((be wr (bQ Z Ey)).o).here (Sl:0 < (bC go).length);have b2:=KA _ _ (fk hx);have am:=eg x (aR hx);obtain⟨ad,b3⟩:=hc.swap.at am;have hs:=(hc.swap.inc x).swap;have ac:([]++go.take k).count x<=33554432:=by refine bE pk ?_;have:=bm.o;exact WJ
     obtain⟨c,Ky⟩:=aK (([]++go.take k).count x);rw[<-Ky]at ad hs ac;rw[kW ([]) (go.take k),<-kd hx]at hs;exact Zk
    .obtain rfl:k=go.length:=Ry;rw[pf]at hc;obtain⟨ch,cb⟩:=bL hc Ey;obtain⟨Q,R,T,U⟩:=aJ (ct.o _ Ey);obtain⟨fn,c5⟩:=aK wr;rw[<-c5]at ch cb Q R T U ⊢;clear hc Ey I ao c5;go_wp2;go_loopw [13,15,53] (fun _ _ i wr=>∃k:Nat,k<=z.length/\i=.int .i64 k/\nc ga n ga gb (([]++D)++eG (z.take k)) (([]++go)++jN (z.take k)) wr/\aj W wr) (fun _ _ i _=>z.length-(intOf i).toNat)
     case atStart=>exact⟨0,aT _,rfl,by rw[wR];simp only[eG,jN,List.map_nil,List.flatten_nil,mv];simpa using ch.o,cb⟩
     case round=>
      obtain⟨E,e7,rfl,hc,Ey⟩:=hrel;by_cases I:E<z.length
      .obtain⟨e,O⟩:=aw I;obtain⟨e4,e5,a9,br,ba,bv,rfl,u0,u1,u2,u3,b4,b5⟩:=pY (be w (ai _ _)).es O;have a5:=bQ Z Ey
       replace u0:=ag a5 u0;replace u1:=ag a5 u1;replace u2:=ag a5 u2;replace u3:=ag a5 u3
       have a6:=zaE O;have a7:=zen O;obtain⟨bz,b0,H,F⟩:=e;dsimp only at u0 u1 u2 u3 b4 b5 a6 a7;have b6:=aR O;obtain⟨d6,d7,d4,d5,d8,d9⟩:=lq (fun x (hx:x∈H)=>(cj.o _ b6 x (aG hx):x<n)) (fun x (hx:x∈F)=>(cj.o _ b6 x (aB hx):x<n)) (fun V (h:aj w V)=>b4.ext h) (fun V (h:aj w V)=>b5.ext h) a6 a7;have bd:=zH (show(D++(eG (z.take E)++F)).length<=33554432/\(go++(jN (z.take E)++H)).length<=33554432 from by have ab:=zeo z (E+1);have J:=zhn z (E+1);have en:=bi.o;have eo:=bm.o;rw[a6]at ab;rw[a7]at J;simp only[bS]at ab J en eo ⊢;omega)
       have cn:=zH (show F.length<=33554432/\H.length<=33554432 from by have h:=bd.o;simp only[bS]at h;omega)
       obtain⟨cF,a2⟩:=dC wr (.cells (jF bz b0 a9 H br ba F bv) 166);obtain⟨b9,ci⟩:=bL (Ey.alloc Ey.size (.cells (jF bz b0 a9 H br ba F bv) 166)) (hc.ext cF);have cu:=zH (show wr.heap.size≠ga/\wr.heap.size≠gb from by have ab:=b_ hc.a ga rfl;have J:=b_ hc.b gb rfl;omega)
       clear O Ey hc a5 a6 a7 b4 b5 b6 cF;go_upto_region 16 with(fail)
       generalize wr.alloc _=fd at a2 b9 ci ⊢;obtain⟨da,c8⟩:=aK wr.heap.size;rw[<-c8]at a2 cu ⊢;obtain⟨ek,em⟩:=bL a2 cu.1;have e9:=cn.1;have e8:=cn.2;obtain⟨e0,e1,n2,e2⟩:=aJ a2;clear u0 u1 u2 u3 a2 c8;go_wp2;go_loopw [13,60] (fun _ i wr=>∃k:Nat,k<=F.length/\i=.int .i64 k/\nc ga n ga gb ((([]++D)++eG (z.take E))++F.take k) ((([]++go)++jN (z.take E))) wr/\aj W wr/\Hd (aW wr da (jF bz b0 a9 H br ba F bv) 166)) (fun _ i _=>F.length-(intOf i).toNat)
       case atStart=>exact⟨0,aT _,rfl,by rw[wR,mv];exact ci,b9,ek⟩
       case round=>
        obtain⟨k,ao,rfl,hc,Ey,cI⟩:=hrel;by_cases I:k<F.length
        .obtain⟨x,hx⟩:=aw I;obtain⟨bo,bp,rfl,KA⟩:=(d5 wr (bQ Z Ey)).here (Sl:0 < (bC F).length);have b2:=KA _ _ (fk hx);have am:=d7 x (aR hx);obtain⟨ad,b3⟩:=hc.at am;have hs:=(hc.inc x);have ac:((([]++D)++eG (z.take E))++F.take k).count x<=33554432:=by refine bE pk ?_;have:=bd.1;exact WJ
         obtain⟨c,Ky⟩:=aK (((([]++D)++eG (z.take E))++F.take k).count x);rw[<-Ky]at ad hs ac;rw[kW ((([]++D)++eG (z.take E))) (F.take k),<-kd hx]at hs;have Kz:IntKind.i64.wrap ((c:Int)+1)=(c:Int)+1:=Sq;obtain⟨HS,Kx,dT⟩:=dD hs (Ey.setCell (p:=⟨ga,x,none⟩) (by have:=hc.la;exact a0) (zI ((c:Int)+1))) ((bx wr ⟨ga,x,none⟩ (zI ((c:Int)+1)) da em).trans cI);clear KA hx Ky hs hc Ey;go_wp2;go_roundw
         case rel=>exact⟨k+1,Ry,RB,HS,Kx,dT⟩
         case measure=>simp[intOf];omega
        .obtain rfl:k=F.length:=Ry;rw[pf]at hc;obtain⟨d1,dl⟩:=bL hc Ey;obtain⟨e0,e1,n2,e2⟩:=aJ cI;clear hc Ey I ao;go_wp2;go_loopw [15,74] (fun _ i wr=>∃k:Nat,k<=H.length/\i=.int .i64 k/\nc ga n ga gb (((([]++D)++eG (z.take E))++F)) ((([]++go)++jN (z.take E))++H.take k) wr/\aj W wr) (fun _ i _=>H.length-(intOf i).toNat)
         case atStart=>exact⟨0,aT _,rfl,by rw[wR,mv];exact d1,dl⟩
         case round=>
          obtain⟨k,ao,rfl,hc,Ey⟩:=hrel;by_cases I:k<H.length
          .obtain⟨x,hx⟩:=aw I;obtain⟨bo,bp,rfl,KA⟩:=(d4 wr (bQ Z Ey)).here (Sl:0 < (bC H).length);have b2:=KA _ _ (fk hx);have am:=d6 x (aR hx);obtain⟨ad,b3⟩:=hc.swap.at am;have hs:=(hc.swap.inc x).swap;have ac:((([]++go)++jN (z.take E))++H.take k).count x<=33554432:=by refine bE pk ?_;have:=bd.2;exact WJ
           obtain⟨c,Ky⟩:=aK (((([]++go)++jN (z.take E))++H.take k).count x);rw[<-Ky]at ad hs ac;rw[kW ((([]++go)++jN (z.take E))) (H.take k),<-kd hx]at hs;exact Zk
          .obtain rfl:k=H.length:=Ry;rw[pf]at hc;obtain⟨d3,d0⟩:=bL hc Ey;clear hc Ey;go_wp2;go_roundw
           case rel=>exact⟨E+1,Ry,RB,by rw[d8.o,d9.o,<-kW,<-kW];exact d3,d0⟩
           case measure=>simp[intOf];omega
      .obtain rfl:E=z.length:=Ry;rw[pf]at hc;have d2:=zH (show nc w n ga gb (D++eG z) (go++jN z) wr from by
        have hx:=Z.size;refine⟨?_,?_,hc.ne,bE hx a0,bE hx KB⟩
        .exact hc.a.mono (bE hx a0)
        .exact hc.b.mono (bE hx a0))
       have dc:=zH (bQ Z Ey);clear hc Ey;go_wp2;exact az (v:=.tuple #[.slice (aX ga) n n,.slice (aX gb) n n]) (by simp[results,results160,go_sem, *]) rfl ⟨ga,gb,rfl,d2,dc⟩
def zax(h:g.On x):0 < (g.i++eG g.es).count x+(g.o++jN g.es).count x:=by
 have B:x∈g.i++eG g.es∨x∈g.o++jN g.es:=by
  rcases h with h|h|⟨e,z,h|h⟩
  .exact aG (s_ _ h)
  .exact aB (s_ _ h)
  .exact aB (o5 _ (qI.2 ⟨e.i,cd.2 ⟨e,z,rfl⟩,h⟩))
  .exact aG (o5 _ (qI.2 ⟨e.o,cd.2 ⟨e,z,rfl⟩,h⟩))
 rcases B with h|h
 .have:=List.count_pos_iff.2 h;omega
 .have:=List.count_pos_iff.2 h;omega
def pJ{z:Type}(f:z->List Nat)(m:Nat):∀(L:List z),(∀e∈L,(f e).length<=m)->((L.map f).flatten).length<=L*m
 |[],_=>Rx
 |e::L,h=>by
  rw[List.map_cons,zd,bS,mr,Nat.succ_mul];have:=h e (nw ..);have:=pJ f m L fun e B=>h e (nv _ B)
  omega
def zay(g:Gr)(A1 A2 A3:aq)(c1 c2 c3:Nat)(w:aa)(ab:oI w A1 A2 A3 g)(ao:g.G1)(E:sq g):ax 176 (cB (bF g A1 c1 A2 c2 A3 c3)) w (fp w (mX g)):=by
 have a7:=G1.el ao;have eg:=E.w;have cI:=E.es;have eb:=E.i;have ee:=E.o;obtain⟨da,dl⟩:=bL ao.fit (fun x (F:x<g.w)=>zax (ao.on x F));have d6:(eG g.es).length<=4096*12:=bE (pJ (·.o) 12 g.es fun e D=>(a7 e D).2) (ti _ cI);have d7:(jN g.es).length<=4096*12:=bE (pJ (·.i) 12 g.es fun e D=>(a7 e D).1) (ti _ cI);have cu:(g.i++eG g.es).length<=65536/\(g.o++jN g.es).length<=65536:=by rw[bS,bS];omega
 obtain⟨b0,c8,dc,bz,br,bv⟩:=lq cu (fun V (h:aj w V)=>vE g A1 A2 A3 c1 c2 c3 V (ab.ext h) E.inr Ry Ry Ry Ry) (fun V (h:aj w V)=>ab.ext h) E.inr (fun V (h:aj w V)=>Calls.dN (kg 0 ((g.w:Int)-1) A2 c2 (bC g.i) V (ab.ext h).i Uw) (C_ fun x F=>E.inr x (aG F))) (fun V (h:aj w V)=>Calls.dN (kg 0 ((g.w:Int)-1) A3 c3 (bC g.o) V (ab.ext h).o Uw) (C_ fun x F=>E.inr x (aB (aG F))));rw[bf]at br bv;have I:=zH (show mX g=(decide (g.w<=100)&&(decide (g.es.length<=60)&&(decide (g.i.length<=12)&&decide (g.o.length<=12)))) from rfl);obtain⟨n,z,H,go⟩:=g;dsimp only at *;obtain⟨am,cF⟩:=aK (mX ⟨n,z,H,go⟩);rw[<-cF]at I ⊢;obtain⟨a6,ap⟩:=dC w (.cells (fG n A1 z c1 A2 H c2 A3 go c3) 151);have ei:IntKind.i64.wrap ((n:Int)-1)=(n:Int)-1:=Sq;clear ab ao E a7 d6 d7 cu cF;go_enter func176,ntmps176
 go_upto_region 1 with(fail)
 generalize w.alloc _=W at a6 ap ⊢;obtain⟨HB,b1⟩:=bL a6 ap;obtain⟨R,T,U,Z⟩:=aJ ap;clear a6 ap;by_cases b8:n<=100
 .have KZ:=zH (fun V=>Calls.dN (y:=true) (aM (n:Int) 0 100 V) Sr);by_cases b9:z.length<=60
  .have d2:decide ((60:Int) < (z:Int))=false:=RX;by_cases ca:H.length<=12
   .have d3:decide ((12:Int) < (H:Int))=false:=RX;by_cases cb:go.length<=12
    .have d4:decide ((12:Int) < (go:Int))=false:=RX;obtain rfl:am=true:=by rw[I.o];simp[b8,b9,ca,cb]
     go_upto_region 3 with((first|(go_at_call 69;(refine(KZ.o _).mono ?_);rintro e w' ⟨rfl,rfl⟩)|(go_at_call 72;(with_reducible refine(br.o _ HB.o).mono ?_);rintro e w' ⟨rfl,rfl⟩)|(go_at_call 72;(with_reducible refine(bv.o _ HB.o).mono ?_);rintro e w' ⟨rfl,rfl⟩)))
     clear d2 d3 d4;obtain⟨c5,c9,db⟩:=dD (ai W W) (fun k e (D:z[k]?=some e)=>pY (dc w (ai _ _)).es D) (fun e (D:e∈z) A bp J O V (hi:aU V A (bC e.i)) (d8:aU V bp (bC e.o))=>zbK e n A bp J O V hi d8 (da e D) (fun x F=>bz x (aB (aB ⟨e,D,aG F⟩))) (fun x F=>bz x (aB (aB ⟨e,D,aB F⟩))) Ry);go_wp2;go_loopw [51] (fun i wr=>∃k:Nat,k<=z.length/\i=.int .i64 k/\aj W wr) (fun i _=>z.length-(intOf i).toNat)
     case atStart=>exact⟨0,aT _,rfl,c5⟩
     case round=>
      obtain⟨k,co,rfl,B⟩:=hrel;clear R T U Z;obtain⟨R,T,U,Z⟩:=aJ (aA b1 B);by_cases Q:k<z.length
      .obtain⟨e,D⟩:=aw Q;have cz:=aR D;obtain⟨d9,ea,a0,a4,a1,a5,rfl,u0,u1,u2,u3,cj,cn⟩:=c9.o _ _ D;have ad:=bQ HB B
       replace u0:=ag ad u0;replace u1:=ag ad u1;replace u2:=ag ad u2;replace u3:=ag ad u3
       have ba:=fun V (ce:aj w V)=>db e cz a0 a1 a4 a5 V (cj.ext ce) (cn.ext ce)
       obtain⟨b5,b7,b4,b6⟩:=e;dsimp only at u0 u1 u2 u3 ba;have c7:=zH ba;have bd:=aD wr (.cells (jF b5 b7 a0 b4 a4 a1 b6 a5) 166) rfl;have a8:=aE wr (.cells (jF b5 b7 a0 b4 a4 a1 b6 a5) 166);obtain⟨a2,b2⟩:=bL (bQ B a8) (aA (aA b1 B) a8);clear D cz cj cn ba ad B a8;go_upto_region 6 with(fail)
       generalize wr.alloc _=es at bd a2 b2 ⊢;clear u0 u1 u2 u3 R T U Z;obtain⟨em,en,n2,eo⟩:=aJ bd;obtain⟨R,T,U,Z⟩:=aJ b2;have d0:=zH (bQ HB a2);clear bd;go_wp2_with (go_at_call 186;(with_reducible refine(c7.o _ d0.o).mono ?_);rintro e ev ⟨rfl,ac⟩;have cO:=zH (bQ a2 ac);clear ac)
       go_roundw
       case rel=>exact⟨k+1,Ry,RB,cO⟩
       case measure=>simp[intOf];omega
      .obtain rfl:k=z.length:=Ry;obtain⟨c0,a3⟩:=bL B (bQ HB B);clear B Q co;obtain⟨eA,cK⟩:=aK wr;rw[<-cK]at c0 a3 R T U Z ⊢;clear cK;go_wp2_with (go_at_call 160;(with_reducible refine(c8.o _ a3.o).mono ?_);intro e bo h;unfold zit at h;obtain⟨d1,d5,cc,a9,ac⟩:=h;dsimp only at cc a9;subst cc;have c6:=zH a9;have cR:=zH (bQ a3 ac);clear a9 ac)
       clear R T U Z;have dT:=zH (ai bo bo);go_loopw [7,68] (fun _ i wr=>∃k:Nat,k<=n/\i=.int .i64 k/\aj bo wr) (fun _ i _=>n-(intOf i).toNat)
       case atStart=>exact⟨0,aT _,rfl,dT⟩
       case round=>
        obtain⟨k,co,rfl,B⟩:=hrel;by_cases Q:k<n
        .have bb:=c6.ext B;have be:=dl k Q;have bi:=(bb.at Q).1;have bm:=(bb.swap.at Q).1;have cr:=bE pk b0.1 (n:=List.count k (H++eG z));have ct:=bE pk b0.2 (n:=List.count k (go++jN z));obtain⟨J,ch⟩:=aK ((H++eG z).count k);obtain⟨O,ci⟩:=aK ((go++jN z).count k);rw[<-ch]at bi be cr;rw[<-ci]at bm be ct;have ej:IntKind.i64.wrap ((J:Int)+(O:Int))=(J:Int)+(O:Int):=Sq;have ek:((J:Int)+(O:Int)==0)=false:=by rw[<-td,qF];omega
         have c4:=zH B;have b3:=aY bi bm;clear bb ch ci B be cr ct;go_upto_region 13 with(fail)
         clear bi bm;go_region_held3 (fun V=>af V d1 k (zI (J:Nat))/\af V d5 k (zI (O:Nat)))
          (first|with_reducible exact b3|with_reducible exact mR (aF _) b3)
          ((fail))
         go_wp2;go_roundw
         case rel=>exact⟨k+1,Ry,RB,c4.drew⟩
         case measure=>simp[intOf];omega
        .obtain rfl:k=n:=Ry;go_wp2;go_ret
         exact⟨rfl,bQ cR B⟩
    .have d4:decide ((12:Int) < (go:Int))=true:=RX;obtain rfl:am=false:=by rw[I.o];simp[cb]
     exact Ye
   .have d3:decide ((12:Int) < (H:Int))=true:=RX;obtain rfl:am=false:=by rw[I.o];simp[ca]
    exact Ye
  .have d2:decide ((60:Int) < (z:Int))=true:=RX;obtain rfl:am=false:=by rw[I.o];simp[b9]
   exact Ye
 .have KZ:=zH (fun V=>Calls.dN (y:=false) (aM (n:Int) 0 100 V) (by rw[<-td,bh];omega));obtain rfl:am=false:=by rw[I.o];simp[b8]
  exact Ye
def zi9(g:Gr)(A1:aq)(c1:Nat)(A2:aq)(c2:Nat)(A3:aq)(c3:Nat)(w:aa)(e:Ending)(w':aa):Prop:=
 ((mX g=false/\e=.returned (.tuple (dP cf)))∨
 (mX g=true/\e=.returned (.tuple (eh (bF g A1 c1 A2 c2 A3 c3)))))/\aj w w'
def zai(g:Gr)(A1 A2 A3:aq)(c1 c2 c3:Nat)(w:aa)(ao:oI w A1 A2 A3 g)(ap:g.G1)(a0:sq g):ax 165 (cB (bF g A1 c1 A2 c2 A3 c3)) w (zi9 g A1 c1 A2 c2 A3 c3 w):=by
 have ad:=zH (fun V (h:aj w V)=>zay g A1 A2 A3 c1 c2 c3 V (ao.ext h) ap a0);obtain⟨n,z,B,go⟩:=g;dsimp only at *;have I:=((ai w w).alloc (ah _) (.cells (fG n A1 z c1 A2 B c2 A3 go c3) 151)).alloc Rx (.cells cf 151);have E:=(bZ (w.alloc (.cells (fG n A1 z c1 A2 B c2 A3 go c3) 151)) (.cells cf 151) (k:=w.heap.size) Rx).trans (aD w _ rfl);have O:=aD (w.alloc (.cells (fG n A1 z c1 A2 B c2 A3 go c3) 151)) (.cells cf 151) (n:=(w:Nat)+1) Rx;clear ao ap a0;go_enter func165,ntmps165
 go_upto_region 1 with(fail)
 generalize (w.alloc _).alloc _=W at I E O ⊢;obtain⟨Z,a9,ba⟩:=dD I E O;obtain⟨bd,be,bi,bm⟩:=aJ E;clear I E O;unfold zi9;cases J:mX ⟨n,z,B,go⟩
 all_goals
  rw[J]at ad;have ac:=zH J;clear J;go_wp2_with (go_at_call 176;(with_reducible refine(ad.o _ Z.o).mono ?_);rintro e bb ⟨rfl,D⟩;have ab:=zH (bQ Z D);have F:=aA ba D;obtain⟨a5,a6,a7,a8⟩:=aJ F;obtain⟨f0,f1,f2,f3⟩:=cH F;have a1:=aA a9 D;obtain⟨a2,a3,p2,a4⟩:=aJ a1;have am:=zH F;clear F a1 D)
 .have y:=cJ (v0:=()) (v1:=fA) (v2:=fA) (v3:=fA) am;obtain⟨Q,R,T,U⟩:=aJ y;unfold ed at Q R T U;have H:=zH (cX ab (b:=(w:Nat)+1) Ry (zI 0) (.slice none 0 0) (.slice none 0 0) (.slice none 0 0));clear y a5 a6 a7 a8 f0 f1 f2 f3 a2 a3 p2 a4;exact az (v:=.tuple (dP cf)) Vq rfl ⟨aG ⟨ac,rfl⟩,H.o⟩
 .have y:=cJ (v0:=.int .i64 (n:Nat)) (v1:=.slice A1 z c1) (v2:=.slice A2 B c2) (v3:=.slice A3 go c3) am;obtain⟨Q,R,T,U⟩:=aJ y;unfold ed at Q R T U;have H:=zH (cX ab (b:=(w:Nat)+1) Ry (zI (n:Nat)) (.slice A1 z c1) (.slice A2 B c2) (.slice A3 go c3));clear y a5 a6 a7 a8 f0 f1 f2 f3 a2 a3 p2 a4;exact az (v:=.tuple (eh (fG n A1 z c1 A2 B c2 A3 go c3))) Vq rfl ⟨aB ⟨ac,rfl⟩,H.o⟩

end Go.Proofs.YtdpgblncijojiaaGreatDoor
