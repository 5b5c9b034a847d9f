/- Parts of the walks. Conditions: as stated with each. -/
import Derived.Test.YtdpgblncijojiaaGreatDoorPk26
import Derived.Test.YtdpgblncijojiaaGreatDoorPk30
namespace Go.Proofs.YtdpgblncijojiaaGreatDoor
open Go.RowKit Tryz
set_option linter.all false
set_option maxHeartbeats 8000000
set_option maxRecDepth 100000
variable{A Ri:aq}{B' D b c i k n:Nat}{E w w' wr:aa}{Rv:dE}{X ys:List cZ}{e:Ending}{p:Int}{s:Sy}{u v:av}{us:bN}{xs:aH}



def jh.ext{rows:aC}(h:jh w A rows)(z:aj w w'):jh w' A rows:=h.imp id fun⟨b,o,e,H⟩=>⟨b,o,e,fun k r I=>by obtain⟨B,cap,D,E,F⟩:=H k r I;exact⟨B,cap,ag z D,E,F.ext z⟩⟩
def er.frC{rows:aC}(h:er w D A rows)(z:D<=(w:Nat)):Fr w D w (fun W=>jh W A rows):=qq (fun W B=>h W B) (fun _ _ E h=>h.ext E) z


def m5(h:aU w Ri xs)(l:Nat):aU w Ri (xs.take l):=by
 rcases h with h|⟨b,o,e,z⟩
 .exact aG (by rw[h];simp)
 .exact aB ⟨b,o,e,fun k x B=>z k x (yi B)⟩
def CP{o:Nat}(h:aU w (some ⟨b,o,none⟩) xs)(l:Nat):aU w (some ⟨b,o+l,none⟩) (xs.drop l):=by
 rcases h with h|⟨D,E,e,B⟩
 .exact aG (by rw[h];simp)
 .cases e
  refine aB ⟨b,o+l,rfl,fun k x z=>?_⟩;rw[fI]at z;have:=B _ x z;rwa[<-qD]at this
def dU(p:Int)(s:Sy)(x:cZ):cZ:=⟨uK true x.k,uA true x.k x.a,uB true x.k x.b,uC true p x.k x.c,uR true s.rows x.k x.a⟩
def j8(p:Int)(s:Sy)(xs:List cZ)(n:Nat):List cZ:=(List.range n).map fun i=>dU p (dn p s xs i) (xs.getD i zdH)
def im(p:Int)(s:Sy)(xs:List cZ)(n:Nat):(j8 p s xs n).length=n:=by simp[j8]
def BS{xs:List cZ}{x:cZ}(h:xs[n]?=some x):j8 p s xs (n+1)=j8 p s xs n++[dU p (dn p s xs n) x]:=by simp[j8,mo,bg,h]
def zfs{xs:List cZ}{x:cZ}(h:xs[i]?=some x)(hi:i<n):(j8 p s xs n)[i]?=some (dU p (dn p s xs i) x):=by simp[j8,hi,bg,h]
def zft{x:cZ}(h:Small s):(dU p s x).row.length<=1000:=by
 unfold dU uR;dsimp only;rw[ar rfl];split
 .by_cases z:x.a.toNat<s.rows.length
  .exact h.len _ (gT z)
  .rw[bg,fy Ry];simp
 .simp
def BU{xs:List cZ}(B:s.Ok p)(h:xs.length<=bB p s xs):∀r∈j8 p s xs xs,r.row.length<=1000:=by intro r z;obtain⟨i,hi,rfl⟩:=cd.1 z;exact zft (jP B (by have:=dQ.1 hi;omega)).small
def c_(X:List cZ)(ok:Bool)(w:aa)(e:Ending)(w':aa):Prop:=
 ∃u,e=.returned (.tuple #[u,.bool ok])/\bX w' w u X/\aj w w'
def c_.mk{ok:Bool}(B:e=.returned (.tuple #[u,.bool ok]))(D:bX w' w u X)(z:aj w w'):c_ X ok w e w':=⟨u,B,D,z⟩
def zfu(p:Int)(s:Sy)(x:cZ)(A:aq)(cap:Nat)(w:aa)(z:aq)(D:Nat)(H:cU w)(I:aL w A s.rows)(J:aU w z x.row)(R:x.row.length<=1048576)(T:s.Ok p)(Q:eZ p s x=true):ax 41 (ew p (ae s.v s.h A s.rows cap) (dk x.k x.a x.b x.c z x.row D)) w fun e w'=>∃A2 c2,e=.returned (.tuple (eh (ks (dU p s x).k (dU p s x).a (dU p s x).b (dU p s x).c A2 (dU p s x).row c2)))/\au w' w (.slice A2 (dU p s x).row c2) (dU p s x).row/\aj w w':=by
 refine(vT p s.v s.h x.k x.a x.b x.c A cap s.rows w z x.row D H I J R T true Q).mono fun e w' O=>?_
 obtain⟨u,E,B,F⟩:=O;obtain⟨A2,c2,rfl,_⟩:=B.view;exact⟨A2,c2,E,B,F⟩
def zg4(p:Int)(s:Sy)(x:cZ)(A:aq)(cap:Nat)(w:aa)(z:aq)(B:Nat)(H:cU w)(I:aL w A s.rows)(J:aU w z x.row)(R:x.row.length<=1048576)(T:s.Ok p)(Q:eZ p s x=false):ax 41 (ew p (ae s.v s.h A s.rows cap) (dk x.k x.a x.b x.c z x.row B)) w fun e w'=>∃(a b c d:Int) (A2:aq) (n2 c2:Nat),e=.returned (.tuple (dP (ks a b c d A2 n2 c2)))/\aj w w':=by
 refine(vT p s.v s.h x.k x.a x.b x.c A cap s.rows w z x.row B H I J R T false Q).mono fun e w' O=>?_
 obtain⟨u,D,E,F⟩:=O;obtain⟨A2,c2,rfl,_⟩:=E.view;exact⟨_,_,_,_,A2,_,c2,D,F⟩
def zcO(p:Int)(s:Sy)(x:cZ)(A:aq)(cap:Nat)(w:aa)(z:aq)(D:Nat)(H:aL w A s.rows)(O:s.Ok p)(J:eZ p s x=true):ax 90 (ew p (ae s.v s.h A s.rows cap) (dk x.k x.a x.b x.c z x.row D)) w fun e w'=>∃A2 c2,e=.returned (.agg (ks (dU p s x).k (dU p s x).a (dU p s x).b (dU p s x).c A2 (dU p s x).row c2))/\au w' w (.slice A2 (dU p s x).row c2) (dU p s x).row/\aj w w':=by
 refine(zbU p s.v s.h x.k x.a x.b x.c A cap s.rows w z x.row D H O J).mono fun e w' I=>?_
 obtain⟨u,E,B,F⟩:=I;obtain⟨A2,c2,rfl,_⟩:=B.view;exact⟨A2,c2,E,B,F⟩
def Kept(w wr:aa)(z:Nat)(A:aq)(c:Nat)(rows:aC):Prop:=aL w A rows∨aI wr z (.slice A rows c) rows
def Kept.rows{rows:aC}(h:Kept w wr D A c rows)(z:aj w wr):aL wr A rows:=by
 rcases h with h|h
 .exact h.ext z
 .exact uZ h
def Kept.ext{rows:aC}(h:Kept w wr D A c rows)(z:aj wr E):Kept w E D A c rows:=h.imp id fun h=>h.ext z
def Kept.grown{rows:aC}{xs:bN}(h:Kept w wr D A c rows)(B:wr.ownsRow B' 29 5 v n xs)(z:wr.grownBy E v.ownBlock):Kept w E D A c rows:=h.imp id fun h=>h.qO RC RC B z
def zfv(p:Int)(s:Sy)(xs:List cZ)(w:aa)(e:Ending)(w':aa):Prop:=
 (bB p s xs<xs.length->e=.returned (.tuple iG))/\
 (bB p s xs=xs.length->∃A c,e=.returned (.tuple #[.slice A xs c,.bool true])/\bX w' w (.slice A xs c) (j8 p s xs xs).reverse)/\aj w w'
def zia(p:Int)(s:Sy)(xs:List cZ)(w:aa)(k:Nat)(u8:av)(wr:aa):Prop:=
 k<=bB p s xs/\(∃z B us,u8=.slice z k B/\bG wr ((w:Nat)+1) (.slice z k B) (j8 p s xs k) us)/\
 (∃A1 c1,aW wr w (dp (dn p s xs k).v (dn p s xs k).h A1 (dn p s xs k).rows c1) 26/\Kept w wr ((w:Nat)+1) A1 c1 (dn p s xs k).rows)/\aj w wr
def tJ(p:Int)(s:Sy)(A:aq)(cap:Nat)(xs:List cZ)(w:aa)(D:aq)(I:Nat)(cK:cU w)(cO:aL w A s.rows)(cR:fF w D xs)(d3:s.Ok p)(fo:xs.length<=3000)(dl:∀x∈xs,x.row.length<=1048576):ax 51 (wA p (ae s.v s.h A s.rows cap) D xs I) w (zfv p s xs w):=by
 obtain⟨e2,bv,FO,em⟩:=fS cR cK d3 dl;have d8:zia p s xs w 0 (.slice (some ⟨(w:Nat)+1,0,none⟩) 0 0) ((w.alloc (.cells (ae s.v s.h A s.rows cap) 26)).alloc (.cells #[] 29)):=by
  have cI:Below w w (w.alloc (.cells (ae s.v s.h A s.rows cap) 26)):=(ai w w).alloc Rx _;obtain⟨us,E⟩:=bX.lit (w.alloc (.cells (ae s.v s.h A s.rows cap) 26)) ((w:Nat)+1) Rx;simp only[cx]at E;refine⟨aT _,⟨_,0,us,rfl,E⟩,⟨A,cap,?_,aG ?_⟩,cI.alloc cI.size _⟩
  .rw[ij];exact(bZ _ _ Rx).trans (aD _ _ rfl)
  .rw[ij];exact cO
 have cr:=zH d8;clear cO cR cK d3 dl d8;go_enter func51,ntmps51
 go_wp2;go_loopw [8,16] (fun u i wr=>∃k:Nat,k<=xs.length/\i=.int .i64 k/\zia p s xs w k u wr)
  (fun _ i _=>xs.length-(intOf i).toNat)
 case atStart=>exact⟨0,aT _,rfl,cr⟩
 case round=>
  obtain⟨k,fn,rfl,Fp,⟨a1,a6,us,rfl,d4⟩,⟨A1,c1,d5,da⟩,c4⟩:=hrel;clear cr;obtain⟨Gj,a4,a3,F⟩:=fS d4 d5 da c4;obtain⟨H,Gx⟩:=aK (dn p s xs k);obtain⟨Gy,br⟩:=bL Gx (Ur:H.Ok p);rw[<-Gx]at a4 a3;clear d4 d5 da c4 Gx;by_cases dc:k<xs.length
  .obtain⟨x,bb⟩:=aw dc;obtain⟨b,o,rfl,c5⟩:=e2.here dc;obtain⟨be,b2,ea,c9⟩:=c5 k x bb;obtain⟨Q,R,T,U,Z⟩:zV wr b (o+k*5) x be b2:=ea.ext F;obtain⟨bz,bp,am⟩:=dD (em x (aR bb)) c9 bb;clear c5 c9 bb ea;go_upto_region 5 with(fail)
   obtain⟨cz,Er⟩:=aK (wr.alloc (.cells (dk x.k x.a x.b x.c be x.row b2) 29));rw[<-Er];have a7:aj wr cz:=VH;have b7:aW cz wr (dk x.k x.a x.b x.c be x.row b2) 29:=Um;obtain⟨ab,e3,ac⟩:=dD a7 b7 (an F a7);clear Q R T U Z;obtain⟨d0,d1,d2,_⟩:=dj (aA a4 a7);obtain⟨Q,R,T,U,Z⟩:=bO b7;clear a7 b7 Er;cases a9:eZ p H x with
   |false=>
    have HO:=zH a9;clear a9;have a5:=zH (fun(A cap W D I E ao ap)=>zg4 p H x A cap W D I E ao ap bz br HO);go_upto_region 6 with(go_at_call 41;refine(a5.o _ _ _ _ _ (bv.ext ac) ((a3.rows F).ext ab) (bp.ext ac)).mono ?_;rintro e bd ⟨f6,f7,f8,f9,A3,f5,c3,rfl,B⟩;clear d0 d1 d2 Q R T U Z;have a2:=zH (an ac B);clear B)
    go_wp2;have b5:=zo Fp am T4;refine az (v:=.tuple iG) UQ rfl ⟨fun _=>rfl,fun h=>Ry,a2.alloc a2.size _⟩
   |true=>
    have HO:=zH a9;clear a9;obtain⟨z,cb⟩:=aK (dU p H x);obtain⟨e4,a5⟩:=bL cb (fun(A cap W D I E ao ap)=>zfu p H x A cap W D I E ao ap bz br HO);rw[<-cb]at a5;clear cb;obtain⟨O,b9⟩:=aK (cq p H x);obtain⟨co,cu⟩:=bL b9 (fun(A cap W D I E ao ap)=>Dt p H x A cap W D I E ao ap bz br HO);rw[<-b9]at cu;clear b9;go_upto_region 6 with(go_at_call 41;refine(a5.o _ _ _ _ _ (bv.ext ac) ((a3.rows F).ext ab) (bp.ext ac)).mono ?_;rintro e bd ⟨A3,c3,rfl,a0,B⟩;clear d0 d1 d2 Q R T U Z;have a2:=zH B;have eA:=zH a0;clear a0 B)
    obtain⟨b0,a8⟩:=aK (bd.alloc (.cells (dk z.k z.a z.b z.c A3 z.row c3) 29));rw[<-a8];have b4:aj bd b0:=by rw[a8];exact(ai _ _).alloc (ah _) _
    have d6:aW b0 bd (dk z.k z.a z.b z.c A3 z.row c3) 29:=by rw[a8];exact aD _ _ rfl
    have b3:=an a2 b4;have J:=an ab b3;obtain⟨eb,cj⟩:=bL (an F J) (Gj.ext J);have ca:=eA.ext b4;have eg:=zH ((Gj.ext ab).fresh ca);have fz:=J.size;have fs:=(aP.1 a4).1;obtain⟨e0,ct,es,ej⟩:=fS (ca.mono (B':=(w:Nat)+1) (by have:=ab.size;omega)) (aA e3 b3) (aA a4 J) (a3.ext J);obtain⟨e8,e9,fa,fb,fd⟩:=bO d6;clear b4 d6 b3 J ca a8;have ci:=zH (im p s xs k);go_upto_region 9 with(at_builtin;refine ng rfl (.tmp 29) (.tmp 31) rfl ((w:Nat)+1) b0 (.slice a1 k a6) (.slice A3 z.row c3) (j8 p s xs k) us z cj.o e0.o eg.o (by rw[ci.o];omega) Ry rfl rfl ?_;intro e5 cF ga b6 c8 c0;rw[ci.o]at b6 ⊢;have eo:=zH b6;have ce:=zH c8;have bm:=zH c0;clear b6 c8 c0 e8 e9 fa fb fd)
    have b8:=(bm.block w Ry).trans es;have d9:=(ce.block wr (by have:=(aP.1 ct).1;exact this) (fun e=>Vs)).trans ct;obtain⟨cn,ek,ad⟩:=dD b8 (ej.grown cj.outer ce) (eb.trans (bm.mono Ry));obtain⟨d0,d1,d2⟩:=al b8;obtain⟨Q,R,T,U,Z⟩:=bO d9;clear b8 d9;go_wp2_with (go_at_call 34;refine(cu.o _ _ _ _ _ (bv.ext ad) (ek.rows ad) (bp.ext ad)).mono ?_;rintro e cc ⟨bi,b1,rfl,a0,B⟩;clear d0 d1 d2 Q R T U Z;have bo:=zH B;have e1:=zH a0;obtain⟨d0,d1,d2,f0,f1,f2⟩:=dj (aA cn B);clear a0 B)
    have c6:zia p s xs w (k+1) (.slice (aX e5) (k+1) cF) (((cc.setCell ⟨w,0,none⟩ (zI O.v)).setCell ⟨w,1,none⟩ (zI O.h)).setCell ⟨w,2,none⟩ (.slice bi O.rows b1)):=by
     have f3:=ad.size;have f4:=bm.size;have d7:∀j,(w:Nat)+1<=j->(((cc.setCell ⟨w,0,none⟩ (zI O.v)).setCell ⟨w,1,none⟩ (zI O.h)).setCell ⟨w,2,none⟩ (.slice bi O.rows b1)).heap[j]?=cc.heap[j]?:=fun j fl=>by rw[dh _ _ _ _ Sn,dh _ _ _ _ Sn,dh _ _ _ _ Sn]
     refine⟨zn Fp am T4,⟨_,cF,us++[.slice A3 z.row c3],rfl,?_⟩,⟨bi,b1,?_,aB ?_⟩,jZ (an ad bo) (ah _) _ _ _⟩
     .rw[BS am,<-Gy.o,<-e4.o];exact(eo.ext bo).same d7
     .rw[je am,<-Gy.o,<-co.o];exact oh (aA cn bo)
     .rw[je am,<-Gy.o,<-co.o];exact(e1.mono Ry).same d7
    have ee:=zH c6;clear c6;go_roundw
    case rel=>exact⟨k+1,Ry,RB,ee⟩
    case measure=>simp[intOf];omega
  .have db:k=xs.length:=Ry;have b5:bB p s xs=xs.length:=by have:=iz p xs s;omega
   have ba:=Dw ((w:Nat)+1) a1 a6 (j8 p s xs k) wr (by rw[im];exact⟨us,Gj⟩) (by rw[im];omega);unfold zdf at ba;rw[im]at ba;obtain⟨ev,ch,Ja⟩:=dD ba db b5;clear db b5 ba;go_wp2_with (go_at_call 92;refine ev.mono ?_;rintro e e7 ⟨rfl,dT,c7⟩;have en:=zH dT;have ei:=zH c7;clear dT c7)
   have e6:aj w e7:=qC F ei (by have:=F.size;omega) (fun b B=>by have:=(Gj.lt _ B).1;omega);refine az (v:=.tuple #[.slice a1 k a6,.bool true]) UQ rfl ⟨fun h=>Tg,fun _=>⟨a1,a6,?_,?_⟩,e6⟩
   .rw[<-ch.o]
   .rw[<-ch.o];exact en.mono Ry
def jn.qO{w w':aa}{B B' s n:Nat}{z:dE}{u v:av}{ys:List Sy}{us xs:bN}(h:jn w B u ys us)(F:26≠z)(H:27≠z)(I:3≠z)(E:w.ownsRow B' z s v n xs)(D:w.grownBy w' v.ownBlock):jn w' B u ys us:=⟨h.len,ic h.outer D (iY F h.outer E),fun k Q r O J=>(h.each k Q r O J).qO H I E D⟩
def jn.at3{g cap:Nat}{ys:List Sy}{y:Sy}(F:n=ys.length)(h:jn w D (.slice (aX g) n cap) ys us)(B:ys[k]?=some y):∃A c,(af w g (k*3) (zI y.v)/\af w g (k*3+1) (zI y.h)/\af w g (k*3+2) (.slice A y.rows c))/\aL w A y.rows:=by
 subst F;have O:=(bs.1 B).1;obtain⟨u,J,H⟩:=h.get B;obtain⟨A,c,rfl,I,_⟩:=H.view;have z:∀j,j<3->w.cell? ⟨g,k*3+j,none⟩=(iS y (.slice A y.rows c))[j]?:=fun j E=>by rw[h.outer.cellAt _ Ry,sV E B J]
 exact⟨A,c,⟨z 0 RC,z 1 RC,z 2 RC⟩,I⟩
def ziH(X:List cZ)(w:aa)(e:Ending)(w':aa):Prop:=∃u,e=.returned u/\bX w' w u X/\aj w w'
def ziI(p:Int)(s:Sy)(xs:List cZ)(w:aa)(g m D k:Nat)(u8:av)(wr:aa):Prop:=
 k<=xs.length/\(∃z B us,u8=.slice z k B/\bG wr ((w:Nat)+1) (.slice z k B) ((j8 p s xs xs).reverse.take k) us)/\
 (∃E,jn wr ((w:Nat)+1) (.slice (aX g) m D) (q7 p s xs (xs.length+1)) E)/\aj w wr
def zco(p:Int)(s:Sy)(A:aq)(cap:Nat)(xs:List cZ)(w:aa)(D:aq)(R:Nat)(b6:aL w A s.rows)(am:fF w D xs)(a2:s.Ok p)(ap:bB p s xs=xs.length)(eb:xs.length<=3000)(a1:∀x∈xs,x.row.length<=1048576):ax 97 (wA p (ae s.v s.h A s.rows cap) D xs R) w (ziH (j8 p s xs xs).reverse w):=by
 have O:Below w w (w.alloc (.cells (ae s.v s.h A s.rows cap) 26)):=(ai w w).alloc Rx _;obtain⟨bi,br,dc,c8,d6,Ja⟩:=lq O (Cz p s A cap xs _ D R (b6.ext O) (am.ext O) a2 Ry a1) am a2 a1 ap;obtain⟨m,a0⟩:∃m:Nat,m=xs.length+1:=⟨_,rfl⟩;have bo:=zH (show ∀W e w',zgF p s xs W e w'->∃(g c:Nat),e=.returned (.slice (aX g) m c)/\(∃H,jn w' W.heap.size (.slice (aX g) m c) (q7 p s xs (xs.length+1)) H)/\aj W w' from fun W e w' h=>by obtain⟨g,c,h1,J,d0⟩:=h;rw[ap]at h1 J;rw[a0];exact⟨g,c,h1,J,d0⟩)
 have c4:=zH a0;have eg:xs.length<m:=Ry;have ee:m<=3001:=Ry;clear O b6 am a2 a1 ap a0;go_enter func97,ntmps97
 go_wp2_with (go_at_call 50;refine br.mono ?_;rintro e cz cn;obtain⟨g,ad,rfl,F,ao⟩:=bo.o _ _ _ cn;have b2:=zH F;have d7:=zH ao.size;have bm:=zH (an bi ao);clear F ao cn)
 have cr:ziI p s xs w g m ad 0 (.slice none 0 0) cz:=by obtain⟨us,h1⟩:=bX.nil cz ((w:Nat)+1);obtain⟨H,J⟩:=b2.o;exact⟨aT _,⟨none,0,us,rfl,St⟩,⟨H,J.mono Rx⟩,bm⟩
 have bz:=zH cr;clear cr b2 bm br bo bi;go_loopw [8,9] (fun u i wr=>∃(k:Nat) (q:Int),i=.int .i64 q/\Hd (q=(xs:Int)-1-k)/\-1<=q/\q<=3000/\ziI p s xs w g m ad k u wr)
  (fun _ i _=>(intOf i+1).toNat)
 case atStart=>exact⟨0,_,rfl,zH Rx,Ry,Ry,bz⟩
 case round=>
  obtain⟨k,q,rfl,HQ,ei,ej,d9,⟨cF,dl,us,rfl,cj⟩,⟨H,F⟩,b9⟩:=hrel;clear bz;obtain⟨Z,ab,I⟩:=dD cj F b9;clear cj F b9;by_cases ea:0<=q
  .obtain⟨j,d2⟩:∃j:Nat,(j:Int)=q:=⟨q.toNat,Ry⟩;subst d2;have ce:j<xs.length:=SY;have d8:j<m:=Ry;obtain⟨x,Q⟩:=aw ce;obtain⟨b,o,rfl,ca⟩:=dc.here ce;obtain⟨U,ac,cu,d1⟩:=ca j x Q;obtain⟨a5,a6,a7,a8,a9⟩:zV wr b (o+j*5) x U ac:=cu.ext I;obtain⟨z,E⟩:=aK (dn p s xs j);have ch:j<=bB p s xs:=Tg;obtain⟨c9,c6⟩:=bL (by rw[E];exact jP c8 ch:z.Ok p) (show eZ p z x=true by rw[E];exact wV Tg Q);obtain⟨be,b5,⟨ba,bb,bd⟩,co⟩:=ab.at3 (by rw[A_];exact c4) (by rw[E];exact Ba _ _ _ _ _ Ry:(q7 p s xs (xs.length+1))[j]?=some z);have da:=zH co;obtain⟨T,a4⟩:=aK (dU p z x);have b3:=zH (fun(A cap W D R h1)=>zcO p z x A cap W D R h1 c9 c6);rw[<-a4]at b3;have cc:j+k+1=xs.length:=SY;have db:=zH (show(j8 p s xs xs).reverse.take (k+1)=(j8 p s xs xs).reverse.take k++[T] by rw[fZ,List.getElem?_reverse (by rw[im];omega),im,show xs.length-1-k=j by omega,zfs Q Ry,a4,E];rfl)
   obtain⟨b0,cR⟩:=bL (by rw[dX,nt,im];omega:((j8 p s xs xs).reverse.take k).length=k) cc;clear ca d1 Q cu ch E a4 co cc;go_upto_region 6 with(fail)
   refine bk (S:=fun W=>af W b (o+j*5) (zI x.k)/\af W b (o+j*5+1) (zI x.a)/\af W b (o+j*5+2) (zI x.b)/\af W b (o+j*5+3) (zI x.c)/\af W b (o+j*5+4) (.slice U x.row ac)/\af W g (j*3) (zI z.v)/\af W g (j*3+1) (zI z.h)/\af W g (j*3+2) (.slice be z.rows b5)) 12 RU ⟨a5,a6,a7,a8,a9,ba,bb,bd⟩ (fun hHeld=>?_);refine ay 0 ?_;refine ay 1 ?_;refine ay 2 ?_;refine ay 3 ?_;refine ay 4 ?_;refine ay 5 ?_;refine ay 6 ?_;refine ay 7 ?_;refine ay 8 ?_;refine ay 9 ?_;refine bu 10 fun K hK=>?_
   go_simp;refine(b3.o _ _ _ _ _ (da.ext (ai _ _).drew)).mono ?_;rintro e d4 ⟨A2,c2,rfl,ct,b7⟩;obtain⟨B,b1,bv⟩:=dD ((ai wr wr).drew.trans b7) ct (fun w' (h:aj wr w')=>(⟨ag h a5,ag h a6,ag h a7,ag h a8,ag h a9,ag h ba,ag h bb,ag h bd⟩:af w' b (o+j*5) (zI x.k)/\af w' b (o+j*5+1) (zI x.a)/\af w' b (o+j*5+2) (zI x.b)/\af w' b (o+j*5+3) (zI x.c)/\af w' b (o+j*5+4) (.slice U x.row ac)/\af w' g (j*3) (zI z.v)/\af w' g (j*3+1) (zI z.h)/\af w' g (j*3+2) (.slice be z.rows b5)));clear ct b7 a5 a6 a7 a8 a9 ba bb bd;go_simp;refine hK.out _ _ (fun _=>bv.o _ B.o) (fun hHeld=>?_);clear hK K;try simp only[Act.put,zA]
   have hHeld:=hHeld RC;refine bu 11 fun K hK=>?_
   go_simp;refine hK.out _ _ (fun _=>bv.o _ (B.alloc B.size _)) (fun hHeld=>?_);clear hK K;try simp only[Act.put,zA]
   have hHeld:=hHeld RC;refine bu 12 fun K hK=>?_
   obtain⟨bp,cK⟩:=bL (Z.ext B) (Z.fresh (b1.o));have em:=I.size;have ek:=B.size;have d3:(w:Nat)+1<=wr:=by have h1:=(ab.outer);have:=b_ h1 g rfl;omega
   refine oy rfl (.tmp 21) (.tmp 32) rfl ((w:Nat)+1) d4 (.slice cF k dl) (.slice A2 T.row c2) ((j8 p s xs xs).reverse.take k) us T bp.o (b1.mono (by simpa using d3)) cK.o (by rw[b0.o];omega) Ry rfl rfl ?_;intro dT b4 d5 a3 cb b8;rw[b0.o]at a3 ⊢;obtain⟨c7,cI,cO⟩:=dD a3 b8 cb;clear a3 cb b8;refine hK.out _ _ (fun h=>absurd h RC) (fun _=>?_);clear hK K;try simp only[Act.put,zA]
   refine bu 13 fun K hK=>?_
   go_simp;refine hK.out _ _ (fun h=>absurd h RC) (fun _=>?_);clear hK K hHeld;try simp only[Act.put,zA]
   refine dS RU ?_ _;have ci:ziI p s xs w g m ad (k+1) (.slice (aX dT) (k+1) b4) d5:=by refine⟨by have:=cR.o;omega,⟨_,b4,us++[.slice A2 T.row c2],rfl,by rw[db.o];exact c7⟩,⟨H,(ab.ext B).qO RC RC RC bp.outer cO⟩,(an I B).trans (cI.mono Ry)⟩
   have c5:=zH ci;clear ci;go_wp2;go_roundw
   case rel=>exact⟨k+1,_,rfl,zH SY,Ry,Ry,c5⟩
   case measure=>simp[intOf] <;>omega
  .have c0:=zH (show k=xs.length by have:=HQ.o;omega);go_wp2;go_ret
   refine⟨_,rfl,?_,I⟩;have:=Z.o;rw[fO (by rw[nt,im];have:=c0.o;omega)]at this;exact⟨us,this.mono Ry⟩
def unX(p:Int)(s:Sy)(xs:List cZ):List cZ:=if yu p s xs=true then(j8 p s xs xs).reverse else[]
def zaZ{xs:List cZ}:yu p s xs=true↔s.Ok p/\xs.length<=3000/\bB p s xs=xs.length:=by unfold yu;rw[bn,vG,cw,and_assoc]
def ziJ(p:Int)(s:Sy)(xs:List cZ):(unX p s xs).length<=1048576/\∀r∈unX p s xs,r.row.length<=1048576:=by
 unfold unX;split
 .rename_i h;obtain⟨z,D,E⟩:=zaZ.1 h;refine⟨SV,fun r B=>?_⟩;have:=BU z Ry r (List.mem_reverse.1 B);omega
 .simp
def zcq(p:Int)(s:Sy)(A:aq)(cap:Nat)(xs:List cZ)(T:aq)(ao:Nat)(w:aa)(ab:cU w)(ac:aL w A s.rows)(be:s.rows.length<=1048576)(a2:∀r∈s.rows,r.length<=1048576)(F:fF w T xs)(bi:xs.length<=1048576)(a3:∀x∈xs,x.row.length<=1048576):ax 20 (wA p (ae s.v s.h A s.rows cap) T xs ao) w (c_ (unX p s xs) (yu p s xs) w):=by
 have I:=zH ((ai w w).alloc (ah _) (.cells (ae s.v s.h A s.rows cap) 26));have J:=zH (yf p s A cap xs _ T ao (ab.ext I) (ac.ext I) be a2 bi);have a5:(w.alloc (.cells (ae s.v s.h A s.rows cap) 26)).heap[w.heap.size]?=some (.cells (ae s.v s.h A s.rows cap) 26 (0,0)):=aD _ _ rfl;obtain⟨ap,a9,ba,bd,a8⟩:=l_ a5 ab ac F a3;clear ab ac F a2 a3 a5;cases H:Dp p s xs.length with
 |false=>
  have R:=zH H;rw[H]at J;clear H;have z:yu p s xs=false:=by unfold yu;rw[R.o,kz]
  have D:unX p s xs=[]:=by unfold unX;rw[z,ak RC]
  rw[z,D];clear z D;go_enter func20,ntmps20
  go_wp2_with (go_at_call 47;refine J.o.mono ?_;rintro e a7 ⟨rfl,B⟩;have E:=zH (an I B);clear B)
  exact az (v:=.tuple iG) UL rfl (c_.mk rfl (bX.nil _ _) E.o)
 |true=>
  have R:=zH H;rw[H]at J;clear H;obtain⟨a4,bm⟩:=vG.1 R.o;have a0:=zH (fun(W:aa) (ad:aj w W)=>tJ p s A cap xs W T ao (a9.ext ad) (ba.ext ad) (bd.ext ad) a4 bm a8);clear a4;have a1:=iz p xs s;by_cases am:bB p s xs<xs.length
  .have Z:=zH (show ∀W e w',zfv p s xs W e w'->e=.returned (.tuple iG)/\aj W w' from fun W e w' h=>⟨h.1 am,h.2.2⟩);have z:yu p s xs=false:=by unfold yu;rw[fh Ry,y9]
   have D:unX p s xs=[]:=by unfold unX;rw[z,ak RC]
   rw[z,D];clear am a1 z D;go_enter func20,ntmps20
   go_wp2_with (first|(go_at_call 47;refine J.o.mono ?_;rintro e a7 ⟨rfl,B⟩;have E:=zH (an I B);obtain⟨d0,d1,d2⟩:=al (aA ap B);clear B)|(go_at_call 51;refine(a0.o _ E.o).mono ?_;rintro e bo Q;obtain⟨rfl,O⟩:=Z.o _ _ _ Q;have U:=zH (an E.o O);clear O Q d0 d1 d2))
   exact az (v:=.tuple iG) UL rfl (c_.mk rfl (bX.nil _ _) U.o)
  .have z:yu p s xs=true:=by unfold yu;rw[R.o,fJ Ry];rfl
   obtain⟨X,F⟩:=aK ((j8 p s xs xs).reverse);have D:unX p s xs=X:=by unfold unX;rw[ar z,F]
   have Z:=zH (show ∀W e w',zfv p s xs W e w'->∃(A:aq) (n c:Nat),e=.returned (.tuple #[.slice A n c,.bool true])/\bX w' W.heap.size (.slice A n c) X/\aj W w' from fun W e w' h=>by obtain⟨A2,c2,z,D⟩:=h.2.1 Ry;rw[F];exact⟨_,_,_,z,D,h.2.2⟩)
   rw[z,D];clear am a1 z D F;go_enter func20,ntmps20
   go_wp2_with (first|(go_at_call 47;refine J.o.mono ?_;rintro e a7 ⟨rfl,B⟩;have E:=zH (an I B);have bp:=zH B.size;obtain⟨d0,d1,d2⟩:=al (aA ap B);clear B)|(go_at_call 51;refine(a0.o _ E.o).mono ?_;rintro e bo Q;obtain⟨A2,n2,c2,rfl,a6,O⟩:=Z.o _ _ _ Q;have U:=zH (an E.o O);have bb:=zH (a6.mono (B':=w.heap.size) E.o.size);clear O Q d0 d1 d2 a6))
   exact az (v:=.tuple #[.slice A2 n2 c2,.bool true]) UL rfl (c_.mk rfl bb.o U.o)


def bG.form{w:aa}{B cap:Nat}{us:bN}(h:bG w B (.slice A n cap) ys us)(I:0<ys.length):∃g,A=some ⟨g,0,none⟩/\n<=cap/\cap<=maxLen/\n=ys.length:=by
 rcases h.outer.2 with⟨e,E⟩|⟨g,c,cur,e,F,H,z,D,_⟩
 .omega
 .cases e;exact⟨g,rfl,z,D,rfl⟩
def Kept.qO{w w' w0:aa}{B s:Nat}{v:av}{rows:aC}{xs:bN}(h:Kept w0 w B A c rows)(z:27≠Rv)(D:3≠Rv)(F:w.ownsRow B' Rv s v n xs)(E:w.grownBy w' v.ownBlock):Kept w0 w' B A c rows:=h.imp id fun h=>h.qO z D F E
def Kept.same{w0 w w':aa}{B:Nat}{rows:aC}(h:Kept w0 w B A c rows)(z:∀k,B<=k->w'.heap[k]?=w.heap[k]?):Kept w0 w' B A c rows:=h.imp id fun h=>h.same z
def Kept.mono{w0 w:aa}{B:Nat}{rows:aC}(h:Kept w0 w B A c rows)(z:B'<=B):Kept w0 w B' A c rows:=h.imp id fun h=>h.mono z
section
variable{w0 w w':aa}{B:Nat}{v:av}{xs:List Sy}{us:bN}
end
def bG.qO{s:Nat}{xs:bN}(h:bG w D u ys us)(I:29≠Rv)(J:3≠Rv)(F:w.ownsRow B' Rv s v n xs)(z:w.grownBy w' v.ownBlock):bG w' D u ys us:=⟨h.len,ic h.outer z (iY I h.outer F),fun k H r E B=>au.kept (h.each k H r E B) z (iY J (h.each k H r E B) F),h.apart⟩


end Go.Proofs.YtdpgblncijojiaaGreatDoor
