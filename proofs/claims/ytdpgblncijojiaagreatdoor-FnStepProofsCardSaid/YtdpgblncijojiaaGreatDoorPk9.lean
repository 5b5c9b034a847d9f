/- Parts of the walks. Conditions: as stated with each. -/
import Derived.Test.YtdpgblncijojiaaGreatDoorPk5
import Derived.Test.YtdpgblncijojiaaGreatDoorPk7
import Derived.Test.YtdpgblncijojiaaGreatDoorPk8
namespace Go.Proofs.YtdpgblncijojiaaGreatDoor
open Go.RowKit Tryz
set_option linter.all false
set_option maxHeartbeats 4000000
set_option maxRecDepth 100000
variable{Rq xs:aH}{W:aa}{b k n:Nat}{cs:gq}
def zh2(n:Nat)(w:aa)(J:n<=1048576)(F:0<n):ax 114 (bc n) w fun e w'=>∃g c,e=.returned (.slice (aX g) n c)/\w'.ownsRow w 3 1 (.slice (aX g) n c) n ((List.replicate n (0:Int)).map (Value.int .i64))/\aj w w':=by
 refine(sU n w Ry).mono fun e w' E=>?_
 obtain⟨u,z,B,D⟩:=E;have h:=B;unfold au at h;rw[iU]at h;rcases h.2 with⟨rfl,H⟩|⟨g,c,cur,rfl,I⟩
 .omega
 .exact⟨g,c,z,h,D⟩
def tH(n k:Nat):List Int:=(List.replicate n 0).set k 1
def xb(n k:Nat):(tH n k).length=n:=by simp[tH]
def zfo(n k:Nat)(w:aa)(H:n<=1048576)(F:k<n):ax 146 (bI n k) w fun e w'=>∃u,e=.returned u/\au w' w u (tH n k)/\aj w w':=by
 go_enter func146,ntmps146
 go_wp2_with (go_at_call 114;refine(zh2 n _ H Ry).mono ?_;rintro e I ⟨g,c,rfl,z,B⟩;have J:af I g k (zI 0):=(by rw[z.cellAt k Ry,bR,fR,ar F];rfl);have O:=z.frozenAt k;have E:=zH (z.stored k (zI 1)).1;have D:=zH (B.setCell (p:=⟨g,k,none⟩) ((b_ z g rfl).1) (zI 1));clear z B)
 go_ret
 refine⟨_,rfl,?_,D.o⟩;have:=E.o;rw[<-fQ]at this;unfold au;rw[xb];exact this
def iota(n:Nat):List Int:=(List.range n).map fun i:Nat=>(i:Int)
def fE(n:Nat):(iota n).length=n:=by simp[iota]
def rp(h:k<n):(iota n)[k]?=some (k:Int):=by simp[iota,h]
def zfp(n:Nat)(w:aa)(R:n<=1048576):ax 84 (bc n) w fun e w'=>∃u,e=.returned u/\au w' w u (iota n)/\aj w w':=by
 go_enter func84,ntmps84
 go_wp2_with (go_at_call 114;refine(sU n _ Ry).mono ?_;rintro e T ⟨u,rfl,B,F⟩;obtain⟨A,c,rfl,_⟩:=B.view;rw[iU]at B ⊢;have E:=zH B;have HB:=zH F;clear B F)
 have z:=E.o;unfold au at z;rw[iU,<-fE n,<-jd (iota n) (0:Int),fE]at z;have D:=zH z;clear z E;go_loopw [4,9] (fun _ i wr=>∃k:Nat,k<=n/\i=.int .i64 k/\wr.ownsRow w 3 1 (.slice A n c) n ((eV (iota n) 0 k).map (Value.int .i64))/\aj w wr)
  (fun _ i _=>n-(intOf i).toNat)
 case atStart=>exact⟨0,aT _,rfl,D.o,HB⟩
 case round=>
  obtain⟨k,Q,rfl,Es,H⟩:=hrel;clear D HB;by_cases EC:k<n
  .obtain⟨g,rfl⟩:∃g,A=some ⟨g,0,none⟩:=by
    rcases Es.2 with⟨_,z⟩|⟨g,I,cur,e,_⟩
    .omega
    .cases e;exact⟨g,rfl⟩
   have J:af wr g k (zI 0):=Xy;have O:=Es.frozenAt k;have Fj:=(Es.stored k (zI k)).1;rw[<-fQ,j4 _ _ _ _ (rp EC)]at Fj;obtain⟨HS,HB⟩:=bL Fj (H.setCell (p:=⟨g,k,none⟩) ((b_ Es g rfl).1) (zI k));exact Yv
  .go_wp2;go_ret
   rw[j3 _ _ _ Sp]at Es;exact⟨_,rfl,by unfold au;rw[fE];exact Es,H⟩
def mJ(v z:aH):List Int:=z.map fun i=>v.getD i.toNat 0
def zP{v:aH}{i x:Int}(hi:Rq[k]?=some i)(z:v[i.toNat]?=some x):(mJ v Rq).take (k+1)=(mJ v Rq).take k++[x]:=by rw[fZ];simp[mJ,hi,z]
def BJ(v z:aH)(k:Nat)(B:k<=z.length):((mJ v z).take k).length=k:=by simp[mJ];omega
def zbr(v:aH)(A:aq)(cap:Nat)(Iq:aH)(A2:aq)(J:Nat)(w:aa)(F:aU w A v)(E:aU w A2 Iq)(U:v.length<=1048576)(T:Iq.length<=1048576)(I:∀i∈Iq,0<=i/\i<v.length):ax 113 (nj A v cap A2 Iq J) w fun e w'=>∃u,e=.returned u/\au w' w u (mJ v Iq)/\aj w w':=by
 obtain⟨R,hi,O,Q,Ev⟩:=cM fq;obtain⟨HV,HA,HL⟩:=dD F E I;clear F E I;go_enter func113,ntmps113
 go_wp2_with ((at_make;refine wpList_make_own _ rfl _ _ 27 rfl w.heap.size 3 R (zI 0) 1 dA hi O Q .i64 .i64 _ Iq.length rfl rfl rfl SB TB (ah _) ?_;intro w1 z H))
 obtain⟨D,B⟩:=bL (show au w1 w (.slice (aX w) 0 Iq) [] from z) (bT H);clear z H;go_loopw [5,7,13] (fun u _ i wr=>∃k:Nat,k<=Iq.length/\i=.int .i64 k/\au wr w u ((mJ v Iq).take k)/\aj w wr)
  (fun _ _ i _=>Iq.length-(intOf i).toNat)
 case atStart=>exact⟨0,aT _,rfl,by simpa using D.o,B⟩
 case round=>
  obtain⟨k,hk,rfl,z,Ey⟩:=hrel;have Ip:=zH z;clear z D B;exact ZW
def zdJ(p x y:Int)(w:aa)(z:1<=p)(B:p<=1000)(D:0<=x)(E:x<p)(F:0<=y)(H:y<p):ax 154 (fe p x y) w fun e w'=>e=.returned (zI ((x+p-y)%p))/\w=w':=by
 go_enter func154,ntmps154
 exact WE
def yr(n:Nat):List (List Int):=(List.range n).map (tH n)
def CQ(n:Nat):(yr n).length=n:=by simp[yr]
def CR(h:k<n):(yr n)[k]?=some (tH n k):=by simp[yr,h]
def xd(n:Nat)(w:aa)(O:n<=1048576):ax 132 (bc n) w fun e w'=>∃u,e=.returned u/\aI w' w u (yr n)/\aj w w':=by
 go_enter func132,ntmps132
 go_wp2;obtain⟨B,z⟩:=bL (show aI (w.alloc (.cells #[] 27)) w (.slice (aX w) 0 0) [] from aI.empty (tg w #[] 0 (ah _) RC rfl)) ((ai w w).alloc (ah _) (.cells #[] 27));go_loopw [3,4,7] (fun u _ i wr=>∃k:Nat,k<=n/\i=.int .i64 k/\aI wr w u ((yr n).take k)/\aj w wr)
  (fun _ _ i _=>n-(intOf i).toNat)
 case atStart=>exact⟨0,aT _,rfl,B,z⟩
 case round=>
  obtain⟨k,R,rfl,F,Ey⟩:=hrel;have D:=zH F;clear F B z;by_cases E:k<n
  .have HT:=zH (by rw[fZ,CR E];rfl:(yr n).take (k+1)=(yr n).take k++[tH n k]);have Q:=Ey.size;have I:=zH (by simp[yr];omega:((yr n).take k).length+1<=1073741824);go_wp2_with (first|(go_at_call 146;refine(zfo n k _ O E).mono ?_;rintro e w' ⟨u2,rfl,H,J⟩;obtain⟨A2,c2,rfl,_⟩:=H.view)|(at_builtin;refine j5 rfl _ _ rfl w wr _ _ _ _ _ D.o J H I.o Q rfl rfl ?_;intro T U Fe Ff))
   exact YG
  .go_wp2;go_ret
   have h:=D.o;rw[fO (by rw[CQ];omega)]at h;exact⟨_,rfl,h,Ey⟩
def jB(rows:aC)(z:aH):List (List Int):=rows.map fun r=>mJ r z
def xW(rows:aC)(z:aH):(jB rows z).length=rows:=by simp[jB]
def Bj(rows:aC)(A:aq)(cap:Nat)(z:aH)(A2:aq)(a3:Nat)(w:aa)(I:aL w A rows)(H:aU w A2 z)(bd:rows.length<=1048576)(T:∀r∈rows,r.length<=1048576)(a5:z.length<=1048576)(Q:∀r∈rows,∀i∈z,0<=i/\i<r.length):ax 83 (nj A rows cap A2 z a3) w fun e w'=>∃u,e=.returned u/\aI w' w u (jB rows z)/\aj w w':=by
 obtain⟨a0,ab,ao,am⟩:=fS I H T Q;clear I H T Q;go_enter func83,ntmps83
 go_wp2;obtain⟨E,D⟩:=bL (show aI (w.alloc (.cells #[] 27)) w (.slice (aX w) 0 0) [] from aI.empty (tg w #[] 0 (ah _) RC rfl)) ((ai w w).alloc (ah _) (.cells #[] 27));go_loopw [5,7,11] (fun u _ i wr=>∃k:Nat,k<=rows.length/\i=.int .i64 k/\aI wr w u ((jB rows z).take k)/\aj w wr)
  (fun _ _ i _=>rows.length-(intOf i).toNat)
 case atStart=>exact⟨0,aT _,rfl,E.o,D.o⟩
 case round=>
  obtain⟨k,bb,rfl,U,Ey⟩:=hrel;have F:=zH U;clear U E D;by_cases R:k<rows.length
  .obtain⟨r,B⟩:=aw R;obtain⟨a8,o,rfl,J⟩:=(a0.ext Ey).here R;obtain⟨a7,a9,ba,O⟩:=J k r B;obtain⟨ad,a2,a1,HT,ac⟩:=l_ O (ao r (aR B)) (am r (aR B)) (by rw[fZ];simp[jB,B]:(jB rows z).take (k+1)=(jB rows z).take k++[mJ r z]) (ab.ext Ey);have a6:=Ey.size;have ap:=zH (by simp[jB];omega:((jB rows z).take k).length+1<=1073741824);clear B J O;go_wp2_with (first|(go_at_call 113;refine(zbr r _ _ z _ _ _ ad ac a2 a5 a1).mono ?_;rintro e w' ⟨u2,rfl,Z,a4⟩;obtain⟨A2,c2,rfl,_⟩:=Z.view)|(at_builtin;refine j5 rfl _ _ rfl w wr _ _ _ _ _ F a4 Z ap.o a6 rfl rfl ?_;intro be bi Fe Ff))
   exact YG
  .go_wp2;go_ret
   have h:=F.o;rw[fO (by rw[xW];omega)]at h;exact⟨_,rfl,h,Ey⟩
def kG:List Int->Nat
 |[]=>0
 |x::xs=>if x=0 then kG xs+1 else 0
def BL:∀(xs:aH),kG xs<=xs.length
 |[]=>ah _
 |x::xs=>by
  have:=BL xs;unfold kG;split
  .simp;omega
  .omega
def rq:∀{xs:aH} {k:Nat},k<kG xs->xs[k]?=some 0
 |[],k,h=>by simp[kG]at h
 |x::xs,k,h=>by
  unfold kG at h;split at h
  .rename_i z;cases k with
   |zero=>simp[z]
   |succ k=>simpa using rq (xs:=xs) (k:=k) Ry
  .omega
def xe:∀{xs:aH} {x:Int},xs[kG xs]?=some x->x≠0
 |[],x,h=>RR
 |y::ys,x,h=>by
  unfold kG at h;split at h
  .exact xe (xs:=ys) R3
  .simp at h;subst h;assumption
def zQ(v:aH)(A:aq)(cap:Nat)(w:aa)(J:aU w A v)(ac:v.length<=1048576):ax 142 (bJ A v cap) w fun e w'=>e=.returned (zI (kG v))/\aj w w':=by
 have T:=BL v;obtain⟨L,E⟩:=aK (kG v);rw[<-E]at T ⊢;obtain⟨I,Q⟩:=bL E J;clear E J;go_enter func142,ntmps142
 go_wp2;go_loopw [3] (fun i wr=>∃k:Nat,k<=L/\i=.int .i64 k/\aj w wr) (fun i _=>L-(intOf i).toNat)
 case atStart=>exact⟨0,aT _,rfl,ai _ _⟩
 case round=>
  obtain⟨k,ab,rfl,B⟩:=hrel;by_cases O:k<v.length
  .obtain⟨x,z⟩:=aw O;obtain⟨b,o,rfl,F⟩:=(Q.o.ext B).here O;have Z:=F _ _ z;by_cases R:k<L
   .have h0:x=0:=by have:=rq (xs:=v) (k:=k) (by rw[<-I.o];exact R);rw[z]at this;simpa using this
    subst h0;clear F z;go_wp2;go_roundw
    case rel=>exact⟨k+1,Ry,RB,B⟩
    case measure=>simp[intOf];omega
   .have H:k=L:=Ry;have h0:x≠0:=xe (xs:=v) (by rw[<-I.o,<-H];exact z);have U:(x==0)=false:=RP;have D:=zH H;clear F z H h0;go_wp2;go_ret
    rw[D.o];exact⟨rfl,B⟩
  .have D:=zH (Ry:k=L);go_wp2;go_ret
   rw[D.o];exact⟨rfl,B⟩
def vy(p b:Int)(A1 A2:aq)(cap z:Nat)(w:aa):ax 147 #[p,.slice A1 0 cap,b,.slice A2 0 z] w fun e w'=>e=.returned (.tuple #[])/\w'=w:=by
 go_enter func147,ntmps147
 go_wp2;go_loopw [12] (fun i wr=>i=.int .i64 0/\wr=w) (fun _ _=>0)
 case atStart=>exact⟨rfl,rfl⟩
 case round=>
  obtain⟨rfl,rfl⟩:=hrel;go_wp2;go_end0
  exact⟨rfl,rfl⟩
def zeb(a b c p v h:Int)(A:aq)(cap:Nat)(rows:aC)(w:aa)(a6:aL w A rows)(c4:rows.length<=160)(Ew:∀r∈rows,r.length<=1000)(c5:1<=p)(c6:p<=1000)(cu:0<=a)(cz:a<rows.length)(hb:0<=b)(cI:b<rows.length)(cF:a≠b)(cK:0<=c)(cO:c<=1000)(hx:∀r∈rows,∀x∈r,0<=x/\x<=1000)(ad:∀r∈rows,r.length=0):ax 214 (eL (fe a b c) p (ae v h A rows cap)) w fun e w'=>∃u,e=.returned (.agg (dz v h u))/\aI w' w u (rows.set b.toNat (cV p c (rows.getD b.toNat []) (rows.getD a.toNat [])))/\aj w w':=by
 obtain⟨ap,EW⟩:=aw (Ry:a.toNat<rows.length);obtain⟨a0,Fm⟩:=aw (Ry:b.toNat<rows.length);obtain⟨bv,b0⟩:=bL (TI:rows.getD a.toNat []=ap) (TH:rows.getD b.toNat []=a0);obtain rfl:ap=[]:=fw (ad ap (aR EW));obtain rfl:a0=[]:=fw (ad a0 (aR Fm));clear hx ad;obtain⟨b1,b2⟩:=bL (Ry:rows.length<=1048576) (show ∀r∈rows,r.length<=1048576 from fun r hr=>TZ);go_enter func214,ntmps214
 go_wp2_with fail
 refine(lL _ _ _ _ _ _ (a6.ext (((ai _ _).alloc Rx _ |>.alloc Rx _).alloc Sn _)) b1 b2).mono ?_;rintro e E ⟨u,rfl,⟨us,hu⟩,ab⟩;obtain⟨F,H,rfl,_,_,_⟩:=aI.view ⟨us,hu⟩;obtain⟨bm,cn,bo⟩:=cv w (.cells (fe a b c) 134) (.cells (ae v h A rows cap) 26) (.cells aQ 26);have ci:=ab.size;simp only[cx]at ci;go_upto_region 2 with(fail)
 obtain⟨z,Er⟩:=aK (E.alloc (.cells (ae v h F rows H) 26));rw[<-Er];have ac:aj E z:=VH;have c7:(z:Nat)=E+1:=So;have J:=bQ ab ac;have am:aW z E (ae v h F rows H) 26:=Um;have be:=cp J bm;have bi:=cp J bo;have D:a_ z ((w:Nat)+3) (.slice F rows H) rows us:=(hu.ext ac).mono Rx;have cj:∀g',F=some ⟨g',0,none⟩->g' < (E:Nat):=fun g' e=>Vy
 have B:∀(k:Nat) (x:av),us[k]?=some x->∀b,x.ownBlock=some b->b < (E:Nat):=fun k x hx b hb=>Wi
 have a7:aj w z:=(below_alloc3 w _ _ _).trans (J.mono Sn);clear hu ab ac J a6 Ew bm cn bo Er;obtain⟨c8,bb,a9⟩:=D.get EW;obtain⟨c9,bd,ba⟩:=D.get Fm;obtain⟨g,ch,cR,c0⟩:∃g,F=some ⟨g,0,none⟩/\(w:Nat)+3<=g/\g < (z:Nat):=kH D Ry;subst ch;obtain⟨Q,U,rfl,ce,_⟩:=a9.view;obtain⟨R,Z,rfl,_,_⟩:=ba.view;obtain⟨a1,a2,a3⟩:=bU be;have a4:=aV am 2;simp only[dg,cT]at a1 a2 a3 a4;have bp:af z g a.toNat (.slice Q 0 U):=by rw[D.outer.cellAt _ Ry,bb];rfl
 have br:af z g b.toNat (.slice R 0 Z):=by rw[D.outer.cellAt _ Ry,bd];rfl
 obtain⟨b4,bz,b3,b5,b6,a5⟩:=lq D a7 Fm bi am (vy p c R Q Z U z.drew);clear D a7 bb bd a9 ba EW Fm ce cj B be bi am;go_region_held3 (fun w'=>af w' w 0 (zI a)/\af w' w 1 (zI b)/\af w' w 2 (zI c)/\af w' E 2 (.slice (aX g) rows H)/\af w' g a.toNat (.slice Q 0 U)/\af w' g b.toNat (.slice R 0 Z))
  (first|exact⟨a1,a2,a3,a4,bp,br⟩)
  ((go_at_call 147;refine a5.mono ?_;rintro e wr ⟨rfl,rfl⟩))
 obtain⟨T,I⟩:=aK z.drew;have a8:T.heap=z.heap:=by rw[I];rfl
 have ao:=b6.o;have O:=b5.o;rw[<-a8]at ao O;have B:=b4.ext (ai _ _).drew;rw[<-I]at B ⊢;rw[<-jy b3,show([]:aH)=cV p c [] [] from rfl]at B;rw[show(List.set rows b.toNat (cV p c [] []))=rows.set b.toNat (cV p c (rows.getD b.toNat []) (rows.getD a.toNat [])) by rw[bv.o,b0.o]]at B;simp only[fx]at B;obtain⟨HO,HE⟩:=bL (show aI T ((w:Nat)+3) _ _ from⟨_,B⟩) (by rw[I];exact bz.drew:aj w T);clear I a8;clear B a1 a2 a3 a4 bp br a5;obtain⟨b7,b8,b9⟩:=bU ao;obtain⟨ca,cb,cc⟩:=bU O;obtain⟨co,cr,ct⟩:=bt O;simp only[dg,cT]at b7 b8 b9 ca cb cc;clear ao O;go_wp2;refine az (v:=.agg (ae v h (aX g) rows H)) Vr rfl ⟨_,rfl,?_,?_⟩
 .exact Yr
 .exact Yf
def Em(h:aW W b cs 3)(e:cs.toList=xs.map (Value.int .i64)):aU W (some ⟨b,0,none⟩) xs:=aB ⟨b,0,rfl,fun k x z=>by rw[fY,aV h k,e,bR,z];rfl⟩
def iw(C:Code)(b m:Nat)(w:aa)(xs:aH)(cs:gq)(B:cy C b m w)(J:m<=549755813888)(e:cs.toList=xs.map (Value.int .i64))(D:0<xs.length)(I:xs.length<=65536)(n:Nat)(O:n=xs.length):ax 85 #[.pointer (aX b),.slice (aX w) n n] (w.alloc (.cells cs 3)) fun e w'=>∃v,e=.returned v/\(∃x∈xs,v=.int .i64 x)/\cy C b (m+2) w'/\w.grownBy w' (some b):=by subst O;have z:=(ai w w).alloc (ah _) (.cells cs 3);have F:w.grownBy (w.alloc (.cells cs 3)) (some b):=aN z;refine(zeO C b m _ xs (some ⟨w,0,none⟩) xs (B.ext z) J (Em (aD w _ rfl) e) D I fun a e=>by cases e;exact B.lt).mono ?_;rintro e w' ⟨v,rfl,Q,E,H⟩;exact⟨v,rfl,Q,E,F.trans H⟩
def zdP(C:Code)(b m:Nat)(w:aa)(z:cy C b m w)(Q:m<=549755813888):ax 86 #[.pointer (aX b)] w (kQ C b (m+2) (fun _ v=>∃x:Int,v=.int .i64 x/\cP x=true) w):=by
 obtain⟨J,H⟩:=bL (iw C b m w [2,3,5,7,2,3,5,11,13,97] _ z Q rfl RC RC 10 rfl) (show ∀x∈[(2:Int),3,5,7,2,3,5,11,13,97],cP x=true by decide);clear z;go_enter func86,ntmps86
 go_wp2_with (go_at_call 85;refine J.o.mono ?_;rintro e R ⟨v,rfl,⟨x,E,rfl⟩,B,D⟩;have O:=zH (H.o x E);have F:=zH B;have I:=zH D;clear B D E)
 go_ret
 exact⟨_,rfl,⟨x,rfl,O⟩,F,I⟩
def vj(C:Code)(b m:Nat)(w:aa)(J:cy C b m w)(ac:m<=549755813000):ax 42 #[.pointer (aX b)] w (kQ C b (m+4) (fun _ v=>∃x:Int,v=.int .i64 x/\-1<=x/\x<=101) w):=by
 obtain⟨Z,T⟩:=bL (gH C b m w 24 J Ry) (show ∀x∈[(-1:Int),0,1,4,9,91,98,101],-1<=x/\x<=101 by decide);clear J;go_enter func42,ntmps42
 go_wp2_with (first
  |(go_at_call 46;(with_reducible refine Z.o.mono ?_);rintro e R ⟨v,rfl,⟨y,rfl⟩,O,Q⟩;have E:=zH O;have U:=zH Q;clear O Q)
  |(go_at_call 86;(with_reducible refine(zdP C b (m+2) R E.o Ry).mono ?_);rintro e ab ⟨v,rfl,⟨x,rfl,D⟩,z,B⟩;have I:=zH (show -1<=x/\x<=101 from(by have:=et D;omega));have F:=zH z;have H:=zH B;clear z B D)
  |(go_at_call 85;refine(iw C b (m+2) R [-1,0,1,4,9,91,98,101] _ E.o Ry rfl RC RC 8 rfl).mono ?_;rintro e ab ⟨v,rfl,⟨x,D,rfl⟩,z,B⟩;have I:=zH (T x D);have F:=zH z;have H:=zH B;clear z B D))
 all_goals
  go_ret
  exact⟨_,rfl,⟨x,rfl,I⟩,F,U.o.trans H.o⟩
def zjA(p:Int)(_:aa)(v:av):Prop:=∃r:Nat,v=.int .i64 r/\((r:Int)<p∨r=0)/\r<65536
def kJ(C:Code)(b m:Nat)(w:aa)(p:Int)(E:cy C b m w)(U:m<=549755813888):ax 104 (lM (aX b) p) w (kQ C b (m+2) (zjA p) w):=by
 obtain⟨D,z⟩:=bL (cY C b m w (max p 1) E U) (fun V=>zU p 1 V);have I:∀r:Nat,((r:Int)<max p 1∨r=0)->((r:Int)<p∨r=0):=fun r h=>Ry
 have B:=zH I;obtain⟨q,J⟩:=aK (max p 1);rw[<-J]at D z B;clear E I J;go_enter func104,ntmps104
 go_wp2_with (first|(go_at_call 130;(with_reducible refine(z.o _).mono ?_);rintro e w' ⟨rfl,rfl⟩)|(go_at_call 88;(with_reducible refine D.o.mono ?_);rintro e ab ⟨v,rfl,⟨r,rfl,O,Z⟩,F,H⟩;have T:=zH (B r O);have Q:=zH F;have R:=zH H;clear F H O))
 go_ret
 exact⟨_,rfl,⟨r,rfl,T,Z⟩,Q.o,R.o⟩
def En(C:Code)(b m:Nat)(w:aa)(p:Int)(J:cy C b m w)(ad:m<=549755813000)(ab:-65536<=p/\p<=65536):ax 106 (lM (aX b) p) w (kQ C b (m+4) (fun _ v=>∃x:Int,v=.int .i64 x/\-65536<=x/\x<=65537) w):=by
 have Z:=zH (gH C b m w 24 J Ry);have am:IntKind.i64.wrap (p+1)=p+1:=Sq;have T:=zH (show ∀x∈[(-1:Int),p,p+1],-65536<=x/\x<=65537 from fun x z=>by simp only[jq,kC,kY]at z;omega)
 clear J ab;go_enter func106,ntmps106
 go_wp2_with (first
  |(go_at_call 46;(with_reducible refine Z.o.mono ?_);rintro e R ⟨v,rfl,⟨y,rfl⟩,O,Q⟩;have E:=zH O;have U:=zH Q;clear O Q)
  |(go_at_call 104;(with_reducible refine(kJ C b (m+2) R p E.o Ry).mono ?_);rintro e ac ⟨v,rfl,⟨r,rfl,-,z⟩,B,D⟩;have I:=zH (show -65536<=((r:Nat):Int)/\((r:Nat):Int)<=65537 from⟨Ry,Ry⟩);have F:=zH B;have H:=zH D;clear B D z)
  |(go_at_call 85;refine(iw C b (m+2) R [-1,p,p+1] _ E.o Ry rfl Rx Rx 3 rfl).mono ?_;rintro e ac ⟨v,rfl,⟨x,z,rfl⟩,B,D⟩;have I:=zH (T x z);have F:=zH B;have H:=zH D;clear B D z))
 all_goals
  go_ret
  exact⟨_,rfl,⟨_,rfl,I⟩,F,U.o.trans H.o⟩
end Go.Proofs.YtdpgblncijojiaaGreatDoor
