/- Parts of the walks. Conditions: as stated with each. -/
import Derived.Test.YtdpgblncijojiaaGreatDoorPk42
namespace Go.Proofs.YtdpgblncijojiaaGreatDoor
open Go.RowKit Tryz
set_option linter.all false
set_option maxHeartbeats 16000000
set_option maxRecDepth 100000
variable{b c i m n r:Nat}{p:Int}{q:Sy×List cZ}{s:Sy}
def r1N(p:Int)(b:Nat)(q:Sy×List cZ):Sy×List cZ:=push p q ⟨8,0,b,0,[]⟩
def CU(p:Int)(b:Nat)(q:Sy×List cZ):Sy×List cZ:=mW p (cN q.1 (q.1.v+b).toNat 0) (q.1.v+b).toNat (ec p (fB q.1 (cN q.1 (q.1.v+b).toNat 0) (q.1.v+b).toNat)) q.1.rows q
def r1S(p:Int)(b:Nat)(q:Sy×List cZ):Sy×List cZ:=push p (CU p b q) ⟨6,cN q.1 (q.1.v+b).toNat 0,b,0,[]⟩
def sv(h:cN q.1 (q.1.v+b).toNat 0=q.1.rows.length):iL p (b+1) q=iL p b (r1N p b q):=by
 show iL p b (if _ then _ else _)=_
 rw[ar h];rfl
def sx(h:cN q.1 (q.1.v+b).toNat 0≠q.1.rows.length):iL p (b+1) q=iL p b (r1S p b q):=by
 show iL p b (if _ then _ else _)=_
 rw[ak h];rfl
def zi5(h:Int):dK 8 h=h-1:=RO
def zi6(h:Int):dK 6 h=h-1:=RO
def vk(D:q.1.Ok p)(B:(b:Int)+1=q.1.h)(h:cN q.1 (q.1.v+b).toNat 0=q.1.rows.length):eZ p q.1 ⟨8,0,b,0,[]⟩=true/\(r1N p b q).1.Ok p/\(r1N p b q).1.v=q.1.v/\(r1N p b q).1.h=b/\(r1N p b q).2.length=q.2+1:=by obtain⟨_,_,f3,_⟩:=dF q.1 (q.1.v+b).toNat 0 (aT _);have z:eZ p q.1 ⟨8,0,b,0,[]⟩=true:=ok8 B (fun j E=>f3 j (aT _) Ry);exact⟨z,jz D z,rfl,by show dK 8 q.1.h=b;rw[zi5];omega,by simp[r1N,push]⟩
def vl{a:Nat}(z:q.1.Ok p)(I:(b:Int)+1=q.1.h)(B:cN q.1 (q.1.v+b).toNat 0=a)(h:a<q.1.rows.length):fB q.1 a (q.1.v+b).toNat≠0/\(CU p b q).1.Ok p/\eZ p (CU p b q).1 ⟨6,a,b,0,[]⟩=true/\(r1S p b q).1.Ok p/\(r1S p b q).1.v=q.1.v/\(r1S p b q).1.h=b/\(CU p b q).2.length<=q.2+q.1.rows/\(r1S p b q).2.length<=q.2+q.1.rows+1:=by
 obtain⟨_,_,_,f4⟩:=dF q.1 (q.1.v+b).toNat 0 (aT _);rw[B]at f4;have T:=Sys.v0 z;have D:((q.1.v+b).toNat:Int)<q.1.v+q.1.h:=Ry;have F:=f4 h;have J:=nR z h D;obtain⟨R,_,_⟩:=iW (Sys.f z) (Ry:1<=fB q.1 a (q.1.v+b).toNat) J.2;have k:Clr p a (q.1.v+b).toNat q.1 (CU p b q).1 q.1.rows:=by unfold CU;rw[B];exact sf (X:=q.2) z h D R q.1.rows (ah _)
 have Q:(CU p b q).2.length<=q.2+q.1.rows:=v_ _ _ _ _ _ _;have H:eZ p (CU p b q).1 ⟨6,a,b,0,[]⟩=true:=ok6 (by rw[k.h];exact I) (by rw[k.n];exact h) (fun j E O=>by rw[k.v];exact k.zero j (by rw[k.n]at E;exact E) O) (by rw[k.v,lr k.row];exact F);unfold r1S;rw[B];refine⟨F,k.ok,H,jz k.ok H,k.v,?_,Q,by simp[push];omega⟩
 show dK 6 (CU p b q).1.h=b
 rw[zi6,k.h];omega
def sy(h:cN q.1 c r=q.1.rows.length):iX p (m+1) c (r,q)=iX p m (c+1) (r,q):=by
 show iX p m (c+1) (if _ then _ else _)=_
 rw[ar h]
def sA(h:cN q.1 c r≠q.1.rows.length):iX p (m+1) c (r,q)=iX p m (c+1) (r+1,iA p c r (ik p c r (f_ p c r q))):=by
 show iX p m (c+1) (if _ then _ else _)=_
 rw[ak h]
def BP(p:Int)(c r:Nat)(q:Sy×List cZ):(f_ p c r q).2.length<=q.2+1:=by unfold f_;split <;>simp[push]
def BQ(p:Int)(c r:Nat)(q:Sy×List cZ):(ik p c r q).2.length<=q.2+1:=by unfold ik;split <;>simp[push]
def BR(p:Int)(c r:Nat)(q:Sy×List cZ):(iA p c r q).2.length<=q.2+q.1.rows:=v_ _ _ _ _ _ _
def yF(h:r<=i):nS p r (i+1) q=nS p r i (push p q ⟨4,i,0,0,[]⟩):=by
 show(if r<=i then _ else _)=_
 rw[ar h]
def vm(h:n<=r):nS p r n q=q:=by
 cases n with
 |zero=>rfl
 |succ i=>
  show(if r<=i then _ else _)=_
  rw[ak Ry]
def zbz(w I:aa)(bb:Nat)(p:Int)(s:Sy)(hP:cU w)(h:fc 116 w I bb p s [])(a4:s.Ok p):ax 99 #[.pointer (aX bb)] I fun e w'=>e=.returned (.tuple #[])/\fc 116 w w' bb p (fT p s).1 (fT p s).2/\Below bb I w':=by
 have e9:=Sys.h0 a4;have fa:=Sys.h100 a4;obtain⟨ba,cn,ci⟩:=dD a4 h (ai bb I);have O:af I bb 2 (zI s.h):=by obtain⟨_,_,A,c,A8,c8,us,hq,_⟩:=h;exact(bO hq).2.2.1
 clear h a4;go_enter func99,ntmps99
 go_wp2;clear O;go_loopw [2] (fun i wr=>∃(j:Int) (q:Sy×List cZ),i=.int .i64 j/\-1<=j/\j<=99/\Hd (q.1.h=j+1)/\Hd (q.1.v=s.v)/\Hd (q.1.Ok p)/\Hd (iL p (j+1).toNat q=iL p s.h.toNat (s,[]))/\Hd ((q.2:Int)<=(99-j)*161)/\Hd (fc 116 w wr bb p q.1 q.2)/\Below bb I wr)
  (fun i _=>(intOf i+1).toNat)
 case atStart=>exact⟨_,(s,[]),rfl,Ry,Ry,zH (by show s.h=_;omega),zH rfl,zH ba.o,zH Vj,zH RX,zH cn.o,ci⟩
 case round=>
  obtain⟨j,q,rfl,c7,c9,Ha,HV,J,F9,FZ,FG,R⟩:=hrel;have Fb:=zH R;clear R cn ci;by_cases b6:0<=j
  .obtain⟨b,em⟩:∃b:Nat,(b:Int)=j:=⟨j.toNat,Ry⟩;subst em;have e4:=J.o.small.n;have fs:0<=q.1.v:=Sys.v0 J.o;have fz:q.1.v<=24:=Sys.v24 J.o;have b0:((q.1.v+(b:Int)).toNat:Int)=q.1.v+b:=Ry;have T:((q.1.v+(b:Int)).toNat:Int)<q.1.v+q.1.h:=Ti;have c5:=dF q.1 (q.1.v+(b:Int)).toNat 0 (aT _);have B:=CA w wr bb p q.1 q.2 0 (q.1.v+(b:Int)).toNat FG J.o (aT _) T;rw[b0,show((0:Nat):Int)=0 from rfl]at B;obtain⟨d9,ea⟩:=bL b0 T;obtain⟨bm,g,o,bi,cc,cb⟩:∃bm g o bi cc:Nat,True:=⟨0,0,0,0,0,trivial⟩;have es:q.2.length<=100000:=Th;have O:∃A c,af wr bb 1 (zI q.1.v)/\af wr bb 3 (.slice A q.1.rows c):=Yc;obtain⟨ch,cz,y1,y3⟩:=O;clear b0 T cb;by_cases D:cN q.1 (q.1.v+(b:Int)).toNat 0=q.1.rows.length
   .obtain⟨ap,a0,a1,a2,a6⟩:=vk J.o Ti D;obtain⟨ac,Fi⟩:=bL (oz w wr bb p q.1 q.2 8 0 b 0 hP FG J.o ap Ry) (sv (p:=p) D);rw[uW,ar D]at B;obtain⟨Q,FE,FA,G7,Fo⟩:=l_ B a0 a1 a2 a6;clear B ap a0 a1 a2 a6 D c5;go_wp2_with (first|(go_at_call 126;refine Q.o.mono ?_;rintro e w2 ⟨rfl,rfl⟩)|(go_at_call 127;refine ac.mono ?_;rintro e w3 ⟨rfl,H,F⟩;have FD:=zH H;have Eu:=zH F;clear H F))
    exact Zq
   .obtain⟨a,E⟩:∃a,cN q.1 (q.1.v+(b:Int)).toNat 0=a:=⟨_,rfl⟩;have bz:a<q.1.rows.length:=Ry;obtain⟨d7,t1,ap,a0,a1,a2,a6,d8⟩:=vl J.o (show(b:Int)+1=q.1.h by have:=Ha.o;omega) E bz;have Hj:=pS w wr bb p q.1 q.2 a (q.1.v+(b:Int)).toNat hP FG J.o bz ea d7 Ry;have d4:mW p a (q.1.v+(b:Int)).toNat (ec p (fB q.1 a (q.1.v+(b:Int)).toNat)) q.1.rows (q.1,q.2)=CU p b q:=by unfold CU;rw[E]
    rw[d4,d9.o]at Hj;obtain⟨Hl,ek,Fi⟩:=dD Hj (fun W h=>oz w W bb p (CU p b q).1 (CU p b q).2 6 a b 0 hP h t1 ap Ry) (sx (p:=p) D);rw[uW,ak D,E]at B;obtain⟨Q,Hs,FE,FA,G7,H8⟩:=lq B (by unfold r1S;rw[E]:r1S p b q=push p (CU p b q) ⟨6,a,b,0,[]⟩) a0 a1 a2 d8;clear B Hj d7 t1 ap a0 a1 a2 a6 d8 D E d4 c5;go_wp2_with (first|(go_at_call 126;refine Q.o.mono ?_;rintro e w2 ⟨rfl,rfl⟩)|(go_at_call 128;refine Hl.mono ?_;rintro e w3 ⟨rfl,H,F⟩;have FD:=zH H;have Eu:=zH F;clear H F y1 y3)|(go_at_call 127;refine(ek.o _ FD.o).mono ?_;rintro e w4 ⟨rfl,Hq,Fz⟩;have Ho:=zH Hq;have ED:=zH Fz;clear Hq Fz))
    exact Zu
  .have da:j=-1:=Ry;have cr:=zH (show q=iL p s.h.toNat (s,[]) by have:=F9.o;rw[da]at this;exact this)
   have co:=zH (show q.1.h=0 by have:=Ha.o;omega);have eo:q.2.length<=16100:=Th;obtain⟨V,bv⟩:∃V:Nat,(V:Int)=s.v:=⟨s.v.toNat,by have:=Sys.v0 ba;omega⟩;obtain⟨G5,ej⟩:=bL (show(V:Int)=q.1.v from bv.trans HV.symm) bv;have e7:V<=24:=by have:=Sys.v24 ba;omega
   have cO:Inv2 p V 0 0 q.1:=⟨J.o,co,G5.symm,aT _,fun d b2=>Ry⟩;have a7:=zH cO;have O:af wr bb 1 (zI V):=X5;obtain⟨ce,d2⟩:=aK q;rw[<-d2]at cr a7 eo FG;clear d2 Ha F9 FZ J G5 HV da bv cO c7 c9 co;go_wp2;clear O b6;go_loopw [5,50] (fun u5 u50 wr=>∃(r c:Nat) (q:Sy×List cZ),u5=.int .i64 r/\u50=.int .i64 c/\c<=V/\r<=160/\Hd (Inv2 p V c r q.1)/\Hd (iX p (V-c) c (r,q)=iX p V 0 (0,ce))/\Hd (q.2.length<=16100+c*162)/\Hd (fc 116 w wr bb p q.1 q.2)/\Below bb I wr)
    (fun _ u50 _=>V-(intOf u50).toNat)
   case atStart=>exact⟨0,0,ce,rfl,rfl,aT _,aT _,a7,zH (by rw[Nat.sub_zero]),zH Ry,FG,Fb⟩
   case round=>
    rename_i f2 _ _ _ _;clear FG Fb a7;obtain⟨r,c,q,rfl,rfl,e8,Hw,z,F9,FZ,FG,R⟩:=hrel;have Fb:=zH R;clear R;by_cases b6:c<V
    .have e4:=z.ok.small.n;have G4:=z.hr;have T:(c:Int)<q.1.v+q.1.h:=by rw[z.o.hv,z.o.hh];omega
     have B:=CA w wr bb p q.1 q.2 r c FG z.ok G4 T;have es:q.2.length<=100000:=Th;have O:∃A c,af wr bb 3 (.slice A q.1.rows c):=X9;obtain⟨ch,cz,y3⟩:=O;by_cases D:cN q.1 c r=q.1.rows.length
     .have FF:=zH (sy (p:=p) (m:=V-(c+1)) D);rw[uW,ar D]at B;have Q:=zH B;have cK:Inv2 p V (c+1) r q.1:=⟨z.ok,z.hh,z.hv,G4,fun d b2 j hj b5=>by
       by_cases He:d=c
       .exact WW
       .exact z.z d Ry j hj b5⟩
      have Hc:=zH cK;clear B cK D T;go_wp2_with (go_at_call 126;refine Q.o.mono ?_;rintro e w2 ⟨rfl,rfl⟩)
      exact Zb
     .obtain⟨a,E⟩:∃a,cN q.1 c r=a:=⟨_,rfl⟩;have c6:=dF q.1 c r G4;rw[E]at c6;have bz:a<q.1.rows.length:=Ry;have FF:=zH (sA (p:=p) (m:=V-(c+1)) D);have bo:=nC z (Ry:(c:Int)<V) Ry;rw[E]at bo;rw[uW,ak D,E]at B;have Q:=zH B;have db:=BP p c r q;obtain⟨qa,b7⟩:=aK (f_ p c r q);have d0:qa=if a≠r then push p q ⟨1,r,a,0,[]⟩ else q:=by rw[b7];unfold f_;rw[E]
      rw[<-b7]at bo FF db;obtain⟨dl,U,ab,b3⟩:=bo;have bp:=nD U (Ry:(c:Int)<V) ab b3;have dc:=BQ p c r qa;obtain⟨qb,b8⟩:=aK (ik p c r qa);obtain⟨x,ao⟩:=aK (fB qa.1 r c);have d1:qb=if x≠1 then push p qa ⟨2,r,0,ec p x,[]⟩ else qa:=by rw[b8,ao];rfl
      rw[<-b8]at bp FF dc;rw[<-ao]at bp;obtain⟨dT,Z,b9,b4⟩:=bp;have c0:=px Z (Ry:(c:Int)<V) b9 b4;have eA:=BR p c r qb;have fo:=Z.ok.small.n;obtain⟨Ig,Ht,Ib,a3,H5,Ie,eg,H7,ct,If,cu⟩:=ziM U Z c0 ab b9 b4 dl dT d0 d1 ao;have b1:(c:Int)<qa.1.v+qa.1.h:=by rw[U.hv,U.hh];omega
      have c4:(c:Int)<qb.1.v+qb.1.h:=by rw[Z.hv,Z.hh];omega
      have ca:=nR U.ok ab b1;rw[<-ao]at ca b3;obtain⟨cj,Hi⟩:=bL b1 c4;have e5:1<=x:=Ry;have e6:x<p:=ca.2;have eb:=zH (Sys.f z.ok);have Ih:=zH (fun(W:aa)=>(oJ p x W eb e5 e6:ax 129 (bI p x) W _));have e0:q.2.length+1+1+160<=30000:=Th;have fd:qa.2.length<=30000:=Ry;have fl:qb.2.length<=30000:=Ry;have Ia:=zH (Ry:(iA p c r qb).2.length<=q.2+162);have f0:r<q.1.rows.length:=Ry;have f1:r+1<=160:=Ry;clear B E D b7 b8 d0 d1 ao U Z c0 ab b9 b4 dl dT b1 c4 T c6 b3 ca db dc eA e0;by_cases am:a≠r
      .have e3:((a:Int)!=(r:Int))=true:=RX;obtain⟨ac,bd⟩:=bL (oz w wr bb p q.1 q.2 1 r a 0 hP FG z.ok (eg am) Ry) (by rw[ct.o,ar am]:qa=push p q ⟨1,r,a,0,[]⟩);clear am;go_upto_region 17 with(first|(go_at_call 126;refine Q.o.mono ?_;rintro e w2 ⟨rfl,rfl⟩)|(go_at_call 127;refine ac.mono ?_;rintro e w3 ⟨rfl,H,F⟩;have H_:=zH (by rw[bd.o];exact H:fc 116 w w3 bb p qa.1 qa.2);have Hm:=zH (Fb.trans F);clear H F y3))
       obtain⟨bm,g,o,bi,cc,n2,c2,z0,z1,z2,z3,z4,en,e2,z5⟩:=H_.cells Ig.ok a3 cj;rw[<-cu.o]at z5;have ab:r<qa.1.rows.length:=a3.o;by_cases Hk:x=1
       .have F5:(x !=1)=false:=by simp[Hk]
        have Ic:=zH (Vi:qb=qa);have Hv:=zH (T5:fc 116 w w3 bb p qb.1 qb.2);clear Hk;go_upto_region 20 with(fail)
        obtain⟨w4,G9⟩:=aK w3;have Hp:=zH (TJ:Below bb I w4);exact ZP
       .exact Z4
      .have e3:((a:Int)!=(r:Int))=false:=RX;have fn:(a !=r)=false:=RX;have bd:=zH (by rw[ct.o,ak am]:qa=q);have H_:=zH (by rw[bd.o];exact FG:fc 116 w wr bb p qa.1 qa.2);obtain⟨w3,a5⟩:=aK wr;have Hm:=zH (by rw[a5];exact Fb:Below bb I w3);rw[<-a5]at H_;clear am;go_upto_region 17 with(go_at_call 126;refine Q.o.mono ?_;rintro e w2 ⟨rfl,rfl⟩)
       rw[<-a5];clear a5 y3;obtain⟨bm,g,o,bi,cc,n2,c2,z0,z1,z2,z3,z4,en,e2,z5⟩:=H_.cells Ig.ok a3 cj;rw[<-cu.o]at z5;have ab:r<qa.1.rows.length:=a3.o;by_cases Hk:x=1
       .have F5:(x !=1)=false:=by simp[Hk]
        have Ic:=zH (Vi:qb=qa);have Hv:=zH (T5:fc 116 w w3 bb p qb.1 qb.2);clear Hk;go_upto_region 20 with(fail)
        obtain⟨w4,G9⟩:=aK w3;have Hp:=zH (TJ:Below bb I w4);exact ZP
       .exact Z4
    .have Hz:c=V:=Ry;have be:=zH (show(r,q)=iX p V 0 (0,ce) by have:=F9.o;rw[Hz,tb]at this;exact this)
     have cR:DQ p r q.1:=⟨z.ok,z.hh,z.hr,fun d b2 j hj b5=>z.z d (by rw[z.o.hv]at b2;omega) j hj b5⟩;have a8:=zH cR;have e1:=z.ok.small.n;have G4:=z.hr;have ev:q.2.length<=30000:=Th;have O:∃A c,af wr bb 3 (.slice A q.1.rows c):=X9;obtain⟨ch,cz,y3⟩:=O;obtain⟨N,br⟩:=aK q.1.rows.length;rw[<-br]at y3 e1 G4;have a9:=zH br;obtain⟨d6,d3⟩:=aK q;rw[<-d3]at be a8 a9 ev FG;clear Hz br d3 z F9 FZ cR;go_wp2;clear y3;go_loopw [9] (fun u wr=>∃(j:Int) (q:Sy×List cZ),u=.int .i64 j/\-1<=j/\j<=159/\(r:Int)<=j+1/\Hd ((q.1.rows:Int)=j+1)/\Hd (DQ p r q.1)/\Hd (nS p r (j+1).toNat q=nS p r N d6)/\Hd ((q.2:Int)<=40000-j)/\Hd (fc 116 w wr bb p q.1 q.2)/\Below bb I wr)
      (fun u _=>(intOf u+1).toNat)
     case atStart=>exact⟨_,d6,rfl,Ry,Ry,Ry,zH (by rw[<-a9.o];omega),a8,zH Wd,zH Ry,FG,Fb⟩
     case round=>
      clear FG Fb a8;obtain⟨j,q,rfl,c7,c9,fb,ee,z,F9,FZ,FG,R⟩:=hrel;have Fb:=zH R;clear R;by_cases b6:(r:Int)<=j
      .obtain⟨i,hi⟩:∃i:Nat,(i:Int)=j:=⟨j.toNat,Ry⟩;subst hi;have d5:r<=i:=Ry;obtain⟨ad,cF,cI⟩:=wW z (show q.1.rows.length=i+1 by have:=ee.o;omega) d5;obtain⟨ac,F0,F6,Hh⟩:=fS (oz w wr bb p q.1 q.2 4 i 0 0 hP FG z.ok ad Th) cF cI (yF (p:=p) (q:=q) d5);clear ad cF cI;go_wp2_with (go_at_call 127;refine ac.mono ?_;rintro e w3 ⟨rfl,H,F⟩;have FD:=zH H;have Eu:=zH F;clear H F)
       exact Zv
      .have ei:=zH (show q=fT p s by have ad:=F9.o;rw[vm Ry]at ad;rw[ad];have cb:=be.o;unfold fT;rw[<-cr.o,<-ej.o,show((V:Int)).toNat=V by omega,<-cb];dsimp only;rw[<-a9.o])
       clear F9 be;go_wp2;go_end0
       exact⟨rfl,by rw[<-ei.o];exact FG,Fb⟩
def m8(p:Int)(s:Sy)(A:aq)(cap:Nat)(w:aa)(d1:aL w A s.rows)(ao:s.Ok p):ax 62 (iH p (ae s.v s.h A s.rows cap)) w fun e w'=>∃u,e=.returned u/\bX w' w u (fT p s).2/\aj w w':=by
 have ga:=Sys.h0 ao;have gb:=Sys.h100 ao;have hs:=ao.small;obtain⟨bo,cI,ba⟩:=dD ao (show(w.alloc (.cells (ae s.v s.h A s.rows cap) 26)).heap[w.heap.size]?=some (.cells (ae s.v s.h A s.rows cap) 26 (0,0)) from aD _ _ rfl) ((ai w w).alloc (ah _) (.cells (ae s.v s.h A s.rows cap) 26));have c0:=zH (ix s.v s.h A cap s.rows _ (d1.ext ba) S_ (fun r hr=>Ui));clear d1 ao hs;go_enter func62,ntmps62
 go_upto_region 2 with(go_at_call 76;refine c0.mono ?_;rintro e w1 ⟨u,rfl,cn,d2⟩;obtain⟨A1,c1,rfl,_⟩:=cn.view;have c6:=zH cn;have a4:=zH d2;clear cn d2)
 obtain⟨D,Ii⟩:=aK (w1.alloc (.cells (yC p s A1 c1) 119));rw[<-Ii];obtain⟨bb,a7⟩:=aK w1.heap.size;rw[<-a7];have a6:aj w1 D:=VE;have ab:aW D bb (yC p s A1 c1) 119:=by rw[Ii,a7];exact aD _ _ rfl
 have gL:(w:Nat)+1<=bb:=by have:=a4.size;rw[a7];simpa using this
 have es:=an (an ba a4) a6
 -- the copy lies below the reducer's block: keep it as rows that are there from the start
 have cO:=zH (show fc 119 w1 D bb p s [] from⟨Ry,a6,A1,c1,none,0,[],ab,aG (uZ c6),by
  obtain⟨us,h1⟩:=bX.nil D (bb+1);have:us=[]:=fw UE;subst this;exact h1⟩)
 have b7:aW D w (ae s.v s.h A s.rows cap) 26:=aA (aA cI a4) a6;obtain⟨bd,e2,cF⟩:=dD (fun(W:aa) (b5:Below bb D W)=>(b5.block w Ry).trans b7) (fun(W:aa) (b5:Below bb D W)=>es.trans (b5.mono (B':=w.heap.size) Ry)) (ai bb D);obtain⟨v0,v1,v2⟩:=al b7;clear a6 ab es b7 Ii c0 cI ba c6 a4 a7;go_wp2;clear v0 v1 v2;go_loopw [6] (fun i wr=>∃(j:Int) (q:Sy×List cZ),i=.int .i64 j/\-1<=j/\j<=99/\Hd (q.1.h=j+1)/\Hd (q.1.v=s.v)/\Hd (q.1.Ok p)/\Hd (iL p (j+1).toNat q=iL p s.h.toNat (s,[]))/\Hd ((q.2:Int)<=(99-j)*161)/\Hd (fc 119 w1 wr bb p q.1 q.2)/\Below bb D wr)
  (fun i _=>(intOf i+1).toNat)
 case atStart=>exact⟨_,(s,[]),rfl,Ry,Ry,zH (by show s.h=_;omega),zH rfl,zH bo.o,zH Vj,zH RX,zH cO.o,cF⟩
 case round=>
  obtain⟨j,q,rfl,d6,d7,Ha,HV,J,F9,FZ,FG,Q⟩:=hrel;have Fb:=zH Q;clear Q cO cF;by_cases ch:0<=j
  .obtain⟨b,fa⟩:∃b:Nat,(b:Int)=j:=⟨j.toNat,Ry⟩;subst fa;have f5:=J.o.small.n;have gB:0<=q.1.v:=Sys.v0 J.o;have gC:q.1.v<=24:=Sys.v24 J.o;have b8:((q.1.v+(b:Int)).toNat:Int)=q.1.v+b:=Ry;have T:((q.1.v+(b:Int)).toNat:Int)<q.1.v+q.1.h:=Ti;have d4:=dF q.1 (q.1.v+(b:Int)).toNat 0 (aT _);have B:=CB w1 wr bb p q.1 q.2 0 (q.1.v+(b:Int)).toNat FG J.o (aT _) T;rw[b8,show((0:Nat):Int)=0 from rfl]at B;obtain⟨e3,e4⟩:=bL b8 T;obtain⟨b0,g,o,bz,ct,cr⟩:∃b0 g o bz ct:Nat,True:=⟨0,0,0,0,0,trivial⟩;have fl:q.2.length<=100000:=Th;have R:∃A c,af wr bb 1 (zI q.1.v)/\af wr bb 3 (.slice A q.1.rows c):=Yc;obtain⟨cz,c9,y1,y3⟩:=R;clear b8 T cr;obtain⟨v0,v1,v2⟩:=al (bd wr Fb);rw[<-HV.o]at v0;by_cases E:cN q.1 (q.1.v+(b:Int)).toNat 0=q.1.rows.length
   .obtain⟨a0,a1,a2,a3,a9⟩:=vk J.o Ti E;obtain⟨ad,Fi⟩:=bL (oA w1 wr bb p q.1 q.2 8 0 b 0 FG J.o a0 Ry) (sv (p:=p) E);rw[E]at B;obtain⟨O,FE,FA,G7,Fo⟩:=l_ B a1 a2 a3 a9;clear B a0 a1 a2 a3 a9 E d4;go_wp2_with (first|(go_at_call 100;refine O.mono ?_;rintro e w2 ⟨rfl,rfl⟩)|(go_at_call 101;refine ad.mono ?_;rintro e w3 ⟨rfl,I,H⟩;have FD:=zH I;have Eu:=zH H;clear I H))
    exact Zq
   .obtain⟨a,F⟩:∃a,cN q.1 (q.1.v+(b:Int)).toNat 0=a:=⟨_,rfl⟩;have b6:a<q.1.rows.length:=Ry;obtain⟨eA,t1,a0,a1,a2,a3,a9,e0⟩:=vl J.o (show(b:Int)+1=q.1.h by have:=Ha.o;omega) F b6;have Hj:=pT w1 wr bb p q.1 q.2 a (q.1.v+(b:Int)).toNat FG J.o b6 e4 eA Ry;have en:mW p a (q.1.v+(b:Int)).toNat (ec p (fB q.1 a (q.1.v+(b:Int)).toNat)) q.1.rows (q.1,q.2)=CU p b q:=by unfold CU;rw[F]
    rw[en,e3.o]at Hj;obtain⟨Hl,e9,Fi⟩:=dD Hj (fun W h=>oA w1 W bb p (CU p b q).1 (CU p b q).2 6 a b 0 h t1 a0 Ry) (sx (p:=p) E);rw[F]at B;obtain⟨O,Hs,FE,FA,G7,H8⟩:=lq B (by unfold r1S;rw[F]:r1S p b q=push p (CU p b q) ⟨6,a,b,0,[]⟩) a1 a2 a3 e0;have gn:((a:Int)==(q.1.rows:Int))=false:=RX;have gs:(a==q.1.rows.length)=false:=RX;clear B Hj eA t1 a0 a1 a2 a3 a9 e0 E F en d4;go_wp2_with (first|(go_at_call 100;refine O.mono ?_;rintro e w2 ⟨rfl,rfl⟩)|(go_at_call 102;refine Hl.mono ?_;rintro e w3 ⟨rfl,I,H⟩;have FD:=zH I;have Eu:=zH H;clear I H y1 y3 v0 v1 v2)|(go_at_call 101;refine(e9.o _ FD.o).mono ?_;rintro e w4 ⟨rfl,Hq,Fz⟩;have Ho:=zH Hq;have ED:=zH Fz;clear Hq Fz))
    exact Zu
  .have d8:j=-1:=Ry;have c4:=zH (show q=iL p s.h.toNat (s,[]) by have:=F9.o;rw[d8]at this;exact this)
   have cR:=zH (show q.1.h=0 by have:=Ha.o;omega);have fd:q.2.length<=16100:=Th;obtain⟨V,b4⟩:∃V:Nat,(V:Int)=s.v:=⟨s.v.toNat,by have:=Sys.v0 bo;omega⟩;obtain⟨G5,br⟩:=bL (show(V:Int)=q.1.v from b4.trans HV.symm) b4;have f8:V<=24:=by have:=Sys.v24 bo;omega
   have dl:Inv2 p V 0 0 q.1:=⟨J.o,cR,G5.symm,aT _,fun d ca=>Ry⟩;have be:=zH dl;have R:af wr bb 1 (zI V):=X5;obtain⟨cu,ek⟩:=aK q;rw[<-ek]at c4 be fd FG;clear ek Ha F9 FZ J G5 HV d8 b4 dl d6 d7 cR;clear R;go_wp2;clear ch;go_loopw [8,9] (fun u5 u50 wr=>∃(r c:Nat) (q:Sy×List cZ),u5=.int .i64 r/\u50=.int .i64 c/\c<=V/\r<=160/\Hd (Inv2 p V c r q.1)/\Hd (iX p (V-c) c (r,q)=iX p V 0 (0,cu))/\Hd (q.2.length<=16100+c*162)/\Hd (fc 119 w1 wr bb p q.1 q.2)/\Below bb D wr)
    (fun _ u50 _=>V-(intOf u50).toNat)
   case atStart=>exact⟨0,0,cu,rfl,rfl,aT _,aT _,be,zH (by rw[Nat.sub_zero]),zH Ry,FG,Fb⟩
   case round=>
    rename_i gV _ _ _ _;clear FG Fb be;obtain⟨r,c,q,rfl,rfl,f9,Hw,z,F9,FZ,FG,Q⟩:=hrel;have Fb:=zH Q;clear Q;by_cases ch:c<V
    .have f5:=z.ok.small.n;have G4:=z.hr;have T:(c:Int)<q.1.v+q.1.h:=by rw[z.o.hv,z.o.hh];omega
     have B:=CB w1 wr bb p q.1 q.2 r c FG z.ok G4 T;have fl:q.2.length<=100000:=Th;have R:∃A c,af wr bb 3 (.slice A q.1.rows c):=X9;obtain⟨cz,c9,y3⟩:=R;obtain⟨v0,v1,v2⟩:=al (bd wr Fb);rw[<-br.o]at v0;by_cases E:cN q.1 c r=q.1.rows.length
     .have FF:=zH (sy (p:=p) (m:=V-(c+1)) E);rw[E]at B;have O:=zH B;have dc:Inv2 p V (c+1) r q.1:=⟨z.ok,z.hh,z.hv,G4,fun d ca j hj ce=>by
       by_cases He:d=c
       .exact WW
       .exact z.z d Ry j hj ce⟩
      have Hc:=zH dc;clear B dc E T;go_wp2_with (go_at_call 100;refine O.mono ?_;rintro e w2 ⟨rfl,rfl⟩)
      exact Zb
     .obtain⟨a,F⟩:∃a,cN q.1 c r=a:=⟨_,rfl⟩;have d5:=dF q.1 c r G4;rw[F]at d5;have b6:a<q.1.rows.length:=Ry;have FF:=zH (sA (p:=p) (m:=V-(c+1)) E);have b1:=nC z (Ry:(c:Int)<V) Ry;rw[F]at b1;rw[F]at B;have O:=zH B;have d9:=BP p c r q;obtain⟨qa,ci⟩:=aK (f_ p c r q);have ei:qa=if a≠r then push p q ⟨1,r,a,0,[]⟩ else q:=by rw[ci];unfold f_;rw[F]
      rw[<-ci]at b1 FF d9;obtain⟨ee,U,ac,cb⟩:=b1;have b2:=nD U (Ry:(c:Int)<V) ac cb;have ea:=BQ p c r qa;obtain⟨qb,ab⟩:=aK (ik p c r qa);obtain⟨x,ap⟩:=aK (fB qa.1 r c);have ej:qb=if x≠1 then push p qa ⟨2,r,0,ec p x,[]⟩ else qa:=by rw[ab,ap];rfl
      rw[<-ab]at b2 FF ea;rw[<-ap]at b2;obtain⟨eg,Z,cj,cc⟩:=b2;have d0:=px Z (Ry:(c:Int)<V) cj cc;have fo:=BR p c r qb;have gA:=Z.ok.small.n;obtain⟨Ig,Ht,Ib,a5,H5,Ie,e7,H7,c5,If,c7⟩:=ziM U Z d0 ac cj cc ee eg ei ej ap;have b9:(c:Int)<qa.1.v+qa.1.h:=by rw[U.hv,U.hh];omega
      have d3:(c:Int)<qb.1.v+qb.1.h:=by rw[Z.hv,Z.hh];omega
      have co:=nR U.ok ac b9;rw[<-ap]at co cb;obtain⟨cK,Hi⟩:=bL b9 d3;have gR:1<=x:=Ry;have f7:x<p:=co.2;have f3:=Sys.p2 z.ok;have f4:=Sys.p97 z.ok;have Ih:=zH (fun(W:aa)=>(so p x W f3 f4 Ry f7:ax 103 (bI p x) W _));have fs:q.2.length+1+1+160<=30000:=Th;have gd:qa.2.length<=30000:=Ry;have gf:qb.2.length<=30000:=Ry;have Ia:=zH (Ry:(iA p c r qb).2.length<=q.2+162);have gK:r+1<=160:=Ry;clear B F E ci ab ei ej ap U Z d0 ac cj cc ee eg b9 d3 T d5 cb co d9 ea fo fs;have gi:((a:Int)==(q.1.rows:Int))=false:=RX;have gm:(a==q.1.rows.length)=false:=RX;by_cases am:a≠r
      .have f1:((a:Int)!=(r:Int))=true:=RX;obtain⟨ad,bp⟩:=bL (oA w1 wr bb p q.1 q.2 1 r a 0 FG z.ok (e7 am) Ry) (by rw[c5.o,ar am]:qa=push p q ⟨1,r,a,0,[]⟩);clear am;go_upto_region 18 with(first|(go_at_call 100;refine O.mono ?_;rintro e w2 ⟨rfl,rfl⟩)|(go_at_call 101;refine ad.mono ?_;rintro e w3 ⟨rfl,I,H⟩;have H_:=zH (by rw[bp.o];exact I:fc 119 w1 w3 bb p qa.1 qa.2);have Hm:=zH (Fb.trans H);clear I H y3))
       obtain⟨b0,g,o,bz,ct,n2,c2,z0,z1,z2,z3,z4,fb,f0,z5⟩:=H_.cells Ig.ok a5 cK;rw[<-c7.o]at z5;have ac:r<qa.1.rows.length:=a5.o;by_cases Hk:x=1
       .have F5:(x !=1)=false:=by simp[Hk]
        have Ic:=zH (Vi:qb=qa);have Hv:=zH (T5:fc 119 w1 w3 bb p qb.1 qb.2);clear Hk;go_upto_region 21 with(fail)
        obtain⟨w4,G9⟩:=aK w3;have Hp:=zH (TJ:Below bb D w4);exact ZO
       .exact Z3
      .have f1:((a:Int)!=(r:Int))=false:=RX;have gw:(a !=r)=false:=RX;have bp:=zH (by rw[c5.o,ak am]:qa=q);have H_:=zH (by rw[bp.o];exact FG:fc 119 w1 wr bb p qa.1 qa.2);obtain⟨w3,a8⟩:=aK wr;have Hm:=zH (by rw[a8];exact Fb:Below bb D w3);rw[<-a8]at H_;clear am;go_upto_region 18 with(go_at_call 100;refine O.mono ?_;rintro e w2 ⟨rfl,rfl⟩)
       rw[<-a8];clear a8 y3 v0 v1 v2;obtain⟨b0,g,o,bz,ct,n2,c2,z0,z1,z2,z3,z4,fb,f0,z5⟩:=H_.cells Ig.ok a5 cK;rw[<-c7.o]at z5;have ac:r<qa.1.rows.length:=a5.o;by_cases Hk:x=1
       .have F5:(x !=1)=false:=by simp[Hk]
        have Ic:=zH (Vi:qb=qa);have Hv:=zH (T5:fc 119 w1 w3 bb p qb.1 qb.2);clear Hk;go_upto_region 21 with(fail)
        obtain⟨w4,G9⟩:=aK w3;have Hp:=zH (TJ:Below bb D w4);exact ZO
       .exact Z3
    .have Hz:c=V:=Ry;have bv:=zH (show(r,q)=iX p V 0 (0,cu) by have:=F9.o;rw[Hz,tb]at this;exact this)
     have dT:DQ p r q.1:=⟨z.ok,z.hh,z.hr,fun d ca j hj ce=>z.z d (by rw[z.o.hv]at ca;omega) j hj ce⟩;have bi:=zH dT;have fz:=z.ok.small.n;have G4:=z.hr;have fn:q.2.length<=30000:=Th;have R:∃A c,af wr bb 3 (.slice A q.1.rows c):=X9;obtain⟨cz,c9,y3⟩:=R;obtain⟨N,b3⟩:=aK q.1.rows.length;rw[<-b3]at y3 fz G4;have bm:=zH b3;obtain⟨ev,em⟩:=aK q;rw[<-em]at bv bi bm fn FG;clear Hz b3 em z F9 FZ dT;obtain⟨v0,v1,v2⟩:=al (bd wr Fb);rw[<-br.o]at v0;go_wp2;clear y3 v0 v1 v2;go_loopw [12] (fun u wr=>∃(j:Int) (q:Sy×List cZ),u=.int .i64 j/\-1<=j/\j<=159/\(r:Int)<=j+1/\Hd ((q.1.rows:Int)=j+1)/\Hd (DQ p r q.1)/\Hd (nS p r (j+1).toNat q=nS p r N ev)/\Hd ((q.2:Int)<=40000-j)/\Hd (fc 119 w1 wr bb p q.1 q.2)/\Below bb D wr)
      (fun u _=>(intOf u+1).toNat)
     case atStart=>exact⟨_,ev,rfl,Ry,Ry,Ry,zH (by rw[<-bm.o];omega),bi,zH Wd,zH Ry,FG,Fb⟩
     case round=>
      clear FG Fb bi;obtain⟨j,q,rfl,d6,d7,gc,e5,z,F9,FZ,FG,Q⟩:=hrel;have Fb:=zH Q;clear Q;by_cases ch:(r:Int)<=j
      .obtain⟨i,hi⟩:∃i:Nat,(i:Int)=j:=⟨j.toNat,Ry⟩;subst hi;have eo:r<=i:=Ry;obtain⟨h1,da,db⟩:=wW z (show q.1.rows.length=i+1 by have:=e5.o;omega) eo;obtain⟨ad,F0,F6,Hh⟩:=fS (oA w1 wr bb p q.1 q.2 4 i 0 0 FG z.ok h1 Th) da db (yF (p:=p) (q:=q) eo);clear h1 da db;go_wp2_with (go_at_call 101;refine ad.mono ?_;rintro e w3 ⟨rfl,I,H⟩;have FD:=zH I;have Eu:=zH H;clear I H)
       exact Zv
      .have e8:=zH (show q=fT p s by have h1:=F9.o;rw[vm Ry]at h1;rw[h1];have cr:=bv.o;unfold fT;rw[<-c4.o,<-br.o,show((V:Int)).toNat=V by omega,<-cr];dsimp only;rw[<-bm.o])
       clear F9 bv;have f6:∃A8 c8,af wr bb 4 (.slice A8 q.2 c8)/\bX wr (bb+1) (.slice A8 q.2 c8) q.2:=by obtain⟨_,_,A,c,A8,c8,us,hq,_,f2⟩:=FG.o;obtain⟨_,_,_,_,e1⟩:=bO hq;exact⟨A8,c8,e1,us,f2⟩
       obtain⟨A8,c8,e1,eb⟩:=f6;have e6:=zH eb;clear eb;go_wp2;go_ret
       exact⟨_,rfl,by rw[<-e8.o];exact e6.mono Ry,e2 wr Fb⟩
def Cu{p:Int}{x:cZ}:∀(X:List cZ) (s:Sy),bB p s X=X.length->eZ p (dn p s X X) x=true->bB p s (X++[x])=X.length+1/\dn p s (X++[x]) (X.length+1)=cq p (dn p s X X) x
 |[],s,_,z=>by
  have z:eZ p s x=true:=z;refine⟨?_,rfl⟩
  show bB p s [x]=1
  unfold bB;rw[ar z];rfl
 |y::X,s,hb,z=>by
  unfold bB at hb;split at hb
  .rename_i H;have E:bB p (cq p s y) X=X.length:=R7;have F:eZ p (dn p (cq p s y) X X) x=true:=z;obtain⟨B,D⟩:=Cu X _ E F;refine⟨?_,D⟩
   show bB p s (y::(X++[x]))=_
   unfold bB;rw[ar H,B];rfl
  .simp at hb
structure uU(p:Int)(s:Sy)(q:Sy×List cZ):Prop where
 bad:bB p s q.2=q.2.length
 sys:dn p s q.2 q.2=q.1
def AU(p:Int)(s:Sy):uU p s (s,[]):=⟨rfl,rfl⟩
def nP{x:cZ}(h:uU p s q)(D:eZ p q.1 x=true):uU p s (push p q x):=by
 obtain⟨B,z⟩:=Cu q.2 s h.bad (by rw[h.sys];exact D);rw[h.sys]at z;refine⟨?_,?_⟩
 .show bB p s (q.2++[x])=(q.2++[x]).length
  rw[B];simp
 .show dn p s (q.2++[x]) (q.2++[x])=cq p q.1 x
  rw[bS];exact z
def AV{p:Int}{s:Sy}{a c:Nat}{iv:Int}{q:Sy×List cZ}(h:uU p s q)(E:q.1.Ok p)(z:a<q.1.rows.length)(B:(c:Int)<q.1.v+q.1.h)(D:(fB q.1 a c*iv)%p=1):∀i,i<=q.1.rows.length->uU p s (mW p a c iv i q)
 |0,_=>h
 |i+1,hi=>by
  have ih:=AV h E z B D i Ry;have k:=sf (X:=q.2) E z B D i Ry;obtain⟨F,_⟩:=uY (Sys.p2 E) z B D k Ry;unfold mW;split
  .rename_i H;exact nP ih (F H).1
  .exact ih
def sO{p:Int}{s:Sy}:∀(b:Nat) (q:Sy×List cZ),uU p s q->q.1.Ok p->q.1.h=b->uU p s (iL p b q)/\(iL p b q).1.Ok p/\(iL p b q).1.h=0/\(iL p b q).1.v=q.1.v
 |0,q,h,z,T=>⟨h,z,T,rfl⟩
 |b+1,q,h,z,T=>by
  by_cases F:cN q.1 (q.1.v+b).toNat 0=q.1.rows.length
  .obtain⟨I,B,D,E,_⟩:=vk (b:=b) z Ry F;rw[sv F];obtain⟨J,O,Q,R⟩:=sO b (r1N p b q) (nP h I) B E;exact⟨J,O,Q,R.trans D⟩
  .obtain⟨f1,f2,_,_⟩:=dF q.1 (q.1.v+b).toNat 0 (aT _);have H:cN q.1 (q.1.v+b).toNat 0<q.1.rows.length:=Ry;obtain⟨ad,c1,I,B,D,E,_⟩:=vl (b:=b) z Ry rfl H;have am:=Sys.v0 z;have U:((q.1.v+b).toNat:Int)<q.1.v+q.1.h:=Ry;have Z:=nR z H U;obtain⟨ac,_,_⟩:=iW (Sys.f z) (Ry:1<=fB q.1 (cN q.1 (q.1.v+b).toNat 0) (q.1.v+b).toNat) Z.2;have ab:=AV h z H U ac q.1.rows (ah _);rw[sx F];obtain⟨J,O,Q,R⟩:=sO b (r1S p b q) (nP ab I) B E;exact⟨J,O,Q,R.trans D⟩
def sP{v:Int}(h:Inv2 p v c r s)(F:cN s c r=s.rows.length):Inv2 p v (c+1) r s:=by
 obtain⟨f1,f2,f3,_⟩:=dF s c r h.hr;refine⟨h.ok,h.hh,h.hv,h.hr,fun d E j z D=>?_⟩;by_cases B:d=c
 .subst B;exact f3 j z Ry
 .exact h.z d Ry j z D
def sQ{p v:Int}{s:Sy}:∀(m c:Nat) (z:Nat×(Sy×List cZ)),uU p s z.2->Inv2 p v c z.1 z.2.1->(c+m:Int)<=v->uU p s (iX p m c z).2/\Inv2 p v (c+m) (iX p m c z).1 (iX p m c z).2.1
 |0,c,z,h,hi,_=>⟨h,hi⟩
 |m+1,c,(r,q),h,hi,ao=>by
  rw[show c+(m+1)=(c+1)+m by omega];by_cases E:cN q.1 c r=q.1.rows.length
  .rw[sy E];exact sQ m (c+1) (r,q) h (sP hi E) Ry
  .obtain⟨f1,f2,_,_⟩:=dF q.1 c r hi.hr;have D:(c:Int)<v:=Ry;obtain⟨O,Q,R,T⟩:=nC hi D (by show cN q.1 c r<_;dsimp only at f2 ⊢;omega);obtain⟨U,B,H,I⟩:=nD Q D R T;have c1:=px B D H I;have J:uU p s (f_ p c r q):=by
    unfold f_;split
    .rename_i F;exact nP h (O F)
    .exact h
   have ac:uU p s (ik p c r (f_ p c r q)):=by
    unfold ik;split
    .rename_i F;exact nP J (U F)
    .exact J
   have Z:(c:Int) < (ik p c r (f_ p c r q)).1.v+(ik p c r (f_ p c r q)).1.h:=by rw[B.hv,B.hh];omega
   have ap:=Sys.p2 B.ok;have am:fB (ik p c r (f_ p c r q)).1 r c=1:=I;obtain⟨ab,_,_⟩:=iW (Sys.f B.ok) (Ry:1<=fB (ik p c r (f_ p c r q)).1 r c) (Ry:fB (ik p c r (f_ p c r q)).1 r c<p);have ad:uU p s (iA p c r (ik p c r (f_ p c r q))):=AV ac B.ok H Z ab _ (ah _);rw[sA E];exact sQ m (c+1) (r+1,_) ad c1 Ry
def Cv{p:Int}{s:Sy}{r:Nat}:∀(n:Nat) (q:Sy×List cZ),uU p s q->DQ p r q.1->q.1.rows.length=n->uU p s (nS p r n q)/\DQ p r (nS p r n q).1/\(nS p r n q).1.rows.length=r
 |0,q,h,hi,z=>⟨h,hi,by have:=hi.hr;show q.1.rows.length=r;omega⟩
 |n+1,q,h,hi,z=>by
  by_cases B:r<=n
  .obtain⟨D,E,F⟩:=wW hi z B;rw[yF B];exact Cv n (push p q ⟨4,n,0,0,[]⟩) (nP h D) E F
  .rw[vm Ry];exact⟨h,hi,by have:=hi.hr;omega⟩
def sS(B:s.Ok p):uU p s (fT p s):=by have T:=Sys.h0 B;have U:=Sys.v0 B;obtain⟨H,I,J,O⟩:=sO s.h.toNat (s,[]) (AU p s) B (by show s.h=_;omega);obtain⟨Q,z⟩:=sQ (v:=s.v) s.v.toNat 0 (0,iL p s.h.toNat (s,[])) H ⟨I,J,O,aT _,fun d D=>Ry⟩ Ry;obtain⟨R,_⟩:=Cv (r:=(iX p s.v.toNat 0 (0,iL p s.h.toNat (s,[]))).1) _ _ Q ⟨z.ok,z.hh,z.hr,fun d D j E F=>z.z d (by rw[z.hv]at D;omega) j E F⟩ rfl;exact R
def Ej{p:Int}{a c:Nat}{iv:Int}{q:Sy×List cZ}:∀i,(mW p a c iv i q).2.length<=q.2+i
 |0=>ah _
 |i+1=>by
  have ih:=Ej (p:=p) (a:=a) (c:=c) (iv:=iv) (q:=q) i;unfold mW;split
  .unfold push;dsimp only;rw[bS];simp;omega
  .omega
def zN{p:Int}:∀(b:Nat) (q:Sy×List cZ),q.1.Ok p->q.1.h=b->(iL p b q).2.length<=q.2+b*161/\(iL p b q).1.Ok p/\(iL p b q).1.h=0/\(iL p b q).1.v=q.1.v
 |0,q,z,O=>⟨ah _,z,O,rfl⟩
 |b+1,q,z,O=>by
  have Z:=Sys.n z;by_cases F:cN q.1 (q.1.v+b).toNat 0=q.1.rows.length
  .obtain⟨Q,B,D,E,T⟩:=vk (b:=b) z Ry F;rw[sv F];obtain⟨R,H,I,J⟩:=zN b (r1N p b q) B E;exact⟨Ry,H,I,J.trans D⟩
  .obtain⟨f1,f2,_,_⟩:=dF q.1 (q.1.v+b).toNat 0 (aT _);obtain⟨ab,c1,Q,B,D,E,_,U⟩:=vl (b:=b) z Ry rfl (Ry:cN q.1 (q.1.v+b).toNat 0<q.1.rows.length);rw[sx F];obtain⟨R,H,I,J⟩:=zN b (r1S p b q) B E;exact⟨Ry,H,I,J.trans D⟩
def zO{p v:Int}:∀(m c:Nat) (z:Nat×(Sy×List cZ)),Inv2 p v c z.1 z.2.1->(c+m:Int)<=v->(iX p m c z).2.2.length<=z.2.2+m*162/\Inv2 p v (c+m) (iX p m c z).1 (iX p m c z).2.1
 |0,c,z,hi,_=>⟨ah _,hi⟩
 |m+1,c,(r,q),hi,Z=>by
  rw[show c+(m+1)=(c+1)+m by omega];by_cases D:cN q.1 c r=q.1.rows.length
  .rw[sy D];obtain⟨E,F⟩:=zO m (c+1) (r,q) (sP hi D) Ry;exact⟨by dsimp only at E ⊢;omega,F⟩
  .obtain⟨f1,f2,_,_⟩:=dF q.1 c r hi.hr;have B:(c:Int)<v:=Ry;obtain⟨T,I,J,O⟩:=nC hi B (by show cN q.1 c r<_;dsimp only at f2 ⊢;omega);obtain⟨U,H,Q,R⟩:=nD I B J O;have c1:=px H B Q R;have ac:(f_ p c r q).2.length<=q.2+1:=by
    unfold f_;split
    .unfold push;simp
    .omega
   have ad:(ik p c r (f_ p c r q)).2.length<=(f_ p c r q).2+1:=by
    unfold ik;split
    .unfold push;simp
    .omega
   have am:(iA p c r (ik p c r (f_ p c r q))).2.length<=(ik p c r (f_ p c r q)).2+160:=by have ab:(ik p c r (f_ p c r q)).1.rows.length<=160:=Sys.n H.ok;refine bE (Ej _) Ry
   rw[sA D];obtain⟨E,F⟩:=zO m (c+1) (r+1,iA p c r (ik p c r (f_ p c r q))) c1 Ry;exact⟨by dsimp only at E ⊢;omega,F⟩
def Ek{p:Int}{r:Nat}:∀(n:Nat) (q:Sy×List cZ),(nS p r n q).2.length<=q.2+n
 |0,q=>ah _
 |n+1,q=>by
  by_cases z:r<=n
  .rw[yF z];have:=Ek (p:=p) (r:=r) n (push p q ⟨4,n,0,0,[]⟩);have B:(push p q ⟨4,n,0,0,[]⟩).2.length=q.2+1:=by unfold push;simp
   omega
  .rw[vm Ry];omega
def rn(z:s.Ok p):(fT p s).2.length<=30000:=by have R:=Sys.h0 z;have Z:=Sys.v0 z;have T:=Sys.h100 z;have ab:=Sys.v24 z;obtain⟨B,E,F,H⟩:=zN s.h.toNat (s,[]) z (by show s.h=_;omega);obtain⟨I,J⟩:=zO (v:=s.v) s.v.toNat 0 (0,iL p s.h.toNat (s,[])) ⟨E,F,H,aT _,fun d Q=>Ry⟩ Ry;have O:=Ek (p:=p) (r:=(iX p s.v.toNat 0 (0,iL p s.h.toNat (s,[]))).1) (iX p s.v.toNat 0 (0,iL p s.h.toNat (s,[]))).2.1.rows (iX p s.v.toNat 0 (0,iL p s.h.toNat (s,[]))).2;have U:=Sys.n J.ok;have e:fT p s=nS p (iX p s.v.toNat 0 (0,iL p s.h.toNat (s,[]))).1 (iX p s.v.toNat 0 (0,iL p s.h.toNat (s,[]))).2.1.rows (iX p s.v.toNat 0 (0,iL p s.h.toNat (s,[]))).2:=rfl;rw[<-e]at O;have D:([]:List cZ).length=0:=rfl;dsimp only at I B;rw[D]at B;have ac:s.h.toNat*161<=100*161:=ti _ Ry;have ad:s.v.toNat*162<=24*162:=ti _ Ry;omega
def gS(X:List cZ):Prop:=∀x∈X,x.row=[]
def gS.push{x:cZ}(h:gS q.2)(B:x.row=[]):gS (push p q x).2:=by
 intro y z;simp only[Go.Proofs.YtdpgblncijojiaaGreatDoor.push,eO,gy]at z;rcases z with z|rfl
 .exact h y z
 .exact B
def gS.mW{p:Int}{a c:Nat}{iv:Int}{q:Sy×List cZ}(h:gS q.2):∀i,gS (mW p a c iv i q).2
 |0=>h
 |i+1=>by
  have ih:=gS.mW (p:=p) (a:=a) (c:=c) (iv:=iv) h i;unfold Go.Proofs.YtdpgblncijojiaaGreatDoor.mW;split
  .exact ih.push rfl
  .exact ih
def gS.iL{p:Int}:∀(b:Nat) {q:Sy×List cZ},gS q.2->gS (iL p b q).2
 |0,_,h=>h
 |b+1,q,h=>by
  unfold Go.Proofs.YtdpgblncijojiaaGreatDoor.iL;refine gS.iL b ?_;split
  .exact h.push rfl
  .exact(h.mW _).push rfl
def gS.iX{p:Int}:∀(m c:Nat) {z:Nat×(Sy×List cZ)},gS z.2.2->gS (iX p m c z).2.2
 |0,_,_,h=>h
 |m+1,c,z,h=>by
  unfold Go.Proofs.YtdpgblncijojiaaGreatDoor.iX;refine gS.iX m (c+1) ?_;split
  .exact h
  .have B:gS (f_ p c z.1 z.2).2:=by
    unfold f_;split
    .exact h.push rfl
    .exact h
   have D:gS (ik p c z.1 (f_ p c z.1 z.2)).2:=by
    unfold ik;split
    .exact B.push rfl
    .exact B
   exact D.mW _
def gS.nS{p:Int}{r:Nat}:∀(n:Nat) {q:Sy×List cZ},gS q.2->gS (nS p r n q).2
 |0,_,h=>h
 |i+1,q,h=>by
  unfold Go.Proofs.YtdpgblncijojiaaGreatDoor.nS;split
  .exact gS.nS i (h.push rfl)
  .exact h
def pU(p:Int)(s:Sy):gS (fT p s).2:=by unfold fT;exact gS.nS _ (gS.iX _ _ (gS.iL _ (fun x z=>by cases z)))
def oE(p:Int)(s:Sy):Bool:=gg p s.v s.h s.rows&&decide ((fT p s).2.length<=3000)
def Be(p:Int)(s:Sy):List cZ:=if oE p s=true then(fT p s).2 else[]
def ziK(p:Int)(s:Sy):(Be p s).length<=1048576/\∀r∈Be p s,r.row.length<=1048576:=by
 unfold Be;split
 .rename_i h;unfold oE at h;rw[bn,cw]at h;exact⟨Ry,fun r z=>by rw[pU p s r z];simp⟩
 .simp
def mV(p:Int)(s:Sy)(A:aq)(cap:Nat)(w:aa)(Q:cU w)(R:aL w A s.rows)(Z:s.Ok p):ax 61 (iH p (ae s.v s.h A s.rows cap)) w fun e w'=>∃u,e=.returned u/\bX w' w u (fT p s).2/\aj w w':=by
 obtain⟨z,H⟩:=aK (w.alloc (.cells (ae s.v s.h A s.rows cap) 26));have F:aj w z:=by rw[H];exact(ai _ _).alloc (ah _) _
 have ac:(z:Nat)=w+1:=by rw[H];simp
 obtain⟨E,Ii⟩:=aK (z.alloc (.cells (yC p s A cap) 116));have I:aj z E:=VE;have ab:aW E ((w:Nat)+1) (yC p s A cap) 116:=by rw[Ii];exact aD _ _ ac.symm
 have O:=(show fc 116 z E ((w:Nat)+1) p s [] from⟨Ry,I,A,cap,none,0,[],ab,aG (R.ext F),by
  obtain⟨us,h1⟩:=bX.nil E ((w:Nat)+1+1);have:us=[]:=fw UE;subst this;exact h1⟩)
 obtain⟨a1,ap,a2,a3⟩:=fS (zbz z E ((w:Nat)+1) p s (Q.ext F) O Z) (an F I) Ii H;clear F ac I ab O Q R Z Ii H;go_enter func61,ntmps61
 go_upto_region 2 with(fail)
 rw[<-a3.o,<-a2.o];go_wp2_with (go_at_call 99;refine a1.mono ?_;rintro e ad ⟨rfl,J,T⟩;have a6:=zH J;have ao:=zH T;obtain⟨B,D,am,U⟩:∃B D,af ad ((w:Nat)+1) 4 (.slice B (fT p s).2 D)/\bX ad ((w:Nat)+1+1) (.slice B (fT p s).2 D) (fT p s).2:=(by obtain⟨_,_,A,c,B,D,us,a5,_,a4⟩:=J;obtain⟨_,_,_,_,am⟩:=bO a5;exact⟨B,D,am,us,a4⟩);have a0:=zH U;clear J T U)
 go_ret
 exact⟨_,rfl,a0.mono Ry,ap.trans (ao.mono Ry)⟩
def za0(p:Int)(s:Sy)(A:aq)(cap:Nat)(w:aa)(Q:cU w)(R:aL w A s.rows)(ab:s.rows.length<=1048576)(ac:∀r∈s.rows,r.length<=1048576):ax 29 (iH p (ae s.v s.h A s.rows cap)) w (c_ (Be p s) (oE p s) w):=by
 have F:=zH ((ai w w).alloc (ah _) (.cells (ae s.v s.h A s.rows cap) 26));have I:=zH (jg p s.v s.h A cap s.rows _ (Q.ext F) (R.ext F) (dM ab) (fun r a1=>dM (ac r a1)));have ad:(w.alloc (.cells (ae s.v s.h A s.rows cap) 26)).heap[w.heap.size]?=some (.cells (ae s.v s.h A s.rows cap) 26 (0,0)):=aD _ _ rfl;obtain⟨U,ao,ap⟩:=dD ad Q R;clear R ab ac ad Q;cases hs:gg p s.v s.h s.rows with
 |false=>
  rw[hs]at I;have h1:oE p s=false:=by unfold oE;rw[hs];rfl
  have D:Be p s=[]:=UT;rw[h1,D];clear h1 D hs;go_enter func29,ntmps29
  go_wp2_with (go_at_call 33;refine I.mono ?_;rintro e am ⟨rfl,z⟩;have B:=zH (an F z);clear z)
  exact az (v:=.tuple iG) UK rfl (c_.mk rfl (bX.nil _ _) B.o)
 |true=>
  rw[hs]at I;have T:s.Ok p:=il.1 hs;have H:=(fun(W:aa) (Z:aj w W)=>mV p s A cap W (ao.ext Z) (ap.ext Z) T);obtain⟨Y,hY⟩:=aK ((fT p s).2);rw[<-hY]at H;have H:=zH H;by_cases Ex:Y.length<=3000
  .have h1:oE p s=true:=Vz;have D:Be p s=Y:=by unfold Be;rw[ar h1,hY]
   rw[h1,D];clear h1 D hs T hY;go_enter func29,ntmps29
   go_wp2_with (first|(go_at_call 33;refine I.mono ?_;rintro e am ⟨rfl,z⟩;have B:=zH (an F z);obtain⟨d0,d1,d2⟩:=al (aA U.o z);clear z)|(go_at_call 61;refine(H.o _ B.o).mono ?_;rintro e a2 ⟨u,rfl,E,J⟩;obtain⟨A2,c2,rfl,_⟩:=E.view;have O:=zH (an B J);have a0:=zH (E.mono (B':=w.heap.size) B.size);clear J E d0 d1 d2))
   exact az (v:=.tuple #[.slice A2 Y c2,.bool true]) UK rfl (c_.mk rfl a0.o O.o)
  .have h1:oE p s=false:=by unfold oE;rw[<-hY,fh Ex,y9]
   have D:Be p s=[]:=UT;rw[h1,D];clear h1 D hs T hY;go_enter func29,ntmps29
   go_wp2_with (first|(go_at_call 33;refine I.mono ?_;rintro e am ⟨rfl,z⟩;have B:=zH (an F z);obtain⟨d0,d1,d2⟩:=al (aA U.o z);clear z)|(go_at_call 61;refine(H.o _ B.o).mono ?_;rintro e a2 ⟨u,rfl,E,J⟩;obtain⟨A2,c2,rfl,_⟩:=E.view;have O:=zH (an B J);clear J E d0 d1 d2))
   exact az (v:=.tuple iG) UK rfl (c_.mk rfl (bX.nil _ _) O.o)
def za1(p:Int)(s:Sy)(A:aq)(cap:Nat)(w:aa)(Q:aL w A s.rows)(U:s.rows.length<=1048576)(Z:∀r∈s.rows,r.length<=1048576):ax 30 (iH p (ae s.v s.h A s.rows cap)) w (c_ (Be p s) (oE p s) w):=by
 have J:=zH ((ai w w).alloc (ah _) (.cells (ae s.v s.h A s.rows cap) 26));have H:=zH (ud p s.v s.h A cap s.rows _ (Q.ext J.o) (dM U) (fun r ap=>dM (Z r ap)));have ab:(w.alloc (.cells (ae s.v s.h A s.rows cap) 26)).heap[w.heap.size]?=some (.cells (ae s.v s.h A s.rows cap) 26 (0,0)):=aD _ _ rfl;obtain⟨T,ad⟩:=bL ab Q;clear Q U Z ab;cases hs:gg p s.v s.h s.rows with
 |false=>
  rw[hs]at H;have h1:oE p s=false:=by unfold oE;rw[hs];rfl
  have D:Be p s=[]:=UT;rw[h1,D];clear h1 D hs;go_enter func30,ntmps30
  go_wp2_with (go_at_call 35;refine H.o.mono ?_;rintro e ac ⟨rfl,z⟩;have B:=zH (an J.o z);clear z)
  exact az (v:=.tuple iG) UJ rfl (c_.mk rfl (bX.nil _ _) B.o)
 |true=>
  rw[hs]at H;have R:s.Ok p:=il.1 hs;have F:=(fun(W:aa) (ao:aj w W)=>m8 p s A cap W (ad.ext ao) R);obtain⟨Y,hY⟩:=aK ((fT p s).2);rw[<-hY]at F;have F:=zH F;by_cases Ex:Y.length<=3000
  .have h1:oE p s=true:=Vz;have D:Be p s=Y:=by unfold Be;rw[ar h1,hY]
   rw[h1,D];clear h1 D hs R hY;go_enter func30,ntmps30
   go_wp2_with (first|(go_at_call 35;refine H.o.mono ?_;rintro e ac ⟨rfl,z⟩;have B:=zH (an J.o z);obtain⟨d0,d1,d2⟩:=al (aA T z);clear z)|(go_at_call 62;refine(F.o _ B.o).mono ?_;rintro e a0 ⟨u,rfl,E,I⟩;obtain⟨A2,c2,rfl,_⟩:=E.view;have O:=zH (an B I);have am:=zH (E.mono (B':=w.heap.size) B.size);clear I E d0 d1 d2))
   exact az (v:=.tuple #[.slice A2 Y c2,.bool true]) UJ rfl (c_.mk rfl am.o O.o)
  .have h1:oE p s=false:=by unfold oE;rw[<-hY,fh Ex,y9]
   have D:Be p s=[]:=UT;rw[h1,D];clear h1 D hs R hY;go_enter func30,ntmps30
   go_wp2_with (first|(go_at_call 35;refine H.o.mono ?_;rintro e ac ⟨rfl,z⟩;have B:=zH (an J.o z);obtain⟨d0,d1,d2⟩:=al (aA T z);clear z)|(go_at_call 62;refine(F.o _ B.o).mono ?_;rintro e a0 ⟨u,rfl,E,I⟩;obtain⟨A2,c2,rfl,_⟩:=E.view;have O:=zH (an B I);clear I E d0 d1 d2))
   exact az (v:=.tuple iG) UJ rfl (c_.mk rfl (bX.nil _ _) O.o)
end Go.Proofs.YtdpgblncijojiaaGreatDoor
