/- Parts of the walks. Conditions: as stated with each. -/
import Derived.Test.YtdpgblncijojiaaGreatDoorPk33
import Derived.Test.YtdpgblncijojiaaGreatDoorPk43
namespace Go.Proofs.YtdpgblncijojiaaGreatDoor
open Go.RowKit Tryz
set_option linter.all false
set_option maxHeartbeats 8000000
set_option maxRecDepth 100000
variable{A:aq}{D b k:Nat}{p:Int}{s:Sy}{v0 v1 v2:av}{w:aa}
def nK{x:av}{p:dw}(h:p.block≠b)(z:w.cell? p=some x):(((w.setCell ⟨b,0,none⟩ v0).setCell ⟨b,1,none⟩ v1).setCell ⟨b,2,none⟩ v2).cell? p=some x:=(cD h).trans ((cD h).trans ((cD h).trans z))
def er.fu{rows:aC}(h:er w D A rows)(z:b<D):er (((w.setCell ⟨b,0,none⟩ v0).setCell ⟨b,1,none⟩ v1).setCell ⟨b,2,none⟩ v2) D A rows:=((h.setCell (a:=⟨b,0,none⟩) z _).setCell (a:=⟨b,1,none⟩) z _).setCell (a:=⟨b,2,none⟩) z _
def zhN(t:Sy)(w:aa)(e:Ending)(w':aa):Prop:=∃A c,e=.returned (.agg (ae t.v t.h A t.rows c))/\er w' w A t.rows/\aj w w'
def gW(p:Int)(s:Sy):Sy:=⟨s.v,0,zdx p s.v.toNat s.h.toNat s.rows⟩
def B6:(gW p s).rows=jE p (uq p s) s.v.toNat:=rfl
def kP(p:Int)(s:Sy)(A:aq)(cap:Nat)(w:aa)(a8:aL w A s.rows)(I_:s.Ok p):ax 59 (iH p (ae s.v s.h A s.rows cap)) w (zhN (gW p s) w):=by
 have cb:=Sys.v0 I_;have cc:=Sys.v24 I_;obtain⟨r,b0,O⟩:=DU I_;have ca:s.n<=124:=VI;have bm:((s.v.toNat:Nat):Int)=s.v:=Ry;have a5:=zH (fun(D:aa) (T:aL D A s.rows)=>zt p s A cap D T I_);obtain⟨B,R⟩:=aK (uq p s);rw[<-R]at a5 O;have bd:=O.1;have a3:=zH (fun(D:aa) (A1:aq) (c1:Nat) (T:aL D A1 B)=>(by
  have:=q_ p B A1 c1 B s.v.toNat D (Sys.f I_) T (by rw[bd];exact O) Ry Ry;rw[bm]at this;exact this:ax 81 (wB p A1 B c1 s.v) D (yv (jE p B s.v.toNat) D)))
 have I:=zH (by rw[B6,R]:(gW p s).rows=jE p B s.v.toNat);obtain⟨F,a7⟩:=aK (jE p B s.v.toNat);rw[<-a7]at a3 I;obtain⟨a4,Q⟩:=bL a8 (show(gW p s).v=s.v/\(gW p s).h=0 from⟨rfl,rfl⟩);obtain⟨b8,a9⟩:=aK (gW p s);rw[<-a9]at I Q ⊢;clear a9 a7 R bd O bm b0 I_ a8;obtain⟨v,h,rows⟩:=s;dsimp only at *;go_enter func59,ntmps59
 go_upto_region 1 with(fail)
 have J:Below w w ((w.alloc (.cells (ae v h A rows cap) 26)).alloc (.cells aQ 26)):=((ai _ _).alloc (ah _) _).alloc Rx _;have U:((w.alloc (.cells (ae v h A rows cap) 26)).alloc (.cells aQ 26)).heap[w.heap.size]?=some (.cells (ae v h A rows cap) 26 (0,0)):=(bZ _ _ Rx).trans (aD _ _ rfl);have Z:((w.alloc (.cells (ae v h A rows cap) 26)).alloc (.cells aQ 26)).heap[(w:Nat)+1]?=some (.cells aQ 26 (0,0)):=aD _ _ Rx;have ab:(w:Nat)+2=((w.alloc (.cells (ae v h A rows cap) 26)).alloc (.cells aQ 26)):=Rx;obtain⟨a6,ba⟩:=aK ((w.alloc (.cells (ae v h A rows cap) 26)).alloc (.cells aQ 26));rw[<-ba]at J U Z ab ⊢;clear ba;obtain⟨a0,bo,Fc,bv⟩:=fS J Z ab (a4.ext J);obtain⟨ac,ad,am⟩:=al U;clear U Z J a4 ab;go_region_held3 (fun w'=>af w' w 0 (zI v)/\af w' w 1 (zI h)/\af w' w 2 (.slice A rows cap))
  (first|exact t2|exact t1|exact⟨ac,ad,am⟩|exact⟨nK Rx t2.1,nK Rx t2.2.1,nK Rx t2.2.2⟩)
  ((first|(go_at_call 40;refine(a5.o _ (bv.ext (ai _ _).drew)).mono ?_;rintro e ce ⟨A2,c2,rfl,be,H⟩;have t1:=aY (ag H ac) (aY (ag H ad) (ag H am));have bp:=zH be.at;have ao:=zH ((ai a6 a6).drew.trans H);clear be H)|(go_at_call 81;refine(a3.o _ _ _ bp.o).mono ?_;rintro e b7 ⟨A3,c3,rfl,bi,z⟩;have t2:=aY (ag z t1.1) (aY (ag z t1.2.1) (ag z t1.2.2));have br:=zH (bi.mono ao.size);have ap:=zH (bQ ao z);have E:=cp ap bo;obtain⟨b1,b2,b3⟩:=al E;have b4:=aS E 0;have b5:=aS E 1;have b6:=aS E 2;have bz:=zH E;clear bi z E)))
 have z:=oh (v0:=.int .i64 v) (v1:=()) (v2:=.slice A3 F c3) bz;obtain⟨a2,a1⟩:=bL (br.fu (b:=(w:Nat)+1) (v0:=.int .i64 v) (v1:=()) (v2:=.slice A3 F c3) Tr) (jZ (b:=(w:Nat)+1) (bQ a0 ap) Ry (zI v) (zI 0) (.slice A3 F c3));obtain⟨b9,bb⟩:=aK (((b7.setCell ⟨(w:Nat)+1,0,none⟩ (zI v)).setCell ⟨(w:Nat)+1,1,none⟩ (zI 0)).setCell ⟨(w:Nat)+1,2,none⟩ (.slice A3 F c3));rw[<-bb]at z a2 a1 ⊢;clear bb b1 b2 b3 b4 b5 b6 t2 ac ad am;obtain⟨ch,ci,cj⟩:=al z;clear z;go_wp2;refine az (v:=.agg #[v,(),.slice A3 F c3]) (by simp[results,results59,go_sem, *]) rfl ⟨A3,c3,?_,?_,a1⟩
 .rw[I.o,Q.o.1,Q.o.2]
 .rw[I.o];exact a2.mono a0.size

def zhC{z:Type}(l:List z)(k j:Nat)(x:z)(h:k<=l.length):(bK l k x)[j]?=if j<k then l[j]? else if j=k then some x else l[j-1]?:=by unfold bK;exact kh l k j x h
def yP{D:Type}{l:List D}{x:D}(h:l[k]?=some x):bK (l.eraseIdx k) k x=l:=by
 have E:=(bs.1 h).1;apply eQ;intro j;unfold bK;rw[kh _ _ _ _ (by rw[mj E];omega)];by_cases z:j<k
 .rw[ar z,gG,ar z]
 .rw[ak z];by_cases B:j=k
  .rw[ar B,B,h]
  .rw[ak B,gG,ak Ry,show j-1+1=j by omega]
def yQ{B:Type}{l:List B}{x:B}(h:k<=l.length):(bK l k x).eraseIdx k=l:=by
 apply eQ;intro j;rw[gG];unfold bK;rw[kh _ _ _ _ h];by_cases z:j<k
 .rw[ar z,ar z]
 .rw[ak z,ak Ry,ak Ry];rfl
def zhD{z B:Type}(f:z->B)(l:List z)(k:Nat):(l.eraseIdx k).map f=(l.map f).eraseIdx k:=by apply eQ;intro j;rw[bR,gG,gG,bR]
def zhE{z B:Type}(f:z->B)(l:List z)(k:Nat)(x:z):(bK l k x).map f=bK (l.map f) k (f x):=by unfold bK;simp
def zji(i j k:Nat):sw i j (sw i j k)=k:=by unfold sw;split<;>split<;>(try split)<;>omega
def zjj{a:Nat}(z:a<=s.rows.length)(B:s.rows.length<160):eZ p s ⟨5,a,0,0,[]⟩=true:=WD
def zjO{a:Nat}(F:(b:Int)<s.h)(E:a<s.rows.length)(D:∀(j:Nat) (r:aH),s.rows[j]?=some r->(j=a↔r.getD (s.v+(b:Int)).toNat 0≠0)):eZ p s ⟨6,a,b,0,[]⟩=true:=by
 have h1:oc (fD s.rows (s.v+(b:Int)).toNat) a=true:=by rw[si];intro k x B;obtain⟨r,z,rfl⟩:=oH.1 B;rw[<-D k r z];omega
 exact Zt
def zjP{a:Nat}{row:aH}(T:(b:Int)<=s.h)(R:a<=s.rows.length)(J:s.rows.length<160)(H:s.h<100)(I:(row:Int)=s.v+s.h+1)(F:∀y∈row,0<=y/\y<p)(Q:row.getD (s.v+(b:Int)).toNat 0≠0):eZ p s ⟨7,a,b,0,row⟩=true:=by
 have z:eW (a:Int) 0 (s.rows:Int)=true:=Sr;have B:eW (b:Int) 0 s.h=true:=Sr;have D:row.all (jD p)=true:=by rw[eD];exact fun y O=>fC.2 (F y O)
 have E:(row.getD (s.v+(b:Int)).toNat 0 !=0)=true:=by simpa using Q
 unfold eZ jO;simp only[show((7:Int)=1)=False by decide,show((7:Int)=2)=False by decide,show((7:Int)=3)=False by decide,show((7:Int)=4)=False by decide,show((7:Int)=5)=False by decide,show((7:Int)=6)=False by decide,ku,jo,z,B,D,E,J,H,I,decide_true];simp[jb]
def zjQ(E:(b:Int)<s.h)(D:∀r∈s.rows,r.getD (s.v+(b:Int)).toNat 0=0):eZ p s ⟨8,0,b,0,[]⟩=true:=by
 have h1:(fD s.rows (s.v+(b:Int)).toNat).all (fun x=>eW x 0 0)=true:=by rw[eD];intro x B;obtain⟨r,z,rfl⟩:=cd.1 B;rw[D r z];rfl
 exact Zs
def zjR(z:(b:Int)<=s.h)(B:s.h<100):eZ p s ⟨9,0,b,0,[]⟩=true:=WD
def zgJ{c i x:Int}(h:c*i%p=1)(z:0<=x)(B:x<p):x*c%p*i%p=x:=by rw[mi,qx _ (qy p),<-mi,nk,mi,h,oZ,qx _ (qy p),lO z B]
def za2{c i:Int}(h:c*i%p=1){r:aH}(z:∀x∈r,0<=x/\x<p):fU p i (fU p c r)=r:=by
 unfold fU;rw[kB];conv=>rhs;rw[<-wS r]
 exact jr fun x B=>zgJ h (z x B).1 (z x B).2
def zgK{c x y:Int}(z:0<=x)(B:x<p):((x+c*y)%p+(p-c)%p*y)%p=x:=by
 have e:((x+c*y)%p+(p-c)%p*y)%p=(x+c*y+(p-c)*y)%p:=by rw[oY,qx _ (qy p),mi ((p-c)%p),qx _ (qy p),<-mi,<-oY]
 rw[e,show x+c*y+(p-c)*y=x+p*y by rw[tl];omega,DI,lO z B]
def za3{c:Int}{r q:aH}(I:r.length=q)(D:∀x∈r,0<=x/\x<p):cV p ((p-c)%p) (cV p c r q) q=r:=by
 apply eQ;intro j;unfold cV;rw[wC,wC];by_cases B:j<r.length
 .obtain⟨x,z⟩:=aw B;obtain⟨y,E⟩:=aw (Ry:j<q.length);obtain⟨F,H⟩:=D x (aR z);rw[z,E];simp only[zgK F H]
 .rw[fy Ry,fy (Ry:q.length<=j)]
def pv{t:Sy}(z:s.v=t.v)(B:s.h=t.h)(D:s.rows=t.rows):s=t:=by cases s;cases t;simp_all
def CC{x:cZ}(h:s.Ok p)(a2:eZ p s x=true):eZ p (cq p s x) (dU p s x)=true/\cq p (cq p s x) (dU p s x)=s:=by
 have Ex:∀r∈s.rows,r.length=(s.v+s.h).toNat:=fun r hr=>by have:=Sys.len h r hr;omega
 have b1:=Sys.v0 h;have bz:=Sys.h0 h;have p2:=Sys.p2 h;have ad:=Sys.n h;have a6:=zf6 h a2;clear a2;obtain⟨k,bp,br,O,row⟩:=x;cases a6 with
 |swap z a b D F ha hb T E hr=>
  dsimp only at z D F E hr;subst z D F E hr;have e:dU p s ⟨1,a,b,0,[]⟩=⟨1,a,b,0,[]⟩:=Ut;rw[e,DM];obtain⟨x,B⟩:=aw ha;obtain⟨y,J⟩:=aw hb;rw[getD_some B,getD_some J];refine⟨ok1 R5 R7 T,?_⟩;rw[DM];refine pv rfl rfl ?_;dsimp only;have g:=lD B J;have am:((s.rows.set a y).set b x)[a]?=some y:=by rw[g];unfold sw;rw[ak T,ar rfl,J]
  have ao:((s.rows.set a y).set b x)[b]?=some x:=by rw[g];unfold sw;rw[ar rfl,B]
  rw[getD_some am,getD_some ao];apply eQ;intro j;rw[lD am ao,g,zji]
 |scale z a D ha c1 c2 hb hr=>
  dsimp only at z D hb hr c1 c2;subst z D hb hr;obtain⟨bi,bm,bo⟩:=iW (Sys.f h) c1 c2;have e:dU p s ⟨2,a,0,O,[]⟩=⟨2,a,0,ec p O,[]⟩:=Ut;rw[e,DN];refine⟨ok2 R5 bm bo,?_⟩;rw[DN];refine pv rfl rfl ?_;dsimp only;obtain⟨x,B⟩:=aw ha;rw[getD_some B,getD_some (dJ R5),th,za2 bi (Sys.el h x (aR B)),jy B]
 |add z a b D F ha hb T c1 c2 hr=>
  dsimp only at z D F hr c1 c2;subst z D F hr;have e:dU p s ⟨3,a,b,O,[]⟩=⟨3,a,b,(p-O)%p,[]⟩:=Ut;rw[e,DL];refine⟨ok3 R5 R7 (fX T) (gI _ Ry) (gJ _ Ry),?_⟩;rw[DL];refine pv rfl rfl ?_;dsimp only;obtain⟨x,B⟩:=aw ha;obtain⟨y,J⟩:=aw hb;have b3:=Ex x (aR B);have b4:=Ex y (aR J);rw[getD_some B,getD_some J,getD_some (dJ R7),getD_some (by rw[df (fX T),B]:(s.rows.set b (cV p O y x))[a]?=some x),th,za3 Ry (Sys.el h y (aR J)),jy J]
 |drop z a D ha H hb E hr=>
  dsimp only at z D hb E hr;subst z D hb E hr;have e:dU p s ⟨4,a,0,0,[]⟩=⟨5,a,0,0,[]⟩:=Ut;rw[e,DP];have ab:(s.rows.eraseIdx a).length=s.rows-1:=mj ha;refine⟨zjj SP SP,?_⟩;rw[zf7];refine pv rfl rfl ?_;dsimp only;obtain⟨x,B⟩:=aw ha;rw[getD_some B]at H;have:List.replicate (s.v+s.h).toNat (0:Int)=x:=by rw[<-Ex x (aR B)];exact(List.eq_replicate_iff.2 ⟨rfl,H⟩).symm
  rw[this,yP B]
 |put z a D ha ad hb E hr=>
  dsimp only at z D hb E hr;subst z D hb E hr;have e:dU p s ⟨5,a,0,0,[]⟩=⟨4,a,0,0,[]⟩:=Ut;rw[e];have a3:(cq p s ⟨5,a,0,0,[]⟩).Ok p:=jz h (zjj ha ad);rw[zf7]at a3 ⊢;have ab:(bK s.rows a (List.replicate (s.v+s.h).toNat 0)).length=s.rows+1:=lW _ _ _;refine⟨ok4 a3 SP (fun d bv=>?_),?_⟩
  .unfold fB;dsimp only;have:(bK s.rows a (List.replicate (s.v+s.h).toNat 0))[a]?=some (List.replicate (s.v+s.h).toNat 0):=by unfold bK;rw[kh _ _ _ _ ha,ak Ry,ar rfl]
   rw[getD_some this,bg,fR];split <;>rfl
  .rw[DP];exact pv rfl rfl (yQ ha)
 |solve z a b D F ha hb H E hr=>
  dsimp only at z D F E hr;subst z D F E hr;obtain⟨x,B⟩:=aw ha;have e:dU p s ⟨6,a,b,0,[]⟩=⟨7,a,b,0,x⟩:=by simp[dU,uK,uA,uB,uC,uR,B]
  rw[e,zf8];obtain⟨K,hK⟩:=aK ((s.v+(b:Int)).toNat);have R:s.v.toNat+b=K:=Ry;rw[R]at H;rw[<-hK];have ab:((s.rows.map fun r=>r.eraseIdx K).eraseIdx a).length=s.rows-1:=by rw[mj R5,bl]
  have b2:=Ex x (aR B);have be:=(H a x B).1 rfl;refine⟨zjP SP SP SP Vl SP (Sys.el h x (aR B)) (by dsimp only;rw[<-hK];exact be),?_⟩;rw[zf9];refine pv rfl SP ?_;dsimp only;rw[<-hK,zhD,kB];have a5:(s.rows.map ((fun r=>bK r K 0)∘fun r=>r.eraseIdx K)).eraseIdx a=s.rows.eraseIdx a:=by
   apply eQ;intro j;rw[gG,gG,bR];obtain⟨i,hi⟩:=aK (if j<a then j else j+1);have a9:i≠a:=by rw[hi];split <;>omega
   rw[<-hi];cases hr:s.rows[i]? with
   |none=>rfl
   |some r=>
    have bd:=Ex r (aR hr);have Q:r.getD K 0=0:=qL fun ba=>a9 ((H i r hr).2 ba)
    obtain⟨u,U⟩:=aw (Ry:K<r.length);rw[getD_some U]at Q;subst Q;simp only[pa,Function.comp];rw[yP U]
  rw[a5,yP B]
 |bring z a b D F ha hb ad a8 ab a7 H E=>
  dsimp only at z D F E ab a7 H;subst z D F E;have e:dU p s ⟨7,a,b,0,row⟩=⟨6,a,b,0,[]⟩:=Ut;rw[e,zf9];obtain⟨K,hK⟩:=aK ((s.v+(b:Int)).toNat);have R:s.v.toNat+b=K:=Ry;rw[R]at H;rw[<-hK];have a1:(s.rows.map fun r=>bK r K 0).length=s.rows:=bl _;have b0:(bK (s.rows.map fun r=>bK r K 0) a row).length=s.rows+1:=by rw[lW,a1]
  refine⟨zjO SP SP (fun j r I=>?_),?_⟩
  .dsimp only at I ⊢;rw[<-hK];rw[zhC _ _ _ _ (by rw[a1];exact ha)]at I;have a0:∀(i:Nat) (q:aH),(s.rows.map fun r=>bK r K 0)[i]?=some q->q.getD K 0=0:=fun i q ac=>by rw[bR]at ac;obtain⟨a4,bb,rfl⟩:=o_.1 ac;have bd:=Ex a4 (aR bb);exact rI (a:=0) (Ry:K<=a4.length)
   by_cases ap:j<a
   .rw[ar ap]at I;exact⟨fun e=>Ry,fun e=>absurd (a0 j r I) e⟩
   .rw[ak ap]at I;by_cases Z:j=a
    .rw[ar Z]at I;cases I
     exact⟨fun _=>H,fun _=>Z⟩
    .rw[ak Z]at I;exact⟨fun e=>absurd e Z,fun e=>absurd (a0 _ r I) e⟩
  .rw[zf8];refine pv rfl SP ?_;dsimp only;rw[<-hK,zhE,kB,yQ (by rw[bl];exact ha)];exact Yx
 |forget z b F hb H ha E hr=>
  dsimp only at z F ha E hr;subst z F ha E hr;have e:dU p s ⟨8,0,b,0,[]⟩=⟨9,0,b,0,[]⟩:=Ut;rw[e,zf_];obtain⟨K,hK⟩:=aK ((s.v+(b:Int)).toNat);have R:s.v.toNat+b=K:=Ry;rw[R]at H;rw[<-hK];refine⟨zjR SP Vl,?_⟩;rw[zga];refine pv rfl SP ?_;dsimp only;rw[<-hK,kB];conv=>rhs;rw[<-wS s.rows]
  exact jr fun r hr=>by have:=Ex r hr;obtain⟨u,U⟩:=aw (Ry:K<r.length);have Q:=H r hr;rw[getD_some U]at Q;subst Q;exact yP U
 |invent z b F hb a8 ha E hr=>
  dsimp only at z F ha E hr;subst z F ha E hr;have e:dU p s ⟨9,0,b,0,[]⟩=⟨8,0,b,0,[]⟩:=Ut;rw[e,zga];obtain⟨K,hK⟩:=aK ((s.v+(b:Int)).toNat);rw[<-hK];refine⟨zjQ SP (fun r hr=>?_),?_⟩
  .dsimp only at hr ⊢;rw[<-hK];obtain⟨q,ac,rfl⟩:=cd.1 hr;have:=Ex q ac;exact rI Ry
  .rw[zf_];refine pv rfl SP ?_;dsimp only;rw[<-hK,kB];exact Yx
def zgL{x:cZ}(h:s.Ok p)(z:eZ p s x=true)(E:Nat->Int):s.Vis p E↔(cq p s x).Vis p E:=by obtain⟨u1,u2⟩:=CC h z;have F:=jz h z;have D:=zaC F u1;rw[u2]at D;exact⟨fun B=>D.jU rfl B,fun B=>(zaC h z).jU rfl B⟩
def zdn{p:Int}{s:Sy}{xs:List cZ}(h:s.Ok p)(z:Nat->Int):∀{i:Nat},i<=bB p s xs->(s.Vis p z↔(dn p s xs i).Vis p z)
 |0,_=>by rw[ij]
 |i+1,hi=>by have D:=iz p xs s;have B:xs[i]?=some xs[i]:=dq Ry;rw[je B];exact(zdn h z Ry).trans (zgL (jP h Ry) (wV Ry B) z)
def za4{p:Int}{s:Sy}{xs:List cZ}(h:s.Ok p):∀(n:Nat),n<=bB p s xs->bB p (dn p s xs n) (j8 p s xs n).reverse=n/\dn p (dn p s xs n) (j8 p s xs n).reverse n=s
 |0,_=>by rw[ij];exact⟨rfl,rfl⟩
 |n+1,F=>by
  have E:=iz p xs s;have z:xs[n]?=some xs[n]:=dq Ry;obtain⟨B,D⟩:=za4 (xs:=xs) h n Ry;obtain⟨u1,u2⟩:=CC (jP h (Ry:n<=bB p s xs)) (wV Ry z);rw[BS z,je z,List.reverse_append,List.reverse_cons,List.reverse_nil,tc,List.singleton_append];refine⟨?_,?_⟩
  .unfold bB;rw[ar u1,u2,B]
  .unfold dn;rw[u2,D]
def za5{xs:List cZ}(h:s.Ok p)(z:bB p s xs=xs.length):bB p (dn p s xs xs) (j8 p s xs xs).reverse=xs.length/\dn p (dn p s xs xs) (j8 p s xs xs).reverse xs=s:=za4 h xs Ry

def AO(A A2:aq)(cap br:Nat)(X:List cZ)(w:aa)(h:fF w A X)(R:fF w A2 X)(bz:X.length<=1048576)(D:∀x∈X,x.row.length<=1048576):ax 25 (nj A X cap A2 X br) w (fp w true):=by
 obtain⟨a8,a9,bo⟩:=dD h R D;clear h R D;obtain⟨n,ad⟩:=aK X.length;rw[<-ad];have b3:n<=1048576:=Ry;have bd:=zH ad;clear ad bz;go_enter func25,ntmps25
 go_wp2;go_loopw [15] (fun i wr=>∃k:Nat,k<=n/\i=.int .i64 k/\aj w wr) (fun i _=>n-(intOf i).toNat)
 case atStart=>exact⟨0,aT _,rfl,ai _ _⟩
 case round=>
  obtain⟨k,b1,rfl,T⟩:=hrel;have HB:=zH T;by_cases b2:k<n
  .have U:k<X.length:=by have:=bd.o;omega
   obtain⟨x,D⟩:=aw U;obtain⟨b,o,rfl,ap⟩:=(a8.ext T).here U;obtain⟨b0,b4,rfl,a0⟩:=(a9.ext T).here U;obtain⟨Q,ab,⟨a3,a4,a5,a6,a7⟩,a1⟩:=ap k x D;obtain⟨B',ac,⟨F,H,I,J,O⟩,a2⟩:=a0 k x D;have am:=bo x (aR D);have be:=zH (fun(V:aa) (bv:aU V Q x.row) (R:aU V B' x.row)=>by have:=Du Q B' ab ac x.row x.row V bv R (dM am) (dM am);rw[fJ (rfl:x.row=x.row)]at this;exact this)
   obtain⟨ba,bb,E⟩:=dD a1 a2 (aY F (aY H (aY I (aY J O))));clear U D ap a0 a1 a2 T am F H I J O;go_upto_region 6 with(fail)
   have B:=aD wr (.cells (dk x.k x.a x.b x.c Q x.row ab) 29) rfl;have z:=aE wr (.cells (dk x.k x.a x.b x.c Q x.row ab) 29);generalize wr.alloc _=W at B z ⊢;generalize (wr:Nat)=b5 at B ⊢;have F:=ag z E.o.1;have H:=ag z E.o.2.1;have I:=ag z E.o.2.2.1;have J:=ag z E.o.2.2.2.1;have O:=ag z E.o.2.2.2.2;obtain⟨ao,bm⟩:=bL B z;clear B z a3 a4 a5 a6 a7;go_upto_region 7 with(fail)
   have B:=aD W (.cells (dk x.k x.a x.b x.c B' x.row ac) 29) rfl;have z:=aE W (.cells (dk x.k x.a x.b x.c B' x.row ac) 29);generalize W.alloc _=bp at B z ⊢;generalize (W:Nat)=y at B ⊢;clear F H I J O;obtain⟨a3,a4,a5,a6,a7⟩:=bO (aA ao z);obtain⟨F,H,I,J,O⟩:=bO B;have Z:=zH (an bm z);clear B z ao;go_wp2_with (go_at_call 57;(with_reducible refine(be.o bp (ba.o.ext Z.o) (bb.o.ext Z.o)).mono ?_);rintro e V ⟨rfl,z⟩;have bi:=zH (an HB (an Z z));clear z)
   go_roundw
   case rel=>exact⟨k+1,Ry,RB,bi⟩
   case measure=>simp[intOf];omega
  .exact WG
def mO(h:s.Ok p):(gW p s).rows.length<=24/\∀r∈(gW p s).rows,r.length<=24:=by obtain⟨r,F,D⟩:=DU h;obtain⟨H,_,E,z,_,_⟩:=qi (Sys.f h) (Sys.p2 h) D;rw[B6];have:=Sys.v24 h;exact⟨by rw[z.1];omega,fun q B=>by rw[z.row q B];omega⟩
def pbB(p:Int)(a b:Sy):Bool:=jm (gW p a) (gW p b)&&decide ((fT p a).2.length+(fT p b).2<=3000)
def pbY(p:Int)(a b:Sy):List cZ:=(fT p a).2++(j8 p b (fT p b).2 (fT p b).2).reverse
def pbZ(p:Int)(a b:Sy):List cZ:=if pbB p a b=true then pbY p a b else[]
def zgd{a b:Sy}(h:pbB p a b=false):pbZ p a b=[]:=by unfold pbZ;rw[h,ak RC]
def zc1{a b:Sy}(h:pbB p a b=true):pbZ p a b=pbY p a b:=by unfold pbZ;rw[ar h]
def xB(p:Int)(a b:Sy)(A1 A2:aq)(D B:Nat)(w:aa)(J:cU w)(c6:aL w A1 a.rows)(c7:aL w A2 b.rows)(ad:a.Ok p)(T:b.Ok p):ax 55 (ew p (ae a.v a.h A1 a.rows D) (ae b.v b.h A2 b.rows B)) w (c_ (pbZ p a b) (pbB p a b) w):=by
 obtain⟨d8,s2⟩:=mO ad;obtain⟨d9,b3⟩:=mO T;obtain⟨cc,ce,ch,ci⟩:=fS (fun(W:aa) (h:aL W A1 a.rows)=>kP p a A1 D W h ad) (fun(W:aa) (h:aL W A2 b.rows)=>kP p b A2 B W h T) (fun(W:aa) (J:cU W) (h:aL W A1 a.rows)=>mV p a A1 D W J h ad) (fun(W:aa) (J:cU W) (h:aL W A2 b.rows)=>mV p b A2 B W J h T);have d3:=sS T;have e7:=rn ad;have e8:=rn T;have b1:=pU p b;obtain⟨a9,E⟩:=bL (show pbY p a b=(fT p a).2++(j8 p b (fT p b).2 (fT p b).2).reverse from rfl) (show pbB p a b=(jm (gW p a) (gW p b)&&decide ((fT p a).2.length+(fT p b).2<=3000)) from rfl);obtain⟨a2,c4⟩:=aK (gW p a);obtain⟨a3,c5⟩:=aK (gW p b);obtain⟨cR,c9⟩:=aK ((fT p a).2);obtain⟨I,bp⟩:=aK ((fT p b).2);rw[<-c4]at d8 s2 cc E;rw[<-c5]at d9 b3 ce E;rw[<-c9]at ch a9 E e7;have db:bB p b I=I.length:=by rw[bp];exact d3.bad
 rw[<-bp]at ci a9 E b1 e8;obtain⟨e1,ei,cF,cn,co,cr⟩:=lq (fun(W:aa) (c0:aq) (fs:Nat) (J:cU W) (h:aL W A2 b.rows) (e6:fF W c0 I) (e9:I.length<=3000)=>tJ p b A2 B I W c0 fs J h e6 T e9 (fun x fa=>by rw[b1 x fa];simp)) db (fun(W:aa) (a0 a1:aq) (c1 c2:Nat) (z:aL W a0 a2.rows) (e5:aL W a1 a3.rows)=>l9 a2 a3 a0 a1 c1 c2 W z e5 (dM Ry) (dM Ry) (fun r hr=>dM TR) (fun r hr=>dM (by have:=b3 r hr;omega))) J c6 c7;obtain⟨fl,Z⟩:=aK (jm a2 a3);rw[<-Z]at cF E;clear d8 s2 d9 b3 d3 b1 c4 c5 c9 bp db Z J c6 c7 ad T;obtain⟨a7,cK⟩:=bL (fun h=>zgd (p:=p) (a:=a) (b:=b) h) (fun h=>zc1 (p:=p) (a:=a) (b:=b) h);obtain⟨f2,br⟩:=aK (pbZ p a b);obtain⟨ba,ap⟩:=aK (pbB p a b);rw[<-br,<-ap]at a7 cK;rw[<-ap]at E;rw[<-br,<-ap];clear br ap;go_enter func55,ntmps55
 go_upto_region 1 with(fail)
 have U:Below w w ((w.alloc (.cells (ae a.v a.h A1 a.rows D) 26)).alloc (.cells (ae b.v b.h A2 b.rows B) 26)):=((ai _ _).alloc (ah _) _).alloc Rx _;have bz:((w.alloc (.cells (ae a.v a.h A1 a.rows D) 26)).alloc (.cells (ae b.v b.h A2 b.rows B) 26)).heap[w.heap.size]?=some (.cells (ae a.v a.h A1 a.rows D) 26 (0,0)):=(bZ _ _ Rx).trans (aD _ _ rfl);have b0:((w.alloc (.cells (ae a.v a.h A1 a.rows D) 26)).alloc (.cells (ae b.v b.h A2 b.rows B) 26)).heap[(w:Nat)+1]?=some (.cells (ae b.v b.h A2 b.rows B) 26 (0,0)):=aD _ _ Rx;obtain⟨cO,c8⟩:=aK ((w.alloc (.cells (ae a.v a.h A1 a.rows D) 26)).alloc (.cells (ae b.v b.h A2 b.rows B) 26));rw[<-c8]at U bz b0 ⊢;clear c8;obtain⟨b5,b6,b7⟩:=al bz;obtain⟨b8,b9,ca⟩:=al b0;obtain⟨eg,cu,cz,em⟩:=fS U (co.ext U) (cr.ext U) (cn.ext U);clear bz b0 U co cr cn;go_region_held3 (fun W=>af W w 0 (zI a.v)/\af W w 1 (zI a.h)/\af W w 2 (.slice A1 a.rows D)/\af W ((w:Nat)+1) 0 (zI b.v)/\af W ((w:Nat)+1) 1 (zI b.h)/\af W ((w:Nat)+1) 2 (.slice A2 b.rows B))
  (first|exact t3|exact t2|exact t1|exact⟨b5,b6,b7,b8,b9,ca⟩)
  ((first|(go_at_call 59;(with_reducible refine(cc.o _ (cu.o.ext (ai _ _).drew)).mono ?_);rintro e gc ⟨a0,d1,rfl,dT,O⟩;have t1:=(⟨ag O b5,ag O b6,ag O b7,ag O b8,ag O b9,ag O ca⟩:And _ (And _ (And _ (And _ (And _ _)))));have en:=zH dT.at;have cb:=zH ((ai cO cO).drew.trans O);clear dT O)|(go_at_call 59;(with_reducible refine(ce.o _ (cz.o.ext cb.o)).mono ?_);rintro e gd ⟨a1,d2,rfl,d0,F⟩;have t2:=(⟨ag F t1.1,ag F t1.2.1,ag F t1.2.2.1,ag F t1.2.2.2.1,ag F t1.2.2.2.2.1,ag F t1.2.2.2.2.2⟩:And _ (And _ (And _ (And _ (And _ _)))));have es:=zH d0.at;have eo:=zH (en.ext F);have eb:=zH (bQ cb F);clear d0 F)|(go_at_call 58;refine(cF.o _ _ _ _ _ eo es).mono ?_;rintro e b4 ⟨rfl,Q⟩;have t3:=(⟨ag Q t2.1,ag Q t2.2.1,ag Q t2.2.2.1,ag Q t2.2.2.2.1,ag Q t2.2.2.2.2.1,ag Q t2.2.2.2.2.2⟩:And _ (And _ (And _ (And _ (And _ _)))));have am:=zH (bQ eb Q);clear Q)))
 have a6:=zH (bQ eg am);obtain⟨bb,bd,be,bi,bm,bo⟩:=t3;obtain⟨ev,ct,a8⟩:=dD (cu.ext am) (cz.ext am) (em.ext am);clear t2 t1 b5 b6 b7 b8 b9 ca;cases Z:fl with
 |false=>
  have z:ba=false:=by rw[E.o,Z];rfl
  obtain⟨ac,ab⟩:=bL (a7 z) z;clear z;subst Z;go_wp2;refine az (v:=.tuple iG) UM rfl ?_;rw[ac.o,ab.o];exact c_.mk rfl (bX.nil _ _) a6.o
 |true=>
  subst Z;go_wp2_with fail
  go_region_held3 (fun W=>af W w 0 (zI a.v)/\af W w 1 (zI a.h)/\af W w 2 (.slice A1 a.rows D)/\af W ((w:Nat)+1) 0 (zI b.v)/\af W ((w:Nat)+1) 1 (zI b.h)/\af W ((w:Nat)+1) 2 (.slice A2 b.rows B))
   (first|exact t2|exact t1|exact⟨bb,bd,be,bi,bm,bo⟩)
   ((first|(go_at_call 61;(with_reducible refine(ch.o _ (a8.o.ext (ai _ _).drew) (ev.o.ext (ai _ _).drew)).mono ?_);rintro e gf ⟨u5,rfl,b2,R⟩;obtain⟨fz,f6,rfl,-,f9,-⟩:=b2.view;have t1:=(⟨ag R bb,ag R bd,ag R be,ag R bi,ag R bm,ag R bo⟩:And _ (And _ (And _ (And _ (And _ _)))));have e2:=zH b2;have a4:=zH ((ai b4 b4).drew.trans R);clear b2 R)|(go_at_call 61;(with_reducible refine(ci.o _ (a8.o.ext a4.o) (ct.o.ext a4.o)).mono ?_);rintro e ea ⟨u6,rfl,d5,H⟩;obtain⟨f0,f7,rfl,d4,ga,-⟩:=d5.view;have t2:=(⟨ag H t1.1,ag H t1.2.1,ag H t1.2.2.1,ag H t1.2.2.2.1,ag H t1.2.2.2.2.1,ag H t1.2.2.2.2.2⟩:And _ (And _ (And _ (And _ (And _ _)))));have cI:=zH (e2.ext H);have e0:=zH d4;have ao:=zH (bQ a4 H);clear d4 d5 H)))
  obtain⟨-,-,-,f3,f4,f5⟩:=t2;clear t1 bb bd be bi bm bo;obtain⟨eA,ek,cj⟩:=dD (ct.ext ao) (a8.ext ao) (bQ a6 ao);by_cases dc:cR.length+I<=3000
  .have z:ba=true:=by rw[E.o,fJ dc];rfl
   obtain⟨ac,ab⟩:=bL ((cK z).trans a9) z;clear z;go_wp2_with fail
   refine(e1.o _ _ _ ek eA e0 Ry).mono ?_;rintro e fo ⟨-,d6,bv⟩;obtain⟨f1,f8,rfl,dl⟩:=d6 ei;obtain⟨e3,a5⟩:=bL dl bv;have fb:=ao.size;have fd:=bv.size;have ej:=zH (SV:cR.length+(j8 p b I I).reverse<=1048576);clear d6 dl bv;go_wp2_with ((at_builtin;refine ox rfl _ _ rfl b4 ea fo _ _ _ _ (cI.ext a5) e3.o ⟨ea,ah _,cI,a5⟩ fb fd ej.o rfl rfl ?_;intro fn gi d7 da;have e4:=zH d7;have ee:=zH da;clear d7 da))
   refine az (v:=.tuple #[fn,.bool true]) UM rfl ?_;rw[ac.o,ab.o];have gb:=a6.size;exact c_.mk rfl (e4.mono Ry) ((bQ cj a5).trans (ee.mono Ry))
  .have z:ba=false:=by rw[E.o,fh dc];rfl
   obtain⟨ac,ab⟩:=bL (a7 z) z;clear z;go_wp2;refine az (v:=.tuple iG) UM rfl ?_;rw[ac.o,ab.o];exact c_.mk rfl (bX.nil _ _) cj.o
end Go.Proofs.YtdpgblncijojiaaGreatDoor
