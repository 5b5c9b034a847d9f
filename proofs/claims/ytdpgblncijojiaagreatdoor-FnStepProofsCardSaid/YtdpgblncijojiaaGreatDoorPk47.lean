/- Parts of the walks. Conditions: as stated with each. -/
import Derived.Test.YtdpgblncijojiaaGreatDoorPk46
namespace Go.Proofs.YtdpgblncijojiaaGreatDoor
open Go.RowKit Tryz
set_option linter.all false
set_option maxHeartbeats 32000000
set_option maxRecDepth 100000
variable{A A2:aq}{D N' b c c2 i j k lo n:Nat}{E V w w':aa}{H Ro Ru Rw u v v0 v1 v2 z2:av}{P:iQ}{cs:gq}{p:Int}{row:Option Nat}{t:dE}{xs:aH}
def StP(lo:Nat)(w':aa)(u:av):Prop:=∃(x:cZ) (B:aq) (xc:Nat),u=.agg (dk x.k x.a x.b x.c B x.row xc)/\x.row.length<=200/\au w' lo (.slice B x.row xc) x.row
structure yD(N:Nat)(C:Code)(b K z:Nat)(v h:Int)(A:aq)(n c:Nat)(w V:aa):Prop where
 x:∃(k a bb cc:Int) (row:aH) (XA:aq) (xc:Nat),aW V z (dk k a bb cc XA row xc) 29/\row.length<=N/\au V ((w:Nat)+2) (.slice XA row xc) row
 s:aW V w (dp v h A n c) 26
 q:aW V ((w:Nat)+1) dH 29
 cur:cy C b K V
 gr:w.grownBy V (some b)
def lV{w:aa}{b:Nat}{v:av}{fr:gY}(h:au w D v xs)(hb:w.heap[b]?=some (.cells cs 29 fr)):au (w.setCell ⟨b,j,none⟩ u) D v xs:=by
 refine au.kept h (rF w b j u) ?_;rcases h.2 with⟨rfl,-⟩|⟨g,cap,cur,rfl,-,hg,-⟩
 .exact aG rfl
 .exact XY
section
variable{N N':Nat}{C:Code}{b K K' z:Nat}{v h:Int}{A:aq}{n c:Nat}{w V V':aa}
def yD.go(D:yD N C b K z v h A n c w V)(R:b < (w:Nat)/\(w:Nat)+1<z)(Q:cy C b K' V')(B:V.grownBy V' (some b)):yD N C b K' z v h A n c w V':=by obtain⟨k,a,F,H,row,E,xc,I,J,O⟩:=D.x;exact⟨⟨k,a,F,H,row,E,xc,bD I B Ry,J,O.drawn B Ry⟩,bD D.s B R.1,bD D.q B Ry,Q,D.gr.trans B⟩
def yD.ext(B:yD N C b K z v h A n c w V)(E:b < (w:Nat)/\(w:Nat)+1<z)(D:aj V V'):yD N C b K z v h A n c w V':=B.go E (B.cur.ext D) (aN D)
def yD.mono(B:yD N C b K z v h A n c w V)(Q:K<=K')(O:N<=N':=by omega):yD N' C b K' z v h A n c w V:=⟨by obtain⟨k,a,E,F,row,D,xc,H,I,J⟩:=B.x;exact⟨k,a,E,F,row,D,xc,H,bE I O,J⟩,B.s,B.q,B.cur.mono Q,B.gr⟩
def yD.cell(D:yD N C b K z v h A n c w V):(∃y,af V z 0 (zI y))/\(∃y,af V z 1 (zI y))/\(∃y,af V z 2 (zI y))/\(∃y,af V z 3 (zI y))/\V.frozen? ⟨z,0,none⟩=false/\V.frozen? ⟨z,1,none⟩=false/\V.frozen? ⟨z,2,none⟩=false/\V.frozen? ⟨z,3,none⟩=false:=by obtain⟨k,a,H,I,row,F,xc,B,-,-⟩:=D.x;obtain⟨E,c1,c2,c3,-⟩:=bO B;obtain⟨f0,f1,f2,f3,-⟩:=oR B;exact⟨⟨_,E⟩,⟨_,c1⟩,⟨_,c2⟩,⟨_,c3⟩,f0,f1,f2,f3⟩
def yD.put(B:yD N C b K z v h A n c w V)(Q:b < (w:Nat)/\(w:Nat)+1<z)(O:j<4)(y:Int):yD N C b K z v h A n c w (V.setCell ⟨z,j,none⟩ (zI y)):=by
 obtain⟨k,a,I,J,row,E,xc,D,F,H⟩:=B.x;have e:=bw V z j _ _ (zI y) D;refine⟨?_,(bx _ _ _ _ (by show w.heap.size≠z;omega)).trans B.s,(bx _ _ _ _ (by show(w:Nat)+1≠z;omega)).trans B.q,B.cur.iM (a:=⟨z,j,none⟩) (by show b<z;omega) _,bV B.gr (a:=⟨z,j,none⟩) (by show(w:Nat)<=z;omega) _⟩
 match j,O with
 |0,_=>exact⟨y,a,I,J,row,E,xc,R4,F,lV H D⟩
 |1,_=>exact⟨k,y,I,J,row,E,xc,R4,F,lV H D⟩
 |2,_=>exact⟨k,a,y,J,row,E,xc,R4,F,lV H D⟩
 |3,_=>exact⟨k,a,I,y,row,E,xc,R4,F,lV H D⟩
end
def BB(v h B:Int)(A:aq)(c n:Nat)(rows:aC)(H:n=rows.length)(w:aa)(F:aL w A rows)(hs:Sys p v h rows)(D:0<=B)(E:B<h):ax 74 (jG (dp v h A n c) B) w fun e w'=>∃u,e=.returned u/\au w' ((w:Nat)+1) u (fD rows (v+B).toNat)/\aj w w':=by subst H;exact pZ v h B A c rows w F S_ hs.v0 hs.v24 hs.h100 D E hs.len
def zhY{V:aa}{z:Nat}{v:av}{fr:gY}(h:au V D v xs)(E:V.heap[z]?=some (.cells cs 29 fr)):some z≠v.ownBlock:=by
 rcases h.2 with⟨rfl,-⟩|⟨g,cap,cur,rfl,-,B,-⟩
 .intro e;cases e
 .intro e;have e:z=g:=eE e;subst e;rw[E]at B;simp at B
def zdy(w:aa)(b:Nat)(v0 v1 v2 v3 v4:av):World:=((((w.setCell ⟨b,0,none⟩ v0).setCell ⟨b,1,none⟩ v1).setCell ⟨b,2,none⟩ v2).setCell ⟨b,3,none⟩ v3).setCell ⟨b,4,none⟩ v4
section
variable{C:Code}{b m x:Nat}{w V:aa}{v0 v1 v2 v3 v4:av}
def zfi(h:cy C b m V)(B:b<x):cy C b m (zdy V x v0 v1 v2 v3 v4):=((((h.iM (a:=⟨x,0,none⟩) B v0).iM (a:=⟨x,1,none⟩) B v1).iM (a:=⟨x,2,none⟩) B v2).iM (a:=⟨x,3,none⟩) B v3).iM (a:=⟨x,4,none⟩) B v4
def zbj(h:w.grownBy V row)(B:(w:Nat)<=x):w.grownBy (zdy V x v0 v1 v2 v3 v4) row:=bV (bV (bV (bV (bV h (a:=⟨x,0,none⟩) B v0) (a:=⟨x,1,none⟩) B v1) (a:=⟨x,2,none⟩) B v2) (a:=⟨x,3,none⟩) B v3) (a:=⟨x,4,none⟩) B v4
def zfj{v:av}(h:au V D v xs)(B:x<D):au (zdy V x v0 v1 v2 v3 v4) D v xs:=((((h.setCell (a:=⟨x,0,none⟩) B v0).setCell (a:=⟨x,1,none⟩) B v1).setCell (a:=⟨x,2,none⟩) B v2).setCell (a:=⟨x,3,none⟩) B v3).setCell (a:=⟨x,4,none⟩) B v4
def zdz(h:aW V x #[H,Rw,z2,Ru,Ro] t):(zdy V x v0 v1 v2 v3 v4).heap[x]?=some (.cells #[v0,v1,v2,v3,v4] t (0,0)):=by have B:=bw V x 0 _ _ v0 h;have D:=bw _ x 1 _ _ v1 B;have E:=bw _ x 2 _ _ v2 D;have F:=bw _ x 3 _ _ v3 E;have I:=bw _ x 4 _ _ v4 F;simpa[zdy]using I
end
def zfk(C:Code)(b m lo:Nat)(w:aa)(p v h:Int)(A:aq)(n c:Nat)(rows:aC)(eo:n=rows.length)(ej:cy C b m w)(hE:m<=274877500000)(br:Sys p v h rows)(hm:b<lo)(f9:At lo (fun V=>aL V A rows) w):ax 63 #[.pointer (aX b),p,.agg (dp v h A n c)] w (kQ C b (m+41000) (StP w) w):=by
 have cj:=((ai w w).alloc (ah _) (.cells (dp v h A n c) 26)).alloc Rx (.cells dH 29);have h0:=(bZ (w.alloc (.cells (dp v h A n c) 26)) (.cells dH 29) (k:=w.heap.size) Rx).trans (aD w _ rfl);have bp:=aD (w.alloc (.cells (dp v h A n c) 26)) (.cells dH 29) (n:=(w:Nat)+1) Rx;obtain⟨d3,b5⟩:=bL br eo;have hG:0<=v/\v<=24/\0<=h/\h<=100:=⟨br.v0,br.v24,br.h0,br.h100⟩;have hF:2<=p/\p<=97:=⟨br.p2,br.p97⟩;have gw:n<=160:=by rw[eo];exact br.n
 obtain⟨Ez,e5,d2⟩:=dD ej.lt ej (fun V (hk:w.grownBy V (some b))=>(At.drawn f9 hk hm).now);have hL:IntKind.i64.wrap ((n:Int)+1)=(n:Int)+1:=Sq;have hH:IntKind.i64.wrap (h+1)=h+1:=Sq;have hM:IntKind.i64.wrap (p-1)=p-1:=Sq;have gK:∀r:Nat,r<=97->IntKind.i64.wrap (1+(r:Int))=1+(r:Int):=fun r a3=>Sq
 have f5:=zH gK;clear ej f9 br eo gK;go_enter func63,ntmps63
 go_upto_region 1 with(fail)
 generalize (w.alloc _).alloc _=W at cj h0 bp ⊢;obtain⟨dl,e4,dc⟩:=dD cj h0 bp;obtain⟨B,D,E⟩:=al h0;clear cj h0 bp;go_upto_region 3 with(first
  |(go_at_call 88;(with_reducible refine(cY C b m W 9 (e5.o.ext dl.o) Ry).mono ?_);rintro e ht ⟨u,rfl,⟨r,rfl,a3,-⟩,gb,gi⟩;have gA:r<=8:=Ry;have gL:=f5 r Ry;have hv:=zH gA;have e6:=zH gb;have fa:=zH gi;clear gb gi a3 gA)
  |(go_at_call 88;(with_reducible refine(cY C b (m+2) ht (n:Nat) e6.o Ry).mono ?_);rintro e hu ⟨u,rfl,⟨e1,rfl,a3,-⟩,gc,cr⟩;have e7:=zH gc;have fb:=zH (fa.trans cr);clear gc cr a3)
  |(go_at_call 88;(with_reducible refine(cY C b (m+4) hu (n:Nat) e7.o Ry).mono ?_);rintro e b4 ⟨u,rfl,⟨e2,rfl,a3,-⟩,gd,gm⟩;have e8:=zH gd;have ce:=zH (fb.trans gm);clear gd gm a3))
 obtain⟨a0,gs⟩:∃a0:Int,a0=1+(r:Int):=⟨_,rfl⟩;rw[<-gs];clear gs;have bi:=aD b4 (.cells (DB a0 e1 e2) 29) rfl;have cn:=aE b4 (.cells (DB a0 e1 e2) 29);obtain⟨ET,HI⟩:=bL (show b < (w:Nat)/\(w:Nat)+1<b4 from⟨Ez,(aP.1 (bD dc ce Tw)).1⟩) (show yD 199 C b (m+6) b4 v h A n c w (b4.alloc (.cells (DB a0 e1 e2) 29)) from⟨⟨a0,_,_,_,[],none,0,bi,Rx,au.nil _ _⟩,aA (bD e4 ce Ez) cn,aA (bD dc ce Tw) cn,e8.ext cn,((aN dl).trans ce).trans (aN cn)⟩);obtain⟨e3,-⟩:=bO bi;clear cn B D E e6 e7 e8 fa fb ce e4 dc dl e5 gL bi;generalize b4.alloc _=a8 at HI e3 ⊢;generalize (b4:Nat)=z at HI ET e3 ⊢;go_upto_block 0 with(fail)
 clear e3;go_cut [9,10,11,12,13] from 29 to 171 (fun _ _ _ _ _ V=>yD 199 C b (m+40000) z v h A n c w V)
 case first=>
  by_cases h2:a0=2
  .have d8:(a0==2)=true:=by simp[h2]
   clear h2;obtain⟨⟨am,F⟩,⟨ao,H⟩,⟨ad,I⟩,⟨ap,J⟩,O,Q,R,T⟩:=HI.cell;obtain⟨B,D,E⟩:=al HI.s;go_upto_region 6 with(fail)
   have ac:=HI.put ET (j:=2) RC (0);generalize a8.setCell ⟨z,2,none⟩ _=a9 at ac ⊢;have a1:=zH ac;clear ac;clear F H I J O Q R T B D E;obtain⟨⟨am,F⟩,⟨ao,H⟩,⟨ad,I⟩,⟨ap,J⟩,O,Q,R,T⟩:=a1.cell;obtain⟨B,D,E⟩:=al a1.s;go_wp2_with (go_at_call 88;(with_reducible refine(cY C b (m+6) a9 (p-1) a1.o.cur Ry).mono ?_);rintro e a2 ⟨u,rfl,⟨r,rfl,a3,-⟩,Z,U⟩;have gL:=f5 r Ry;clear a3;have K5:=zH (a1.go ET Z U);clear F H I J O Q R T B D E;obtain⟨⟨am,F⟩,⟨ao,H⟩,⟨ad,I⟩,⟨ap,J⟩,O,Q,R,T⟩:=K5.cell;obtain⟨B,D,E⟩:=al K5.s;clear Z U)
   exact Xw
  have d8:(a0==2)=false:=Sm;by_cases h3:a0=3
  .have d9:(a0==3)=true:=by simp[h3]
   clear h2 h3;obtain⟨⟨am,F⟩,⟨ao,H⟩,⟨ad,I⟩,⟨ap,J⟩,O,Q,R,T⟩:=HI.cell;obtain⟨B,D,E⟩:=al HI.s;go_wp2_with (go_at_call 104;(with_reducible refine(kJ C b (m+6) a8 p HI.o.cur Ry).mono ?_);rintro e a2 ⟨u,rfl,⟨r,rfl,-,-⟩,Z,U⟩;have K5:=zH (HI.go ET Z U);clear F H I J O Q R T B D E;obtain⟨⟨am,F⟩,⟨ao,H⟩,⟨ad,I⟩,⟨ap,J⟩,O,Q,R,T⟩:=K5.cell;obtain⟨B,D,E⟩:=al K5.s;clear Z U)
   exact Xw
  have d9:(a0==3)=false:=Sk;by_cases h4:a0=4
  .have ea:(a0==4)=true:=by simp[h4]
   clear h2 h3 h4;obtain⟨⟨am,F⟩,⟨ao,H⟩,⟨ad,I⟩,⟨ap,J⟩,O,Q,R,T⟩:=HI.cell;obtain⟨B,D,E⟩:=al HI.s;go_upto_region 11 with(fail)
   have ac:=HI.put ET (j:=2) RC (0);generalize a8.setCell ⟨z,2,none⟩ _=a9 at ac ⊢;have a1:=zH ac;clear ac;clear F H I J O Q R T B D E;obtain⟨⟨am,F⟩,⟨ao,H⟩,⟨ad,I⟩,⟨ap,J⟩,O,Q,R,T⟩:=a1.cell;obtain⟨B,D,E⟩:=al a1.s;go_wp2;clear F H I J O Q R T B D E;go_loopw [50] (fun i wr=>∃j:Nat,j<=n/\i=.int .i64 j/\Hd (yD 199 C b (m+6) z v h A n c w wr)) (fun i _=>n-(intOf i).toNat)
   case atStart=>exact⟨0,aT _,rfl,a1⟩
   case round=>
    obtain⟨j,hl,rfl,a4⟩:=hrel;clear a1;by_cases c4:j<n
    .have gB:=d2 wr a4.gr;obtain⟨hy,hQ,hg,gf⟩:=gB.here (by rw[<-b5.o];exact c4:j<rows.length);obtain⟨r,a3⟩:=aw (by rw[<-b5.o];exact c4:j<rows.length);obtain⟨g0,g9,hC,be⟩:=gf j r a3;subst hg;obtain⟨ci,Fu⟩:=bL be (show r.length<=124 by have:=d3.len r (aR a3);omega);clear gB gf a3 be;obtain⟨⟨am,F⟩,⟨ao,H⟩,⟨ad,I⟩,⟨ap,J⟩,O,Q,R,T⟩:=a4.cell;obtain⟨B,D,E⟩:=al a4.s;go_wp2_with (go_at_call 72;(with_reducible refine(kg 0 0 g0 g9 r wr ci.o (by unfold maxLen;have:=Fu.o;omega)).mono ?_);rintro e a2 ⟨rfl,rfl⟩;obtain⟨y,bb⟩:∃y,y=(r.all fun x=>eW x 0 0):=⟨_,rfl⟩;rw[<-bb];clear bb;cases y)
     .go_roundw
      case rel=>exact⟨j+1,Ry,RB,a4⟩
      case measure=>simp[intOf];omega
     .go_roundw
      case rel=>exact⟨j+1,Ry,RB,zH (a4.put ET RC _)⟩
      case measure=>simp[intOf];omega
    .obtain rfl:j=n:=Ry;go_wp2;go_meet
     exact a4.mono Ry
  have ea:(a0==4)=false:=Sj;by_cases h5:a0=5
  .have hc:(a0==5)=true:=by simp[h5]
   clear h2 h3 h4 h5;obtain⟨⟨am,F⟩,⟨ao,H⟩,⟨ad,I⟩,⟨ap,J⟩,O,Q,R,T⟩:=HI.cell;obtain⟨B,D,E⟩:=al HI.s;go_upto_region 19 with(go_at_call 88;(with_reducible refine(cY C b (m+6) a8 ((n:Int)+1) HI.o.cur Ry).mono ?_);rintro e a2 ⟨u,rfl,⟨r,rfl,a3,-⟩,Z,U⟩;have K5:=zH (HI.go ET Z U);clear F H I J O Q R T B D E;obtain⟨⟨am,F⟩,⟨ao,H⟩,⟨ad,I⟩,⟨ap,J⟩,O,Q,R,T⟩:=K5.cell;obtain⟨B,D,E⟩:=al K5.s;clear Z U)
   have ac:=K5.put ET (j:=1) RC ((r:Nat));generalize a2.setCell ⟨z,1,none⟩ _=b6 at ac ⊢;have a5:=zH ac;clear ac;clear F H I J O Q R T B D E;obtain⟨⟨am,F⟩,⟨ao,H⟩,⟨ad,I⟩,⟨ap,J⟩,O,Q,R,T⟩:=a5.cell;obtain⟨B,D,E⟩:=al a5.s;go_wp2_with fail
   go_meet
   exact(a5.put ET (j:=2) RC _).mono Ry
  have hc:(a0==5)=false:=Si;by_cases b8:a0=6
  .have hd:(a0==6)=true:=by simp[b8]
   clear h2 h3 h4 h5 b8;obtain⟨⟨am,F⟩,⟨ao,H⟩,⟨ad,I⟩,⟨ap,J⟩,O,Q,R,T⟩:=HI.cell;obtain⟨B,D,E⟩:=al HI.s;go_upto_region 22 with(go_at_call 88;(with_reducible refine(cY C b (m+6) a8 (h) HI.o.cur Ry).mono ?_);rintro e a2 ⟨u,rfl,⟨r,rfl,a3,-⟩,Z,U⟩;have K5:=zH (HI.go ET Z U);clear F H I J O Q R T B D E;obtain⟨⟨am,F⟩,⟨ao,H⟩,⟨ad,I⟩,⟨ap,J⟩,O,Q,R,T⟩:=K5.cell;obtain⟨B,D,E⟩:=al K5.s;clear Z U)
   have ac:=K5.put ET (j:=2) RC ((r:Nat));generalize a2.setCell ⟨z,2,none⟩ _=b6 at ac ⊢;have a5:=zH ac;clear ac;clear F H I J O Q R T B D E;clear K5;go_wp2;go_loopw [11] (fun i wr=>∃ab:Int,0<=ab/\ab<=h/\i=.int .i64 ab/\Hd (yD 199 C b (m+8+320*ab.toNat) z v h A n c w wr)) (fun i _=>(h-intOf i).toNat)
   case atStart=>exact⟨0,Ry,Ry,rfl,zH (a5.mono Ry)⟩
   case round=>
    obtain⟨ab,eg,hh,rfl,b2⟩:=hrel;clear a5;obtain⟨⟨am,F⟩,⟨ao,H⟩,⟨ad,I⟩,⟨ap,J⟩,O,Q,R,T⟩:=b2.cell;obtain⟨B,D,E⟩:=al b2.s;by_cases ei:ab<h
    .have hs:IntKind.i64.wrap (ab+1)=ab+1:=Sq;go_wp2;clear F H I J O Q R T B D E;go_loopw [84] (fun i wr=>∃j:Nat,j<=n/\i=.int .i64 j/\Hd (yD 199 C b (m+8+320*ab.toNat+2*j) z v h A n c w wr)) (fun i _=>n-(intOf i).toNat)
     case atStart=>exact⟨0,aT _,rfl,b2⟩
     case round=>
      obtain⟨j,hl,rfl,a4⟩:=hrel;clear b2;obtain⟨⟨am,F⟩,⟨ao,H⟩,⟨ad,I⟩,⟨ap,J⟩,O,Q,R,T⟩:=a4.cell;obtain⟨B,D,E⟩:=al a4.s;by_cases c4:j<n
      .obtain⟨db,rfl⟩:∃db,db=wr:=⟨wr,rfl⟩;go_wp2_with (first|(go_at_call 74;(with_reducible refine(BB v h ab A c n rows b5.o db (d2.o db a4.o.gr) d3.o eg ei).mono ?_);rintro e a2 ⟨u,rfl,cz,a6⟩;obtain⟨A2,d7,rfl,be,-⟩:=cz.view;have b3:(fD rows (v+ab).toNat).length<=160:=(by rw[nL,<-b5.o];exact gw);obtain⟨bo,co⟩:∃bo,bo=fD rows (v+ab).toNat:=⟨_,rfl⟩;rw[<-co]at be b3 ⊢;have ci:=zH be;have K6:=zH b3;have bd:=zH (a4.ext ET a6);clear cz a6 be b3 co;clear F H I J O Q R T B D E;obtain⟨⟨am,F⟩,⟨ao,H⟩,⟨ad,I⟩,⟨ap,J⟩,O,Q,R,T⟩:=bd.cell;obtain⟨B,D,E⟩:=al bd.s)|(go_at_call 73;(with_reducible refine(ya (j:Nat) A2 d7 bo a2 ci.o U9).mono ?_);rintro e b6 ⟨rfl,rfl⟩;obtain⟨y,bb⟩:∃y,y=oc bo (j:Nat):=⟨_,rfl⟩;rw[<-bb];clear bb;cases y)|(go_at_call 46;(with_reducible refine(gH C b (m+8+320*ab.toNat+2*j) a2 2 bd.o.cur Ry).mono ?_);rintro e d6 ⟨u,rfl,⟨ad,rfl⟩,Z,U⟩;have cR:=zH (bd.go ET Z U);clear F H I J O Q R T B D E;obtain⟨⟨am,F⟩,⟨ao,H⟩,⟨ad,I⟩,⟨ap,J⟩,O,Q,R,T⟩:=cR.cell;obtain⟨B,D,E⟩:=al cR.s;clear Z U;cases ad))
       all_goals go_roundw
       all_goals first
        |exact⟨j+1,Ry,RB,zH (yD.mono (K:=m+8+320*ab.toNat+2*j+2) ((cR.put ET (j:=1) RC _).put ET (j:=2) RC _) Ry)⟩
        |exact⟨j+1,Ry,RB,zH (yD.mono (K:=m+8+320*ab.toNat+2*j+2) cR Ry)⟩
        |exact⟨j+1,Ry,RB,zH (yD.mono (K:=m+8+320*ab.toNat+2*j) bd Ry)⟩
        |(simp[intOf];omega)
      .obtain rfl:j=n:=Ry;clear c4;go_wp2;go_roundw
       case rel=>exact⟨ab+1,Ry,Ry,Tv,zH (a4.mono Ry)⟩
       case measure=>simp[intOf];omega
    .go_wp2;go_meet
     exact b2.mono Ry
  have hd:(a0==6)=false:=by simpa using b8
  by_cases h7:a0=7
  .have he:(a0==7)=true:=by simp[h7]
   clear h2 h3 h4 h5 b8 h7;obtain⟨⟨am,F⟩,⟨ao,H⟩,⟨ad,I⟩,⟨ap,J⟩,O,Q,R,T⟩:=HI.cell;obtain⟨B,D,E⟩:=al HI.s;go_upto_region 34 with(go_at_call 88;(with_reducible refine(cY C b (m+6) a8 ((n:Int)+1) HI.o.cur Ry).mono ?_);rintro e a2 ⟨u,rfl,⟨r,rfl,a3,-⟩,Z,U⟩;clear a3;have K5:=zH (HI.go ET Z U);clear F H I J O Q R T B D E;obtain⟨⟨am,F⟩,⟨ao,H⟩,⟨ad,I⟩,⟨ap,J⟩,O,Q,R,T⟩:=K5.cell;obtain⟨B,D,E⟩:=al K5.s;clear Z U)
   have ac:=K5.put ET (j:=1) RC ((r:Nat));generalize a2.setCell ⟨z,1,none⟩ _=b6 at ac ⊢;have a5:=zH ac;clear ac;clear F H I J O Q R T B D E;obtain⟨⟨am,F⟩,⟨ao,H⟩,⟨ad,I⟩,⟨ap,J⟩,O,Q,R,T⟩:=a5.cell;obtain⟨B,D,E⟩:=al a5.s;go_upto_region 35 with(go_at_call 88;(with_reducible refine(cY C b (m+8) b6 (h+1) a5.o.cur Ry).mono ?_);rintro e d6 ⟨u,rfl,⟨r,rfl,a3,-⟩,Z,U⟩;have fs:=zH (show(r:Int)<h+1∨r=0 from a3);clear a3;have ch:=zH (a5.go ET Z U);clear F H I J O Q R T B D E;obtain⟨⟨am,F⟩,⟨ao,H⟩,⟨ad,I⟩,⟨ap,J⟩,O,Q,R,T⟩:=ch.cell;obtain⟨B,D,E⟩:=al ch.s;clear Z U)
   obtain⟨hP,hx,hz,hA,hT,hw,hV,gV,-,-⟩:=ch.x;have cF:=bw d6 z 2 _ _ (zI (r:Nat)) gV;simp only[zA]at cF;have ee:=ch.put ET (j:=2) RC (r:Nat);generalize d6.setCell ⟨z,2,none⟩ _=f8 at cF ee ⊢;obtain⟨cK,g7,fo⟩:=dD ee cF (show(r:Int)<=h by have:=fs.o;omega);clear F H I J O Q R T B D E;clear gV ee K5 a5 ch fs;obtain⟨b9,ca,p2,cb,cc⟩:=bO cF;obtain⟨B,D,E⟩:=al cK.s;obtain⟨a7,hp⟩:∃a7:Nat,a7=(v+h+1).toNat:=⟨_,rfl⟩;have hN:IntKind.i64.wrap (v+h)=v+h:=Sq;have hO:IntKind.i64.wrap (v+h+1)=(a7:Int):=Sq;have Fc:=zH (Ry:(a7:Int)=v+h+1/\a7<=125);clear cF hp;go_upto_region 36 with(go_at_call 105;(with_reducible refine(zeD C b (m+10) f8 p a7 cK.o.cur Ry Tr).mono ?_);rintro e c0 ⟨u,rfl,⟨xs,eA,-,c8⟩,Z,U⟩;obtain⟨b1,b7,rfl,-⟩:=c8.view;rw[eA]at c8 ⊢;have bm:=zH eA;have g6:=zH (c8.mono (show(w:Nat)+2<=f8 by have:=(aP.1 cK.q).1;omega));have da:=bD g7 U Tx;obtain⟨b9,ca,p2,cb,cc⟩:=bO da;obtain⟨f0,f1,f2,f3,f4⟩:=oR da;have f7:=zH da;have cO:=zH (cK.go ET Z U);clear eA c8 da Z U)
   have cI:=bw c0 z 4 _ _ (.slice b1 a7 b7) f7;simp only[zA]at cI;have b0:=lV (j:=4) (u:=.slice b1 a7 b7) g6 f7;have c6:=(bx c0 ⟨z,4,none⟩ (.slice b1 a7 b7) w VR).trans cO.s;have ev:=(bx c0 ⟨z,4,none⟩ (.slice b1 a7 b7) ((w:Nat)+1) (by have:=ET.o;show(w:Nat)+1≠z;omega)).trans cO.q;have ek:=cO.cur.iM (a:=⟨z,4,none⟩) UH (.slice b1 a7 b7);have em:=bV cO.gr (a:=⟨z,4,none⟩) VQ (.slice b1 a7 b7);generalize c0.setCell ⟨z,4,none⟩ _=g8 at cI b0 c6 ev ek em ⊢;clear b9 ca p2 cb cc f0 f1 f2 f3 f4 B D E;obtain⟨b9,ca,p2,cb,cc⟩:=bO cI;obtain⟨B,D,E⟩:=al c6;obtain⟨ba,hq⟩:∃ba:Nat,ba=(v+(r:Int)).toNat:=⟨_,rfl⟩;have hI:IntKind.i64.wrap (v+(r:Int))=(ba:Int):=by have:=fo.o;rw[aZ];omega
   have hr:ba<a7:=by have:=fo.o;have:=Fc.o;omega
   obtain⟨x,gR⟩:=aw (by rw[bm.o];exact hr:ba<xs.length);have hj:∃g,b1=some ⟨g,0,none⟩/\(w:Nat)+2<=g:=by
    obtain⟨g,cap,e,cj,-⟩:=lR b0 (by rw[bm.o];omega);cases e
    exact⟨g,rfl,cj⟩
   obtain⟨g,rfl,gn⟩:=hj;unfold au at b0;rw[bm.o]at b0;have d0:=b0.cellAt ba Ry;rw[bR,gR]at d0;have d1:=b0.frozenAt ba;have d0:af g8 g ba (zI x):=d0;obtain⟨dT,e9,fd,fz,fn,d5,g4⟩:=zH7 b0 ek em c6 ev cI gn;clear hq gR b0 ek em c6 ev cI gn;by_cases c7:x=0
   .have ex:(x==0)=true:=by simp[c7]
    clear c7;go_wp2;go_meet
    have ga:=ET.o;have hD:=g4.o;have gC:=dT.stored ba (zI 1);rw[<-fQ]at gC;have hn:z≠g:=fun e=>by
     subst e;obtain⟨-,h0|⟨hB,cap,cur,eb,-,U,-⟩⟩:=dT.o
     .cases h0.1
     .cases eb
      rw[d5.o]at U;simp at U
    exact⟨⟨_,_,_,_,xs.set ba 1,_,_,by rw[fx,bm.o];exact(bx _ _ _ _ (by show z≠g;exact hn)).trans d5,by rw[fx,bm.o];have:=Fc.o;omega,by unfold au;rw[fx,bm.o];exact gC.1⟩,(bx _ _ _ _ (by show w.heap.size≠g;omega)).trans fz,(bx _ _ _ _ (by show(w:Nat)+1≠g;omega)).trans fn,(e9.iM (a:=⟨g,ba,none⟩) (by show b<g;omega) _).mono Tr,bV fd (a:=⟨g,ba,none⟩) (by show(w:Nat)<=g;omega) _⟩
   .have ex:(x==0)=false:=by simpa using c7
    clear c7;go_wp2;go_meet
    exact⟨⟨_,_,_,_,xs,_,_,by rw[bm.o];exact d5,by rw[bm.o];have:=Fc.o;omega,by unfold au;rw[bm.o];exact dT⟩,fz,fn,e9.mono Tr,fd⟩
  have he:(a0==7)=false:=Sh;by_cases h8:a0=8
  .have hf:(a0==8)=true:=by simp[h8]
   clear h2 h3 h4 h5 b8 h7 h8;obtain⟨⟨am,F⟩,⟨ao,H⟩,⟨ad,I⟩,⟨ap,J⟩,O,Q,R,T⟩:=HI.cell;obtain⟨B,D,E⟩:=al HI.s;go_upto_region 40 with(fail)
   have ac:=HI.put ET (j:=1) RC (0);generalize a8.setCell ⟨z,1,none⟩ _=a9 at ac ⊢;have a1:=zH ac;clear ac;clear F H I J O Q R T B D E;obtain⟨⟨am,F⟩,⟨ao,H⟩,⟨ad,I⟩,⟨ap,J⟩,O,Q,R,T⟩:=a1.cell;obtain⟨B,D,E⟩:=al a1.s;go_upto_region 41 with(go_at_call 88;(with_reducible refine(cY C b (m+6) a9 (h) a1.o.cur Ry).mono ?_);rintro e a2 ⟨u,rfl,⟨r,rfl,a3,-⟩,Z,U⟩;have K5:=zH (a1.go ET Z U);clear F H I J O Q R T B D E;obtain⟨⟨am,F⟩,⟨ao,H⟩,⟨ad,I⟩,⟨ap,J⟩,O,Q,R,T⟩:=K5.cell;obtain⟨B,D,E⟩:=al K5.s;clear Z U)
   have ac:=K5.put ET (j:=2) RC ((r:Nat));generalize a2.setCell ⟨z,2,none⟩ _=b6 at ac ⊢;have a5:=zH ac;clear ac;clear F H I J O Q R T B D E;clear a1 K5;go_wp2;go_loopw [13] (fun i wr=>∃ab:Int,0<=ab/\ab<=h/\i=.int .i64 ab/\Hd (yD 199 C b (m+8) z v h A n c w wr)) (fun i _=>(h-intOf i).toNat)
   case atStart=>exact⟨0,Ry,Ry,rfl,a5⟩
   case round=>
    obtain⟨ab,eg,hh,rfl,a4⟩:=hrel;clear a5;obtain⟨⟨am,F⟩,⟨ao,H⟩,⟨ad,I⟩,⟨ap,J⟩,O,Q,R,T⟩:=a4.cell;obtain⟨B,D,E⟩:=al a4.s;by_cases ei:ab<h
    .have hs:IntKind.i64.wrap (ab+1)=ab+1:=Sq;go_wp2_with (first|(go_at_call 74;(with_reducible refine(BB v h ab A c n rows b5.o wr (d2.o wr a4.o.gr) d3.o eg ei).mono ?_);rintro e a2 ⟨u,rfl,cz,a6⟩;obtain⟨A2,d7,rfl,be,-⟩:=cz.view;have b3:(fD rows (v+ab).toNat).length<=160:=(by rw[nL,<-b5.o];exact gw);obtain⟨bo,co⟩:∃bo,bo=fD rows (v+ab).toNat:=⟨_,rfl⟩;rw[<-co]at be b3 ⊢;have ci:=zH be;have K6:=zH b3;have bd:=zH (a4.ext ET a6);clear cz a6 be b3 co;clear F H I J O Q R T B D E;obtain⟨⟨am,F⟩,⟨ao,H⟩,⟨ad,I⟩,⟨ap,J⟩,O,Q,R,T⟩:=bd.cell;obtain⟨B,D,E⟩:=al bd.s)|(go_at_call 72;(with_reducible refine(kg 0 0 A2 d7 bo a2 ci.o U9).mono ?_);rintro e b6 ⟨rfl,rfl⟩;obtain⟨y,bb⟩:∃y,y=(bo.all fun x=>eW x 0 0):=⟨_,rfl⟩;rw[<-bb];clear bb;cases y))
     .go_roundw
      case rel=>exact⟨ab+1,Ry,Ry,Tv,bd⟩
      case measure=>simp[intOf];omega
     .go_roundw
      case rel=>exact⟨ab+1,Ry,Ry,Tv,zH (bd.put ET RC _)⟩
      case measure=>simp[intOf];omega
    .go_wp2;go_meet
     exact a4.mono Ry
  have hf:(a0==8)=false:=Sg;by_cases h9:a0=9
  .have eb:(a0==9)=true:=by simp[h9]
   clear h2 h3 h4 h5 b8 h7 h8 h9;obtain⟨⟨am,F⟩,⟨ao,H⟩,⟨ad,I⟩,⟨ap,J⟩,O,Q,R,T⟩:=HI.cell;obtain⟨B,D,E⟩:=al HI.s;go_upto_region 48 with(fail)
   have ac:=HI.put ET (j:=1) RC (0);generalize a8.setCell ⟨z,1,none⟩ _=a9 at ac ⊢;have a1:=zH ac;clear ac;clear F H I J O Q R T B D E;obtain⟨⟨am,F⟩,⟨ao,H⟩,⟨ad,I⟩,⟨ap,J⟩,O,Q,R,T⟩:=a1.cell;obtain⟨B,D,E⟩:=al a1.s;go_wp2_with (go_at_call 88;(with_reducible refine(cY C b (m+6) a9 (h+1) a1.o.cur Ry).mono ?_);rintro e a2 ⟨u,rfl,⟨r,rfl,a3,-⟩,Z,U⟩;have K5:=zH (a1.go ET Z U);clear F H I J O Q R T B D E;obtain⟨⟨am,F⟩,⟨ao,H⟩,⟨ad,I⟩,⟨ap,J⟩,O,Q,R,T⟩:=K5.cell;obtain⟨B,D,E⟩:=al K5.s;clear Z U)
   exact Xv
  have eb:(a0==9)=false:=Sf;exact WU
 case rest=>
  clear HI;have HI:=zH hcut;clear hcut;obtain⟨a8,rfl⟩:∃a8,a8=wc:=⟨wc,rfl⟩;go_upto_block 9 with(go_at_call 88;(with_reducible refine(cY C b (m+40000) a8 40 HI.o.cur Ry).mono ?_);rintro e a9 ⟨u,rfl,⟨r,rfl,-,-⟩,Z,U⟩;have a1:=zH (HI.go ET Z U);clear Z U)
  clear HI;have HI:=a1;clear a1;go_cut [] from 173 to 210 (fun V=>yD 200 C b (m+41000) z v h A n c w V)
  case first=>
   obtain⟨⟨am,F⟩,⟨ao,H⟩,⟨ad,I⟩,⟨ap,J⟩,O,Q,R,T⟩:=HI.cell;obtain⟨B,D,E⟩:=al HI.s;by_cases h0:r=0
   .have ha:((r:Int)==0)=true:=RP;clear h0;go_wp2_with (go_at_call 88;(with_reducible refine(cY C b (m+40000+2) a9 (11) HI.o.cur Ry).mono ?_);rintro e a2 ⟨u,rfl,⟨hS,rfl,a3,-⟩,Z,U⟩;have K5:=zH (HI.go ET Z U);clear F H I J O Q R T B D E;obtain⟨⟨am,F⟩,⟨ao,H⟩,⟨ad,I⟩,⟨ap,J⟩,O,Q,R,T⟩:=K5.cell;obtain⟨B,D,E⟩:=al K5.s;clear Z U)
    go_meet
    exact(K5.put ET (j:=0) RC _).mono Ry
   have ha:((r:Int)==0)=false:=Se;by_cases bp:r=1
   .have hb:((r:Int)==1)=true:=by simp[bp]
    clear h0 bp;go_wp2_with (go_at_call 85;refine(iw C b (m+40000+2) a9 [-1,(n:Int),(n:Int)+1] _ HI.cur Ry rfl Rx Rx 3 rfl).mono ?_;rintro e a2 ⟨u,rfl,⟨x,-,rfl⟩,Z,U⟩;have K5:=zH (HI.go ET Z U);clear F H I J O Q R T B D E;obtain⟨⟨am,F⟩,⟨ao,H⟩,⟨ad,I⟩,⟨ap,J⟩,O,Q,R,T⟩:=K5.cell;obtain⟨B,D,E⟩:=al K5.s;clear Z U)
    go_meet
    exact(K5.put ET (j:=1) RC _).mono Ry
   have hb:((r:Int)==1)=false:=RX;by_cases h2:r=2
   .have d8:((r:Int)==2)=true:=by simp[h2]
    clear h0 bp h2;go_wp2_with (go_at_call 85;refine(iw C b (m+40000+2) a9 [-1,(n:Int),h+1] _ HI.cur Ry rfl Rx Rx 3 rfl).mono ?_;rintro e a2 ⟨u,rfl,⟨x,-,rfl⟩,Z,U⟩;have K5:=zH (HI.go ET Z U);clear F H I J O Q R T B D E;obtain⟨⟨am,F⟩,⟨ao,H⟩,⟨ad,I⟩,⟨ap,J⟩,O,Q,R,T⟩:=K5.cell;obtain⟨B,D,E⟩:=al K5.s;clear Z U)
    exact Xv
   have d8:((r:Int)==2)=false:=RX;by_cases h3:r=3
   .have d9:((r:Int)==3)=true:=by simp[h3]
    clear h0 bp h2 h3;go_wp2_with (go_at_call 106;(with_reducible refine(En C b (m+40000+2) a9 p HI.o.cur Ry Ry).mono ?_);rintro e a2 ⟨u,rfl,⟨x,rfl,-⟩,Z,U⟩;have K5:=zH (HI.go ET Z U);clear F H I J O Q R T B D E;obtain⟨⟨am,F⟩,⟨ao,H⟩,⟨ad,I⟩,⟨ap,J⟩,O,Q,R,T⟩:=K5.cell;obtain⟨B,D,E⟩:=al K5.s;clear Z U)
    exact Xw
   have d9:((r:Int)==3)=false:=RX;by_cases h4:r=4
   .have ea:((r:Int)==4)=true:=by simp[h4]
    clear h0 bp h2 h3 h4;obtain⟨k,a,ab,bz,row,bv,xc,bi,cu,ct⟩:=HI.x;obtain⟨b9,ca,p2,cb,cc⟩:=bO bi;obtain⟨d4,fl,Fu⟩:=dD bi ct cu;clear bi ct cu;go_wp2_with (at_builtin;(refine nZ rfl _ _ rfl ((w:Nat)+2) a9 (.slice bv row xc) row 0 rfl rfl fl.o Tq (by have:=(aP.1 HI.q).1;omega) ?_;intro hU a2 es cr a6;obtain⟨A2,c2,rfl,-⟩:=es.view;have c9:=(cr.block z (aP.1 d4).1 (zhY fl d4)).trans d4;obtain⟨b9,ca,p2,cb,cc⟩:=bO c9;obtain⟨f0,f1,f2,f3,f4⟩:=oR c9;have f6:=zH c9;have g5:=zH es;have g1:=zH a6;clear es cr a6 c9))
    go_meet
    have ga:=ET.o;have a6:=g1.o;have en:(row++[(0:Int)]).length=row+1:=Rx;have e0:=bw a2 z 4 _ _ (.slice A2 (row++[(0:Int)]) c2) f6;simp only[zA]at e0;rw[en]at e0;have ho:=(a6.block ((w:Nat)+1) (jL _)).trans HI.q;exact⟨⟨k,a,ab,bz,row++[0],A2,c2,by rw[en];simpa using e0,by rw[en];have:=Fu.o;omega,by have h:=lV (j:=4) (u:=.slice A2 (row++[(0:Int)]) c2) g5 f6;simpa using h⟩,(bx _ _ _ _ (by show w.heap.size≠z;omega)).trans ((a6.block w Ry).trans HI.s),(bx _ _ _ _ (by show(w:Nat)+1≠z;omega)).trans ho,((HI.cur.below a6 Ry).iM (a:=⟨z,4,none⟩) (by show b<z;omega) _).mono Ry,bV (jl HI.gr (a6.mono Ry)) (a:=⟨z,4,none⟩) (by show(w:Nat)<=z;omega) _⟩
   have ea:((r:Int)==4)=false:=RX;exact WU
  case rest=>
   clear HI;have ac:=hcut;clear hcut;obtain⟨k,a,ab,bz,row,bv,xc,bi,cu,ct⟩:=ac.x;have c5:=ac.q;obtain⟨V,rfl⟩:∃V,V=wc:=⟨wc,rfl⟩;obtain⟨b9,ca,p2,cb,cc⟩:=bO bi;obtain⟨F,H,I,J,hR⟩:=bO c5;obtain⟨f0,f1,f2,f3,f4⟩:=oR c5;have bb:=zdz (v0:=.int .i64 k) (v1:=.int .i64 a) (v2:=.int .i64 ab) (v3:=.int .i64 bz) (v4:=.slice bv row xc) c5;obtain⟨u0,u1,u2,u3,u4⟩:=bO bb;unfold zdy at u0 u1 u2 u3 u4;have ga:=ET.o;obtain⟨b2,g2,g3,Fu⟩:=fS (zfj (x:=(w:Nat)+1) (v0:=.int .i64 k) (v1:=.int .i64 a) (v2:=.int .i64 ab) (v3:=.int .i64 bz) (v4:=.slice bv row xc) ct Ry) (zfi (x:=(w:Nat)+1) (v0:=.int .i64 k) (v1:=.int .i64 a) (v2:=.int .i64 ab) (v3:=.int .i64 bz) (v4:=.slice bv row xc) ac.cur Ry) (zbj (x:=(w:Nat)+1) (v0:=.int .i64 k) (v1:=.int .i64 a) (v2:=.int .i64 ab) (v3:=.int .i64 bz) (v4:=.slice bv row xc) ac.gr Ry) cu;clear bi c5 bb ct ac cu;go_wp2;refine az (v:=.agg (dk k a ab bz bv row xc)) (by simp[results,results63,go_sem, *]) rfl ⟨_,rfl,?_,g2,g3⟩;exact⟨⟨k,a,ab,bz,row⟩,bv,xc,rfl,Fu,b2.mono Ry⟩
def bG.drawn{w:aa}{b:Nat}{xs:List cZ}{us:bN}(h:bG w D v xs us)(F:w.grownBy w' (some b))(I:b<D):bG w' D v xs us:=by obtain⟨H,-,B,E⟩:=xC F;exact(h.same fun k J=>E k Ry).ext B
def bG.jk{w:aa}{b:Nat}{u:av}{fr:gY}{xs:List cZ}{us:bN}(h:bG w D v xs us)(hb:w.heap[b]?=some (.cells cs 26 fr)):bG (w.setCell ⟨b,j,none⟩ u) D v xs us:=by
 refine⟨h.len,ic h.outer (rF w b j u) ?_,fun k x r E B=>au.kept (h.each k x r E B) (rF w b j u) ?_,h.apart⟩
 .rcases h.outer.2 with⟨rfl,-⟩|⟨g,cap,cur,rfl,-,hg,-⟩
  .exact aG rfl
  .exact XY
 .rcases(h.each k x r E B).2 with⟨rfl,-⟩|⟨g,cap,cur,rfl,-,hg,-⟩
  .exact aG rfl
  .exact XY
def zho{V:aa}{z:Nat}{xs:List cZ}{us:bN}{fr:gY}(h:bG V D v xs us)(hz:V.heap[z]?=some (.cells cs 26 fr)):some z≠v.ownBlock:=YN
structure yK(C:Code)(b K z:Nat)(p:Int)(N:Nat)(w:aa)(u:av)(S:Sy)(A:aq)(c:Nat)(X:List cZ)(us:bN)(V:aa):Prop where
 ok:S.Ok p
 box:aW V z (ae S.v S.h A S.rows c) 26
 rows:aI V ((w:Nat)+1) (.slice A S.rows c) S.rows
 sts:bG V ((w:Nat)+1) u X us
 len:X.length<=N
 rl:∀x∈X,x.row.length<=1000
 cur:cy C b K V
 gr:w.grownBy V (some b)
section
variable{C:Code}{b K K' z:Nat}{p:Int}{N:Nat}{w:aa}{u:av}{S:Sy}{A:aq}{c:Nat}{X:List cZ}{us:bN}{V V':aa}
def yK.go(h:yK C b K z p N w u S A c X us V)(E:b < (w:Nat)/\(w:Nat)<z)(D:cy C b K' V')(B:V.grownBy V' (some b)):yK C b K' z p N w u S A c X us V':=⟨h.ok,bD h.box B Ry,h.rows.drawn B Ry,h.sts.drawn B Ry,h.len,h.rl,D,h.gr.trans B⟩
def yK.ext(h:yK C b K z p N w u S A c X us V)(B:aj V V'):yK C b K z p N w u S A c X us V':=⟨h.ok,aA h.box B,h.rows.ext B,h.sts.ext B,h.len,h.rl,h.cur.ext B,h.gr.trans (aN B)⟩
def yK.mono(h:yK C b K z p N w u S A c X us V)(B:K<=K')(D:N<=N'):yK C b K' z p N' w u S A c X us V:=⟨h.ok,h.box,h.rows,h.sts,bE h.len D,h.rl,h.cur.mono B,h.gr⟩
def yK.at(h:yK C b K z p N w u S A c X us V)(B:b < (w:Nat)/\(w:Nat)<z):At ((w:Nat)+1) (fun V=>aL V A S.rows) V:=At.of (h.rows.fr (by have:=(aP.1 h.box).1;omega))
def yK.sys(h:yK C b K z p N w u S A c X us V):Sys p S.v S.h S.rows:=h.ok
def yK.snoc{g cap:Nat}{x:cZ}(h:yK C b K z p N w u S A c X us V)(J:b < (w:Nat))(F:bG V' ((w:Nat)+1) (.slice (aX g) (X.length+1) cap) (X++[x]) (us++[H]))(E:V.grownBy V' u.ownBlock)(D:Below ((w:Nat)+1) V V')(I:x.row.length<=1000):yK C b K z p (N+1) w (.slice (aX g) (X.length+1) cap) S A c (X++[x]) (us++[H]) V':=
 ⟨h.ok,(E.block z (aP.1 h.box).1 (zho h.sts h.box)).trans h.box,h.rows.qO RC RC h.sts.outer E,F,by rw[bS];have:=h.len;simp;omega,fun q B=>by
  rcases eO.1 B with B|B
  .exact h.rl q B
  .rw[gy.1 B];exact I,h.cur.below D Ry,jl h.gr (D.mono Ry)⟩
end
def Cg{V:aa}{c:Nat}{A:aq}(h:au V D (.slice A xs c) xs):aU V A xs:=by
 obtain⟨E,F,e,B,-⟩:=h.view;cases e
 exact B
def zc2{V V':aa}{u:av}{X:List cZ}{us:bN}(h:bG V D v X us)(hu:au V' V u xs):∀b,u.ownBlock=some b->∀B∈us,B.ownBlock≠some b:=fun b hb B F e=>by obtain⟨k,E⟩:=eN.1 F;obtain⟨x,-,ho⟩:=h.lp E;exact WY
def yK.make{C:Code}{b K z:Nat}{p:Int}{N:Nat}{w:aa}{u:av}{S B:Sy}{A:aq}{c:Nat}{X:List cZ}{us:bN}{V:aa}(h:yK C b K z p N w u S A c X us V)(I:b < (w:Nat)/\(w:Nat)<z)(H:B.Ok p)(F:aI V ((w:Nat)+1) (.slice A2 B.rows c2) B.rows):yK C b K z p N w u B A2 c2 X us (fu V z (zI B.v) (zI B.h) (.slice A2 B.rows c2)):=by have D:=bw V z 0 _ _ (zI B.v) h.box;have E:=bw _ z 1 _ _ (zI B.h) D;exact⟨H,eX h.box,ou (ou (ou F h.box) D) E,((h.sts.jk h.box).jk D).jk E,h.len,h.rl,jY h.cur Ry,gQ h.gr Ry⟩
def zjI(lo:Nat)(w':aa)(v:av):Prop:=∃X,bX w' lo v X/\X.length<=40000/\∀x∈X,x.row.length<=1000
def Bt(C:Code)(b m lo:Nat)(w:aa)(p:Int)(S:Sy)(A:aq)(n c:Nat)(e8:n=S.rows.length)(ce:cy C b m w)(f9:m<=274877000000)(ci:S.Ok p)(f8:b<lo)(d1:At lo (fun V=>aL V A S.rows) w):ax 45 #[.pointer (aX b),p,.agg (ae S.v S.h A n c)] w (kQ C b (m+400000) (zjI w) w):=by
 subst e8;have cj:=ci.small;obtain⟨c6,Ez,cI⟩:=dD ci ce.lt ce;obtain⟨H,bd⟩:=dC w (.cells (ae S.v S.h A S.rows c) 26);have cn:(w.alloc (.cells (ae S.v S.h A S.rows c) 26):Nat)=w+1:=Rx;have c4:=zH (fun V (e6:aj w V)=>ix S.v S.h A c S.rows V (At.ext d1 e6).now (by have:=cj.n;omega) (fun r ch=>by have:=cj.len r ch;omega));clear ce d1 ci cj;go_enter func45,ntmps45
 go_upto_region 1 with(fail)
 generalize w.alloc _=W at H bd cn ⊢;obtain⟨fa,fb,fd⟩:=al bd;obtain⟨b1,b5⟩:=bL H cn;clear H cn bd;go_upto_region 3 with(go_at_call 76;(with_reducible refine(c4.o W b1.o).mono ?_);rintro e a2 ⟨u,rfl,hu,F⟩;obtain⟨A1,c1,rfl,-⟩:=hu.view;have c9:=zH hu;have b2:=zH (bQ b1 F);have c8:=zH (show(w:Nat)<a2 by have:=F.size;have:=b5.o;omega);clear hu F)
 have d5:=aD a2 (.cells (ae S.v S.h A1 S.rows c1) 26) rfl;have bv:=aE a2 (.cells (ae S.v S.h A1 S.rows c1) 26);obtain⟨D,B⟩:=bL (show b < (w:Nat)/\(w:Nat)<a2 from⟨Ez,c8⟩) (show yK C b m a2.heap.size p 0 w (.slice none 0 0) S A1 c1 [] [] (a2.alloc (.cells (ae S.v S.h A1 S.rows c1) 26)) from⟨c6,d5,(c9.mono (by have:=b5.o;omega)).ext bv,⟨rfl,kX _ _ _ _,fun k u r hu=>RS,fun i j u gb b hu=>RS⟩,Rx,(fun x a4=>by cases a4),(cI.ext b2).ext bv,(aN b2).trans (aN bv)⟩);generalize a2.alloc _=e2 at B ⊢;generalize (a2:Nat)=z at B D ⊢;clear d5 bv c9 b2 c8 b1 b5 c4 cI fa fb fd c6;go_wp2_with (go_at_call 88;(with_reducible refine(cY C b m e2 7 B.o.cur Ry).mono ?_);rintro e fo ⟨u,rfl,⟨a1,rfl,ch,-⟩,J,E⟩;have c5:=zH (Ry:a1<=7);have cK:=zH (B.go D.o J E);clear J E ch)
 clear B;go_loopw [7,9] (fun u kv wr=>∃(j:Nat) (S:Sy) (A:aq) (c:Nat) (X:List cZ) (us:bN),j<=a1/\kv=.int .i64 j/\Hd (yK C b (m+2+42000*(a1-j)) z p (2*(a1-j)) w u S A c X us wr)) (fun _ kv _=>(intOf kv).toNat)
 case atStart=>exact⟨a1,S,A1,c1,[],[],ah _,rfl,zH (by simpa using cK.o)⟩
 case round=>
  obtain⟨j,S,A,c,X,us,f7,rfl,B⟩:=hrel;clear cK;by_cases bd:j=0
  .have e7:¬0 < (j:Int):=Ry;obtain⟨Q,R,T⟩:=al B.box;have e9:=c5.o;obtain⟨ac,rfl⟩:∃ac,ac=wr:=⟨wr,rfl⟩;obtain⟨c0,ea⟩:=bL (rn B.ok) (pU p S);go_upto_if 52 with(go_at_call 46;(with_reducible refine(gH C b (m+2+42000*(a1-j)) ac 4 B.o.cur Ry).mono ?_);rintro e b8 ⟨u,rfl,⟨y,rfl⟩,J,E⟩;have I:=zH (B.go D.o J E);clear J E Q R T;obtain⟨Q,R,T⟩:=al I.box;cases y)
   .go_wp2;go_ret
    exact⟨_,rfl,⟨X,bX.mono ⟨us,I.sts⟩ Ry,by have:=I.len;omega,I.rl⟩,I.cur.mono Ry,I.gr⟩
   .go_wp2_with (first
     |(go_at_call 62;(with_reducible refine(m8 p S A c b8 (I.o.at D.o).now I.o.ok).mono ?_);rintro e ao ⟨u9,rfl,d3,cc⟩;have a3:=zH (I.ext cc);have ej:=zH d3;have cF:=zH cc;clear d3 cc)
     |(at_builtin;refine ox rfl _ _ rfl ((w:Nat)+1) b8 ao _ _ X _ ⟨us,a3.sts⟩ ej.o ⟨b8,ah _,⟨us,I.sts⟩,cF⟩ (by have:=(aP.1 I.box).1;have:=D.o;omega) cF.o.size (by have:=I.len;have:=c0.o;omega) rfl rfl ?_;intro v' fz ab F;have eb:=zH ab;have cz:=zH F;clear ab F))
    go_ret
    exact⟨_,rfl,⟨X++(fT p S).2,eb.mono Ry,by rw[bS];have:=I.len;have:=c0.o;omega,fun x a4=>by
     rcases eO.1 a4 with a4|a4
     .exact I.rl x a4
     .rw[ea.o x a4];simp⟩,(a3.cur.below cz Tw).mono Ry,jl a3.gr (cz.mono Ry)⟩
  .have e7:0 < (j:Int):=Ry;have e9:=c5.o;have ga:IntKind.i64.wrap ((j:Int)-1)=((j:Int)-1):=Sq;clear bd;obtain⟨a9,b9⟩:=aK (m+2+42000*(a1-j));obtain⟨b7,ca⟩:=aK (2*(a1-j));rw[<-b9,<-ca]at B;have I0:=zH (aY b9 ca);have f5:a9<=274877400000:=Ry;have f6:b7<=14:=Ry;clear b9 ca;obtain⟨Q,R,T⟩:=al B.box;obtain⟨ac,rfl⟩:∃ac,ac=wr:=⟨wr,rfl⟩;go_upto_region 7 with(go_at_call 63;(with_reducible refine(zfk C b a9 ((w:Nat)+1) ac p S.v S.h A S.rows c S.rows rfl B.o.cur Ry B.o.sys Tw (B.o.at D.o)).mono ?_);rintro e ao ⟨u9,rfl,⟨x,ap,xc,rfl,d4,cr⟩,J,E⟩;have a3:=zH (B.go D.o J E);have cR:=zH (zc2 B.sts cr);have db:=zH (cr.mono (show(w:Nat)+1<=ac by have:=(aP.1 B.box).1;have:=D.o;omega));have Le:=zH d4;have d8:=zH (B.sts.lt);have c7:=zH E.size;clear d4 cr J E)
   clear Q R T;have be:=aD ao (.cells (dk x.k x.a x.b x.c ap x.row xc) 29) rfl;have bz:=aE ao (.cells (dk x.k x.a x.b x.c ap x.row xc) 29);obtain⟨ba,b6,bp⟩:=dD (a3.ext bz) (db.ext bz) (show b < (ao:Nat)/\(ac:Nat)<=ao from⟨a3.cur.lt,c7⟩);generalize ao.alloc _=V at be bz ba b6 ⊢;generalize (ao:Nat)=y at be bp ⊢;have ev:=zH be;obtain⟨Q,R,T⟩:=al ba.box;obtain⟨a5,a6,p2,a7,a8⟩:=bO be;clear be bz a3 db c7 B;go_upto_if 27 with(go_at_call 36;((with_reducible refine(wZ p S.v S.h x.k x.a x.b x.c A c S.rows V ap x.row xc (ba.o.at D.o).now (Cg b6.o) Td ba.o.sys).mono ?_);rintro e dl ⟨rfl,F⟩;obtain⟨b0,ct⟩:∃b0,b0=eZ p S x:=⟨_,rfl⟩;rw[show jO p S.v S.h S.rows x.k x.a x.b x.c x.row=b0 from ct.symm];have eg:=zH ct;have ad:=zH (ba.ext F);have bm:=zH (b6.ext F);have bo:=zH (aA ev F);clear ct F Q R T a5 a6 p2 a7 a8;obtain⟨Q,R,T⟩:=al ad.box;obtain⟨a5,a6,p2,a7,a8⟩:=bO bo;cases b0))
   .go_upto_if 29 with(go_at_call 46;(with_reducible refine(gH C b (a9+41000) dl 8 ad.o.cur Ry).mono ?_);rintro e e3 ⟨u,rfl,⟨cu,rfl⟩,J,E⟩;have bb:=zH (ad.go D.o J E);have ek:=zH (bm.drawn E Tw);have eA:=zH (bD bo E bp.1);clear J E Q R T a5 a6 p2 a7 a8;obtain⟨a5,a6,p2,a7,a8⟩:=bO eA;cases cu)
    .go_wp2;go_roundw
     case rel=>exact⟨j-1,S,A,c,X,us,Ry,RB,zH (bb.mono Tz Tz)⟩
     case measure=>simp[intOf];omega
    .go_wp2_with (at_builtin;refine ng rfl _ _ rfl ((w:Nat)+1) e3 _ (.slice ap x.row xc) X us x bb.o.sts ek.o cR.o (by have:=bb.len;omega) (by have:=(aP.1 bb.box).1;have:=D.o;omega) rfl rfl ?_;intro e5 e4 dT a0 U H;have am:=zH (bb.snoc Ez a0 U H Td);have b3:=zH U;have d6:=zH H;clear a0 U H)
     go_ret
     exact⟨_,rfl,⟨X++[x],bX.mono ⟨_,am.sts⟩ Ry,by have:=am.len;omega,am.rl⟩,am.cur.mono Tz,am.gr⟩
   .have d2:eZ p S x=true:=eg.symm;have b4:=zH d2;clear d2;go_upto_if 39 with(first
     |(at_builtin;refine ng rfl _ _ rfl ((w:Nat)+1) dl _ (.slice ap x.row xc) X us x ad.o.sts bm.o cR.o (by have:=ad.len;omega) (by have:=(aP.1 ad.box).1;have:=D.o;omega) rfl rfl ?_;intro e5 e4 dT a0 U H;have am:=zH (ad.snoc Ez a0 U H Td);have b3:=zH U;have d6:=zH H;clear a0 U H)
     |(go_at_call 46;(with_reducible refine(gH C b (a9+41000) dT 4 am.o.cur Ry).mono ?_);rintro e br ⟨u,rfl,⟨cu,rfl⟩,J,E⟩;have em:=zH (au.kept bm b3 (iY RC bm ad.sts.outer));have e0:=zH ((b3.block y (aP.1 bo).1 (fun e=>by have:=(d8 y e.symm).2;have:=bp.o;omega)).trans bo);have O:=zH (am.go D.o J E);have en:=zH (em.drawn E Tw);have e1:=zH (bD e0 E bp.1);clear J E Q R T a5 a6 p2 a7 a8;obtain⟨Q,R,T⟩:=al O.box;obtain⟨a5,a6,p2,a7,a8⟩:=bO e1;cases cu))
    .obtain⟨dc,cb⟩:=aK (cq p S x);obtain⟨cO,ei⟩:=bL (Dz p S x A c br ap xc (O.at D.o).now (Cg en) O.ok b4) (by rw[cb];exact jz O.ok b4:dc.Ok p);rw[<-cb]at cO;clear cb;go_wp2_with (go_at_call 37;(with_reducible refine cO.o.mono ?_);rintro e d0 ⟨A2,c2,rfl,ab,F⟩;have Z:=zH (O.ext F);have ee:=zH (ab.mono (show(w:Nat)+1<=br by have:=(aP.1 O.box).1;have:=D.o;omega));clear ab F Q R T a5 a6 p2 a7 a8;obtain⟨Q,R,T⟩:=al Z.box;have f0:=aS Z.box 0;have f1:=aS Z.box 1;have f2:=aS Z.box 2)
     go_roundw
     case rel=>exact⟨j-1,dc,A2,c2,X++[x],_,Ry,RB,zH (yK.mono (K:=a9+41000+2) (N:=b7+1) (yK.make Z D.o ei ee) Tz Tz)⟩
     case measure=>simp[intOf];omega
    .obtain⟨bi,co⟩:=aK (dU p S x);obtain⟨da,es⟩:=bL (zcO p S x A c br ap xc (O.at D.o).now O.ok b4) (by rw[co];exact zft O.ok.small:bi.row.length<=1000);rw[<-co]at da;clear co;go_wp2_with (first
      |(go_at_call 90;(with_reducible refine da.o.mono ?_);rintro e d0 ⟨A2,c2,rfl,ab,F⟩;have Z:=zH (O.ext F);have d9:=zH (zc2 O.sts ab);have eo:=zH (ab.mono (show(w:Nat)+1<=br by have:=(aP.1 O.box).1;have:=D.o;omega));clear ab F)
      |(at_builtin;refine ng rfl _ _ rfl ((w:Nat)+1) d0 _ (.slice A2 bi.row c2) _ _ bi Z.o.sts eo.o d9.o (by have:=Z.len;omega) (by have:=(aP.1 Z.box).1;have:=D.o;omega) rfl rfl ?_;intro f4 f3 fs a0 U H;have d7:=zH (Z.snoc Ez a0 U H es);have fn:=zH U;have fl:=zH H;clear a0 U H))
     go_roundw
     case rel=>exact⟨j-1,S,A,c,(X++[x])++[bi],_,Ry,RB,zH (yK.mono (K:=a9+41000+2) (N:=b7+1+1) (us:=us++[.slice ap x.row xc]++[.slice A2 bi.row c2]) (by have h:=d7.o;rw[show(X++[x]).length=X+1 by simp]at h;exact h) Tz Tz)⟩
     case measure=>simp[intOf];omega
def zcw(B:m_ w A n)(F:∀a,A=some a->a.block < (w:Nat))(H:n<=1048576)(V:aa)(z:aj w V):cy ⟨A,n,c⟩ V 0 (V.alloc (.cells (wv A n c) 71)):=by refine⟨⟨0,0,aD V _ rfl,ah _⟩,fun k E=>?_,fun a e=>gz (F a e) z.size,H⟩;obtain⟨a,o,x,e,I,D⟩:=B k E;exact⟨a,o,x,e,I,ag (z.trans ((aE V _).mono z.size)) D⟩
def pW{g:Nat}{o:Obj}(h:V.heap[g]?=some o)(z:V.grownBy E (some b))(B:g<b):E.heap[g]?=some o:=(z.block g (aP.1 h).1 fun e=>TN).trans h
def py(h:aj w V)(z:V.grownBy E (some b))(D:(w:Nat)<=b):aj w E:=⟨z.os.trans h.os,z.tape.trans h.tape,z.output.trans h.output,bE h.size z.size,fun k B=>(z.block k (by have:=h.size;omega) (fun e=>TN)).trans (h.block k B)⟩
def sh(h:At lo P V)(z:n<lo):At lo P (fu V n H Rw Ru):=At.setCell (At.setCell (At.setCell h (a:=⟨n,0,none⟩) z _) (a:=⟨n,1,none⟩) z _) (a:=⟨n,2,none⟩) z _
def CF(n:Nat)(h:n<D)(t:af V D 0 v0/\af V D 1 v1/\af V D 2 v2):(((V.setCell ⟨n,0,none⟩ H).setCell ⟨n,1,none⟩ Rw).setCell ⟨n,2,none⟩ Ru).cell? ⟨D,0,none⟩=some v0/\(((V.setCell ⟨n,0,none⟩ H).setCell ⟨n,1,none⟩ Rw).setCell ⟨n,2,none⟩ Ru).cell? ⟨D,1,none⟩=some v1/\(((V.setCell ⟨n,0,none⟩ H).setCell ⟨n,1,none⟩ Rw).setCell ⟨n,2,none⟩ Ru).cell? ⟨D,2,none⟩=some v2:=⟨gX (gk (by show D≠n;omega)) t.1,gX (gk (by show D≠n;omega)) t.2.1,gX (gk (by show D≠n;omega)) t.2.2⟩

def bX.drawn{xs:List cZ}(h:bX w D v xs)(B:w.grownBy w' (some b))(z:b<D):bX w' D v xs:=by obtain⟨us,h⟩:=h;exact⟨us,h.drawn B z⟩
def TwP(p:Int)(lo:Nat)(w':aa)(v:av):Prop:=∃(S:Sy) (A:aq) (c:Nat) (z:Sy) (B:aq) (d:Nat),v=.tuple (jI (ae S.v S.h A S.rows c) (ae z.v z.h B z.rows d))/\S.Ok p/\z.Ok p/\At lo (fun V=>aL V A S.rows) w'/\At lo (fun V=>aL V B z.rows) w'
def kL.entry{xs:List Sy}{x:Sy}(h:kL w D v xs)(F:xs[k]?=some x):∃g cap z B,v=.slice (aX g) xs cap/\(af w g (k*3) (zI x.v)/\af w g (k*3+1) (zI x.h)/\af w g (k*3+2) (.slice z x.rows B))/\aI w D (.slice z x.rows B) x.rows:=by
 obtain⟨us,h⟩:=h;have J:=fun g=>pc h.outer (g:=g)
 rcases h.outer.2 with⟨rfl,O⟩|⟨g,cap,cur,rfl,T,U,O,Z,ab⟩
 .have:=(bs.1 F).1;omega
 .obtain⟨u,Q,H⟩:=h.get F;obtain⟨z,B,rfl,hi,_⟩:=H.view;have E:∀(j:Nat) (y:av),j<3->(iS x (.slice z x.rows B))[j]?=some y->af w g (k*3+j) y:=fun j y I R=>by have:=J g rfl (k*3+j) y (by rw[sV I F Q];exact R);rwa[dy,fY]at this
  exact⟨g,cap,z,B,rfl,⟨E 0 _ RC rfl,E 1 _ RC rfl,E 2 _ RC rfl⟩,H⟩
def xg{g:Nat}{x:av}(h:af V g i x)(z:g≠n):(((V.setCell ⟨n,0,none⟩ v0).setCell ⟨n,1,none⟩ v1).setCell ⟨n,2,none⟩ v2).cell? ⟨g,i,none⟩=some x:=gX (gk z) h
def oK{rows:aC}(h:aI V D (.slice A n c) rows)(z:D<=(V:Nat))(B:lo<=D):At lo (fun V=>aL V A rows) V:=(At.of (h.fr z)).mono B
def zZ(C:Code)(b m:Nat)(w:aa)(p:Int)(ct:cy C b m w)(e7:m<=274870000000)(d7:cP p=true):ax 53 (lM (aX b) p) w (kQ C b (m+8700000) (TwP p w) w):=by
 have b7:=((ai w w).alloc (ah _) (.cells aQ 26)).alloc Rx (.cells aQ 26);have h0:=(bZ (w.alloc (.cells aQ 26)) (.cells aQ 26) (k:=w.heap.size) Rx).trans (aD w _ rfl);have h1:=aD (w.alloc (.cells aQ 26)) (.cells aQ 26) (n:=(w:Nat)+1) Rx;obtain⟨c7,Ez,ca⟩:=dD d7 ct.lt (ct.ext b7);clear ct d7;go_enter func53,ntmps53
 go_upto_region 1 with(fail)
 generalize (w.alloc _).alloc _=W at b7 h0 h1 ca ⊢;obtain⟨c4,cR,c0,cj⟩:=fS b7 h0 h1 (show(w:Nat)+2<=W from(aP.1 h1).1);clear b7 h0 h1;go_upto_region 2 with(go_at_call 44;(with_reducible refine(mU C b m W p ca.o Ry c7.o).mono ?_);rintro e a6 ⟨u,rfl,⟨S,A1,c1,rfl,bi,be⟩,I,z⟩;have FO:=zH bi;have c9:=zH (be.mono cj);have c5:=zH I;have c8:=zH ((aN (row:=some b) c4).trans z);have ce:=zH (aY (bD cR z Ez) (bD c0 z Tw));have Iu:=zH (bE cj z.size);clear bi be I z)
 have b8:=aD a6 (.cells (ae S.v S.h A1 S.rows c1) 26) rfl;have am:=aE a6 (.cells (ae S.v S.h A1 S.rows c1) 26);obtain⟨bb,b2,bv,b0,a8,ch⟩:=lq b8 (c9.ext am) (c5.ext am) (c8.trans (aN am)) (aY (aA ce.1 am) (aA ce.2 am)) (Rx:(a6:Nat) < (a6.alloc (.cells (ae S.v S.h A1 S.rows c1) 26)));generalize a6.alloc _=V at b8 am bb b2 bv b0 a8 ch ⊢;generalize (a6:Nat)=F at b8 bb Iu ch ⊢;clear b8 am c9 c5 c8 ce cR c0 c4 ca cj W;go_upto_if 12 with(go_at_call 46;(with_reducible refine(gH C b (m+4300000) V 4 bv.o Ry).mono ?_);rintro e D ⟨u,rfl,⟨y,rfl⟩,I,z⟩;have a3:=zH (bD bb z U7);have a2:=zH (aY (bD a8.1 z Ez) (bD a8.2 z Tw));have b3:=zH (b2.drawn z Tw);have bz:=zH I;have b1:=zH (b0.trans z);have b5:=zH (gz ch z.size);clear I z;cases y)
 .clear bb b2 bv b0 a8;have H:=al (show D.drew.heap[F]?=_ from a3.o);go_upto_region 4 with(fail)
  refine bk (S:=fun V=>af V F 0 (zI S.v)/\af V F 1 (zI S.h)/\af V F 2 (.slice A1 S.rows c1)) 7 RU H (fun hHeld=>?_);have ao:=aA a3 (aF D);have R:=aY (aA a2.1 (aF D)) (aA a2.2 (aF D));have Q:=b3.ext (aF D);have J:=bz.ext (aF D);have O:=b1.trans (aN (row:=some b) (aF D));have U:F < (D.drew:Nat):=b5.o;generalize D.drew=b9 at H hHeld ao R Q J O U ⊢;obtain⟨cn,a9,b4,cb,cc,ba⟩:=lq ao R Q J O U;clear ao R Q J O U H a3 a2 b3 bz b1 b5;refine ay 0 ?_;refine ay 1 ?_;refine ay 2 ?_;refine ay 3 ?_;refine ay 4 ?_;refine bu 5 fun K hK=>?_
  go_simp
  (with_reducible refine(Bt C b (m+4300000+2) ((w:Nat)+2) b9 p S A1 S.rows c1 rfl cb.o Ry FO.o Tw (oK b4.o (by have:=Iu.o;have:=ba.o;omega) (ah _))).mono ?_)
  rintro e co ⟨u,rfl,⟨X,d2,d4,d3⟩,I,z⟩;obtain⟨ek,xc,rfl,d5,-⟩:=d2.view;obtain⟨ei,dc,ej,dl,db,da,ea,eb,KD⟩:=zH9 d5 d4 d3 (bD cn z U7) (aY (bD a9.1 z Ez) (bD a9.2 z Tw)) (b4.drawn z Tw) I (cc.trans z) (gz ba z.size);have d9:=al dl;clear d2 d5 d4 d3 I z;go_simp;refine hK.out _ _ (fun _=>d9) (fun hHeld=>?_);clear hK K;try simp only[Act.put,zA]
  refine bu 6 fun K hK=>?_
  go_simp;obtain⟨es,ev,e0,d0,-⟩:=da.view;cases e0
  (with_reducible refine(Cz p S A1 c1 X co ek xc d0 ei.o FO.o dc.o (fun x H=>by have:=ej.o x H;omega)).mono ?_)
  intro e E h;unfold zgF at h;obtain⟨g,cap,rfl,a4,ad⟩:=h;obtain⟨k,cu⟩:=aK (bB p S X);have em:k<=X.length:=by rw[cu];exact iz p X S
  rw[<-cu]at a4 ⊢;have ee:=zH (show k<=40000 by have:=dc.o;omega);obtain⟨T,cr⟩:=aK (dn p S X k);have GV:=zH (by rw[cr];exact jP FO Ry:T.Ok p);obtain⟨e6,e3,B,d,dT,d6,d1⟩:=a4.entry (by rw[cr];exact Ba _ _ _ _ _ (jL _):(q7 p S X (k+1))[k]?=some T);simp only[ez,dt,pg,and_true]at dT;obtain⟨rfl,-,-⟩:=dT;obtain⟨Ik,eg,b6,Z,a1,ap,a0,KC,c6⟩:=zH9 (show(co:Nat)<=g from by rcases a4 with⟨us,a4⟩;rcases a4.outer.2 with⟨e,-⟩|⟨e5,eA,e4,e,h2,-⟩;exact absurd e Rx;simp only[ez,dt,pg,and_true]at e;rw[e.1];exact h2) (d1.mono (show(w:Nat)+2<=co by have:=Iu.o;have:=KD.o;omega)) (aA dl ad) (aY (aA db.1 ad) (aA db.2 ad)) (da.ext ad) (ea.ext ad) (eb.trans (aN ad)) (gz KD ad.size) d6;have a5:=al b6;clear a4 ad cu em cr d6 d1 d0;go_simp;refine hK.out _ _ (fun _=>a5) (fun hHeld=>?_);clear hK K;try simp only[Act.put,zA]
  refine bu 7 fun K hK=>?_
  go_simp;refine hK.out _ _ (fun h=>absurd h RC) (fun hHeld=>?_);clear hK K;try simp only[Act.put,zA]
  refine dS RU ?_ _;clear hHeld d9 a5;obtain⟨n,d8⟩:=aK (k+1);have eo:IntKind.i64.wrap ((n:Int)-1)=(k:Int):=by have:=ee.o;rw[aZ];omega
  have en:k<n:=Ry;rw[<-d8];clear d8;have H:=al (show E.drew.heap[F]?=_ from b6.o);have cF:=c6.o;go_upto_region 5 with(fail)
  refine bk (S:=fun V=>(af V F 0 (zI S.v)/\af V F 1 (zI S.h)/\af V F 2 (.slice A1 S.rows c1))/\(af V g (k*3) (zI T.v)/\af V g (k*3+1) (zI T.h)/\af V g (k*3+2) (.slice B T.rows d))) 8 RU ⟨H,cF⟩ (fun hHeld=>?_);have R:=aY (aA Z.1 (aF E)) (aA Z.2 (aF E));have Q:=a1.ext (aF E);have cz:=eg.ext (aF E);have J:=ap.ext (aF E);have O:=a0.trans (aN (row:=some b) (aF E));have U:F < (E.drew:Nat):=KC.o;generalize E.drew=a7 at H cF hHeld R Q cz J O U ⊢;clear Z a1 ap a0 KC;obtain⟨Z,a1,ci,ap,a0,KC⟩:=lq R Q cz J O U;clear R Q cz J O U H cF c6;have bd:=hHeld;refine ay 0 ?_;refine ay 1 ?_;refine ay 2 ?_;refine ay 3 ?_;refine ay 4 ?_;refine ay 5 ?_;refine ay 6 ?_;have ac:=Z.1;have br:=Z.2;obtain⟨m0,m1,m2⟩:=al ac;obtain⟨e0,e1,e2⟩:=bt ac;have bm:=eX (v0:=.int .i64 S.v) (v1:=.int .i64 S.h) (v2:=.slice A1 S.rows c1) ac;have ab:=(gk (V:=a7) (b:=w.heap.size) (k:=(w:Nat)+1) (v0:=.int .i64 S.v) (v1:=.int .i64 S.h) (v2:=.slice A1 S.rows c1) Ry).trans br;obtain⟨n0,n1,n2⟩:=al ab;obtain⟨h0,h1,h2⟩:=bt ab;have bo:=eX (v0:=.int .i64 T.v) (v1:=.int .i64 T.h) (v2:=.slice B T.rows d) ab;have bp:=(gk (V:=fu a7 w (zI S.v) (zI S.h) (.slice A1 S.rows c1)) (b:=(w:Nat)+1) (k:=w.heap.size) (v0:=.int .i64 T.v) (v1:=.int .i64 T.h) (v2:=.slice B T.rows d) Ry).trans bm;obtain⟨t0,t1,t2⟩:=al bp;obtain⟨cI,cK,cO⟩:=al bo;unfold fu at t0 t1 t2 cI cK cO n0 n1 n2 h0 h1 h2;clear bm ab bo bp ac br;obtain⟨HE,IS,KE⟩:=dD (show cy C b (m+8700000) (fu (fu a7 w (zI S.v) (zI S.h) (.slice A1 S.rows c1)) ((w:Nat)+1) (zI T.v) (zI T.h) (.slice B T.rows d))/\w.grownBy (fu (fu a7 w (zI S.v) (zI S.h) (.slice A1 S.rows c1)) ((w:Nat)+1) (zI T.v) (zI T.h) (.slice B T.rows d)) (some b) from⟨jY (jY (ap.mono Ry) Ez) Tw,gQ (gQ a0 (ah _)) Ry⟩) (show At w (fun V=>aL V A1 S.rows) (fu (fu a7 w (zI S.v) (zI S.h) (.slice A1 S.rows c1)) ((w:Nat)+1) (zI T.v) (zI T.h) (.slice B T.rows d)) from oK (iE (iE a1 Ry) Ry) VW Ry) (show At w (fun V=>aL V B T.rows) (fu (fu a7 w (zI S.v) (zI S.h) (.slice A1 S.rows c1)) ((w:Nat)+1) (zI T.v) (zI T.h) (.slice B T.rows d)) from oK (iE (iE ci Ry) Ry) VW Ry);refine bu 7 fun K hK=>?_
  go_simp;refine hK.out _ _ (fun _=>⟨CF w (by have:=Iu.o;omega) bd.1,xg bd.2.1 Wh,xg bd.2.2.1 Wh,xg bd.2.2.2 Wh⟩) (fun hHeld=>?_);clear hK K;try simp only[Act.put,zA]
  refine bu 8 fun K hK=>?_
  go_simp;refine hK.out _ _ (fun h=>absurd h RC) (fun hHeld=>?_);clear hK K;try simp only[Act.put,zA]
  clear bd en eo;exact Zh
 .clear bb b2 bv b0 a8;have H:=al (show D.drew.heap[F]?=_ from a3.o);go_upto_region 3 with(fail)
  refine bk (S:=fun V=>af V F 0 (zI S.v)/\af V F 1 (zI S.h)/\af V F 2 (.slice A1 S.rows c1)) 5 RU H (fun hHeld=>?_);have ao:=aA a3 (aF D);have R:=aY (aA a2.1 (aF D)) (aA a2.2 (aF D));have Q:=b3.ext (aF D);have J:=bz.ext (aF D);have O:=b1.trans (aN (row:=some b) (aF D));have U:F < (D.drew:Nat):=b5.o;generalize D.drew=b9 at H hHeld ao R Q J O U ⊢;obtain⟨cn,a9,b4,cb,cc,ba⟩:=lq ao R Q J O U;clear ao R Q J O U H a3 a2 b3 bz b1 b5;refine ay 0 ?_;refine ay 1 ?_;refine ay 2 ?_;refine bu 3 fun K hK=>?_
  go_simp
  (with_reducible refine(mU C b (m+4300000+2) b9 p cb.o Ry c7.o).mono ?_)
  rintro e E ⟨u,rfl,⟨T,B,d,rfl,bi,be⟩,I,z⟩;obtain⟨GV,ci,b6,Z,a1,ap,a0,KC⟩:=zH8 bi (be.mono (show(w:Nat)+2<=b9 by have:=Iu.o;have:=ba.o;omega)) (bD cn z U7) (aY (bD a9.1 z Ez) (bD a9.2 z Tw)) (b4.drawn z Tw) I (cc.trans z) (gz ba z.size);have a5:=al b6;clear bi be I z;go_simp;refine hK.out _ _ (fun _=>a5) (fun hHeld=>?_);clear hK K;try simp only[Act.put,zA]
  have ac:=Z.1;have br:=Z.2;obtain⟨m0,m1,m2⟩:=al ac;obtain⟨e0,e1,e2⟩:=bt ac;have bm:=eX (v0:=.int .i64 S.v) (v1:=.int .i64 S.h) (v2:=.slice A1 S.rows c1) ac;have ab:=(gk (V:=E) (b:=w.heap.size) (k:=(w:Nat)+1) (v0:=.int .i64 S.v) (v1:=.int .i64 S.h) (v2:=.slice A1 S.rows c1) Ry).trans br;obtain⟨n0,n1,n2⟩:=al ab;obtain⟨h0,h1,h2⟩:=bt ab;have bo:=eX (v0:=.int .i64 T.v) (v1:=.int .i64 T.h) (v2:=.slice B T.rows d) ab;have bp:=(gk (V:=fu E w (zI S.v) (zI S.h) (.slice A1 S.rows c1)) (b:=(w:Nat)+1) (k:=w.heap.size) (v0:=.int .i64 T.v) (v1:=.int .i64 T.h) (v2:=.slice B T.rows d) Ry).trans bm;obtain⟨t0,t1,t2⟩:=al bp;obtain⟨cI,cK,cO⟩:=al bo;unfold fu at t0 t1 t2 cI cK cO n0 n1 n2 h0 h1 h2;clear bm ab bo bp ac br;obtain⟨HE,IS,KE⟩:=dD (show cy C b (m+8700000) (fu (fu E w (zI S.v) (zI S.h) (.slice A1 S.rows c1)) ((w:Nat)+1) (zI T.v) (zI T.h) (.slice B T.rows d))/\w.grownBy (fu (fu E w (zI S.v) (zI S.h) (.slice A1 S.rows c1)) ((w:Nat)+1) (zI T.v) (zI T.h) (.slice B T.rows d)) (some b) from⟨jY (jY (ap.mono Ry) Ez) Tw,gQ (gQ a0 (ah _)) Ry⟩) (show At w (fun V=>aL V A1 S.rows) (fu (fu E w (zI S.v) (zI S.h) (.slice A1 S.rows c1)) ((w:Nat)+1) (zI T.v) (zI T.h) (.slice B T.rows d)) from oK (iE (iE a1 Ry) Ry) VW Ry) (show At w (fun V=>aL V B T.rows) (fu (fu E w (zI S.v) (zI S.h) (.slice A1 S.rows c1)) ((w:Nat)+1) (zI T.v) (zI T.h) (.slice B T.rows d)) from oK (iE (iE ci Ry) Ry) VW Ry);refine bu 4 fun K hK=>?_
  go_simp;refine hK.out _ _ (fun _=>CF w (by have:=Iu.o;omega) a5) (fun hHeld=>?_);clear hK K;try simp only[Act.put,zA]
  refine bu 5 fun K hK=>?_
  go_simp;refine hK.out _ _ (fun h=>absurd h RC) (fun hHeld=>?_);clear hK K;try simp only[Act.put,zA]
  clear a5;exact Zh
end Go.Proofs.YtdpgblncijojiaaGreatDoor
