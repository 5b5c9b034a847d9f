/- Parts of the walks. Conditions: as stated with each. -/
import Derived.Test.YtdpgblncijojiaaGreatDoorPk49
namespace Go.Proofs.YtdpgblncijojiaaGreatDoor
open Go.RowKit Tryz
set_option linter.all false
set_option maxHeartbeats 32000000
set_option maxRecDepth 100000
variable{A A2:an}{B D N' b c c2 j k lo n x:Nat}{E V w w':aa}{H R RR U u v v0 v1 v2 v3 v4 z2:au}{P:iS}{cs:gh}{h p:Int}{row:Option Nat}{t:dG}{xs:aG}
def StP(lo:Nat)(w':aa)(u:au):Prop:=∃(x:cS) (D:an) (xc:Nat),u=.agg (bB x.k x.a x.b x.c D x.row xc)/\x.row.length<=200/\ar w' lo (.slice D x.row xc) x.row
structure xr(N:Nat)(C:Code)(b K z:Nat)(v h:Int)(A:an)(n c:Nat)(w V:aa):Prop where
 x:∃(k a bb cc:Int) (row:aG) (XA:an) (xc:Nat),aU V z (bB k a bb cc XA row xc) 29/\row.length<=N/\ar V ((w:Nat)+2) (.slice XA row xc) row
 s:aU V w (dj v h A n c) 26
 q:aU V ((w:Nat)+1) df 29
 cur:cH C b K V
 gr:w.grownBy V (some b)
def lC{w:aa}{b:Nat}{v:au}{fr:gW}(h:ar w B v xs)(hb:w.heap[b]?=some (.cells cs 29 fr)):ar (w.setCell ⟨b,j,none⟩ u) B v xs:=by
 refine ar.kept h (qR w b j u) ?_;rcases h.2 with⟨rfl,-⟩|⟨g,cap,cur,rfl,-,hg,-⟩
 .exact aF rfl
 .exact Ye
section
variable{N N':Nat}{C:Code}{b K K' z:Nat}{v h:Int}{A:an}{n c:Nat}{w V V':aa}
def xr.go(E:xr N C b K z v h A n c w V)(U:b < (w:Nat)/\(w:Nat)+1<z)(R:cH C b K' V')(D:V.grownBy V' (some b)):xr N C b K' z v h A n c w V':=by obtain⟨k,a,H,I,row,F,xc,J,O,Q⟩:=E.x;exact⟨⟨k,a,H,I,row,F,xc,bR J D RU,O,Q.drawn D RU⟩,bR E.s D U.1,bR E.q D RU,R,E.gr.trans D⟩
def xr.ext(D:xr N C b K z v h A n c w V)(F:b < (w:Nat)/\(w:Nat)+1<z)(E:ai V V'):xr N C b K z v h A n c w V':=D.go F (D.cur.ext E) (aN E)
def xr.mono(D:xr N C b K z v h A n c w V)(R:K<=K')(Q:N<=N':=by omega):xr N' C b K' z v h A n c w V:=⟨by obtain⟨k,a,F,H,row,E,xc,I,J,O⟩:=D.x;exact⟨k,a,F,H,row,E,xc,I,bc J Q,O⟩,D.s,D.q,D.cur.mono R,D.gr⟩
def xr.cell(E:xr N C b K z v h A n c w V):(∃y,ah V z 0 (zI y))/\(∃y,ah V z 1 (zI y))/\(∃y,ah V z 2 (zI y))/\(∃y,ah V z 3 (zI y))/\V.frozen? ⟨z,0,none⟩=false/\V.frozen? ⟨z,1,none⟩=false/\V.frozen? ⟨z,2,none⟩=false/\V.frozen? ⟨z,3,none⟩=false:=by obtain⟨k,a,I,J,row,H,xc,D,-,-⟩:=E.x;obtain⟨F,c1,c2,c3,-⟩:=bH D;obtain⟨f0,f1,f2,f3,-⟩:=lM D;exact⟨⟨_,F⟩,⟨_,c1⟩,⟨_,c2⟩,⟨_,c3⟩,f0,f1,f2,f3⟩
def xr.put(D:xr N C b K z v h A n c w V)(R:b < (w:Nat)/\(w:Nat)+1<z)(Q:j<4)(y:Int):xr N C b K z v h A n c w (V.setCell ⟨z,j,none⟩ (zI y)):=by
 obtain⟨k,a,J,O,row,F,xc,E,H,I⟩:=D.x;have e:=bs V z j _ _ (zI y) E;refine⟨?_,(bw _ _ _ _ (by show w.heap.size≠z;omega)).trans D.s,(bw _ _ _ _ (by show(w:Nat)+1≠z;omega)).trans D.q,D.cur.iP (a:=⟨z,j,none⟩) (by show b<z;omega) _,bW D.gr (a:=⟨z,j,none⟩) (by show(w:Nat)<=z;omega) _⟩
 match j,Q with
 |0,_=>exact⟨y,a,J,O,row,F,xc,Sp,H,lC I E⟩
 |1,_=>exact⟨k,y,J,O,row,F,xc,Sp,H,lC I E⟩
 |2,_=>exact⟨k,a,y,O,row,F,xc,Sp,H,lC I E⟩
 |3,_=>exact⟨k,a,J,y,row,F,xc,Sp,H,lC I E⟩
end
def AL(v h D:Int)(A:an)(c n:Nat)(rows:aE)(I:n=rows.length)(w:aa)(H:aX w A rows)(hs:Sys p v h rows)(E:0<=D)(F:D<h):aw 74 (iU (dj v h A n c) D) w fun e w'=>∃u,e=.returned u/\ar w' ((w:Nat)+1) u (fF rows (v+D).toNat)/\ai w w':=by subst I;exact pw v h D A c rows w H Tt hs.v0 hs.v24 hs.h100 E F hs.len
def zhG{V:aa}{z:Nat}{v:au}{fr:gW}(h:ar V B v xs)(E:V.heap[z]?=some (.cells cs 29 fr)):some z≠v.ownBlock:=by
 rcases h.2 with⟨rfl,-⟩|⟨g,cap,cur,rfl,-,D,-⟩
 .intro e;cases e
 .intro e;have e:z=g:=eH e;subst e;rw[E]at D;simp at D
def nQ(w:aa)(b:Nat)(v0 v1 v2 v3 v4:au):World:=((((w.setCell ⟨b,0,none⟩ v0).setCell ⟨b,1,none⟩ v1).setCell ⟨b,2,none⟩ v2).setCell ⟨b,3,none⟩ v3).setCell ⟨b,4,none⟩ v4
section
variable{C:Code}{b m x:Nat}{w V:aa}{v0 v1 v2 v3 v4:au}
def zeO(h:cH C b m V)(D:b<x):cH C b m (nQ V x v0 v1 v2 v3 v4):=((((h.iP (a:=⟨x,0,none⟩) D v0).iP (a:=⟨x,1,none⟩) D v1).iP (a:=⟨x,2,none⟩) D v2).iP (a:=⟨x,3,none⟩) D v3).iP (a:=⟨x,4,none⟩) D v4
def zaN(h:w.grownBy V row)(D:(w:Nat)<=x):w.grownBy (nQ V x v0 v1 v2 v3 v4) row:=bW (bW (bW (bW (bW h (a:=⟨x,0,none⟩) D v0) (a:=⟨x,1,none⟩) D v1) (a:=⟨x,2,none⟩) D v2) (a:=⟨x,3,none⟩) D v3) (a:=⟨x,4,none⟩) D v4
def Dj{v:au}(h:ar V B v xs)(D:x<B):ar (nQ V x v0 v1 v2 v3 v4) B v xs:=((((h.setCell (a:=⟨x,0,none⟩) D v0).setCell (a:=⟨x,1,none⟩) D v1).setCell (a:=⟨x,2,none⟩) D v2).setCell (a:=⟨x,3,none⟩) D v3).setCell (a:=⟨x,4,none⟩) D v4
def oT(h:aU V x #[H,R,z2,U,RR] t):(nQ V x v0 v1 v2 v3 v4).heap[x]?=some (.cells #[v0,v1,v2,v3,v4] t (0,0)):=by have D:=bs V x 0 _ _ v0 h;have E:=bs _ x 1 _ _ v1 D;have F:=bs _ x 2 _ _ v2 E;have I:=bs _ x 3 _ _ v3 F;have J:=bs _ x 4 _ _ v4 I;simpa[nQ]using J
end
def Dk(C:Code)(b m lo:Nat)(w:aa)(p v h:Int)(A:an)(n c:Nat)(rows:aE)(es:n=rows.length)(ek:cH C b m w)(hG:m<=274877500000)(bv:Sys p v h rows)(ho:b<lo)(f9:At lo (fun V=>aX V A rows) w):aw 63 #[.pointer (aY b),p,.agg (dj v h A n c)] w (kM C b (m+41000) (StP w) w):=by
 have ck:=((aj w w).alloc (ag _) (.cells (dj v h A n c) 26)).alloc RS (.cells df 29);have h0:=(b_ (w.alloc (.cells (dj v h A n c) 26)) (.cells df 29) (k:=w.heap.size) RS).trans (az w _ rfl);have br:=az (w.alloc (.cells (dj v h A n c) 26)) (.cells df 29) (n:=(w:Nat)+1) RS;obtain⟨d3,b6⟩:=bS bv es;have hI:0<=v/\v<=24/\0<=h/\h<=100:=⟨bv.v0,bv.v24,bv.h0,bv.h100⟩;have hH:2<=p/\p<=97:=⟨bv.p2,bv.p97⟩;have gw:n<=160:=by rw[es];exact bv.n
 obtain⟨Ew,e6,d2⟩:=d_ ek.lt ek (fun V (hm:w.grownBy V (some b))=>(At.drawn f9 hm ho).now);have hN:IntKind.i64.wrap ((n:Int)+1)=(n:Int)+1:=SQ;have hL:IntKind.i64.wrap (h+1)=h+1:=SQ;have hO:IntKind.i64.wrap (p-1)=p-1:=SQ;have gL:∀r:Nat,r<=97->IntKind.i64.wrap (1+(r:Int))=1+(r:Int):=fun r a4=>SQ
 have f5:=zH gL;clear ek f9 bv es gL;go_enter func63,ntmps63
 go_upto_region 1 with(fail)
 generalize (w.alloc _).alloc _=W at ck h0 br ⊢;obtain⟨dl,e5,dc⟩:=d_ ck h0 br;obtain⟨D,E,F⟩:=aq h0;clear ck h0 br;go_upto_region 3 with(first
  |(go_at_call 88;(with_reducible refine(dg C b m W 9 (e6.o.ext dl.o) RU).mono ?_);rintro e hv ⟨u,rfl,⟨r,rfl,a4,-⟩,gb,gi⟩;have gA:r<=8:=RU;have gV:=f5 r RU;have hx:=zH gA;have e7:=zH gb;have fb:=zH gi;clear gb gi a4 gA)
  |(go_at_call 88;(with_reducible refine(dg C b (m+2) hv (n:Nat) e7.o RU).mono ?_);rintro e hw ⟨u,rfl,⟨e2,rfl,a4,-⟩,gc,cr⟩;have e8:=zH gc;have fd:=zH (fb.trans cr);clear gc cr a4)
  |(go_at_call 88;(with_reducible refine(dg C b (m+4) hw (n:Nat) e8.o RU).mono ?_);rintro e b5 ⟨u,rfl,⟨e3,rfl,a4,-⟩,gd,gm⟩;have e9:=zH gd;have ch:=zH (fd.trans gm);clear gd gm a4))
 obtain⟨a1,gs⟩:∃a1:Int,a1=1+(r:Int):=⟨_,rfl⟩;rw[<-gs];clear gs;have bm:=az b5 (.cells (CM a1 e2 e3) 29) rfl;have cn:=aD b5 (.cells (CM a1 e2 e3) 29);obtain⟨ER,HI⟩:=bS (show b < (w:Nat)/\(w:Nat)+1<b5 from⟨Ew,(aM.1 (bR dc ch TM)).1⟩) (show xr 199 C b (m+6) b5 v h A n c w (b5.alloc (.cells (CM a1 e2 e3) 29)) from⟨⟨a1,_,_,_,[],none,0,bm,RS,ar.nil _ _⟩,ak (bR e5 ch Ew) cn,ak (bR dc ch TM) cn,e9.ext cn,((aN dl).trans ch).trans (aN cn)⟩);obtain⟨e4,-⟩:=bH bm;clear cn D E F e7 e8 e9 fb fd ch e5 dc dl e6 gV bm;generalize b5.alloc _=a9 at HI e4 ⊢;generalize (b5:Nat)=z at HI ER e4 ⊢;go_upto_block 0 with(fail)
 clear e4;go_cut [9,10,11,12,13] from 29 to 171 (fun _ _ _ _ _ V=>xr 199 C b (m+40000) z v h A n c w V)
 case first=>
  by_cases h2:a1=2
  .have d8:(a1==2)=true:=by simp[h2]
   clear h2;obtain⟨⟨ao,H⟩,⟨ap,I⟩,⟨am,J⟩,⟨a0,O⟩,Q,R,U,Y⟩:=HI.cell;obtain⟨D,E,F⟩:=aq HI.s;go_upto_region 6 with(fail)
   have ad:=HI.put ER (j:=2) RX (0);generalize a9.setCell ⟨z,2,none⟩ _=ba at ad ⊢;have a2:=zH ad;clear ad;clear H I J O Q R U Y D E F;obtain⟨⟨ao,H⟩,⟨ap,I⟩,⟨am,J⟩,⟨a0,O⟩,Q,R,U,Y⟩:=a2.cell;obtain⟨D,E,F⟩:=aq a2.s;go_wp2_with (go_at_call 88;(with_reducible refine(dg C b (m+6) ba (p-1) a2.o.cur RU).mono ?_);rintro e a3 ⟨u,rfl,⟨r,rfl,a4,-⟩,ab,Z⟩;have gV:=f5 r RU;clear a4;have KI:=zH (a2.go ER ab Z);clear H I J O Q R U Y D E F;obtain⟨⟨ao,H⟩,⟨ap,I⟩,⟨am,J⟩,⟨a0,O⟩,Q,R,U,Y⟩:=KI.cell;obtain⟨D,E,F⟩:=aq KI.s;clear ab Z)
   exact XM
  have d8:(a1==2)=false:=SG;by_cases h3:a1=3
  .have d9:(a1==3)=true:=by simp[h3]
   clear h2 h3;obtain⟨⟨ao,H⟩,⟨ap,I⟩,⟨am,J⟩,⟨a0,O⟩,Q,R,U,Y⟩:=HI.cell;obtain⟨D,E,F⟩:=aq HI.s;go_wp2_with (go_at_call 104;(with_reducible refine(kx C b (m+6) a9 p HI.o.cur RU).mono ?_);rintro e a3 ⟨u,rfl,⟨r,rfl,-,-⟩,ab,Z⟩;have KI:=zH (HI.go ER ab Z);clear H I J O Q R U Y D E F;obtain⟨⟨ao,H⟩,⟨ap,I⟩,⟨am,J⟩,⟨a0,O⟩,Q,R,U,Y⟩:=KI.cell;obtain⟨D,E,F⟩:=aq KI.s;clear ab Z)
   exact XM
  have d9:(a1==3)=false:=SE;by_cases h4:a1=4
  .have ea:(a1==4)=true:=by simp[h4]
   clear h2 h3 h4;obtain⟨⟨ao,H⟩,⟨ap,I⟩,⟨am,J⟩,⟨a0,O⟩,Q,R,U,Y⟩:=HI.cell;obtain⟨D,E,F⟩:=aq HI.s;go_upto_region 11 with(fail)
   have ad:=HI.put ER (j:=2) RX (0);generalize a9.setCell ⟨z,2,none⟩ _=ba at ad ⊢;have a2:=zH ad;clear ad;clear H I J O Q R U Y D E F;obtain⟨⟨ao,H⟩,⟨ap,I⟩,⟨am,J⟩,⟨a0,O⟩,Q,R,U,Y⟩:=a2.cell;obtain⟨D,E,F⟩:=aq a2.s;go_wp2;clear H I J O Q R U Y D E F;go_loopw [50] (fun i wr=>∃j:Nat,j<=n/\i=.int .i64 j/\Hd (xr 199 C b (m+6) z v h A n c w wr)) (fun i _=>n-(intOf i).toNat)
   case atStart=>exact⟨0,bf _,rfl,a2⟩
   case round=>
    obtain⟨j,hn,rfl,a5⟩:=hrel;clear a2;by_cases c4:j<n
    .have gB:=d2 wr a5.gr;obtain⟨hA,hS,hj,gf⟩:=gB.here (by rw[<-b6.o];exact c4:j<rows.length);obtain⟨r,a4⟩:=aB (by rw[<-b6.o];exact c4:j<rows.length);obtain⟨g2,hb,hE,bi⟩:=gf j r a4;subst hj;obtain⟨cj,Fk⟩:=bS bi (show r.length<=124 by have:=d3.len r (a_ a4);omega);clear gB gf a4 bi;obtain⟨⟨ao,H⟩,⟨ap,I⟩,⟨am,J⟩,⟨a0,O⟩,Q,R,U,Y⟩:=a5.cell;obtain⟨D,E,F⟩:=aq a5.s;go_wp2_with (go_at_call 72;(with_reducible refine(j3 0 0 g2 hb r wr cj.o (by unfold maxLen;have:=Fk.o;omega)).mono ?_);rintro e a3 ⟨rfl,rfl⟩;obtain⟨y,bd⟩:∃y,y=(r.all fun x=>eX x 0 0):=⟨_,rfl⟩;rw[<-bd];clear bd;cases y)
     .go_roundw
      case rel=>exact⟨j+1,RU,RW,a5⟩
      case measure=>simp[intOf];omega
     .go_roundw
      case rel=>exact⟨j+1,RU,RW,zH (a5.put ER RX _)⟩
      case measure=>simp[intOf];omega
    .obtain rfl:j=n:=RU;go_wp2;go_meet
     exact a5.mono RU
  have ea:(a1==4)=false:=SD;by_cases h5:a1=5
  .have he:(a1==5)=true:=by simp[h5]
   clear h2 h3 h4 h5;obtain⟨⟨ao,H⟩,⟨ap,I⟩,⟨am,J⟩,⟨a0,O⟩,Q,R,U,Y⟩:=HI.cell;obtain⟨D,E,F⟩:=aq HI.s;go_upto_region 19 with(go_at_call 88;(with_reducible refine(dg C b (m+6) a9 ((n:Int)+1) HI.o.cur RU).mono ?_);rintro e a3 ⟨u,rfl,⟨r,rfl,a4,-⟩,ab,Z⟩;have KI:=zH (HI.go ER ab Z);clear H I J O Q R U Y D E F;obtain⟨⟨ao,H⟩,⟨ap,I⟩,⟨am,J⟩,⟨a0,O⟩,Q,R,U,Y⟩:=KI.cell;obtain⟨D,E,F⟩:=aq KI.s;clear ab Z)
   have ad:=KI.put ER (j:=1) RX ((r:Nat));generalize a3.setCell ⟨z,1,none⟩ _=b7 at ad ⊢;have a6:=zH ad;clear ad;clear H I J O Q R U Y D E F;obtain⟨⟨ao,H⟩,⟨ap,I⟩,⟨am,J⟩,⟨a0,O⟩,Q,R,U,Y⟩:=a6.cell;obtain⟨D,E,F⟩:=aq a6.s;go_wp2_with fail
   go_meet
   exact(a6.put ER (j:=2) RX _).mono RU
  have he:(a1==5)=false:=SC;by_cases b9:a1=6
  .have hf:(a1==6)=true:=by simp[b9]
   clear h2 h3 h4 h5 b9;obtain⟨⟨ao,H⟩,⟨ap,I⟩,⟨am,J⟩,⟨a0,O⟩,Q,R,U,Y⟩:=HI.cell;obtain⟨D,E,F⟩:=aq HI.s;go_upto_region 22 with(go_at_call 88;(with_reducible refine(dg C b (m+6) a9 (h) HI.o.cur RU).mono ?_);rintro e a3 ⟨u,rfl,⟨r,rfl,a4,-⟩,ab,Z⟩;have KI:=zH (HI.go ER ab Z);clear H I J O Q R U Y D E F;obtain⟨⟨ao,H⟩,⟨ap,I⟩,⟨am,J⟩,⟨a0,O⟩,Q,R,U,Y⟩:=KI.cell;obtain⟨D,E,F⟩:=aq KI.s;clear ab Z)
   have ad:=KI.put ER (j:=2) RX ((r:Nat));generalize a3.setCell ⟨z,2,none⟩ _=b7 at ad ⊢;have a6:=zH ad;clear ad;clear H I J O Q R U Y D E F;clear KI;go_wp2;go_loopw [11] (fun i wr=>∃ac:Int,0<=ac/\ac<=h/\i=.int .i64 ac/\Hd (xr 199 C b (m+8+320*ac.toNat) z v h A n c w wr)) (fun i _=>(h-intOf i).toNat)
   case atStart=>exact⟨0,RU,RU,rfl,zH (a6.mono RU)⟩
   case round=>
    obtain⟨ac,ei,hk,rfl,b3⟩:=hrel;clear a6;obtain⟨⟨ao,H⟩,⟨ap,I⟩,⟨am,J⟩,⟨a0,O⟩,Q,R,U,Y⟩:=b3.cell;obtain⟨D,E,F⟩:=aq b3.s;by_cases ej:ac<h
    .have hu:IntKind.i64.wrap (ac+1)=ac+1:=SQ;go_wp2;clear H I J O Q R U Y D E F;go_loopw [84] (fun i wr=>∃j:Nat,j<=n/\i=.int .i64 j/\Hd (xr 199 C b (m+8+320*ac.toNat+2*j) z v h A n c w wr)) (fun i _=>n-(intOf i).toNat)
     case atStart=>exact⟨0,bf _,rfl,b3⟩
     case round=>
      obtain⟨j,hn,rfl,a5⟩:=hrel;clear b3;obtain⟨⟨ao,H⟩,⟨ap,I⟩,⟨am,J⟩,⟨a0,O⟩,Q,R,U,Y⟩:=a5.cell;obtain⟨D,E,F⟩:=aq a5.s;by_cases c4:j<n
      .obtain⟨db,rfl⟩:∃db,db=wr:=⟨wr,rfl⟩;go_wp2_with (first|(go_at_call 74;(with_reducible refine(AL v h ac A c n rows b6.o db (d2.o db a5.o.gr) d3.o ei ej).mono ?_);rintro e a3 ⟨u,rfl,cy,a7⟩;obtain⟨A2,d7,rfl,bi,-⟩:=cy.view;have b4:(fF rows (v+ac).toNat).length<=160:=(by rw[nq,<-b6.o];exact gw);obtain⟨bp,co⟩:∃bp,bp=fF rows (v+ac).toNat:=⟨_,rfl⟩;rw[<-co]at bi b4 ⊢;have cj:=zH bi;have KJ:=zH b4;have be:=zH (a5.ext ER a7);clear cy a7 bi b4 co;clear H I J O Q R U Y D E F;obtain⟨⟨ao,H⟩,⟨ap,I⟩,⟨am,J⟩,⟨a0,O⟩,Q,R,U,Y⟩:=be.cell;obtain⟨D,E,F⟩:=aq be.s)|(go_at_call 73;(with_reducible refine(wV (j:Nat) A2 d7 bp a3 cj.o Vp).mono ?_);rintro e b7 ⟨rfl,rfl⟩;obtain⟨y,bd⟩:∃y,y=nB bp (j:Nat):=⟨_,rfl⟩;rw[<-bd];clear bd;cases y)|(go_at_call 46;(with_reducible refine(gX C b (m+8+320*ac.toNat+2*j) a3 2 be.o.cur RU).mono ?_);rintro e d6 ⟨u,rfl,⟨am,rfl⟩,ab,Z⟩;have cR:=zH (be.go ER ab Z);clear H I J O Q R U Y D E F;obtain⟨⟨ao,H⟩,⟨ap,I⟩,⟨am,J⟩,⟨a0,O⟩,Q,R,U,Y⟩:=cR.cell;obtain⟨D,E,F⟩:=aq cR.s;clear ab Z;cases am))
       all_goals go_roundw
       all_goals first
        |exact⟨j+1,RU,RW,zH (xr.mono (K:=m+8+320*ac.toNat+2*j+2) ((cR.put ER (j:=1) RX _).put ER (j:=2) RX _) RU)⟩
        |exact⟨j+1,RU,RW,zH (xr.mono (K:=m+8+320*ac.toNat+2*j+2) cR RU)⟩
        |exact⟨j+1,RU,RW,zH (xr.mono (K:=m+8+320*ac.toNat+2*j) be RU)⟩
        |(simp[intOf];omega)
      .obtain rfl:j=n:=RU;clear c4;go_wp2;go_roundw
       case rel=>exact⟨ac+1,RU,RU,TL,zH (a5.mono RU)⟩
       case measure=>simp[intOf];omega
    .go_wp2;go_meet
     exact b3.mono RU
  have hf:(a1==6)=false:=by simpa using b9
  by_cases h7:a1=7
  .have hg:(a1==7)=true:=by simp[h7]
   clear h2 h3 h4 h5 b9 h7;obtain⟨⟨ao,H⟩,⟨ap,I⟩,⟨am,J⟩,⟨a0,O⟩,Q,R,U,Y⟩:=HI.cell;obtain⟨D,E,F⟩:=aq HI.s;go_upto_region 34 with(go_at_call 88;(with_reducible refine(dg C b (m+6) a9 ((n:Int)+1) HI.o.cur RU).mono ?_);rintro e a3 ⟨u,rfl,⟨r,rfl,a4,-⟩,ab,Z⟩;clear a4;have KI:=zH (HI.go ER ab Z);clear H I J O Q R U Y D E F;obtain⟨⟨ao,H⟩,⟨ap,I⟩,⟨am,J⟩,⟨a0,O⟩,Q,R,U,Y⟩:=KI.cell;obtain⟨D,E,F⟩:=aq KI.s;clear ab Z)
   have ad:=KI.put ER (j:=1) RX ((r:Nat));generalize a3.setCell ⟨z,1,none⟩ _=b7 at ad ⊢;have a6:=zH ad;clear ad;clear H I J O Q R U Y D E F;obtain⟨⟨ao,H⟩,⟨ap,I⟩,⟨am,J⟩,⟨a0,O⟩,Q,R,U,Y⟩:=a6.cell;obtain⟨D,E,F⟩:=aq a6.s;go_upto_region 35 with(go_at_call 88;(with_reducible refine(dg C b (m+8) b7 (h+1) a6.o.cur RU).mono ?_);rintro e d6 ⟨u,rfl,⟨r,rfl,a4,-⟩,ab,Z⟩;have fs:=zH (show(r:Int)<h+1∨r=0 from a4);clear a4;have ci:=zH (a6.go ER ab Z);clear H I J O Q R U Y D E F;obtain⟨⟨ao,H⟩,⟨ap,I⟩,⟨am,J⟩,⟨a0,O⟩,Q,R,U,Y⟩:=ci.cell;obtain⟨D,E,F⟩:=aq ci.s;clear ab Z)
   obtain⟨hR,hz,hB,hC,hV,hy,hX,g1,-,-⟩:=ci.x;have cz:=bs d6 z 2 _ _ (zI (r:Nat)) g1;simp only[zA]at cz;have eg:=ci.put ER (j:=2) RX (r:Nat);generalize d6.setCell ⟨z,2,none⟩ _=f8 at cz eg ⊢;obtain⟨cI,g9,fo⟩:=d_ eg cz (show(r:Int)<=h by have:=fs.o;omega);clear H I J O Q R U Y D E F;clear g1 eg KI a6 ci fs;obtain⟨ca,cb,p2,cc,ce⟩:=bH cz;obtain⟨D,E,F⟩:=aq cI.s;obtain⟨a8,hr⟩:∃a8:Nat,a8=(v+h+1).toNat:=⟨_,rfl⟩;have hP:IntKind.i64.wrap (v+h)=v+h:=SQ;have hQ:IntKind.i64.wrap (v+h+1)=(a8:Int):=SQ;have Fc:=zH (RU:(a8:Int)=v+h+1/\a8<=125);clear cz hr;go_upto_region 36 with(go_at_call 105;(with_reducible refine(zd1 C b (m+10) f8 p a8 cI.o.cur RU TR).mono ?_);rintro e c0 ⟨u,rfl,⟨xs,e0,-,c8⟩,ab,Z⟩;obtain⟨b2,b8,rfl,-⟩:=c8.view;rw[e0]at c8 ⊢;have bo:=zH e0;have g8:=zH (c8.mono (show(w:Nat)+2<=f8 by have:=(aM.1 cI.q).1;omega));have da:=bR g9 Z TN;obtain⟨ca,cb,p2,cc,ce⟩:=bH da;obtain⟨f0,f1,f2,f3,f4⟩:=lM da;have f7:=zH da;have cO:=zH (cI.go ER ab Z);clear e0 c8 da ab Z)
   have cF:=bs c0 z 4 _ _ (.slice b2 a8 b8) f7;simp only[zA]at cF;have b1:=lC (j:=4) (u:=.slice b2 a8 b8) g8 f7;have c6:=(bw c0 ⟨z,4,none⟩ (.slice b2 a8 b8) w Wk).trans cO.s;have eA:=(bw c0 ⟨z,4,none⟩ (.slice b2 a8 b8) ((w:Nat)+1) (by have:=ER.o;show(w:Nat)+1≠z;omega)).trans cO.q;have em:=cO.cur.iP (a:=⟨z,4,none⟩) U2 (.slice b2 a8 b8);have en:=bW cO.gr (a:=⟨z,4,none⟩) Wj (.slice b2 a8 b8);generalize c0.setCell ⟨z,4,none⟩ _=ha at cF b1 c6 eA em en ⊢;clear ca cb p2 cc ce f0 f1 f2 f3 f4 D E F;obtain⟨ca,cb,p2,cc,ce⟩:=bH cF;obtain⟨D,E,F⟩:=aq c6;obtain⟨bb,hs⟩:∃bb:Nat,bb=(v+(r:Int)).toNat:=⟨_,rfl⟩;have hM:IntKind.i64.wrap (v+(r:Int))=(bb:Int):=by have:=fo.o;rw[aZ];omega
   have ht:bb<a8:=by have:=fo.o;have:=Fc.o;omega
   obtain⟨x,g0⟩:=aB (by rw[bo.o];exact ht:bb<xs.length);have hl:∃g,b2=some ⟨g,0,none⟩/\(w:Nat)+2<=g:=by
    obtain⟨g,cap,e,ck,-⟩:=kG b1 (by rw[bo.o];omega);cases e
    exact⟨g,rfl,ck⟩
   obtain⟨g,rfl,gn⟩:=hl;unfold ar at b1;rw[bo.o]at b1;have d0:=b1.cellAt bb RU;rw[cp,g0]at d0;have d1:=b1.frozenAt bb;have d0:ah ha g bb (zI x):=d0;obtain⟨dT,fa,fi,fz,fn,d5,g6⟩:=zH7 b1 em en c6 eA cF gn;clear hs g0 b1 em en c6 eA cF gn;by_cases c7:x=0
   .have ex:(x==0)=true:=by simp[c7]
    clear c7;go_wp2;go_meet
    have ga:=ER.o;have hF:=g6.o;have gC:=dT.stored bb (zI 1);rw[<-h_]at gC;have hp:z≠g:=fun e=>by
     subst e;obtain⟨-,h0|⟨hD,cap,cur,eb,-,Z,-⟩⟩:=dT.o
     .cases h0.1
     .cases eb
      rw[d5.o]at Z;simp at Z
    exact⟨⟨_,_,_,_,xs.set bb 1,_,_,by rw[fP,bo.o];exact(bw _ _ _ _ (by show z≠g;exact hp)).trans d5,by rw[fP,bo.o];have:=Fc.o;omega,by unfold ar;rw[fP,bo.o];exact gC.1⟩,(bw _ _ _ _ (by show w.heap.size≠g;omega)).trans fz,(bw _ _ _ _ (by show(w:Nat)+1≠g;omega)).trans fn,(fa.iP (a:=⟨g,bb,none⟩) (by show b<g;omega) _).mono TR,bW fi (a:=⟨g,bb,none⟩) (by show(w:Nat)<=g;omega) _⟩
   .have ex:(x==0)=false:=by simpa using c7
    clear c7;go_wp2;go_meet
    exact⟨⟨_,_,_,_,xs,_,_,by rw[bo.o];exact d5,by rw[bo.o];have:=Fc.o;omega,by unfold ar;rw[bo.o];exact dT⟩,fz,fn,fa.mono TR,fi⟩
  have hg:(a1==7)=false:=SB;by_cases h8:a1=8
  .have hh:(a1==8)=true:=by simp[h8]
   clear h2 h3 h4 h5 b9 h7 h8;obtain⟨⟨ao,H⟩,⟨ap,I⟩,⟨am,J⟩,⟨a0,O⟩,Q,R,U,Y⟩:=HI.cell;obtain⟨D,E,F⟩:=aq HI.s;go_upto_region 40 with(fail)
   have ad:=HI.put ER (j:=1) RX (0);generalize a9.setCell ⟨z,1,none⟩ _=ba at ad ⊢;have a2:=zH ad;clear ad;clear H I J O Q R U Y D E F;obtain⟨⟨ao,H⟩,⟨ap,I⟩,⟨am,J⟩,⟨a0,O⟩,Q,R,U,Y⟩:=a2.cell;obtain⟨D,E,F⟩:=aq a2.s;go_upto_region 41 with(go_at_call 88;(with_reducible refine(dg C b (m+6) ba (h) a2.o.cur RU).mono ?_);rintro e a3 ⟨u,rfl,⟨r,rfl,a4,-⟩,ab,Z⟩;have KI:=zH (a2.go ER ab Z);clear H I J O Q R U Y D E F;obtain⟨⟨ao,H⟩,⟨ap,I⟩,⟨am,J⟩,⟨a0,O⟩,Q,R,U,Y⟩:=KI.cell;obtain⟨D,E,F⟩:=aq KI.s;clear ab Z)
   have ad:=KI.put ER (j:=2) RX ((r:Nat));generalize a3.setCell ⟨z,2,none⟩ _=b7 at ad ⊢;have a6:=zH ad;clear ad;clear H I J O Q R U Y D E F;clear a2 KI;go_wp2;go_loopw [13] (fun i wr=>∃ac:Int,0<=ac/\ac<=h/\i=.int .i64 ac/\Hd (xr 199 C b (m+8) z v h A n c w wr)) (fun i _=>(h-intOf i).toNat)
   case atStart=>exact⟨0,RU,RU,rfl,a6⟩
   case round=>
    obtain⟨ac,ei,hk,rfl,a5⟩:=hrel;clear a6;obtain⟨⟨ao,H⟩,⟨ap,I⟩,⟨am,J⟩,⟨a0,O⟩,Q,R,U,Y⟩:=a5.cell;obtain⟨D,E,F⟩:=aq a5.s;by_cases ej:ac<h
    .have hu:IntKind.i64.wrap (ac+1)=ac+1:=SQ;go_wp2_with (first|(go_at_call 74;(with_reducible refine(AL v h ac A c n rows b6.o wr (d2.o wr a5.o.gr) d3.o ei ej).mono ?_);rintro e a3 ⟨u,rfl,cy,a7⟩;obtain⟨A2,d7,rfl,bi,-⟩:=cy.view;have b4:(fF rows (v+ac).toNat).length<=160:=(by rw[nq,<-b6.o];exact gw);obtain⟨bp,co⟩:∃bp,bp=fF rows (v+ac).toNat:=⟨_,rfl⟩;rw[<-co]at bi b4 ⊢;have cj:=zH bi;have KJ:=zH b4;have be:=zH (a5.ext ER a7);clear cy a7 bi b4 co;clear H I J O Q R U Y D E F;obtain⟨⟨ao,H⟩,⟨ap,I⟩,⟨am,J⟩,⟨a0,O⟩,Q,R,U,Y⟩:=be.cell;obtain⟨D,E,F⟩:=aq be.s)|(go_at_call 72;(with_reducible refine(j3 0 0 A2 d7 bp a3 cj.o Vp).mono ?_);rintro e b7 ⟨rfl,rfl⟩;obtain⟨y,bd⟩:∃y,y=(bp.all fun x=>eX x 0 0):=⟨_,rfl⟩;rw[<-bd];clear bd;cases y))
     .go_roundw
      case rel=>exact⟨ac+1,RU,RU,TL,be⟩
      case measure=>simp[intOf];omega
     .go_roundw
      case rel=>exact⟨ac+1,RU,RU,TL,zH (be.put ER RX _)⟩
      case measure=>simp[intOf];omega
    .go_wp2;go_meet
     exact a5.mono RU
  have hh:(a1==8)=false:=SA;by_cases h9:a1=9
  .have eb:(a1==9)=true:=by simp[h9]
   clear h2 h3 h4 h5 b9 h7 h8 h9;obtain⟨⟨ao,H⟩,⟨ap,I⟩,⟨am,J⟩,⟨a0,O⟩,Q,R,U,Y⟩:=HI.cell;obtain⟨D,E,F⟩:=aq HI.s;go_upto_region 48 with(fail)
   have ad:=HI.put ER (j:=1) RX (0);generalize a9.setCell ⟨z,1,none⟩ _=ba at ad ⊢;have a2:=zH ad;clear ad;clear H I J O Q R U Y D E F;obtain⟨⟨ao,H⟩,⟨ap,I⟩,⟨am,J⟩,⟨a0,O⟩,Q,R,U,Y⟩:=a2.cell;obtain⟨D,E,F⟩:=aq a2.s;go_wp2_with (go_at_call 88;(with_reducible refine(dg C b (m+6) ba (h+1) a2.o.cur RU).mono ?_);rintro e a3 ⟨u,rfl,⟨r,rfl,a4,-⟩,ab,Z⟩;have KI:=zH (a2.go ER ab Z);clear H I J O Q R U Y D E F;obtain⟨⟨ao,H⟩,⟨ap,I⟩,⟨am,J⟩,⟨a0,O⟩,Q,R,U,Y⟩:=KI.cell;obtain⟨D,E,F⟩:=aq KI.s;clear ab Z)
   exact XL
  have eb:(a1==9)=false:=Sz;exact Xi
 case rest=>
  clear HI;have HI:=zH hcut;clear hcut;obtain⟨a9,rfl⟩:∃a9,a9=wc:=⟨wc,rfl⟩;go_upto_block 9 with(go_at_call 88;(with_reducible refine(dg C b (m+40000) a9 40 HI.o.cur RU).mono ?_);rintro e ba ⟨u,rfl,⟨r,rfl,-,-⟩,ab,Z⟩;have a2:=zH (HI.go ER ab Z);clear ab Z)
  clear HI;have HI:=a2;clear a2;go_cut [] from 173 to 210 (fun V=>xr 200 C b (m+41000) z v h A n c w V)
  case first=>
   obtain⟨⟨ao,H⟩,⟨ap,I⟩,⟨am,J⟩,⟨a0,O⟩,Q,R,U,Y⟩:=HI.cell;obtain⟨D,E,F⟩:=aq HI.s;by_cases h0:r=0
   .have hc:((r:Int)==0)=true:=Sd;clear h0;go_wp2_with (go_at_call 88;(with_reducible refine(dg C b (m+40000+2) ba (11) HI.o.cur RU).mono ?_);rintro e a3 ⟨u,rfl,⟨hU,rfl,a4,-⟩,ab,Z⟩;have KI:=zH (HI.go ER ab Z);clear H I J O Q R U Y D E F;obtain⟨⟨ao,H⟩,⟨ap,I⟩,⟨am,J⟩,⟨a0,O⟩,Q,R,U,Y⟩:=KI.cell;obtain⟨D,E,F⟩:=aq KI.s;clear ab Z)
    go_meet
    exact(KI.put ER (j:=0) RX _).mono RU
   have hc:((r:Int)==0)=false:=Sx;by_cases br:r=1
   .have hd:((r:Int)==1)=true:=by simp[br]
    clear h0 br;go_wp2_with (go_at_call 85;refine(iE C b (m+40000+2) ba [-1,(n:Int),(n:Int)+1] _ HI.cur RU rfl RS RS 3 rfl).mono ?_;rintro e a3 ⟨u,rfl,⟨x,-,rfl⟩,ab,Z⟩;have KI:=zH (HI.go ER ab Z);clear H I J O Q R U Y D E F;obtain⟨⟨ao,H⟩,⟨ap,I⟩,⟨am,J⟩,⟨a0,O⟩,Q,R,U,Y⟩:=KI.cell;obtain⟨D,E,F⟩:=aq KI.s;clear ab Z)
    go_meet
    exact(KI.put ER (j:=1) RX _).mono RU
   have hd:((r:Int)==1)=false:=Sk;by_cases h2:r=2
   .have d8:((r:Int)==2)=true:=by simp[h2]
    clear h0 br h2;go_wp2_with (go_at_call 85;refine(iE C b (m+40000+2) ba [-1,(n:Int),h+1] _ HI.cur RU rfl RS RS 3 rfl).mono ?_;rintro e a3 ⟨u,rfl,⟨x,-,rfl⟩,ab,Z⟩;have KI:=zH (HI.go ER ab Z);clear H I J O Q R U Y D E F;obtain⟨⟨ao,H⟩,⟨ap,I⟩,⟨am,J⟩,⟨a0,O⟩,Q,R,U,Y⟩:=KI.cell;obtain⟨D,E,F⟩:=aq KI.s;clear ab Z)
    exact XL
   have d8:((r:Int)==2)=false:=Sk;by_cases h3:r=3
   .have d9:((r:Int)==3)=true:=by simp[h3]
    clear h0 br h2 h3;go_wp2_with (go_at_call 106;(with_reducible refine(DD C b (m+40000+2) ba p HI.o.cur RU RU).mono ?_);rintro e a3 ⟨u,rfl,⟨x,rfl,-⟩,ab,Z⟩;have KI:=zH (HI.go ER ab Z);clear H I J O Q R U Y D E F;obtain⟨⟨ao,H⟩,⟨ap,I⟩,⟨am,J⟩,⟨a0,O⟩,Q,R,U,Y⟩:=KI.cell;obtain⟨D,E,F⟩:=aq KI.s;clear ab Z)
    exact XM
   have d9:((r:Int)==3)=false:=Sk;by_cases h4:r=4
   .have ea:((r:Int)==4)=true:=by simp[h4]
    clear h0 br h2 h3 h4;obtain⟨k,a,ac,b0,row,bz,xc,bm,cu,ct⟩:=HI.x;obtain⟨ca,cb,p2,cc,ce⟩:=bH bm;obtain⟨d4,fl,Fk⟩:=d_ bm ct cu;clear bm ct cu;go_wp2_with (at_builtin;(refine ny rfl _ _ rfl ((w:Nat)+2) ba (.slice bz row xc) row 0 rfl rfl fl.o TH (by have:=(aM.1 HI.q).1;omega) ?_;intro hW a3 ev cr a7;obtain⟨A2,c2,rfl,-⟩:=ev.view;have c9:=(cr.block z (aM.1 d4).1 (zhG fl d4)).trans d4;obtain⟨ca,cb,p2,cc,ce⟩:=bH c9;obtain⟨f0,f1,f2,f3,f4⟩:=lM c9;have f6:=zH c9;have g7:=zH ev;have g3:=zH a7;clear ev cr a7 c9))
    go_meet
    have ga:=ER.o;have a7:=g3.o;have eo:(row++[(0:Int)]).length=row+1:=RS;have e1:=bs a3 z 4 _ _ (.slice A2 (row++[(0:Int)]) c2) f6;simp only[zA]at e1;rw[eo]at e1;have hq:=(a7.block ((w:Nat)+1) (iV _)).trans HI.q;exact⟨⟨k,a,ac,b0,row++[0],A2,c2,by rw[eo];simpa using e1,by rw[eo];have:=Fk.o;omega,by have h:=lC (j:=4) (u:=.slice A2 (row++[(0:Int)]) c2) g7 f6;simpa using h⟩,(bw _ _ _ _ (by show w.heap.size≠z;omega)).trans ((a7.block w RU).trans HI.s),(bw _ _ _ _ (by show(w:Nat)+1≠z;omega)).trans hq,((HI.cur.below a7 RU).iP (a:=⟨z,4,none⟩) (by show b<z;omega) _).mono RU,bW (je HI.gr (a7.mono RU)) (a:=⟨z,4,none⟩) (by show(w:Nat)<=z;omega) _⟩
   have ea:((r:Int)==4)=false:=Sk;exact Xi
  case rest=>
   clear HI;have ad:=hcut;clear hcut;obtain⟨k,a,ac,b0,row,bz,xc,bm,cu,ct⟩:=ad.x;have c5:=ad.q;obtain⟨V,rfl⟩:∃V,V=wc:=⟨wc,rfl⟩;obtain⟨ca,cb,p2,cc,ce⟩:=bH bm;obtain⟨H,I,J,O,hT⟩:=bH c5;obtain⟨f0,f1,f2,f3,f4⟩:=lM c5;have bd:=oT (v0:=.int .i64 k) (v1:=.int .i64 a) (v2:=.int .i64 ac) (v3:=.int .i64 b0) (v4:=.slice bz row xc) c5;obtain⟨u0,u1,u2,u3,u4⟩:=bH bd;unfold nQ at u0 u1 u2 u3 u4;have ga:=ER.o;obtain⟨b3,g4,g5,Fk⟩:=fU (Dj (x:=(w:Nat)+1) (v0:=.int .i64 k) (v1:=.int .i64 a) (v2:=.int .i64 ac) (v3:=.int .i64 b0) (v4:=.slice bz row xc) ct RU) (zeO (x:=(w:Nat)+1) (v0:=.int .i64 k) (v1:=.int .i64 a) (v2:=.int .i64 ac) (v3:=.int .i64 b0) (v4:=.slice bz row xc) ad.cur RU) (zaN (x:=(w:Nat)+1) (v0:=.int .i64 k) (v1:=.int .i64 a) (v2:=.int .i64 ac) (v3:=.int .i64 b0) (v4:=.slice bz row xc) ad.gr RU) cu;clear bm c5 bd ct ad cu;go_wp2;refine ax (v:=.agg (bB k a ac b0 bz row xc)) (by simp[results,results63,go_sem, *]) rfl ⟨_,rfl,?_,g4,g5⟩;exact⟨⟨k,a,ac,b0,row⟩,bz,xc,rfl,Fk,b3.mono RU⟩
def bq.drawn{w:aa}{b:Nat}{xs:List cS}{us:bG}(h:bq w B v xs us)(F:w.grownBy w' (some b))(I:b<B):bq w' B v xs us:=by obtain⟨H,-,D,E⟩:=wm F;exact(h.same fun k J=>E k RU).ext D
def bq.jd{w:aa}{b:Nat}{u:au}{fr:gW}{xs:List cS}{us:bG}(h:bq w B v xs us)(hb:w.heap[b]?=some (.cells cs 26 fr)):bq (w.setCell ⟨b,j,none⟩ u) B v xs us:=by
 refine⟨h.len,hJ h.outer (qR w b j u) ?_,fun k x r E D=>ar.kept (h.each k x r E D) (qR w b j u) ?_,h.apart⟩
 .rcases h.outer.2 with⟨rfl,-⟩|⟨g,cap,cur,rfl,-,hg,-⟩
  .exact aF rfl
  .exact Ye
 .rcases(h.each k x r E D).2 with⟨rfl,-⟩|⟨g,cap,cur,rfl,-,hg,-⟩
  .exact aF rfl
  .exact Ye
def zg0{V:aa}{z:Nat}{xs:List cS}{us:bG}{fr:gW}(h:bq V B v xs us)(hz:V.heap[z]?=some (.cells cs 26 fr)):some z≠v.ownBlock:=YW
structure xw(C:Code)(b K z:Nat)(p:Int)(N:Nat)(w:aa)(u:au)(S:Sy)(A:an)(c:Nat)(X:List cS)(us:bG)(V:aa):Prop where
 ok:S.Ok p
 box:aU V z (ae S.v S.h A S.rows c) 26
 rows:aJ V ((w:Nat)+1) (.slice A S.rows c) S.rows
 sts:bq V ((w:Nat)+1) u X us
 len:X.length<=N
 rl:∀x∈X,x.row.length<=1000
 cur:cH C b K V
 gr:w.grownBy V (some b)
section
variable{C:Code}{b K K' z:Nat}{p:Int}{N:Nat}{w:aa}{u:au}{S:Sy}{A:an}{c:Nat}{X:List cS}{us:bG}{V V':aa}
def xw.go(h:xw C b K z p N w u S A c X us V)(F:b < (w:Nat)/\(w:Nat)<z)(E:cH C b K' V')(D:V.grownBy V' (some b)):xw C b K' z p N w u S A c X us V':=⟨h.ok,bR h.box D RU,h.rows.drawn D RU,h.sts.drawn D RU,h.len,h.rl,E,h.gr.trans D⟩
def xw.ext(h:xw C b K z p N w u S A c X us V)(D:ai V V'):xw C b K z p N w u S A c X us V':=⟨h.ok,ak h.box D,h.rows.ext D,h.sts.ext D,h.len,h.rl,h.cur.ext D,h.gr.trans (aN D)⟩
def xw.mono(h:xw C b K z p N w u S A c X us V)(D:K<=K')(E:N<=N'):xw C b K' z p N' w u S A c X us V:=⟨h.ok,h.box,h.rows,h.sts,bc h.len E,h.rl,h.cur.mono D,h.gr⟩
def xw.at(h:xw C b K z p N w u S A c X us V)(D:b < (w:Nat)/\(w:Nat)<z):At ((w:Nat)+1) (fun V=>aX V A S.rows) V:=At.of (h.rows.fr (by have:=(aM.1 h.box).1;omega))
def xw.sys(h:xw C b K z p N w u S A c X us V):Sys p S.v S.h S.rows:=h.ok
def xw.snoc{g cap:Nat}{x:cS}(h:xw C b K z p N w u S A c X us V)(O:b < (w:Nat))(I:bq V' ((w:Nat)+1) (.slice (aY g) (X.length+1) cap) (X++[x]) (us++[H]))(F:V.grownBy V' u.ownBlock)(E:Below ((w:Nat)+1) V V')(J:x.row.length<=1000):xw C b K z p (N+1) w (.slice (aY g) (X.length+1) cap) S A c (X++[x]) (us++[H]) V':=
 ⟨h.ok,(F.block z (aM.1 h.box).1 (zg0 h.sts h.box)).trans h.box,h.rows.ep RX RX h.sts.outer F,I,by rw[bQ];have:=h.len;simp;omega,fun q D=>by
  rcases fc.1 D with D|D
  .exact h.rl q D
  .rw[gp.1 D];exact J,h.cur.below E RU,je h.gr (E.mono RU)⟩
end
def BB{V:aa}{c:Nat}{A:an}(h:ar V B (.slice A xs c) xs):aT V A xs:=by
 obtain⟨E,F,e,D,-⟩:=h.view;cases e
 exact D
def zco{V V':aa}{u:au}{X:List cS}{us:bG}(h:bq V B v X us)(hu:ar V' V u xs):∀b,u.ownBlock=some b->∀D∈us,D.ownBlock≠some b:=fun b hb D F e=>by obtain⟨k,E⟩:=e_.1 F;obtain⟨x,-,ho⟩:=h.kU E;exact Xl
def xw.make{C:Code}{b K z:Nat}{p:Int}{N:Nat}{w:aa}{u:au}{S D:Sy}{A:an}{c:Nat}{X:List cS}{us:bG}{V:aa}(h:xw C b K z p N w u S A c X us V)(J:b < (w:Nat)/\(w:Nat)<z)(I:D.Ok p)(H:aJ V ((w:Nat)+1) (.slice A2 D.rows c2) D.rows):xw C b K z p N w u D A2 c2 X us (iA V z (zI D.v) (zI D.h) (.slice A2 D.rows c2)):=by have E:=bs V z 0 _ _ (zI D.v) h.box;have F:=bs _ z 1 _ _ (zI D.h) E;exact⟨I,gH h.box,lH (lH (lH H h.box) E) F,((h.sts.jd h.box).jd E).jd F,h.len,h.rl,mx h.cur RU,jQ h.gr RU⟩
def zjj(lo:Nat)(w':aa)(v:au):Prop:=∃X,cB w' lo v X/\X.length<=40000/\∀x∈X,x.row.length<=1000
def Ap(C:Code)(b m lo:Nat)(w:aa)(p:Int)(S:Sy)(A:an)(n c:Nat)(e7:n=S.rows.length)(ch:cH C b m w)(f7:m<=274877000000)(ci:S.Ok p)(f6:b<lo)(dT:At lo (fun V=>aX V A S.rows) w):aw 45 #[.pointer (aY b),p,.agg (ae S.v S.h A n c)] w (kM C b (m+400000) (zjj w) w):=by
 subst e7;have FH:=ci.small;obtain⟨c4,Ew,cy⟩:=d_ ci ch.lt ch;obtain⟨I,be⟩:=dK w (.cells (ae S.v S.h A S.rows c) 26);have cj:(w.alloc (.cells (ae S.v S.h A S.rows c) 26):Nat)=w+1:=RS;have cR:=zH (fun V (e5:ai w V)=>iF S.v S.h A c S.rows V (At.ext dT e5).now TX (fun r hr=>UJ));clear ch dT ci FH;go_enter func45,ntmps45
 go_upto_region 1 with(fail)
 generalize w.alloc _=W at I be cj ⊢;obtain⟨e9,fa,fb⟩:=aq be;obtain⟨b2,b6⟩:=bS I cj;clear I cj be;go_upto_region 3 with(go_at_call 76;(with_reducible refine(cR.o W b2.o).mono ?_);rintro e a3 ⟨u,rfl,hu,H⟩;obtain⟨A1,c1,rfl,-⟩:=hu.view;have c7:=zH hu;have b3:=zH (cC b2 H);have c6:=zH (show(w:Nat)<a3 by have:=H.size;have:=b6.o;omega);clear hu H)
 have d3:=az a3 (.cells (ae S.v S.h A1 S.rows c1) 26) rfl;have bz:=aD a3 (.cells (ae S.v S.h A1 S.rows c1) 26);obtain⟨E,D⟩:=bS (show b < (w:Nat)/\(w:Nat)<a3 from⟨Ew,c6⟩) (show xw C b m a3.heap.size p 0 w (.slice none 0 0) S A1 c1 [] [] (a3.alloc (.cells (ae S.v S.h A1 S.rows c1) 26)) from⟨c4,d3,(c7.mono (by have:=b6.o;omega)).ext bz,⟨rfl,m_ _ _ _ _,fun k u r hu=>Sg,fun i j u f9 b hu=>Sg⟩,RS,(fun x a5=>by cases a5),(cy.ext b3).ext bz,(aN b3).trans (aN bz)⟩);generalize a3.alloc _=e1 at D ⊢;generalize (a3:Nat)=z at D E ⊢;clear d3 bz c7 b3 c6 b2 b6 cR cy e9 fa fb c4;go_wp2_with (go_at_call 88;(with_reducible refine(dg C b m e1 7 D.o.cur RU).mono ?_);rintro e fl ⟨u,rfl,⟨a2,rfl,hr,-⟩,O,F⟩;have c0:=zH (RU:a2<=7);have cz:=zH (D.o.go E.o O F);clear O F hr)
 clear D;go_loopw [7,9] (fun u kv wr=>∃(j:Nat) (S:Sy) (A:an) (c:Nat) (X:List cS) (us:bG),j<=a2/\kv=.int .i64 j/\Hd (xw C b (m+2+42000*(a2-j)) z p (2*(a2-j)) w u S A c X us wr)) (fun _ kv _=>(intOf kv).toNat)
 case atStart=>exact⟨a2,S,A1,c1,[],[],ag _,rfl,zH (by simpa using cz.o)⟩
 case round=>
  obtain⟨j,S,A,c,X,us,f5,rfl,D⟩:=hrel;clear cz;by_cases be:j=0
  .have e6:¬0 < (j:Int):=RU;obtain⟨R,U,Y⟩:=aq D.o.box;have e8:=c0.o;obtain⟨ad,rfl⟩:∃ad,ad=wr:=⟨wr,rfl⟩;obtain⟨cO,d8⟩:=bS (zeW D.o.ok) (zei p S);go_upto_if 52 with(go_at_call 46;(with_reducible refine(gX C b (m+2+42000*(a2-j)) ad 4 D.o.cur RU).mono ?_);rintro e b9 ⟨u,rfl,⟨y,rfl⟩,O,F⟩;have J:=zH (D.o.go E.o O F);clear O F R U Y;obtain⟨R,U,Y⟩:=aq J.o.box;cases y)
   .go_wp2;go_ret
    exact⟨_,rfl,⟨X,cB.mono ⟨us,J.o.sts⟩ RU,by have:=J.o.len;omega,J.o.rl⟩,J.o.cur.mono RU,J.o.gr⟩
   .go_wp2_with (first
     |(go_at_call 62;(with_reducible refine(Ch p S A c b9 (J.o.at E.o).now J.o.ok).mono ?_);rintro e ap ⟨u9,rfl,d1,ce⟩;have a4:=zH (J.o.ext ce);have ei:=zH d1;have cu:=zH ce;clear d1 ce)
     |(at_builtin;refine zF rfl _ _ rfl ((w:Nat)+1) b9 ap _ _ X _ ⟨us,a4.sts⟩ ei.o ⟨b9,ag _,⟨us,J.o.sts⟩,cu⟩ (by have:=(aM.1 J.o.box).1;have:=E.o;omega) cu.o.size (by have:=J.o.len;have:=cO.o;omega) rfl rfl ?_;intro v' fo ac H;have d9:=zH ac;have ct:=zH H;clear ac H))
    go_ret
    exact⟨_,rfl,⟨X++(CY p S).2,d9.mono RU,by rw[bQ];have:=J.o.len;have:=cO.o;omega,fun x a5=>by
     rcases fc.1 a5 with a5|a5
     .exact J.o.rl x a5
     .rw[d8.o x a5];simp⟩,(a4.cur.below ct TM).mono RU,je a4.gr (ct.mono RU)⟩
  .have e6:0 < (j:Int):=RU;have e8:=c0.o;have f8:IntKind.i64.wrap ((j:Int)-1)=((j:Int)-1):=SQ;clear be;obtain⟨ba,ca⟩:=aO (m+2+42000*(a2-j));obtain⟨b8,cb⟩:=aO (2*(a2-j));rw[<-ca,<-cb]at D;have Hc:=zH (bn ca cb);have f3:ba<=274877400000:=RU;have f4:b8<=14:=RU;clear ca cb;obtain⟨R,U,Y⟩:=aq D.o.box;obtain⟨ad,rfl⟩:∃ad,ad=wr:=⟨wr,rfl⟩;go_upto_region 7 with(go_at_call 63;(with_reducible refine(Dk C b ba ((w:Nat)+1) ad p S.v S.h A S.rows c S.rows rfl D.o.cur RU D.o.sys TM (D.o.at E.o)).mono ?_);rintro e ap ⟨u9,rfl,⟨x,a0,xc,rfl,d2,cn⟩,O,F⟩;have a4:=zH (D.o.go E.o O F);have cI:=zH (zco D.o.sts cn);have c9:=zH (cn.mono (show(w:Nat)+1<=ad by have:=(aM.1 D.o.box).1;have:=E.o;omega));have Hq:=zH d2;have d6:=zH (D.o.sts.lt);have c5:=zH F.size;clear d2 cn O F)
   clear R U Y;have bi:=az ap (.cells (bB x.k x.a x.b x.c a0 x.row xc) 29) rfl;have b0:=aD ap (.cells (bB x.k x.a x.b x.c a0 x.row xc) 29);obtain⟨bb,b7,br⟩:=d_ (a4.ext b0) (c9.ext b0) (show b < (ap:Nat)/\(ad:Nat)<=ap from⟨a4.cur.lt,c5⟩);generalize ap.alloc _=V at bi b0 bb b7 ⊢;generalize (ap:Nat)=y at bi br ⊢;have es:=zH bi;obtain⟨R,U,Y⟩:=aq bb.box;obtain⟨a6,a7,p2,a8,a9⟩:=bH bi;clear bi b0 a4 c9 c5 D;go_upto_if 27 with(go_at_call 36;((with_reducible refine(nm p S.v S.h x.k x.a x.b x.c A c S.rows V a0 x.row xc (bb.o.at E.o).now (BB b7.o) TU bb.o.sys).mono ?_);rintro e db ⟨rfl,H⟩;obtain⟨b1,co⟩:∃b1,b1=eI p S x:=⟨_,rfl⟩;rw[show ja p S.v S.h S.rows x.k x.a x.b x.c x.row=b1 from co.symm];have eb:=zH co;have am:=zH (bb.ext H);have bo:=zH (b7.ext H);have bp:=zH (ak es H);clear co H R U Y a6 a7 p2 a8 a9;obtain⟨R,U,Y⟩:=aq am.box;obtain⟨a6,a7,p2,a8,a9⟩:=bH bp;cases b1))
   .go_upto_if 29 with(go_at_call 46;(with_reducible refine(gX C b (ba+41000) db 8 am.o.cur RU).mono ?_);rintro e e2 ⟨u,rfl,⟨cr,rfl⟩,O,F⟩;have bd:=zH (am.go E.o O F);have ej:=zH (bo.drawn F TM);have ev:=zH (bR bp F br.1);clear O F R U Y a6 a7 p2 a8 a9;obtain⟨a6,a7,p2,a8,a9⟩:=bH ev;cases cr)
    .go_wp2;go_roundw
     case rel=>exact⟨j-1,S,A,c,X,us,RU,RW,zH (bd.mono TP TP)⟩
     case measure=>simp[intOf];omega
    .go_wp2_with (at_builtin;refine mU rfl _ _ rfl ((w:Nat)+1) e2 _ (.slice a0 x.row xc) X us x bd.o.sts ej.o cI.o (by have:=bd.len;omega) (by have:=(aM.1 bd.box).1;have:=E.o;omega) rfl rfl ?_;intro e4 e3 dc a1 Z I;have ao:=zH (bd.snoc Ew a1 Z I TU);have b4:=zH Z;have d4:=zH I;clear a1 Z I)
     go_ret
     exact⟨_,rfl,⟨X++[x],cB.mono ⟨_,ao.sts⟩ RU,by have:=ao.len;omega,ao.rl⟩,ao.cur.mono TP,ao.gr⟩
   .have d0:eI p S x=true:=eb.symm;have b5:=zH d0;clear d0;go_upto_if 39 with(first
     |(at_builtin;refine mU rfl _ _ rfl ((w:Nat)+1) db _ (.slice a0 x.row xc) X us x am.o.sts bo.o cI.o (by have:=am.len;omega) (by have:=(aM.1 am.box).1;have:=E.o;omega) rfl rfl ?_;intro e4 e3 dc a1 Z I;have ao:=zH (am.snoc Ew a1 Z I TU);have b4:=zH Z;have d4:=zH I;clear a1 Z I)
     |(go_at_call 46;(with_reducible refine(gX C b (ba+41000) dc 4 ao.o.cur RU).mono ?_);rintro e bv ⟨u,rfl,⟨cr,rfl⟩,O,F⟩;have ek:=zH (ar.kept bo b4 (iI RX bo am.sts.outer));have eA:=zH ((b4.block y (aM.1 bp).1 (fun e=>by have:=(d6 y e.symm).2;have:=br.o;omega)).trans bp);have Q:=zH (ao.go E.o O F);have em:=zH (ek.drawn F TM);have e0:=zH (bR eA F br.1);clear O F R U Y a6 a7 p2 a8 a9;obtain⟨R,U,Y⟩:=aq Q.o.box;obtain⟨a6,a7,p2,a8,a9⟩:=bH e0;cases cr))
    .obtain⟨da,cc⟩:=aO (cE p S x);obtain⟨cF,eg⟩:=bS (CL p S x A c bv a0 xc (Q.o.at E.o).now (BB em) Q.o.ok b5) (by rw[cc];exact gG Q.o.ok b5:da.Ok p);rw[<-cc]at cF;clear cc;go_wp2_with (go_at_call 37;(with_reducible refine cF.o.mono ?_);rintro e dl ⟨A2,c2,rfl,ac,H⟩;have ab:=zH (Q.o.ext H);have ea:=zH (ac.mono (show(w:Nat)+1<=bv by have:=(aM.1 Q.o.box).1;have:=E.o;omega));clear ac H R U Y a6 a7 p2 a8 a9;obtain⟨R,U,Y⟩:=aq ab.box;have f0:=aP ab.box 0;have f1:=aP ab.box 1;have f2:=aP ab.box 2)
     go_roundw
     case rel=>exact⟨j-1,da,A2,c2,X++[x],_,RU,RW,zH (xw.mono (K:=ba+41000+2) (N:=b8+1) (xw.make ab E.o eg ea) TP TP)⟩
     case measure=>simp[intOf];omega
    .obtain⟨bm,ck⟩:=aO (dL p S x);obtain⟨c8,eo⟩:=bS (zgH p S x A c bv a0 xc (Q.o.at E.o).now Q.o.ok b5) (by rw[ck];exact Ci Q.o.ok.small:bm.row.length<=1000);rw[<-ck]at c8;clear ck;go_wp2_with (first
      |(go_at_call 90;(with_reducible refine c8.o.mono ?_);rintro e dl ⟨A2,c2,rfl,ac,H⟩;have ab:=zH (Q.o.ext H);have d7:=zH (zco Q.o.sts ac);have en:=zH (ac.mono (show(w:Nat)+1<=bv by have:=(aM.1 Q.o.box).1;have:=E.o;omega));clear ac H)
      |(at_builtin;refine mU rfl _ _ rfl ((w:Nat)+1) dl _ (.slice A2 bm.row c2) _ _ bm ab.o.sts en.o d7.o (by have:=ab.len;omega) (by have:=(aM.1 ab.box).1;have:=E.o;omega) rfl rfl ?_;intro fz fs fn a1 Z I;have d5:=zH (ab.snoc Ew a1 Z I eo);have fi:=zH Z;have fd:=zH I;clear a1 Z I))
     go_roundw
     case rel=>exact⟨j-1,S,A,c,(X++[x])++[bm],_,RU,RW,zH (xw.mono (K:=ba+41000+2) (N:=b8+1+1) (us:=us++[.slice a0 x.row xc]++[.slice A2 bm.row c2]) (by have h:=d5.o;rw[show(X++[x]).length=X+1 by simp]at h;exact h) TP TP)⟩
     case measure=>simp[intOf];omega
def zhw(w:aa)(e:Ending)(w':aa):Prop:=∃(p:Int) (S:Sy) (A:an) (c:Nat) (x:cS) (z:an) (xc:Nat),e=.returned (.tuple (eB p (ae S.v S.h A S.rows c) (bB x.k x.a x.b x.c z x.row xc)))/\
 (S.rows.length<=1048576/\∀r∈S.rows,r.length<=1048576)/\x.row.length<=1048576/\At w (fun V=>aX V A S.rows) w'/\At w (fun V=>aT V z x.row) w'/\ai w w'
def zbX(D:lL w A n)(H:∀a,A=some a->a.block < (w:Nat))(I:n<=1048576)(V:aa)(z:ai w V):cH ⟨A,n,c⟩ V 0 (V.alloc (.cells (vr A n c) 71)):=by refine⟨⟨0,0,az V _ rfl,ag _⟩,fun k F=>?_,fun a e=>gZ (H a e) z.size,I⟩;obtain⟨a,o,x,e,J,E⟩:=D k F;exact⟨a,o,x,e,J,av (z.trans ((aD V _).mono z.size)) E⟩
def at_all(h:∀V,P V):At lo P w:=⟨0,bf _,Fr.all h⟩
def zgl(h:ar V B (.slice A xs c) xs)(D:lo<=B):At lo (fun V=>aT V A xs) V:=by
 rcases pP xs with z|z
 .exact at_all fun _=>aF (eS z)
 .obtain⟨g,cap,-,E,F⟩:=kG h z;exact(At.of (h.fr RU)).mono D
def rA(h:k≠b):(nQ V b v0 v1 v2 v3 v4).heap[k]?=V.heap[k]?:=(bw _ _ _ _ h).trans ((bw _ _ _ _ h).trans ((bw _ _ _ _ h).trans ((bw _ _ _ _ h).trans (bw _ _ _ _ h))))
def nU(h:Below B w w')(z:B<=b)(v0 v1 v2 v3 v4:au):Below B w (nQ w' b v0 v1 v2 v3 v4):=((((h.setCell z _).setCell z _).setCell z _).setCell z _).setCell z _
def nV{g:Nat}{o:Obj}(h:V.heap[g]?=some o)(z:V.grownBy E (some b))(D:g<b):E.heap[g]?=some o:=(z.block g (aM.1 h).1 fun e=>T5).trans h
def oQ(h:ai w V)(z:V.grownBy E (some b))(F:(w:Nat)<=b):ai w E:=⟨z.os.trans h.os,z.tape.trans h.tape,z.output.trans h.output,bc h.size z.size,fun k D=>(z.block k (by have:=h.size;omega) (fun e=>T5)).trans (h.block k D)⟩
def DcI(C:Code)(b K D:Nat)(z V:aa):Prop:=∃(S:Sy) (A:an) (c:Nat),aU V D (ae S.v S.h A S.rows c) 26/\(S.rows.length<=1048576/\∀r∈S.rows,r.length<=1048576)/\aJ V (b+1) (.slice A S.rows c) S.rows/\cH C b K V/\z.grownBy V (some b)
def zgm{v:Int}{rows:aE}(z:fZ p v h rows=true):Sys p v h rows:=jI.1 z
def zaB(n:Nat)(h:n<D)(t:ah V D 0 v0/\ah V D 1 v1/\ah V D 2 v2):(((V.setCell ⟨n,0,none⟩ H).setCell ⟨n,1,none⟩ R).setCell ⟨n,2,none⟩ U).cell? ⟨D,0,none⟩=some v0/\(((V.setCell ⟨n,0,none⟩ H).setCell ⟨n,1,none⟩ R).setCell ⟨n,2,none⟩ U).cell? ⟨D,1,none⟩=some v1/\(((V.setCell ⟨n,0,none⟩ H).setCell ⟨n,1,none⟩ R).setCell ⟨n,2,none⟩ U).cell? ⟨D,2,none⟩=some v2:=⟨ik (kQ (by show D≠n;omega)) t.1,ik (kQ (by show D≠n;omega)) t.2.1,ik (kQ (by show D≠n;omega)) t.2.2⟩
def tQ{c1 c2 c3 E:au}(h:At lo P V)(D:n<lo)(z:k<lo):At lo P (nQ (iA V n H R U) k RR c1 c2 c3 E):=At.setCell (At.setCell (At.setCell (At.setCell (At.setCell (At.setCell (At.setCell (At.setCell h (a:=⟨n,0,none⟩) D _) (a:=⟨n,1,none⟩) D _) (a:=⟨n,2,none⟩) D _) (a:=⟨k,0,none⟩) z _) (a:=⟨k,1,none⟩) z _) (a:=⟨k,2,none⟩) z _) (a:=⟨k,3,none⟩) z _) (a:=⟨k,4,none⟩) z _
def zcS(h:ar V B v xs)(z:x<B):ar (iA V x v0 v1 v2) B v xs:=((h.setCell (a:=⟨x,0,none⟩) z v0).setCell (a:=⟨x,1,none⟩) z v1).setCell (a:=⟨x,2,none⟩) z v2
def C5(A:an)(n c:Nat)(w:aa)(d8:lL w A n)(ea:∀a,A=some a->a.block < (w:Nat))(eb:n<=1048576):aw 32 (eG A n c) w (zhw w):=by
 obtain⟨C,d9⟩:∃C:Code,C=⟨A,n,c⟩:=⟨_,rfl⟩;have d0:=zH (fun V (fi:ai w V)=>(by rw[d9];exact zbX d8 ea eb V fi:cH C V 0 (V.alloc (.cells (vr A n c) 71))));have c4:=((aj w w).alloc (ag _) (.cells aQ 26)).alloc RS (.cells df 29);have I:=(b_ (w.alloc (.cells aQ 26)) (.cells df 29) (k:=w.heap.size) RS).trans (az w _ rfl);have J:=az (w.alloc (.cells aQ 26)) (.cells df 29) (n:=(w:Nat)+1) RS;clear d8 ea eb d9;go_enter func32,ntmps32
 go_upto_region 1 with(fail)
 generalize (w.alloc _).alloc _=W at c4 I J ⊢;obtain⟨cI,c8,cz⟩:=d_ c4 I J;clear c4 I J;go_upto_region 2 with(fail)
 have ab:=d0 W cI;have bz:=aD W (.cells (vr A n c) 71);obtain⟨ca,cb,E9,b9⟩:=fU (ak c8 bz) (ak cz bz) (show(w:Nat)+1<W from(aM.1 cz).1) (cC cI bz);generalize W.alloc _=ce at ab bz ca cb b9 ⊢;generalize (W:Nat)=b at ab E9 ⊢;have dl:=zH ab;clear ab bz d0 cI c8 cz;go_upto_if 15 with(first
  |(go_at_call 42;(with_reducible refine(t_ C b 0 ce dl.o RU).mono ?_);rintro e be ⟨u,rfl,⟨p,rfl,-,-⟩,F,D⟩;have b6:=zH F;have ba:=zH D;clear F D)
  |(go_at_call 43;(with_reducible refine(kK p be).mono ?_);rintro e fz ⟨rfl,rfl⟩;obtain⟨y,a4⟩:∃y,y=dr p:=⟨_,rfl⟩;rw[<-a4];have d1:=zH a4;clear a4;cases y))
 .have z:=nV ca ba TW;have Y:=nV cb ba E9;obtain⟨ct,cu,cy⟩:=aq (z);have ci:=aP (z) 0;have cj:=aP (z) 1;have ck:=aP (z) 2;have ad:=gH (v0:=()) (v1:=()) (v2:=fe) (z);have E:=(kQ (V:=be) (b:=w.heap.size) (k:=(w:Nat)+1) (v0:=()) (v1:=()) (v2:=fe) RU).trans (Y);obtain⟨a5,a6,n2,a7,a8⟩:=bH E;obtain⟨I,J,ap,a0,a1⟩:=lM E;have am:=oT (v0:=()) (v1:=()) (v2:=()) (v3:=()) (v4:=fe) E;have ao:=(rA (V:=iA be w (zI 0) (zI 0) (.slice none 0 0)) (b:=(w:Nat)+1) (k:=w.heap.size) (v0:=()) (v1:=()) (v2:=()) (v3:=()) (v4:=fe) RU).trans ad;obtain⟨t0,t1,t2⟩:=aq ao;obtain⟨b1,b2,b3,b4,b5⟩:=bH am;unfold nQ iA at t0 t1 t2 b1 b2 b3 b4 b5;unfold iA at a5 a6 n2 a7 a8 I J ap a0 a1;clear ad E am ao;have bo:=zH (show Below w w (nQ (iA be w (zI 0) (zI 0) (.slice none 0 0)) ((w:Nat)+1) (zI 0) (zI 0) (zI 0) (zI 0) (.slice none 0 0)) from nU (im (oQ b9 ba TW) (ag _) _ _ _) RU _ _ _ _ _);clear z Y;go_wp2;refine ax (v:=.tuple (eB p aQ df)) VE rfl ?_;exact⟨p,⟨0,0,[]⟩,none,0,⟨0,0,0,0,[]⟩,none,0,rfl,⟨RS,fun r hr=>R5⟩,RS,at_all fun _=>aF rfl,at_all fun _=>aF rfl,bo⟩
 .have d2:=zH d1.symm;go_upto_region 6 with(go_at_call 44;(with_reducible refine(qp C b 4 be p b6.o RU d2.o).mono ?_);rintro e bi ⟨u,rfl,⟨S,A1,c1,rfl,eg,O⟩,F,D⟩;have d6:=zH eg;have d5:=zH O;have dT:=zH F;have d3:=zH (ba.trans D);have dc:=zH (show b < (be:Nat) from b6.lt);have Er:=zH (gZ b6.lt D.size);have d7:=zH (bc ba.size D.size);clear eg O F D)
  have U:=az bi (.cells (ae S.v S.h A1 S.rows c1) 26) rfl;have cr:=aD bi (.cells (ae S.v S.h A1 S.rows c1) 26);have FH:=d6.small;have bb:=zH (show DcI C b (4+4300000) bi ce (bi.alloc (.cells (ae S.v S.h A1 S.rows c1) 26)) from⟨S,A1,c1,U,⟨TX,fun r hr=>UJ⟩,(d5.mono (by have:=dc.o;omega)).ext cr,dT.ext cr,d3.trans (aN cr)⟩);generalize bi.alloc _=V at bb ⊢;generalize (bi:Nat)=H at bb Er d7 ⊢;clear U cr FH d5 dT d3 d6 dc b6 ba d1 dl;go_upto_if 23 with(go_at_call 46;(with_reducible refine(gX C b (4+4300000) V 24 (by have h:=bb.o;unfold DcI at h;obtain⟨-,-,-,-,-,-,h,-⟩:=h;exact h) RU).mono ?_);rintro e ch ⟨u,rfl,⟨y,rfl⟩,F,D⟩;have cO:=zH F;have b8:=zH D;clear F D)
  go_cut [] from 23 to 27 (fun V=>DcI C b 4500000 H ce V)
  case first=>
   have br:=bb.o;unfold DcI at br;obtain⟨S,A1,c1,U,ac,O,-,b0⟩:=br;obtain⟨cc,bd,e2,b7⟩:=fU (bR U b8 Er) ac (O.drawn b8 (iV _)) (b0.trans b8);clear U ac O b0 bb;cases y
   .go_wp2_with fail
    go_meet
    exact⟨S,A1,c1,cc,bd,e2,cO.mono RU,b7⟩
   .obtain⟨ek,em,en⟩:=aq cc;go_wp2_with (go_at_call 54;(with_reducible refine(Aw C b (4+4300000+2) ch p cO.o RU d2.o).mono ?_);rintro e f3 ⟨u,rfl,⟨fb,eo,fd,rfl,ac,O⟩,F,D⟩;have bm:=bR cc D Er;obtain⟨f4,f5,z2⟩:=aq bm;have f0:=aP bm 0;have f1:=aP bm 1;have f2:=aP bm 2;have e8:=zH bm;have e4:=zH ac;have e3:=zH O;have ev:=zH F;have e0:=zH (b7.trans D);have e9:=zH (show H < (ch:Nat)/\(ce:Nat)<=H∨H < (ch:Nat) from aA (aM.1 cc).1);clear bm ac O F D)
    go_meet
    have fs:H < (ch:Nat):=by rcases e9.o with h|h;exact h.1;exact h
    have fl:=Er.o;exact⟨fb,eo,fd,gH e8,e4,(nC e3 fs).mono RU,(mx ev fl).mono RU,jQ e0 d7⟩
  case rest=>
   clear bb cO b8;have br:=hcut;clear hcut;unfold DcI at br;obtain⟨S,A1,c1,U,ac,O,ab,b0⟩:=br;obtain⟨V,rfl⟩:∃V,V=wc:=⟨wc,rfl⟩;obtain⟨e7,bd,es,b7,da⟩:=lv U ac ab b0 (At.of (O.fr ab.lt));obtain⟨ek,em,en⟩:=aq U;clear U ac O ab b0;go_upto_if 30 with(go_at_call 35;(with_reducible refine(pv p S.v S.h A1 c1 S.rows V da.o.now (by have:=bd.o.1;unfold maxLen;omega) (fun r hr=>by have:=bd.o.2 r hr;unfold maxLen;omega)).mono ?_);rintro e Q ⟨rfl,bv⟩;obtain⟨y,a4⟩:∃y,y=fZ p S.v S.h S.rows:=⟨_,rfl⟩;rw[<-a4];have e5:=zH a4;have c0:=zH (ak e7 bv);have c9:=zH (At.ext da bv);have eA:=zH (es.ext bv);have d4:=zH (b7.trans (aN bv));clear a4 bv ek em en;cases y)
   .have a3:=aq (show Q.drew.heap[H]?=_ from c0.o);have R:=d4.trans (aN (row:=some b) (aI Q));go_upto_region 9 with(fail)
    have z:=nV ca R TW;have Y:=nV cb R E9;have a2:=At.ext c9 (aI Q);refine bJ (S:=fun V=>ah V H 0 (zI S.v)/\ah V H 1 (zI S.h)/\ah V H 2 (.slice A1 S.rows c1)) 5 Si a3 (fun hHeld=>?_);generalize Q.drew=a9 at a3 R z Y a2 hHeld ⊢;clear a3;obtain⟨ct,cu,cy⟩:=aq (z);have ci:=aP (z) 0;have cj:=aP (z) 1;have ck:=aP (z) 2;have ad:=gH (v0:=.int .i64 S.v) (v1:=.int .i64 S.h) (v2:=.slice A1 S.rows c1) (z);have E:=(kQ (V:=a9) (b:=w.heap.size) (k:=(w:Nat)+1) (v0:=.int .i64 S.v) (v1:=.int .i64 S.h) (v2:=.slice A1 S.rows c1) RU).trans (Y);obtain⟨a5,a6,n2,a7,a8⟩:=bH E;obtain⟨I,J,ap,a0,a1⟩:=lM E;have am:=oT (v0:=.int .i64 9) (v1:=()) (v2:=()) (v3:=()) (v4:=fe) E;have ao:=(rA (V:=iA a9 w (zI S.v) (zI S.h) (.slice A1 S.rows c1)) (b:=(w:Nat)+1) (k:=w.heap.size) (v0:=.int .i64 9) (v1:=()) (v2:=()) (v3:=()) (v4:=fe) RU).trans ad;obtain⟨t0,t1,t2⟩:=aq ao;obtain⟨b1,b2,b3,b4,b5⟩:=bH am;unfold nQ iA at t0 t1 t2 b1 b2 b3 b4 b5;unfold iA at a5 a6 n2 a7 a8 I J ap a0 a1;clear ad E am ao;obtain⟨bo,cF⟩:=bS (show Below w w (nQ (iA a9 w (zI S.v) (zI S.h) (.slice A1 S.rows c1)) ((w:Nat)+1) (zI 9) (zI 0) (zI 0) (zI 0) (.slice none 0 0)) from nU (im (oQ b9 R TW) (ag _) _ _ _) RU _ _ _ _ _) (show At (b+1) (fun V=>aX V A1 S.rows) (nQ (iA a9 w (zI S.v) (zI S.h) (.slice A1 S.rows c1)) ((w:Nat)+1) (zI 9) (zI 0) (zI 0) (zI 0) (.slice none 0 0)) from tQ a2 TW TW);clear z Y R a2;have co:=hHeld;refine aC 0 ?_;refine aC 1 ?_;refine aC 2 ?_;refine bM 3 fun K hK=>?_
    go_simp;refine hK.out _ _ (fun _=>hHeld) (fun hHeld=>?_);clear hK K;try simp only[Act.put,zA]
    refine bM 4 fun K hK=>?_
    go_simp;refine hK.out _ _ (fun _=>zaB w Vr co) (fun hHeld=>?_);clear hK K;try simp only[Act.put,zA]
    refine bM 5 fun K hK=>?_
    go_simp;refine hK.out _ _ (fun h=>absurd h RX) (fun hHeld=>?_);clear hK K;try simp only[Act.put,zA]
    refine eC Si ?_ _;clear ct cu cy ci cj ck a5 a6 n2 a7 a8 I J ap a0 a1 co;go_wp2;refine ax (v:=.tuple #[p,.agg (ae S.v S.h A1 S.rows c1),.agg #[.int .i64 9,(),(),(),fe]]) VE rfl ?_;exact⟨p,S,A1,c1,⟨9,0,0,0,[]⟩,none,0,rfl,bd,RS,cF.mono TW,at_all fun _=>aF rfl,bo⟩
   .have a3:=aq (show Q.drew.heap[H]?=_ from c0.o);have R:=d4.trans (aN (row:=some b) (aI Q));go_upto_region 10 with(fail)
    have a2:=At.ext c9 (aI Q);have c6:=ak c0 (aI Q);have c5:=eA.ext (aI Q);refine bJ (S:=fun V=>ah V H 0 (zI S.v)/\ah V H 1 (zI S.h)/\ah V H 2 (.slice A1 S.rows c1)) 8 Si a3 (fun hHeld=>?_);generalize Q.drew=a9 at a3 R a2 c6 c5 hHeld ⊢;obtain⟨e1,db,fa,cR⟩:=fU R a2 c6 c5;clear a3 R a2 c6 c5;refine aC 0 ?_;refine aC 1 ?_;refine aC 2 ?_;refine aC 3 ?_;refine aC 4 ?_;have co:=hHeld;refine bM 5 fun K hK=>?_
    go_simp
    (with_reducible refine(Dk C b 4500000 (b+1) a9 p S.v S.h A1 S.rows c1 S.rows rfl (cR.o) RU (zgm e5.o.symm) (iV _) (db.o)).mono ?_)
    rintro e bp ⟨u,rfl,⟨x,Z,xc,rfl,ei,ej⟩,F,D⟩;have Hq:=zH ei;have cn:=e1.trans D;have z:=nV ca cn TW;have Y:=nV cb cn E9;obtain⟨ct,cu,cy⟩:=aq (z);have ci:=aP (z) 0;have cj:=aP (z) 1;have ck:=aP (z) 2;have ad:=gH (v0:=.int .i64 S.v) (v1:=.int .i64 S.h) (v2:=.slice A1 S.rows c1) (z);have E:=(kQ (V:=bp) (b:=w.heap.size) (k:=(w:Nat)+1) (v0:=.int .i64 S.v) (v1:=.int .i64 S.h) (v2:=.slice A1 S.rows c1) RU).trans (Y);obtain⟨a5,a6,n2,a7,a8⟩:=bH E;obtain⟨I,J,ap,a0,a1⟩:=lM E;have am:=oT (v0:=.int .i64 x.k) (v1:=.int .i64 x.a) (v2:=.int .i64 x.b) (v3:=.int .i64 x.c) (v4:=.slice Z x.row xc) E;have ao:=(rA (V:=iA bp w (zI S.v) (zI S.h) (.slice A1 S.rows c1)) (b:=(w:Nat)+1) (k:=w.heap.size) (v0:=.int .i64 x.k) (v1:=.int .i64 x.a) (v2:=.int .i64 x.b) (v3:=.int .i64 x.c) (v4:=.slice Z x.row xc) RU).trans ad;obtain⟨t0,t1,t2⟩:=aq ao;obtain⟨b1,b2,b3,b4,b5⟩:=bH am;unfold nQ iA at t0 t1 t2 b1 b2 b3 b4 b5;unfold iA at a5 a6 n2 a7 a8 I J ap a0 a1;clear ad E am ao;have bo:=zH (show Below w w (nQ (iA bp w (zI S.v) (zI S.h) (.slice A1 S.rows c1)) ((w:Nat)+1) (zI x.k) (zI x.a) (zI x.b) (zI x.c) (.slice Z x.row xc)) from nU (im (oQ b9 cn TW) (ag _) _ _ _) RU _ _ _ _ _);have fo:=E9.o;have fn:=cR.lt;obtain⟨cF,e6⟩:=bS (show At (b+1) (fun V=>aX V A1 S.rows) (nQ (iA bp w (zI S.v) (zI S.h) (.slice A1 S.rows c1)) ((w:Nat)+1) (zI x.k) (zI x.a) (zI x.b) (zI x.c) (.slice Z x.row xc)) from tQ (At.drawn db D (iV _)) RU RU) (show ar (nQ (iA bp w (zI S.v) (zI S.h) (.slice A1 S.rows c1)) ((w:Nat)+1) (zI x.k) (zI x.a) (zI x.b) (zI x.c) (.slice Z x.row xc)) a9 (.slice Z x.row xc) x.row from Dj (zcS ej RU) RU);have c7:=aq (bR fa D Er);clear z Y cn F D ei ej fo fn;go_simp;refine hK.out _ _ (fun _=>c7) (fun hHeld=>?_);clear hK K;try simp only[Act.put,zA]
    refine bM 6 fun K hK=>?_
    go_simp;refine hK.out _ _ (fun _=>c7) (fun hHeld=>?_);clear hK K;try simp only[Act.put,zA]
    refine bM 7 fun K hK=>?_
    go_simp;refine hK.out _ _ (fun _=>zaB w Vr c7) (fun hHeld=>?_);clear hK K;try simp only[Act.put,zA]
    refine bM 8 fun K hK=>?_
    go_simp;refine hK.out _ _ (fun h=>absurd h RX) (fun hHeld=>?_);clear hK K;try simp only[Act.put,zA]
    refine eC Si ?_ _;clear ct cu cy ci cj ck a5 a6 n2 a7 a8 I J ap a0 a1 co;go_wp2;refine ax (v:=.tuple (eB p (ae S.v S.h A1 S.rows c1) (bB x.k x.a x.b x.c Z x.row xc))) VE rfl ?_;exact⟨p,S,A1,c1,x,Z,xc,rfl,bd,TU,cF.mono TW,zgl e6 (by have:=E9.o;have:=cR.lt;omega),bo⟩
end Go.Proofs.YtdpgblncijojiaaGreatDoor
