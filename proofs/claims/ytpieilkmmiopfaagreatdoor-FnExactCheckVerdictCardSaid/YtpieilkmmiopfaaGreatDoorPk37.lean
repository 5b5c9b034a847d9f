/- Parts of the walks. Conditions: as stated with each. -/
import Derived.Test.YtpieilkmmiopfaaGreatDoorPk36
namespace Go.Proofs.YtpieilkmmiopfaaGreatDoor
open Go.RowKit Tryz
set_option linter.all false
set_option maxHeartbeats 4000000
set_option maxRecDepth 100000
variable{j:Nat}{w w':aa}
structure L4(B Z Y:Nat)(V:aa)(gw k v:Int)(v2 v3 u2 u3:aG)(l2 l3 m2 m3:aL):Prop where
 μ:O4 B V v2 v3 u2 u3 l2 l3 m2 m3
 bz:bA V Z #[.int .i64 gw,.slice none 0 0,v2,v3] 54
 by':bA V Y #[.int .i64 k,.int .i64 v,u2,u3] 155
 lz:Z<B
 ly:Y<B
 ne:Y≠Z
section
variable{B Z Y:Nat}{V V' w8:aa}{gw k v:Int}{v2 v3 u2 u3:aG}{l2 l3 m2 m3 l:aL}{o:Obj}{g n ε:Nat}
def L4.ext(h:L4 B Z Y V gw k v v2 v3 u2 u3 l2 l3 m2 m3)(D:ag V V'):L4 B Z Y V' gw k v v2 v3 u2 u3 l2 l3 m2 m3:=⟨h.μ.ext D,ai h.bz D,ai h.by' D,h.lz,h.ly,h.ne⟩
def L4.ziI(h:L4 B Z Y V gw k v v2 v3 u2 u3 l2 l3 m2 m3)(F:(V.alloc o).grownBy w8 v2.ownBlock)(D:v2.ownBlock=some g∨g=(V.alloc o:Nat))(hb:Below B (V.alloc o) w8)(G:bw 3 1 EI w8 B (.slice (bH g) n ε) l):L4 B Z Y (w8.setCell ⟨Z,2,none⟩ (.slice (bH g) n ε)) gw k v (.slice (bH g) n ε) v3 u2 u3 l l3 m2 m3/\bA w8 Z #[.int .i64 gw,.slice none 0 0,v2,v3] 54:=by
 refine N0 fun hz hy=>?_
 have y:=bE w8 Z 2 _ _ (.slice (bH g) n ε) hz;simp only[zA]at y;exact⟨⟨(O4.X h.μ F D hb G).set (a:=⟨Z,2,none⟩) h.lz _,y,(a_ _ _ _ _ h.ne).t hy,h.lz,h.ly,h.ne⟩,hz⟩
def L4.ziJ(h:L4 B Z Y V gw k v v2 v3 u2 u3 l2 l3 m2 m3)(F:(V.alloc o).grownBy w8 v3.ownBlock)(D:v3.ownBlock=some g∨g=(V.alloc o:Nat))(hb:Below B (V.alloc o) w8)(G:bw 3 1 EI w8 B (.slice (bH g) n ε) l):L4 B Z Y (w8.setCell ⟨Z,3,none⟩ (.slice (bH g) n ε)) gw k v v2 (.slice (bH g) n ε) u2 u3 l2 l m2 m3/\bA w8 Z #[.int .i64 gw,.slice none 0 0,v2,v3] 54:=by
 refine N0 fun hz hy=>?_
 have y:=bE w8 Z 3 _ _ (.slice (bH g) n ε) hz;simp only[zA]at y;exact⟨⟨(O4.X h.μ.sw F D hb G).sw.set (a:=⟨Z,3,none⟩) h.lz _,y,(a_ _ _ _ _ h.ne).t hy,h.lz,h.ly,h.ne⟩,hz⟩
def L4.zmU(h:L4 B Z Y V gw k v v2 v3 u2 u3 l2 l3 m2 m3)(F:(V.alloc o).grownBy w8 u2.ownBlock)(D:u2.ownBlock=some g∨g=(V.alloc o:Nat))(hb:Below B (V.alloc o) w8)(G:bw 3 1 EI w8 B (.slice (bH g) n ε) l):L4 B Z Y (w8.setCell ⟨Y,2,none⟩ (.slice (bH g) n ε)) gw k v v2 v3 (.slice (bH g) n ε) u3 l2 l3 l m3/\bA w8 Y #[.int .i64 k,.int .i64 v,u2,u3] 155:=by
 refine N0 fun hz hy=>?_
 have y:=bE w8 Y 2 _ _ (.slice (bH g) n ε) hy;simp only[zA]at y;exact⟨⟨(O4.X h.μ.rot F D hb G).rot.set (a:=⟨Y,2,none⟩) h.ly _,(a_ _ _ _ _ h.ne.q).t hz,y,h.lz,h.ly,h.ne⟩,hy⟩
def L4.zmV(h:L4 B Z Y V gw k v v2 v3 u2 u3 l2 l3 m2 m3)(F:(V.alloc o).grownBy w8 u3.ownBlock)(D:u3.ownBlock=some g∨g=(V.alloc o:Nat))(hb:Below B (V.alloc o) w8)(G:bw 3 1 EI w8 B (.slice (bH g) n ε) l):L4 B Z Y (w8.setCell ⟨Y,3,none⟩ (.slice (bH g) n ε)) gw k v v2 v3 u2 (.slice (bH g) n ε) l2 l3 m2 l/\bA w8 Y #[.int .i64 k,.int .i64 v,u2,u3] 155:=by
 refine N0 fun hz hy=>?_
 have y:=bE w8 Y 3 _ _ (.slice (bH g) n ε) hy;simp only[zA]at y;exact⟨⟨(O4.X h.μ.rot.sw F D hb G).sw.rot.set (a:=⟨Y,3,none⟩) h.ly _,(a_ _ _ _ _ h.ne.q).t hz,y,h.lz,h.ly,h.ne⟩,hy⟩
end
def Á(a j:Nat):List Int:=bD (List.range (min j a))
def vp(a j:Nat):List Int:=bD (dd a (j-a))
def ziK{a}(h:j<a):Á a j++[(j:Int)]=Á a (j+1)/\vp a (j+1)=vp a j/\(Á a j).length=j:=by unfold Á vp;rw[iw Qu,iw Qu,nk,show j+1-a=j-a by omega];exact⟨QM,rfl,by rw[aS,fK]⟩
def zgS{a}(h:a<=j):vp a j++[(j:Int)]=vp a (j+1)/\Á a (j+1)=Á a j/\(vp a j).length=j-a:=by unfold Á vp dd;rw[uG Qu,uG Qu,show j+1-a=(j-a)+1 by omega,nk];refine⟨?_,rfl,by rw[aS];simp⟩;simp[bD];omega
def zev k v s w(hl:dI ⟨k,v,s.toList.isEmpty⟩=true):az 105 (cY (dN k v s)) w (xr (fv ⟨k,v,s.toList.isEmpty⟩) w):=by
 refine Ox fun hl hB hq hr he=>?_
 by_cases h1:k=1
 .subst h1;obtain⟨m,rfl⟩:∃m:Nat,v=(m:Int):=⟨v.toNat,S7⟩;have bv:m<=12:=S7;rw[show fv ⟨1,(m:Int),true⟩=⟨m,[],List.range m,List.range m⟩ from rfl];clear hl;go_enter func105,ntmps105
  go_upto_region 1 with(fail)
  generalize (w.alloc _).alloc _=W at hB hq hr ⊢;obtain⟨bb,c1,c2⟩:=aD hq;have⟨b0,HR⟩:=bJ hB hr;clear hB hq hr;go_wp2_with (go_at_call 150;refine(ziC m _ Qu).x ?_;rintro e w2 ⟨A1,d1,A2,d2,A3,d3,rfl,cI,h⟩;have hz:=ai HR h;have⟨c0,c3,c4,c5⟩:=aB hz;have⟨f0,f1,f2,f3⟩:=cN hz;have HZ:=zH hz;have HF:=zH cI;have bp:=zH (aT b0 h);clear hz cI h)
  refine Mq fun y y0 y1 y2 y3=>?_
  refine aI (v:=.agg #[m,.slice A1 0 d1,.slice A2 m d2,.slice A3 m d3]) Uz rfl ⟨A1,d1,A2,d2,A3,d3,by rw[fK];rfl,?_,bY bp (b:=(w:Nat)+1) Qu _ _ _ _⟩;exact Y7
 by_cases h2:k=2
 .subst h2;rw[show fv ⟨2,v,true⟩=⟨2,[],[0,1],[1,0]⟩ from rfl];clear hl;go_enter func105,ntmps105
  go_upto_region 1 with(fail)
  generalize (w.alloc _).alloc _=W at hB hq hr ⊢;obtain⟨bb,c1,c2⟩:=aD hq;have s0:=(bk.1 hr).1;have cB:=(hB.alloc hB.size (.cells kZ 3)).alloc (by have:=hB.size;simp;omega) (.cells mu 3);have cV:=(bO (W.alloc (.cells kZ 3)) (.cells mu 3) (k:=W.heap.size) Qt).t (aH W _ rfl);have cW:=aH (W.alloc (.cells kZ 3)) (.cells mu 3) (n:=(W:Nat)+1) Qt;have hz:=(bO (W.alloc (.cells kZ 3)) (.cells mu 3) (k:=(w:Nat)+1) QW).t ((bO W (.cells kZ 3) s0).t hr);have Nx:(W:Nat)+2=((W.alloc (.cells kZ 3)).alloc (.cells mu 3)):=Qt;clear hB hq hr;have⟨c0,c3,c4,c5⟩:=aB hz;have⟨f0,f1,f2,f3⟩:=cN hz;have y:=cP (v0:=.int .i64 2) (v1:=dE) (v2:=.slice (bH W) 2 2) (v3:=.slice (some ⟨(W:Nat)+1,0,none⟩) 2 2) hz;have⟨y0,y1,y2,y3⟩:=aB y;unfold dQ at y0 y1 y2 y3;have⟨bq,HF,Nw,Nv⟩:=gG (bY cB (b:=(w:Nat)+1) Qu (zI 2) (.slice none 0 0) (.slice (bH W) 2 2) (.slice (some ⟨(W:Nat)+1,0,none⟩) 2 2)) (Fv (g:=⟨2,[],[0,1],[1,0]⟩) (A1:=none) (Fr.all fun _=>ay rfl) (zf (xs:=bD [0,1]) cV rfl (ae _) (Qu:(W:Nat)<W+2)) (zf (xs:=bD [1,0]) cW rfl Qu Qu)) Nx s0;clear y hz cV cW cB Nx s0;go_wp2;refine aI (v:=.agg #[.int .i64 2,dE,.slice (bH W) 2 2,.slice (some ⟨(W:Nat)+1,0,none⟩) 2 2]) Uz rfl ⟨none,0,_,2,_,2,rfl,?_,bq⟩;exact Yf
 .have cA:3<=k:=by
   unfold dI at hl;rw[bN]at hl;have hl:=hl.2;dsimp only at hl;rw[aj h1]at hl;by_cases d0:k=7∨k=13
   .omega
   .rw[aj d0]at hl;simp only[bN,cf]at hl;omega
  have⟨cj,ck⟩:=vU (v:=v) cA;have cK:=tK hl;have⟨a,bu⟩:=aR (BB k);have⟨b,h⟩:=aR (BC k);rw[cj,ck,<-bu,<-h]at cK;obtain⟨d9,ea⟩:=cK;have cq:=zH (show fv ⟨k,v,true⟩=⟨a+b,[⟨k,v,List.range a,dd a b⟩],List.range a,dd a b⟩ by unfold fv dd;rw[aj h1,aj h2,cj,ck,bu,h])
  have dl:=zH (fun V=>(by have:=yv k V;rw[<-bu,<-h]at this;exact this:az 151 (bK k) V fun e w'=>e=.returned (.tuple (iL a b))/\V=w'));have ek:(k==1)=false:=Rp;have n2:(k==2)=false:=Rk;have⟨m,bv⟩:=aR (a+b);have ej:IntKind.i64.wrap ((a:Int)+b)=(m:Int):=Rt;have eg:m<=24:=Qu;have d5:a<=m:=Qu;have c8:=zH bv;rw[<-bv]at cq;clear cj ck bu h hl h1 h2 cA bv he;go_enter func105,ntmps105
  go_upto_region 1 with(fail)
  generalize (w.alloc _).alloc _=W at hB hq hr ⊢;obtain⟨bb,c1,c2⟩:=aD hq;have⟨b0,HR,c9⟩:=er hB hr hq;clear hB hq hr;go_upto_region 8 with(go_at_call 151;refine(dl.o _).x ?_;rintro e w' ⟨rfl,rfl⟩)
  have H:=aw W (.cells (Af m) 54);have ci:=zH (aH W (.cells (Af m) 54) rfl);generalize W.alloc _=I at H ci ⊢;have⟨db,a6⟩:=bJ (ai HR H) (aT b0 H);clear bb c1 c2;obtain⟨bb,c1,c2⟩:=aD (ai c9 H);clear H;go_upto_region 9 with(fail)
  have H:=aw I (.cells #[k,v,dE,dE] 155);have ch:=zH (aH I (.cells #[k,v,dE,dE] 155) rfl);generalize I.alloc _=U at H ch ⊢;obtain⟨dq,dc,bp,ba,a9,cc⟩:=ny (ai ci H) (ai db H) (aT a6 H) (show(w:Nat)+1<W from(bk.1 HR).1) (show(W:Nat)<I from(bk.1 ci).1) (show(I:Nat)<U from(bk.1 ch).1);have a1:=zH (show L4 U W I U m k v (.slice none 0 0) (.slice none 0 0) (.slice none 0 0) (.slice none 0 0) (Á a 0) (vp a 0) (Á a 0) (vp a 0) from⟨by
   rw[show Á a 0=[] by simp[Á,bD],show vp a 0=[] by simp[vp,bD,dd]];exact O4.nil (ae _),dq,ch,Nat.lt_trans a9 cc,cc,Nat.ne_of_gt a9⟩)
  clear bb c1 c2 H;go_wp2;go_loopw [7] (fun i wr=>∃(j:Nat) (v2 v3 u2 u3:aG),j<=m/\i=.int .i64 j/\L4 U W I wr m k v v2 v3 u2 u3 (Á a j) (vp a j) (Á a j) (vp a j)/\bA wr ((w:Nat)+1) cw 54/\ag w wr) (fun i _=>m-(intOf i).toNat)
  case atStart=>exact⟨0,_,_,_,_,aW _,rfl,a1,dc,bp⟩
  case round=>
   obtain⟨j,v2,v3,u2,u3,eb,rfl,D,hq,an⟩:=hrel;clear a1;obtain⟨a7,a8,b6,cr,b7,ct⟩:=ny (show(w:Nat)<=U from bp.size) (show(w:Nat)+1<U by have:=ba.o;have:=a9.o;have:=cc.o;omega) (show(w:Nat)+1≠W.heap.size by have:=ba.o;omega) (show(w:Nat)+1≠I.heap.size by have:=ba.o;have:=a9.o;omega) (show(w:Nat)<=W by have:=ba.o;omega) (show(w:Nat)<=I by have:=ba.o;have:=a9.o;omega);by_cases ee:j<m
   .have⟨em,cR⟩:=aR (Obj.cells #[.int .i64 (j:Nat)] 3);by_cases d4:j<a
    .have⟨ap,av,am⟩:=ziK d4;have⟨b4,b5,Mk⟩:=er ap av am;have⟨a3,a4,p2,a5⟩:=aB D.bz;have⟨a1,ac,cb,b3⟩:=gG D (D.ext (aw wr (.cells (fm j) 3))) (ai hq (aw wr (.cells (fm j) 3))) (an.t ((aw wr (.cells (fm j) 3)).x an.size));clear D hq an ap av am cR;go_upto_region 14 with((at_builtin;refine de qy rfl (.tmp 46) (.tmp 48) rfl U (wr.alloc (.cells (fm j) 3)) v2 (Á a j) (j:Int) [.int .i64 (j:Nat)] wr ac.o.μ.o1 rfl SU (kn.d ac.μ.o1 ac.μ.le fun _=>rfl) RX ac.o.μ.le rfl rfl (aH wr _ rfl) ?_;intro bd bc bo F T O h;rw[Mk.o]at F ⊢;have b8:=zH ((h.block ((w:Nat)+1) a8).t cb);have⟨G,hz⟩:=L4.ziI a1 T O h F;have⟨bg,bh,bi,bn⟩:=aB hz;have⟨f0,f1,f2,f3⟩:=cN hz;have ah:=zH G;have a6:=zH (b3.t (h.x a7));clear F T O h hz G))
     have a0:=(a_ bo ⟨W,2,none⟩ (.slice (bH bd) (j+1) bc) ((w:Nat)+1) b6).t b8;have J:=a6.setCell (p:=⟨W,2,none⟩) b7 (.slice (bH bd) (j+1) bc);clear a3 a4 p2 a5 bg bh bi bn f0 f1 f2 f3;generalize bo.setCell ⟨W,2,none⟩ _=V at ah a0 J ⊢;obtain⟨a3,a4,p2,a5⟩:=aB ah.by';have⟨ad,b9,b1⟩:=er (ah.ext (aw V (.cells (fm j) 3))) (ai a0 (aw V (.cells (fm j) 3))) (J.t ((aw V (.cells (fm j) 3)).x J.size));clear a0 J;go_wp2_with ((at_builtin;refine de qy rfl (.tmp 52) (.tmp 54) rfl U (V.alloc (.cells (fm j) 3)) u2 (Á a j) (j:Int) [.int .i64 (j:Nat)] V ad.o.μ.o3 rfl SU (kn.d ad.μ.o3 ad.μ.le fun _=>rfl) RX ad.o.μ.le rfl rfl (aH V _ rfl) ?_;intro dT dr w2 F T O h;rw[Mk.o]at F ⊢;have ca:=zH ((h.block ((w:Nat)+1) a8).t b9);have⟨G,hz⟩:=L4.zmU ah T O h F;have⟨bg,bh,bi,bn⟩:=aB hz;have⟨f0,f1,f2,f3⟩:=cN hz;have ce:=zH G;have b2:=zH (b1.t (h.x a7));clear F T O h hz G))
     go_roundw
     case rel=>
      have G:=ce.o;rw[b4.o,<-b5.o]at G;exact⟨j+1,_,_,_,_,Qu,Qx,G,(a_ w2 ⟨I,2,none⟩ _ ((w:Nat)+1) cr).t ca,b2.setCell (p:=⟨I,2,none⟩) ct _⟩
     case measure=>simp[intOf];omega
    .have⟨ap,av,am⟩:=zgS (Qu:a<=j);have⟨n,cO⟩:=aR (j-a);rw[<-cO]at am;have⟨b4,b5,Mk⟩:=er ap av am;have ei:n<=24:=Qu;have⟨a3,a4,p2,a5⟩:=aB D.bz;have⟨a1,ac,cb,b3⟩:=gG D (D.ext (aw wr (.cells (fm j) 3))) (ai hq (aw wr (.cells (fm j) 3))) (an.t ((aw wr (.cells (fm j) 3)).x an.size));clear D hq an ap av am cR cO;go_upto_region 16 with((at_builtin;refine de qy rfl (.tmp 58) (.tmp 60) rfl U (wr.alloc (.cells (fm j) 3)) v3 (vp a j) (j:Int) [.int .i64 (j:Nat)] wr ac.o.μ.o2 rfl SU (kn.d ac.μ.o2 ac.μ.le fun _=>rfl) RX ac.o.μ.le rfl rfl (aH wr _ rfl) ?_;intro bd bc bo F T O h;rw[Mk.o]at F ⊢;have b8:=zH ((h.block ((w:Nat)+1) a8).t cb);have⟨G,hz⟩:=L4.ziJ a1 T O h F;have⟨bg,bh,bi,bn⟩:=aB hz;have⟨f0,f1,f2,f3⟩:=cN hz;have ah:=zH G;have a6:=zH (b3.t (h.x a7));clear F T O h hz G))
     have a0:=(a_ bo ⟨W,3,none⟩ (.slice (bH bd) (n+1) bc) ((w:Nat)+1) b6).t b8;have J:=a6.setCell (p:=⟨W,3,none⟩) b7 (.slice (bH bd) (n+1) bc);clear a3 a4 p2 a5 bg bh bi bn f0 f1 f2 f3;generalize bo.setCell ⟨W,3,none⟩ _=V at ah a0 J ⊢;obtain⟨a3,a4,p2,a5⟩:=aB ah.by';have⟨ad,b9,b1⟩:=er (ah.ext (aw V (.cells (fm j) 3))) (ai a0 (aw V (.cells (fm j) 3))) (J.t ((aw V (.cells (fm j) 3)).x J.size));clear a0 J;go_wp2_with ((at_builtin;refine de qy rfl (.tmp 64) (.tmp 66) rfl U (V.alloc (.cells (fm j) 3)) u3 (vp a j) (j:Int) [.int .i64 (j:Nat)] V ad.o.μ.o4 rfl SU (kn.d ad.μ.o4 ad.μ.le fun _=>rfl) RX ad.o.μ.le rfl rfl (aH V _ rfl) ?_;intro dT dr w2 F T O h;rw[Mk.o]at F ⊢;have ca:=zH ((h.block ((w:Nat)+1) a8).t b9);have⟨G,hz⟩:=L4.zmV ah T O h F;have⟨bg,bh,bi,bn⟩:=aB hz;have⟨f0,f1,f2,f3⟩:=cN hz;have ce:=zH G;have b2:=zH (b1.t (h.x a7));clear F T O h hz G))
     go_roundw
     case rel=>
      have G:=ce.o;rw[b4.o,<-b5.o]at G;exact⟨j+1,_,_,_,_,Qu,Qx,G,(a_ w2 ⟨I,3,none⟩ _ ((w:Nat)+1) cr).t ca,b2.setCell (p:=⟨I,3,none⟩) ct _⟩
     case measure=>simp[intOf];omega
   .obtain rfl:j=m:=Qu;have hi:Á a j=bD (List.range a):=by unfold Á;rw[uG d5]
    have F:vp a j=bD (dd a b):=by unfold vp;rw[c8.o,iY]
    rw[hi,F]at D;obtain⟨A2,c2,rfl,-,-,-⟩:=D.μ.o1.p;obtain⟨A3,a2,rfl,-,-,-⟩:=D.μ.o2.p;obtain⟨cn,d2,rfl,-,-,-⟩:=D.μ.o3.p;obtain⟨co,d3,rfl,-,-,-⟩:=D.μ.o4.p;simp only[aS,fK,c_]at D;have H:=aw wr (.cells (wW k v cn a d2 co b d3) 155);have⟨bq,ao,cu,cp⟩:=gG (aH wr (.cells (wW k v cn a d2 co b d3) 155) rfl) (D.ext H) (ai hq H) (aT an H);obtain⟨dO,ap,av,am⟩:=aB D.by';have⟨s0,d6,d7,d8⟩:=aB ao.bz;have⟨t0,t1,t2,t3⟩:=cN ao.bz;have cz:=zH D.μ.le;clear D hq an H hi F;go_upto_region 18 with(fail)
    generalize wr.alloc _=bz at bq ao cu cp ⊢;have y:=bE bz W 1 _ _ (.slice (bH wr) 1 1) ao.bz;simp only[zA]at y;have be:=(a_ bz ⟨W,1,none⟩ (.slice (bH wr) 1 1) ((w:Nat)+1) b6).t cu;have J:=cp.setCell (p:=⟨W,1,none⟩) b7 (.slice (bH wr) 1 1);have ab:=ao.μ.set (a:=⟨W,1,none⟩) ao.lz (.slice (bH wr) 1 1);have br:=(a_ bz ⟨W,1,none⟩ (.slice (bH wr) 1 1) wr (by show wr.heap.size≠W.heap.size;have:=cz.o;have:=ao.lz;omega)).t bq;clear dO ap av am s0 d6 d7 d8 t0 t1 t2 t3;generalize bz.setCell ⟨W,1,none⟩ _=V at y be J ab br ⊢;have⟨a3,a4,p2,a5⟩:=aB y;have⟨c0,c3,c4,c5⟩:=aB be;have⟨f0,f1,f2,f3⟩:=cN be;have c6:=cP (v0:=.int .i64 (j:Nat)) (v1:=.slice (bH wr) 1 1) (v2:=.slice A2 a c2) (v3:=.slice A3 b a2) be;have⟨y0,y1,y2,y3⟩:=aB c6;unfold dQ at y0 y1 y2 y3;have c7:=zH (bY J (b:=(w:Nat)+1) Qu (zI (j:Nat)) (.slice (bH wr) 1 1) (.slice A2 a c2) (.slice A3 b a2));have cF:=(bk.1 br).1;have g:=Fv (g:=⟨j,[⟨k,v,List.range a,dd a b⟩],List.range a,dd a b⟩) (zfX (e:=⟨k,v,List.range a,dd a b⟩) (c1:=d2) (c2:=d3) (by rw[show(List.range a).length=a from fK ..,show(dd a b).length=b from c_ ..];exact br) cz cF (By ab.o3 ab.le) (By ab.o4 ab.le)) (By ab.o1 ab.le) (By ab.o2 ab.le);have HF:=zH ((g.dQ (b:=(w:Nat)+1) (v0:=.int .i64 (j:Nat)) (v1:=.slice (bH wr) 1 1) (v2:=.slice A2 a c2) (v3:=.slice A3 b a2) a8).to (hi':=(dQ V ((w:Nat)+1) (zI (j:Nat)) (.slice (bH wr) 1 1) (.slice A2 a c2) (.slice A3 b a2)).heap.size) a7 (gp eK.q));clear y be J ab br c6 cF g;go_wp2;refine aI (v:=.agg #[(j:Nat),.slice (bH wr) 1 1,.slice A2 a c2,.slice A3 b a2]) Uz rfl ?_;rw[cq.o];refine⟨_,1,A2,c2,A3,a2,?_,HF,c7⟩;exact XK
def BJ(t:Tm)(w:aa)(e:Ending)(w':aa):Prop:=
 (t.pM=false/\e=.returned (.tuple (dz cw))/\ag w w')∨
 (t.pM=true/\∃A1 c1 h c2 D F,e=.returned (.tuple (fH (fw t.gr.w A1 t.gr.es c1 h t.gr.i c2 D t.gr.o F)))/\Fr w' w w' (fun V=>jV V A1 h D t.gr)/\ag w w')
def zdZ x A ε w(Z:dI x.nd=true)(am:bR 3 jK w A [x]):az 75 #[.agg #[.slice A 1 ε]] w (BJ (.lf x.nd) w):=by
 obtain⟨F,H,G⟩:=x;have a6:=zH (show(Tm.lf (eE.nd ⟨F,H,G⟩)).pM=true from sH Z);have bg:F<15:=CK Z;obtain⟨a9,av⟩:=bJ (show ∀V,ag w V->az 104 #[.agg #[.slice A 1 ε]] V (fun e w'=>e=.returned (zI F)/\ag V w') from fun V ba=>zaB [⟨F,H,G⟩] ⟨F,H,G⟩ A ε V (bQ am ba) rfl Qt) (fun V=>zev F H G V Z);have⟨h,ah⟩:=aR (fv ⟨F,H,G.toList.isEmpty⟩);rw[<-ah]at av;have ap:=zH (show(Tm.lf (eE.nd ⟨F,H,G⟩)).gr=h from ah.q);have Y:=((al w w).alloc (ae _) (.cells #[.slice A 1 ε] 35)).alloc Qt (.cells cw 54);have an:=(bO (w.alloc (.cells #[.slice A 1 ε] 35)) (.cells cw 54) (k:=w.heap.size) Qt).t (aH w _ rfl);have ab:=aH (w.alloc (.cells #[.slice A 1 ε] 35)) (.cells cw 54) (n:=(w:Nat)+1) Qt;obtain⟨b,o,rfl,ad,c1,c2⟩:=iF (bQ am Y) (k:=0) rfl;simp only[Nat.zero_mul,jf]at ad c1 c2;clear am Z ah;go_enter func75,ntmps75
 go_upto_region 1 with(fail)
 generalize (w.alloc _).alloc _=W at Y an ab ad c1 c2 ⊢;have bb:=aF an 0 rfl;obtain⟨ao,a7,a1⟩:=er Y ab (show(w:Nat)+1<W from(bk.1 ab).1);clear Y an ab;go_wp2_with (first|(go_at_call 104;(with_reducible refine(a9.o _ ao.o).x ?_);rintro e bp ⟨rfl,D⟩;have d0:=ar D ad;have d1:=ar D c1;have d2:=ar D c2;have br:=ar D bb;have a8:=zH (ai a7 D);have a3:=zH (aT ao D);have a0:=zH D.size;clear D)|(go_at_call 105;(with_reducible refine(av.o _).x ?_);rintro e bq ⟨A1,O,I,T,J,U,rfl,a2,D⟩;have ac:=ai a8 D;have⟨bh,bi,bn,bo⟩:=aB ac;have⟨f0,f1,f2,f3⟩:=cN ac;have y:=cP (v0:=.int .i64 (h.w:Nat)) (v1:=.slice A1 h.es O) (v2:=.slice I h.i T) (v3:=.slice J h.o U) ac;have⟨bc,bd,z2,be⟩:=aB y;unfold dQ at bc bd z2 be;have a5:=zH (a2.dQ (b:=(w:Nat)+1) (v0:=.int .i64 (h.w:Nat)) (v1:=.slice A1 h.es O) (v2:=.slice I h.i T) (v3:=.slice J h.o U) (gm a1 a0));have a4:=zH (bY (aT a3 D) (b:=(w:Nat)+1) Qu (zI (h.w:Nat)) (.slice A1 h.es O) (.slice I h.i T) (.slice J h.o U));clear ac y a2 D))
 refine aI (v:=.tuple (fH (bj h A1 O I T J U))) (by simp[results,uR,go_sem, *]) rfl (au ⟨a6,A1,O,I,T,J,U,by rw[ap.o],?_,a4⟩);rw[ap.o];exact a5.to (by have:=a1.o;have:=a0.o;omega) (gp eK.q)
def BJ.ψ{t}{e}(h:BJ t w e w'):∃(F:Gr) (I:ax) (Y:Nat) (J:ax) (Z:Nat) (O:ax) (ab:Nat),e=.returned (.tuple #[.agg (bj F I Y J Z O ab),.bool t.pM])/\(t.pM=true->F=t.gr)/\Fr w' w w' (fun V=>jV V I J O F)/\ag w w':=by
 rcases h with⟨D,G,H⟩|⟨D,A1,c1,T,c2,U,ac,G,H,ad⟩
 .refine⟨⟨0,[],[],[]⟩,none,0,none,0,none,0,by rw[D];exact G,fun h=>(by rw[D]at h;cases h),Fr.all fun _=>⟨ay rfl,ay rfl,ay rfl⟩,H⟩
 .exact⟨t.gr,A1,c1,T,c2,U,ac,by rw[D];exact G,fun _=>rfl,H,ad⟩
def zgn g A1 D F c1 c2 G w(H:jV w A1 D F g)(I:g.G1)(O:px g)(J:jc g=false):az 107 (cY (bj g A1 c1 D c2 F G)) w fun e w'=>e=.returned (.tuple (dz cw))/\ag w w':=(zdr g A1 D F c1 c2 G w H I O).x fun e w' h=>⟨h.1.elim (fun h=>h.2) (fun h=>by rw[J]at h;cases h.1),h.2⟩
def zd0 g A1 D F c1 c2 G w(H:jV w A1 D F g)(I:g.G1)(O:px g)(J:jc g=true):az 107 (cY (bj g A1 c1 D c2 F G)) w fun e w'=>e=.returned (.tuple (fH (bj g A1 c1 D c2 F G)))/\ag w w':=(zdr g A1 D F c1 c2 G w H I O).x fun e w' h=>⟨h.1.elim (fun h=>by rw[J]at h;cases h.1) (fun h=>h.2),h.2⟩
def zhX k a b c L A ε w(cn:(Tm.op k a b).ty=some c)(hL:cJ L=(Tm.op k a b).d)(c6:L.length<=400)(cO:L.length<=ε)(ci:bR 3 jK w A L)(dr:∀(M:List eE) (I:ax) (d:Nat) (V:aa),cJ M=a.d->M.length<=400->M.length<=d->bR 3 jK V I M->az 75 (cY (aV I M d)) V (BJ a V))(dO:∀(M:List eE) (I:ax) (d:Nat) (V:aa),cJ M=b.d->M.length<=400->M.length<=d->bR 3 jK V I M->az 75 (cY (aV I M d)) V (BJ b V)):az 75 (cY (aV A L ε)) w (BJ (.op k a b) w):=by
 have⟨fy,fz,cK,cR,a6⟩:=Tm.qE cn;have bq:k=15∨k=16:=qD a6;have fl:L.length=a.d+b.d+1:=Xs;have dl:cJ (L.take a.d)=a.d:=by have:=oy (List.take a.d) hL;unfold cJ at this ⊢;rw[List.map_take,this,Tm.qR,fJ,Dg]
 have c0:cJ ((L.drop a.d).take b.d)=b.d:=by have:=oy (List.drop a.d) hL;unfold cJ at this ⊢;rw[List.map_take,List.map_drop,<-List.map_drop,List.map_drop,this,Tm.qR,fJ,List.drop_left,Dg]
 have⟨x,co⟩:=aq (Qu:L.length-1<L);have dq:x.k=k:=by
  have bi:(cJ L)[L.length-1]?=some x.nd:=by unfold cJ;rw[bI,co];rfl
  rw[hL,Tm.qR,fi Ra,bm,show L.length-1-(a.d.length+b.d)=0 by omega]at bi;have ch:(⟨k,0,true⟩:Nd)=x.nd:=ji bi;exact(oy Nd.k ch).q
 obtain⟨cI,bg⟩:=bJ (fun V (ck:ag w V)=>(by have:=zaB L x A ε V (bQ ci ck) co Qu;rw[dq]at this;exact this:az 104 (cY (aV A L ε)) V fun e w'=>e=.returned (zI k)/\ag V w')) (fun V (ck:ag w V)=>zd2 k a b c L A ε V (bQ ci ck) hL cn c6 cO);have c4:(L.take a.d).length=a.d:=Rv;have c5:((L.drop a.d).take b.d).length=b.d:=R6;obtain⟨cF,b6⟩:=bJ (fun I d V (fd:a.d.length<=d) (D:bR 3 jK V I (L.take a.d))=>(by have:=dr (L.take a.d) I d V dl Qu Qu D;rw[c4]at this;exact this:az 75 #[.agg #[.slice I a.d d]] V (BJ a V))) (fun I d V (fd:b.d.length<=d) (D:bR 3 jK V I ((L.drop a.d).take b.d))=>(by have:=dO ((L.drop a.d).take b.d) I d V c0 Qu Qu D;rw[c5]at this;exact this:az 75 #[.agg #[.slice I b.d d]] V (BJ b V)));have es:=zH (show a.pM=true->b.pM=true->k=15->a.gr.o.length=b.gr.i from fun _ _ e=>by have bi:=(Tm.qF cK).2.2;have ch:=(Tm.qF cR).2.1;unfold gP at a6;rw[ak e]at a6;split at a6;rw[bi,ch];assumption;cases a6)
 have⟨b5,eo⟩:=bJ (Tm.zeE k a b) (Tm.zao k a b);have bn:=((al w w).alloc (ae _) (.cells (aV A L ε) 35)).alloc Qt (.cells cw 54);refine MM fun hq hr=>?_
 have⟨l,c3⟩:=aR L.length;have⟨bu,c7⟩:=aR a.d.length;have⟨cr,H⟩:=aR b.d.length;rw[<-c3]at cI bg bn hq hr ⊢;rw[<-c7]at bg cF b6;rw[<-H]at bg b6;have f4:¬k<15:=Qu;have f5:(15:Int)<=k:=Qu;clear cn hL c6 cO ci dr dO cK cR a6 fl dl c0 co dq c4 c5 c3 c7 H;have ev:=zH bq;clear bq;go_enter func75,ntmps75
 go_upto_region 1 with(fail)
 generalize (w.alloc _).alloc _=W at bn hq hr ⊢;have d1:=aF hq 0 rfl;have⟨cu,e2⟩:=bJ bn hr;clear bn hq hr;go_upto_region 5 with(first|(go_at_call 104;(with_reducible refine(cI.o _ cu.o).x ?_);rintro e gi ⟨rfl,h⟩;have y0:=ar h d1;have e3:=zH (ai e2 h);have cz:=zH (aT cu h);have fs:=zH h.size;clear h)|(go_at_call 106;(with_reducible refine(bg.o _ cz.o).x ?_);rintro e ac ⟨a7,bd,be,br,rfl,cV,cW,db,dc,h⟩;have e4:=zH (ai e3 h);have d5:=zH (aT cz h);have fx:=zH h.size;have ea:=zH cV;have eb:=zH cW;have ey:=zH db;have eA:=zH dc;clear h cV cW db dc))
 have F:Below ac ac ((ac.alloc (.cells (bZ a7 bu bd) 35)).alloc (.cells (bZ be cr br) 35)):=((al _ _).alloc (ae _) _).alloc Qt _;have d2:=aF ((bO (ac.alloc (.cells (bZ a7 bu bd) 35)) (.cells (bZ be cr br) 35) (k:=ac.heap.size) Qt).t (aH ac (.cells (bZ a7 bu bd) 35) rfl)) 0 rfl;have ct:=aF (aH (ac.alloc (.cells (bZ a7 bu bd) 35)) (.cells (bZ be cr br) 35) (n:=(ac:Nat)+1) Qt) 0 rfl;generalize (ac.alloc _).alloc _=gn at F d2 ct ⊢;have⟨e5,d6,ez,eB⟩:=gG (ai e4 F) (aT d5 F) (bQ ey F) (bQ eA F);clear F d1 y0;go_upto_region 6 with((go_at_call 75;(with_reducible refine(cF.o a7 bd _ ea.o ez.o).x ?_);intro e dT D;have⟨a2,bv,b7,bz,b8,b0,b9,ce,ba,bb,h⟩:=BJ.ψ D;subst ce;have d3:=ar h ct;have e6:=zH (ai e5 h);have d7:=zH (aT d6 h);have e0:=zH (bQ eB h);have ei:=zH bb.D;have ee:=zH ba;clear h bb ba D))
 have⟨F,cp⟩:=bM dT (.cells (bj a2 bv b7 bz b8 b0 b9) 54);generalize dT.alloc _=gs at F cp ⊢;have fo:=ar F d3;have⟨e9,e7,d8,e1,ej⟩:=pD cp (ai e6 F) (aT d7 F) (bQ e0 F) (ei.ext F);clear F cp d2 ct d3;go_upto_region 7 with((go_at_call 75;(with_reducible refine(b6.o be br _ eb.o e1.o).x ?_);intro e d0 D;have⟨a3,b1,ca,b2,cb,b3,cc,ce,ba,bb,h⟩:=BJ.ψ D;subst ce;have e8:=zH (ai e7 h);have d9:=zH (aT d8 h);have fa:=zH (ai e9 h);have ek:=zH (ej.ext h);have em:=zH bb.D;have eg:=zH ba;clear h bb ba D))
 have⟨F,cq⟩:=bM d0 (.cells (bj a3 b1 ca b2 cb b3 cc) 54);generalize d0.alloc _=a1 at F cq ⊢;have⟨JA,G0,fb,cA,cB,fc⟩:=ny (ai e8 F) (aT d9 F) (ai fa F) (ek.ext F) (em.ext F) cq;clear F cq fo;have bh:=zH (show ∀V,ag a1 V->bA V ((w:Nat)+1) cw 54/\ag w V from fun V D=>⟨ai JA D,aT G0 D⟩);cases Z:a.pM
 .have HFF:=zH (by rw[b5.o,Z];rfl:(Tm.op k a b).pM=false);refine Mi fun r0 r1 r2 r3 f0 f1 f2 f3 y y0 y1 y2 y3 HE=>?_
  clear y Z;exact XY
 cases av:b.pM
 .have HFF:=zH (by rw[b5.o,Z,av];rfl:(Tm.op k a b).pM=false);refine Mi fun r0 r1 r2 r3 f0 f1 f2 f3 y y0 y1 y2 y3 HE=>?_
  clear y Z av;exact XY
 have bo:a2=a.gr:=ee Z;have bp:a3=b.gr:=eg av;have c8:a2.B=true:=by rw[bo];exact Tm.DN Z
 have c9:a3.B=true:=by rw[bp];exact Tm.DN av
 have U:(Tm.op k a b).pM=(Tm.op k a b).gr.B:=by rw[b5.o,Z,av];rfl
 have O:=eo.o;rw[<-bo,<-bp]at O;obtain⟨d4,a4,a5⟩:=er (show k=15->a2.o.length=a3.i from fun e=>by rw[bo,bp];exact es Z av e) c8 c9;have bq:=ev.o;have⟨f6,f7,f8,f9⟩:=aB fb;have⟨ga,gb,gc,gd⟩:=aB fc;have⟨S,cj⟩:=aR ((Tm.op k a b).gr);rw[<-cj]at U O;have HS:=zH cj;clear cj bo bp Z av c8 c9;rcases bq with rfl|rfl
 .rw[ak rfl]at O;have an:=zH (zgT a2 a3 bv bz b0 b1 b2 b3 b7 b8 b9 ca cb cc a1 a4 a5 (d4 rfl) cA cB);have a0:S.G1:=by rw[O];exact zeN (Gr.nK a4) (Gr.nK a5)
  have bc:px S:=by rw[O];exact zlN a4 a5
  rw[<-O]at an;rw[a0.B]at U;have⟨a8,a9⟩:=bJ a0 bc;clear O a0 bc;cases H:jc S
  .obtain⟨HFF,am⟩:=bJ (show(Tm.op _ a b).pM=false from U.t H) H;clear U H;go_wp2_with (first|(go_at_call 108;(with_reducible refine an.o.x ?_);intro e Y D;have ap:xr S a1 e Y:=yB.gr D;obtain⟨F1,l1,F2,l2,F3,l3,ao,J,h⟩:=ap;subst ao;have ah:=zH (zgn S F1 F2 F3 l1 l2 l3 Y J.D a8 a9 am);have ad:=zH h;clear D J h)|(go_at_call 107;(with_reducible refine ah.o.x ?_);rintro e ab ⟨rfl,h⟩;obtain⟨G,T⟩:=bh ab (aT ad h);have⟨r0,r1,r2,r3⟩:=aB G;have⟨f0,f1,f2,f3⟩:=cN G;have y:=cP (v0:=()) (v1:=dE) (v2:=dE) (v3:=dE) G;have⟨y0,y1,y2,y3⟩:=aB y;unfold dQ at y0 y1 y2 y3;have HE:=zH (bY T (b:=(w:Nat)+1) Qu (zI 0) (.slice none 0 0) (.slice none 0 0) (.slice none 0 0));clear G T y h))
   exact XQ
  .obtain⟨HFF,am⟩:=bJ (show(Tm.op _ a b).pM=true from U.t H) H;clear U H;go_wp2_with (first|(go_at_call 108;(with_reducible refine an.o.x ?_);intro e Y D;have ap:xr S a1 e Y:=yB.gr D;obtain⟨F1,l1,F2,l2,F3,l3,ao,J,h⟩:=ap;subst ao;have ah:=zH (zd0 S F1 F2 F3 l1 l2 l3 Y J.D a8 a9 am);have ad:=zH h;have b4:=zH J;clear D J h)|(go_at_call 107;(with_reducible refine ah.o.x ?_);rintro e ab ⟨rfl,h⟩;obtain⟨G,T⟩:=bh ab (aT ad h);have⟨r0,r1,r2,r3⟩:=aB G;have⟨f0,f1,f2,f3⟩:=cN G;have y:=cP (v0:=.int .i64 (S.w:Nat)) (v1:=.slice F1 S.es l1) (v2:=.slice F2 S.i l2) (v3:=.slice F3 S.o l3) G;have⟨y0,y1,y2,y3⟩:=aB y;unfold dQ at y0 y1 y2 y3;have HE:=zH (bY T (b:=(w:Nat)+1) Qu (zI (S.w:Nat)) (.slice F1 S.es l1) (.slice F2 S.i l2) (.slice F3 S.o l3));have HF:=zH (((b4.ext h (ae _)).dQ (b:=(w:Nat)+1) (v0:=.int .i64 (S.w:Nat)) (v1:=.slice F1 S.es l1) (v2:=.slice F2 S.i l2) (v3:=.slice F3 S.o l3) (bk.1 JA).1).to (lo':=w.heap.size) (hi':=(dQ ab ((w:Nat)+1) (zI (S.w:Nat)) (.slice F1 S.es l1) (.slice F2 S.i l2) (.slice F3 S.o l3)).heap.size) G0.size (by rw[eK];exact h.size));clear G T y h))
   exact YS
 .rw[aj Qw]at O;have an:=zH (zhi a2 a3 bv bz b0 b1 b2 b3 b7 b8 b9 ca cb cc a1 (px.of a4) (px.of a5) cA cB);have a0:S.G1:=by rw[O];exact zeO (Gr.nK a4) (Gr.nK a5)
  have bc:px S:=by rw[O];exact zlO a4 a5
  rw[<-O]at an;rw[a0.B]at U;have⟨a8,a9⟩:=bJ a0 bc;clear O a0 bc;cases H:jc S
  .obtain⟨HFF,am⟩:=bJ (show(Tm.op _ a b).pM=false from U.t H) H;clear U H;go_wp2_with (first|(go_at_call 109;(with_reducible refine an.o.x ?_);intro e Y D;have ap:xr S a1 e Y:=D;obtain⟨F1,l1,F2,l2,F3,l3,ao,J,h⟩:=ap;subst ao;have ah:=zH (zgn S F1 F2 F3 l1 l2 l3 Y J.D a8 a9 am);have ad:=zH h;clear D J h)|(go_at_call 107;(with_reducible refine ah.o.x ?_);rintro e ab ⟨rfl,h⟩;obtain⟨G,T⟩:=bh ab (aT ad h);have⟨r0,r1,r2,r3⟩:=aB G;have⟨f0,f1,f2,f3⟩:=cN G;have y:=cP (v0:=()) (v1:=dE) (v2:=dE) (v3:=dE) G;have⟨y0,y1,y2,y3⟩:=aB y;unfold dQ at y0 y1 y2 y3;have HE:=zH (bY T (b:=(w:Nat)+1) Qu (zI 0) (.slice none 0 0) (.slice none 0 0) (.slice none 0 0));clear G T y h))
   exact XQ
  .obtain⟨HFF,am⟩:=bJ (show(Tm.op _ a b).pM=true from U.t H) H;clear U H;go_wp2_with (first|(go_at_call 109;(with_reducible refine an.o.x ?_);intro e Y D;have ap:xr S a1 e Y:=D;obtain⟨F1,l1,F2,l2,F3,l3,ao,J,h⟩:=ap;subst ao;have ah:=zH (zd0 S F1 F2 F3 l1 l2 l3 Y J.D a8 a9 am);have ad:=zH h;have b4:=zH J;clear D J h)|(go_at_call 107;(with_reducible refine ah.o.x ?_);rintro e ab ⟨rfl,h⟩;obtain⟨G,T⟩:=bh ab (aT ad h);have⟨r0,r1,r2,r3⟩:=aB G;have⟨f0,f1,f2,f3⟩:=cN G;have y:=cP (v0:=.int .i64 (S.w:Nat)) (v1:=.slice F1 S.es l1) (v2:=.slice F2 S.i l2) (v3:=.slice F3 S.o l3) G;have⟨y0,y1,y2,y3⟩:=aB y;unfold dQ at y0 y1 y2 y3;have HE:=zH (bY T (b:=(w:Nat)+1) Qu (zI (S.w:Nat)) (.slice F1 S.es l1) (.slice F2 S.i l2) (.slice F3 S.o l3));have HF:=zH (((b4.ext h (ae _)).dQ (b:=(w:Nat)+1) (v0:=.int .i64 (S.w:Nat)) (v1:=.slice F1 S.es l1) (v2:=.slice F2 S.i l2) (v3:=.slice F3 S.o l3) (bk.1 JA).1).to (lo':=w.heap.size) (hi':=(dQ ab ((w:Nat)+1) (zI (S.w:Nat)) (.slice F1 S.es l1) (.slice F2 S.i l2) (.slice F3 S.o l3)).heap.size) G0.size (by rw[eK];exact h.size));clear G T y h))
   exact YS
def yD:∀(t:Tm) (c:g_) (L:List eE) (A:ax) (ε:Nat) (w:aa),t.ty=some c->cJ L=t.d->L.length<=400->L.length<=ε->bR 3 jK w A L->az 75 (cY (aV A L ε)) w (BJ t w)
 |.lf n,c,L,A,ε,w,D,h,Y,T,O=>by
  have U:dI n=true:=by
   unfold Tm.ty at D;split at D
   .assumption
   .cases D
  match L,h with
  |[x],h=>
   have e:x.nd=n:=by simpa[cJ,Tm.d]using h
   rw[<-e]at U ⊢;exact zdZ x A ε w U O
  |[],h=>simp[cJ,Tm.d]at h
  |x::y::L,h=>simp[cJ,Tm.d]at h
 |.op k a b,c,L,A,ε,w,D,h,Y,T,O=>by obtain⟨Z,ab,ac,ad,-⟩:=Tm.qE D;exact zhX k a b c L A ε w D h Y T O (fun M F d V G H I J=>yD a Z M F d V ac G H I J) (fun M F d V G H I J=>yD b ab M F d V ad G H I J)
end Go.Proofs.YtpieilkmmiopfaaGreatDoor
