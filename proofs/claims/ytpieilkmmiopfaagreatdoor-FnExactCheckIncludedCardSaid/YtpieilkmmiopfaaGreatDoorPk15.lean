/- Parts of the walks. Conditions: as stated with each. -/
import Derived.Test.YtpieilkmmiopfaaGreatDoorPk13
namespace Go.Proofs.YtpieilkmmiopfaaGreatDoor
open Go.RowKit Tryz
set_option linter.all false
set_option maxHeartbeats 8000000
set_option maxRecDepth 100000
variable{B b d hi j k lo:Nat}{T u0 u1 u2 v0 v1 v2 v3 z2:aG}{V w w':aa}{g:Gr}{rows:aP}{t:dL}
structure L4(B Z Y:Nat)(V:aa)(gw k v:Int)(v2 v3 u2 u3:aG)(l2 l3 m2 m3:aL):Prop where
 μ:O4 B V v2 v3 u2 u3 l2 l3 m2 m3
 bz:bA V Z #[.int .i64 gw,.slice none 0 0,v2,v3] 54
 by':bA V Y #[.int .i64 k,.int .i64 v,u2,u3] 155
 lz:Z<B
 ly:Y<B
 ne:Y≠Z
section
variable{B Z Y:Nat}{V V' w8:aa}{gw k v:Int}{v2 v3 u2 u3:aG}{l2 l3 m2 m3 l:aL}{o:Obj}{g n ε:Nat}
def L4.ext(h:L4 B Z Y V gw k v v2 v3 u2 u3 l2 l3 m2 m3)(D:ag V V'):L4 B Z Y V' gw k v v2 v3 u2 u3 l2 l3 m2 m3:=⟨h.μ.ext D,ai h.bz D,ai h.by' D,h.lz,h.ly,h.ne⟩
def L4.ziI(h:L4 B Z Y V gw k v v2 v3 u2 u3 l2 l3 m2 m3)(F:(V.alloc o).grownBy w8 v2.ownBlock)(D:v2.ownBlock=some g∨g=(V.alloc o:Nat))(hb:Below B (V.alloc o) w8)(G:bw 3 1 EI w8 B (.slice (bH g) n ε) l):L4 B Z Y (w8.setCell ⟨Z,2,none⟩ (.slice (bH g) n ε)) gw k v (.slice (bH g) n ε) v3 u2 u3 l l3 m2 m3/\bA w8 Z #[.int .i64 gw,.slice none 0 0,v2,v3] 54:=by
 refine N0 fun hz hy=>?_
 have y:=bE w8 Z 2 _ _ (.slice (bH g) n ε) hz;simp only[zA]at y;exact⟨⟨(O4.X h.μ F D hb G).set (a:=⟨Z,2,none⟩) h.lz _,y,(a_ _ _ _ _ h.ne).t hy,h.lz,h.ly,h.ne⟩,hz⟩
def L4.ziJ(h:L4 B Z Y V gw k v v2 v3 u2 u3 l2 l3 m2 m3)(F:(V.alloc o).grownBy w8 v3.ownBlock)(D:v3.ownBlock=some g∨g=(V.alloc o:Nat))(hb:Below B (V.alloc o) w8)(G:bw 3 1 EI w8 B (.slice (bH g) n ε) l):L4 B Z Y (w8.setCell ⟨Z,3,none⟩ (.slice (bH g) n ε)) gw k v v2 (.slice (bH g) n ε) u2 u3 l2 l m2 m3/\bA w8 Z #[.int .i64 gw,.slice none 0 0,v2,v3] 54:=by
 refine N0 fun hz hy=>?_
 have y:=bE w8 Z 3 _ _ (.slice (bH g) n ε) hz;simp only[zA]at y;exact⟨⟨(O4.X h.μ.sw F D hb G).sw.set (a:=⟨Z,3,none⟩) h.lz _,y,(a_ _ _ _ _ h.ne).t hy,h.lz,h.ly,h.ne⟩,hz⟩
def L4.zmU(h:L4 B Z Y V gw k v v2 v3 u2 u3 l2 l3 m2 m3)(F:(V.alloc o).grownBy w8 u2.ownBlock)(D:u2.ownBlock=some g∨g=(V.alloc o:Nat))(hb:Below B (V.alloc o) w8)(G:bw 3 1 EI w8 B (.slice (bH g) n ε) l):L4 B Z Y (w8.setCell ⟨Y,2,none⟩ (.slice (bH g) n ε)) gw k v v2 v3 (.slice (bH g) n ε) u3 l2 l3 l m3/\bA w8 Y #[.int .i64 k,.int .i64 v,u2,u3] 155:=by
 refine N0 fun hz hy=>?_
 have y:=bE w8 Y 2 _ _ (.slice (bH g) n ε) hy;simp only[zA]at y;exact⟨⟨(O4.X h.μ.rot F D hb G).rot.set (a:=⟨Y,2,none⟩) h.ly _,(a_ _ _ _ _ h.ne.q).t hz,y,h.lz,h.ly,h.ne⟩,hy⟩
def L4.zmV(h:L4 B Z Y V gw k v v2 v3 u2 u3 l2 l3 m2 m3)(F:(V.alloc o).grownBy w8 u3.ownBlock)(D:u3.ownBlock=some g∨g=(V.alloc o:Nat))(hb:Below B (V.alloc o) w8)(G:bw 3 1 EI w8 B (.slice (bH g) n ε) l):L4 B Z Y (w8.setCell ⟨Y,3,none⟩ (.slice (bH g) n ε)) gw k v v2 v3 u2 (.slice (bH g) n ε) l2 l3 m2 l/\bA w8 Y #[.int .i64 k,.int .i64 v,u2,u3] 155:=by
 refine N0 fun hz hy=>?_
 have y:=bE w8 Y 3 _ _ (.slice (bH g) n ε) hy;simp only[zA]at y;exact⟨⟨(O4.X h.μ.rot.sw F D hb G).sw.rot.set (a:=⟨Y,3,none⟩) h.ly _,(a_ _ _ _ _ h.ne.q).t hz,y,h.lz,h.ly,h.ne⟩,hy⟩
end
def Á(a j:Nat):List Int:=bD (List.range (min j a))
def vp(a j:Nat):List Int:=bD (dd a (j-a))
def ziK{a}(h:j<a):Á a j++[(j:Int)]=Á a (j+1)/\vp a (j+1)=vp a j/\(Á a j).length=j:=by unfold Á vp;rw[iw Qu,iw Qu,nk,show j+1-a=j-a by omega];exact⟨QM,rfl,by rw[aS,fK]⟩
def zgS{a}(h:a<=j):vp a j++[(j:Int)]=vp a (j+1)/\Á a (j+1)=Á a j/\(vp a j).length=j-a:=by unfold Á vp dd;rw[uG Qu,uG Qu,show j+1-a=(j-a)+1 by omega,nk];refine⟨?_,rfl,by rw[aS];simp⟩;simp[bD];omega
def zev k v s w(hl:dI ⟨k,v,s.toList.isEmpty⟩=true):az 105 (cY (dN k v s)) w (xr (fv ⟨k,v,s.toList.isEmpty⟩) w):=by
 refine Ox fun hl hB hq hr he=>?_
 by_cases h1:k=1
 .subst h1;obtain⟨m,rfl⟩:∃m:Nat,v=(m:Int):=⟨v.toNat,S7⟩;have bv:m<=12:=S7;rw[show fv ⟨1,(m:Int),true⟩=⟨m,[],List.range m,List.range m⟩ from rfl];clear hl;go_enter func105,ntmps105
  go_upto_region 1 with(fail)
  generalize (w.alloc _).alloc _=W at hB hq hr ⊢;obtain⟨bb,c1,c2⟩:=aD hq;have⟨b0,HR⟩:=bJ hB hr;clear hB hq hr;go_wp2_with (go_at_call 150;refine(ziC m _ Qu).x ?_;rintro e w2 ⟨A1,d1,A2,d2,A3,d3,rfl,cI,h⟩;have hz:=ai HR h;have⟨c0,c3,c4,c5⟩:=aB hz;have⟨f0,f1,f2,f3⟩:=cN hz;have HZ:=zH hz;have HF:=zH cI;have bp:=zH (aT b0 h);clear hz cI h)
  refine Mq fun y y0 y1 y2 y3=>?_
  refine aI (v:=.agg #[m,.slice A1 0 d1,.slice A2 m d2,.slice A3 m d3]) Uz rfl ⟨A1,d1,A2,d2,A3,d3,by rw[fK];rfl,?_,bY bp (b:=(w:Nat)+1) Qu _ _ _ _⟩;exact Y7
 by_cases h2:k=2
 .subst h2;rw[show fv ⟨2,v,true⟩=⟨2,[],[0,1],[1,0]⟩ from rfl];clear hl;go_enter func105,ntmps105
  go_upto_region 1 with(fail)
  generalize (w.alloc _).alloc _=W at hB hq hr ⊢;obtain⟨bb,c1,c2⟩:=aD hq;have s0:=(bk.1 hr).1;have cB:=(hB.alloc hB.size (.cells kZ 3)).alloc (by have:=hB.size;simp;omega) (.cells mu 3);have cV:=(bO (W.alloc (.cells kZ 3)) (.cells mu 3) (k:=W.heap.size) Qt).t (aH W _ rfl);have cW:=aH (W.alloc (.cells kZ 3)) (.cells mu 3) (n:=(W:Nat)+1) Qt;have hz:=(bO (W.alloc (.cells kZ 3)) (.cells mu 3) (k:=(w:Nat)+1) QW).t ((bO W (.cells kZ 3) s0).t hr);have Nx:(W:Nat)+2=((W.alloc (.cells kZ 3)).alloc (.cells mu 3)):=Qt;clear hB hq hr;have⟨c0,c3,c4,c5⟩:=aB hz;have⟨f0,f1,f2,f3⟩:=cN hz;have y:=cP (v0:=.int .i64 2) (v1:=dE) (v2:=.slice (bH W) 2 2) (v3:=.slice (some ⟨(W:Nat)+1,0,none⟩) 2 2) hz;have⟨y0,y1,y2,y3⟩:=aB y;unfold dQ at y0 y1 y2 y3;have⟨bq,HF,Nw,Nv⟩:=gG (bY cB (b:=(w:Nat)+1) Qu (zI 2) (.slice none 0 0) (.slice (bH W) 2 2) (.slice (some ⟨(W:Nat)+1,0,none⟩) 2 2)) (Fv (g:=⟨2,[],[0,1],[1,0]⟩) (A1:=none) (Fr.all fun _=>ay rfl) (zf (xs:=bD [0,1]) cV rfl (ae _) (Qu:(W:Nat)<W+2)) (zf (xs:=bD [1,0]) cW rfl Qu Qu)) Nx s0;clear y hz cV cW cB Nx s0;go_wp2;refine aI (v:=.agg #[.int .i64 2,dE,.slice (bH W) 2 2,.slice (some ⟨(W:Nat)+1,0,none⟩) 2 2]) Uz rfl ⟨none,0,_,2,_,2,rfl,?_,bq⟩;exact Yf
 .have cA:3<=k:=by
   unfold dI at hl;rw[bN]at hl;have hl:=hl.2;dsimp only at hl;rw[aj h1]at hl;by_cases d0:k=7∨k=13
   .omega
   .rw[aj d0]at hl;simp only[bN,cf]at hl;omega
  have⟨cj,ck⟩:=vU (v:=v) cA;have cK:=tK hl;have⟨a,bu⟩:=aR (BB k);have⟨b,h⟩:=aR (BC k);rw[cj,ck,<-bu,<-h]at cK;obtain⟨d9,ea⟩:=cK;have cq:=zH (show fv ⟨k,v,true⟩=⟨a+b,[⟨k,v,List.range a,dd a b⟩],List.range a,dd a b⟩ by unfold fv dd;rw[aj h1,aj h2,cj,ck,bu,h])
  have dl:=zH (fun V=>(by have:=yv k V;rw[<-bu,<-h]at this;exact this:az 151 (bK k) V fun e w'=>e=.returned (.tuple (iL a b))/\V=w'));have ek:(k==1)=false:=Rp;have n2:(k==2)=false:=Rk;have⟨m,bv⟩:=aR (a+b);have ej:IntKind.i64.wrap ((a:Int)+b)=(m:Int):=Rt;have eg:m<=24:=Qu;have d5:a<=m:=Qu;have c8:=zH bv;rw[<-bv]at cq;clear cj ck bu h hl h1 h2 cA bv he;go_enter func105,ntmps105
  go_upto_region 1 with(fail)
  generalize (w.alloc _).alloc _=W at hB hq hr ⊢;obtain⟨bb,c1,c2⟩:=aD hq;have⟨b0,HR,c9⟩:=er hB hr hq;clear hB hq hr;go_upto_region 8 with(go_at_call 151;refine(dl.o _).x ?_;rintro e w' ⟨rfl,rfl⟩)
  have H:=aw W (.cells (Af m) 54);have ci:=zH (aH W (.cells (Af m) 54) rfl);generalize W.alloc _=I at H ci ⊢;have⟨db,a6⟩:=bJ (ai HR H) (aT b0 H);clear bb c1 c2;obtain⟨bb,c1,c2⟩:=aD (ai c9 H);clear H;go_upto_region 9 with(fail)
  have H:=aw I (.cells #[k,v,dE,dE] 155);have ch:=zH (aH I (.cells #[k,v,dE,dE] 155) rfl);generalize I.alloc _=U at H ch ⊢;obtain⟨dq,dc,bp,ba,a9,cc⟩:=ny (ai ci H) (ai db H) (aT a6 H) (show(w:Nat)+1<W from(bk.1 HR).1) (show(W:Nat)<I from(bk.1 ci).1) (show(I:Nat)<U from(bk.1 ch).1);have a1:=zH (show L4 U W I U m k v (.slice none 0 0) (.slice none 0 0) (.slice none 0 0) (.slice none 0 0) (Á a 0) (vp a 0) (Á a 0) (vp a 0) from⟨by
   rw[show Á a 0=[] by simp[Á,bD],show vp a 0=[] by simp[vp,bD,dd]];exact O4.nil (ae _),dq,ch,Nat.lt_trans a9 cc,cc,Nat.ne_of_gt a9⟩)
  clear bb c1 c2 H;go_wp2;go_loopw [7] (fun i wr=>∃(j:Nat) (v2 v3 u2 u3:aG),j<=m/\i=.int .i64 j/\L4 U W I wr m k v v2 v3 u2 u3 (Á a j) (vp a j) (Á a j) (vp a j)/\bA wr ((w:Nat)+1) cw 54/\ag w wr) (fun i _=>m-(intOf i).toNat)
  case atStart=>exact⟨0,_,_,_,_,aW _,rfl,a1,dc,bp⟩
  case round=>
   obtain⟨j,v2,v3,u2,u3,eb,rfl,D,hq,an⟩:=hrel;clear a1;obtain⟨a7,a8,b6,cr,b7,ct⟩:=ny (show(w:Nat)<=U from bp.size) (show(w:Nat)+1<U by have:=ba.o;have:=a9.o;have:=cc.o;omega) (show(w:Nat)+1≠W.heap.size by have:=ba.o;omega) (show(w:Nat)+1≠I.heap.size by have:=ba.o;have:=a9.o;omega) (show(w:Nat)<=W by have:=ba.o;omega) (show(w:Nat)<=I by have:=ba.o;have:=a9.o;omega);by_cases ee:j<m
   .have⟨em,cR⟩:=aR (Obj.cells #[.int .i64 (j:Nat)] 3);by_cases d4:j<a
    .have⟨ap,av,am⟩:=ziK d4;have⟨b4,b5,Mk⟩:=er ap av am;have⟨a3,a4,p2,a5⟩:=aB D.bz;have⟨a1,ac,cb,b3⟩:=gG D (D.ext (aw wr (.cells (fm j) 3))) (ai hq (aw wr (.cells (fm j) 3))) (an.t ((aw wr (.cells (fm j) 3)).x an.size));clear D hq an ap av am cR;go_upto_region 14 with((at_builtin;refine de qy rfl (.tmp 46) (.tmp 48) rfl U (wr.alloc (.cells (fm j) 3)) v2 (Á a j) (j:Int) [.int .i64 (j:Nat)] wr ac.o.μ.o1 rfl SU (kn.d ac.μ.o1 ac.μ.le fun _=>rfl) RX ac.o.μ.le rfl rfl (aH wr _ rfl) ?_;intro bd bc bo F T O h;rw[Mk.o]at F ⊢;have b8:=zH ((h.block ((w:Nat)+1) a8).t cb);have⟨G,hz⟩:=L4.ziI a1 T O h F;have⟨bg,bh,bi,bn⟩:=aB hz;have⟨f0,f1,f2,f3⟩:=cN hz;have ah:=zH G;have a6:=zH (b3.t (h.x a7));clear F T O h hz G))
     have a0:=(a_ bo ⟨W,2,none⟩ (.slice (bH bd) (j+1) bc) ((w:Nat)+1) b6).t b8;have J:=a6.setCell (p:=⟨W,2,none⟩) b7 (.slice (bH bd) (j+1) bc);clear a3 a4 p2 a5 bg bh bi bn f0 f1 f2 f3;generalize bo.setCell ⟨W,2,none⟩ _=V at ah a0 J ⊢;obtain⟨a3,a4,p2,a5⟩:=aB ah.by';have⟨ad,b9,b1⟩:=er (ah.ext (aw V (.cells (fm j) 3))) (ai a0 (aw V (.cells (fm j) 3))) (J.t ((aw V (.cells (fm j) 3)).x J.size));clear a0 J;go_wp2_with ((at_builtin;refine de qy rfl (.tmp 52) (.tmp 54) rfl U (V.alloc (.cells (fm j) 3)) u2 (Á a j) (j:Int) [.int .i64 (j:Nat)] V ad.o.μ.o3 rfl SU (kn.d ad.μ.o3 ad.μ.le fun _=>rfl) RX ad.o.μ.le rfl rfl (aH V _ rfl) ?_;intro dT dr w2 F T O h;rw[Mk.o]at F ⊢;have ca:=zH ((h.block ((w:Nat)+1) a8).t b9);have⟨G,hz⟩:=L4.zmU ah T O h F;have⟨bg,bh,bi,bn⟩:=aB hz;have⟨f0,f1,f2,f3⟩:=cN hz;have ce:=zH G;have b2:=zH (b1.t (h.x a7));clear F T O h hz G))
     go_roundw
     case rel=>
      have G:=ce.o;rw[b4.o,<-b5.o]at G;exact⟨j+1,_,_,_,_,Qu,Qx,G,(a_ w2 ⟨I,2,none⟩ _ ((w:Nat)+1) cr).t ca,b2.setCell (p:=⟨I,2,none⟩) ct _⟩
     case measure=>simp[intOf];omega
    .have⟨ap,av,am⟩:=zgS (Qu:a<=j);have⟨n,cO⟩:=aR (j-a);rw[<-cO]at am;have⟨b4,b5,Mk⟩:=er ap av am;have ei:n<=24:=Qu;have⟨a3,a4,p2,a5⟩:=aB D.bz;have⟨a1,ac,cb,b3⟩:=gG D (D.ext (aw wr (.cells (fm j) 3))) (ai hq (aw wr (.cells (fm j) 3))) (an.t ((aw wr (.cells (fm j) 3)).x an.size));clear D hq an ap av am cR cO;go_upto_region 16 with((at_builtin;refine de qy rfl (.tmp 58) (.tmp 60) rfl U (wr.alloc (.cells (fm j) 3)) v3 (vp a j) (j:Int) [.int .i64 (j:Nat)] wr ac.o.μ.o2 rfl SU (kn.d ac.μ.o2 ac.μ.le fun _=>rfl) RX ac.o.μ.le rfl rfl (aH wr _ rfl) ?_;intro bd bc bo F T O h;rw[Mk.o]at F ⊢;have b8:=zH ((h.block ((w:Nat)+1) a8).t cb);have⟨G,hz⟩:=L4.ziJ a1 T O h F;have⟨bg,bh,bi,bn⟩:=aB hz;have⟨f0,f1,f2,f3⟩:=cN hz;have ah:=zH G;have a6:=zH (b3.t (h.x a7));clear F T O h hz G))
     have a0:=(a_ bo ⟨W,3,none⟩ (.slice (bH bd) (n+1) bc) ((w:Nat)+1) b6).t b8;have J:=a6.setCell (p:=⟨W,3,none⟩) b7 (.slice (bH bd) (n+1) bc);clear a3 a4 p2 a5 bg bh bi bn f0 f1 f2 f3;generalize bo.setCell ⟨W,3,none⟩ _=V at ah a0 J ⊢;obtain⟨a3,a4,p2,a5⟩:=aB ah.by';have⟨ad,b9,b1⟩:=er (ah.ext (aw V (.cells (fm j) 3))) (ai a0 (aw V (.cells (fm j) 3))) (J.t ((aw V (.cells (fm j) 3)).x J.size));clear a0 J;go_wp2_with ((at_builtin;refine de qy rfl (.tmp 64) (.tmp 66) rfl U (V.alloc (.cells (fm j) 3)) u3 (vp a j) (j:Int) [.int .i64 (j:Nat)] V ad.o.μ.o4 rfl SU (kn.d ad.μ.o4 ad.μ.le fun _=>rfl) RX ad.o.μ.le rfl rfl (aH V _ rfl) ?_;intro dT dr w2 F T O h;rw[Mk.o]at F ⊢;have ca:=zH ((h.block ((w:Nat)+1) a8).t b9);have⟨G,hz⟩:=L4.zmV ah T O h F;have⟨bg,bh,bi,bn⟩:=aB hz;have⟨f0,f1,f2,f3⟩:=cN hz;have ce:=zH G;have b2:=zH (b1.t (h.x a7));clear F T O h hz G))
     go_roundw
     case rel=>
      have G:=ce.o;rw[b4.o,<-b5.o]at G;exact⟨j+1,_,_,_,_,Qu,Qx,G,(a_ w2 ⟨I,3,none⟩ _ ((w:Nat)+1) cr).t ca,b2.setCell (p:=⟨I,3,none⟩) ct _⟩
     case measure=>simp[intOf];omega
   .obtain rfl:j=m:=Qu;have hi:Á a j=bD (List.range a):=by unfold Á;rw[uG d5]
    have F:vp a j=bD (dd a b):=by unfold vp;rw[c8.o,iY]
    rw[hi,F]at D;obtain⟨A2,c2,rfl,-,-,-⟩:=D.μ.o1.p;obtain⟨A3,a2,rfl,-,-,-⟩:=D.μ.o2.p;obtain⟨cn,d2,rfl,-,-,-⟩:=D.μ.o3.p;obtain⟨co,d3,rfl,-,-,-⟩:=D.μ.o4.p;simp only[aS,fK,c_]at D;have H:=aw wr (.cells (wW k v cn a d2 co b d3) 155);have⟨bq,ao,cu,cp⟩:=gG (aH wr (.cells (wW k v cn a d2 co b d3) 155) rfl) (D.ext H) (ai hq H) (aT an H);obtain⟨dO,ap,av,am⟩:=aB D.by';have⟨s0,d6,d7,d8⟩:=aB ao.bz;have⟨t0,t1,t2,t3⟩:=cN ao.bz;have cz:=zH D.μ.le;clear D hq an H hi F;go_upto_region 18 with(fail)
    generalize wr.alloc _=bz at bq ao cu cp ⊢;have y:=bE bz W 1 _ _ (.slice (bH wr) 1 1) ao.bz;simp only[zA]at y;have be:=(a_ bz ⟨W,1,none⟩ (.slice (bH wr) 1 1) ((w:Nat)+1) b6).t cu;have J:=cp.setCell (p:=⟨W,1,none⟩) b7 (.slice (bH wr) 1 1);have ab:=ao.μ.set (a:=⟨W,1,none⟩) ao.lz (.slice (bH wr) 1 1);have br:=(a_ bz ⟨W,1,none⟩ (.slice (bH wr) 1 1) wr (by show wr.heap.size≠W.heap.size;have:=cz.o;have:=ao.lz;omega)).t bq;clear dO ap av am s0 d6 d7 d8 t0 t1 t2 t3;generalize bz.setCell ⟨W,1,none⟩ _=V at y be J ab br ⊢;have⟨a3,a4,p2,a5⟩:=aB y;have⟨c0,c3,c4,c5⟩:=aB be;have⟨f0,f1,f2,f3⟩:=cN be;have c6:=cP (v0:=.int .i64 (j:Nat)) (v1:=.slice (bH wr) 1 1) (v2:=.slice A2 a c2) (v3:=.slice A3 b a2) be;have⟨y0,y1,y2,y3⟩:=aB c6;unfold dQ at y0 y1 y2 y3;have c7:=zH (bY J (b:=(w:Nat)+1) Qu (zI (j:Nat)) (.slice (bH wr) 1 1) (.slice A2 a c2) (.slice A3 b a2));have cF:=(bk.1 br).1;have g:=Fv (g:=⟨j,[⟨k,v,List.range a,dd a b⟩],List.range a,dd a b⟩) (zfX (e:=⟨k,v,List.range a,dd a b⟩) (c1:=d2) (c2:=d3) (by rw[show(List.range a).length=a from fK ..,show(dd a b).length=b from c_ ..];exact br) cz cF (By ab.o3 ab.le) (By ab.o4 ab.le)) (By ab.o1 ab.le) (By ab.o2 ab.le);have HF:=zH ((g.dQ (b:=(w:Nat)+1) (v0:=.int .i64 (j:Nat)) (v1:=.slice (bH wr) 1 1) (v2:=.slice A2 a c2) (v3:=.slice A3 b a2) a8).to (hi':=(dQ V ((w:Nat)+1) (zI (j:Nat)) (.slice (bH wr) 1 1) (.slice A2 a c2) (.slice A3 b a2)).heap.size) a7 (gp eK.q));clear y be J ab br c6 cF g;go_wp2;refine aI (v:=.agg #[(j:Nat),.slice (bH wr) 1 1,.slice A2 a c2,.slice A3 b a2]) Uz rfl ?_;rw[cq.o];refine⟨_,1,A2,c2,A3,a2,?_,HF,c7⟩;exact XK
def BJ(t:Tm)(w:aa)(e:Ending)(w':aa):Prop:=
 (t.pM=false/\e=.returned (.tuple (dz cw))/\ag w w')∨
 (t.pM=true/\∃A1 c1 h c2 D F,e=.returned (.tuple (fH (fw t.gr.w A1 t.gr.es c1 h t.gr.i c2 D t.gr.o F)))/\Fr w' w w' (fun V=>jV V A1 h D t.gr)/\ag w w')
def zdZ x A ε w(Z:dI x.nd=true)(am:bR 3 jK w A [x]):az 75 #[.agg #[.slice A 1 ε]] w (BJ (.lf x.nd) w):=by
 obtain⟨F,H,G⟩:=x;have a6:=zH (show(Tm.lf (eE.nd ⟨F,H,G⟩)).pM=true from sH Z);have bg:F<15:=CK Z;obtain⟨a9,av⟩:=bJ (show ∀V,ag w V->az 104 #[.agg #[.slice A 1 ε]] V (fun e w'=>e=.returned (zI F)/\ag V w') from fun V ba=>zaB [⟨F,H,G⟩] ⟨F,H,G⟩ A ε V (bQ am ba) rfl Qt) (fun V=>zev F H G V Z);have⟨h,ah⟩:=aR (fv ⟨F,H,G.toList.isEmpty⟩);rw[<-ah]at av;have ap:=zH (show(Tm.lf (eE.nd ⟨F,H,G⟩)).gr=h from ah.q);have Y:=((al w w).alloc (ae _) (.cells #[.slice A 1 ε] 35)).alloc Qt (.cells cw 54);have an:=(bO (w.alloc (.cells #[.slice A 1 ε] 35)) (.cells cw 54) (k:=w.heap.size) Qt).t (aH w _ rfl);have ab:=aH (w.alloc (.cells #[.slice A 1 ε] 35)) (.cells cw 54) (n:=(w:Nat)+1) Qt;obtain⟨b,o,rfl,ad,c1,c2⟩:=iF (bQ am Y) (k:=0) rfl;simp only[Nat.zero_mul,jf]at ad c1 c2;clear ah;go_enter func75,ntmps75
 go_upto_region 1 with(fail)
 generalize (w.alloc _).alloc _=W at Y an ab ad c1 c2 ⊢;have bb:=aF an 0 rfl;obtain⟨ao,a7,a1⟩:=er Y ab (show(w:Nat)+1<W from(bk.1 ab).1);go_wp2_with (first|(go_at_call 104;(with_reducible refine(a9.o _ ao.o).x ?_);rintro e bp ⟨rfl,D⟩;have d0:=ar D ad;have d1:=ar D c1;have d2:=ar D c2;have br:=ar D bb;have a8:=zH (ai a7 D);have a3:=zH (aT ao D);have a0:=zH D.size)|(go_at_call 105;(with_reducible refine(av.o _).x ?_);rintro e bq ⟨A1,O,I,T,J,U,rfl,a2,D⟩;have ac:=ai a8 D;have⟨bh,bi,bn,bo⟩:=aB ac;have⟨f0,f1,f2,f3⟩:=cN ac;have y:=cP (v0:=.int .i64 (h.w:Nat)) (v1:=.slice A1 h.es O) (v2:=.slice I h.i T) (v3:=.slice J h.o U) ac;have⟨bc,bd,z2,be⟩:=aB y;unfold dQ at bc bd z2 be;have a5:=zH (a2.dQ (b:=(w:Nat)+1) (v0:=.int .i64 (h.w:Nat)) (v1:=.slice A1 h.es O) (v2:=.slice I h.i T) (v3:=.slice J h.o U) (gm a1 a0));have a4:=zH (bY (aT a3 D) (b:=(w:Nat)+1) Qu (zI (h.w:Nat)) (.slice A1 h.es O) (.slice I h.i T) (.slice J h.o U))))
 refine aI (v:=.tuple (fH (bj h A1 O I T J U))) (by simp[results,uR,go_sem, *]) rfl (au ⟨a6,A1,O,I,T,J,U,by rw[ap.o],?_,a4⟩);rw[ap.o];exact a5.to (by have:=a1.o;have:=a0.o;omega) (gp eK.q)
def BJ.ψ{t}{e}(h:BJ t w e w'):∃(F:Gr) (I:ax) (Y:Nat) (J:ax) (Z:Nat) (O:ax) (ab:Nat),e=.returned (.tuple #[.agg (bj F I Y J Z O ab),.bool t.pM])/\(t.pM=true->F=t.gr)/\Fr w' w w' (fun V=>jV V I J O F)/\ag w w':=by
 rcases h with⟨D,G,H⟩|⟨D,A1,c1,T,c2,U,ac,G,H,ad⟩
 .refine⟨⟨0,[],[],[]⟩,none,0,none,0,none,0,by rw[D];exact G,fun h=>(by rw[D]at h;cases h),Fr.all fun _=>⟨ay rfl,ay rfl,ay rfl⟩,H⟩
 .exact⟨t.gr,A1,c1,T,c2,U,ac,by rw[D];exact G,fun _=>rfl,H,ad⟩
def zgn g A1 D F c1 c2 G w(H:jV w A1 D F g)(I:g.G1)(O:px g)(J:jc g=false):az 107 (cY (bj g A1 c1 D c2 F G)) w fun e w'=>e=.returned (.tuple (dz cw))/\ag w w':=(zdr g A1 D F c1 c2 G w H I O).x fun e w' h=>⟨h.1.elim (fun h=>h.2) (fun h=>by rw[J]at h;cases h.1),h.2⟩
def zd0 g A1 D F c1 c2 G w(H:jV w A1 D F g)(I:g.G1)(O:px g)(J:jc g=true):az 107 (cY (bj g A1 c1 D c2 F G)) w fun e w'=>e=.returned (.tuple (fH (bj g A1 c1 D c2 F G)))/\ag w w':=(zdr g A1 D F c1 c2 G w H I O).x fun e w' h=>⟨h.1.elim (fun h=>by rw[J]at h;cases h.1) (fun h=>h.2),h.2⟩
def zhX k a b c L A ε w(cn:(Tm.op k a b).ty=some c)(hL:cJ L=(Tm.op k a b).d)(c6:L.length<=400)(cO:L.length<=ε)(ci:bR 3 jK w A L)(dr:∀(M:List eE) (I:ax) (d:Nat) (V:aa),cJ M=a.d->M.length<=400->M.length<=d->bR 3 jK V I M->az 75 (cY (aV I M d)) V (BJ a V))(dO:∀(M:List eE) (I:ax) (d:Nat) (V:aa),cJ M=b.d->M.length<=400->M.length<=d->bR 3 jK V I M->az 75 (cY (aV I M d)) V (BJ b V)):az 75 (cY (aV A L ε)) w (BJ (.op k a b) w):=by
 have⟨fy,fz,cK,cR,a6⟩:=Tm.qE cn;have bq:k=15∨k=16:=qD a6;have fl:L.length=a.d+b.d+1:=Xs;have dl:cJ (L.take a.d)=a.d:=by have:=oy (List.take a.d) hL;unfold cJ at this ⊢;rw[List.map_take,this,Tm.qR,fJ,Dg]
 have c0:cJ ((L.drop a.d).take b.d)=b.d:=by have:=oy (List.drop a.d) hL;unfold cJ at this ⊢;rw[List.map_take,List.map_drop,<-List.map_drop,List.map_drop,this,Tm.qR,fJ,List.drop_left,Dg]
 have⟨x,co⟩:=aq (Qu:L.length-1<L);have dq:x.k=k:=by
  have bi:(cJ L)[L.length-1]?=some x.nd:=by unfold cJ;rw[bI,co];rfl
  rw[hL,Tm.qR,fi Ra,bm,show L.length-1-(a.d.length+b.d)=0 by omega]at bi;have ch:(⟨k,0,true⟩:Nd)=x.nd:=ji bi;exact(oy Nd.k ch).q
 obtain⟨cI,bg⟩:=bJ (fun V (ck:ag w V)=>(by have:=zaB L x A ε V (bQ ci ck) co Qu;rw[dq]at this;exact this:az 104 (cY (aV A L ε)) V fun e w'=>e=.returned (zI k)/\ag V w')) (fun V (ck:ag w V)=>zd2 k a b c L A ε V (bQ ci ck) hL cn c6 cO);have c4:(L.take a.d).length=a.d:=Rv;have c5:((L.drop a.d).take b.d).length=b.d:=R6;obtain⟨cF,b6⟩:=bJ (fun I d V (fd:a.d.length<=d) (D:bR 3 jK V I (L.take a.d))=>(by have:=dr (L.take a.d) I d V dl Qu Qu D;rw[c4]at this;exact this:az 75 #[.agg #[.slice I a.d d]] V (BJ a V))) (fun I d V (fd:b.d.length<=d) (D:bR 3 jK V I ((L.drop a.d).take b.d))=>(by have:=dO ((L.drop a.d).take b.d) I d V c0 Qu Qu D;rw[c5]at this;exact this:az 75 #[.agg #[.slice I b.d d]] V (BJ b V)));have es:=zH (show a.pM=true->b.pM=true->k=15->a.gr.o.length=b.gr.i from fun _ _ e=>by have bi:=(Tm.qF cK).2.2;have ch:=(Tm.qF cR).2.1;unfold gP at a6;rw[ak e]at a6;split at a6;rw[bi,ch];assumption;cases a6)
 have⟨b5,eo⟩:=bJ (Tm.zeE k a b) (Tm.zao k a b);have bn:=((al w w).alloc (ae _) (.cells (aV A L ε) 35)).alloc Qt (.cells cw 54);refine MM fun hq hr=>?_
 have⟨l,c3⟩:=aR L.length;have⟨bu,c7⟩:=aR a.d.length;have⟨cr,H⟩:=aR b.d.length;rw[<-c3]at cI bg bn hq hr ⊢;rw[<-c7]at bg cF b6;rw[<-H]at bg b6;have f4:¬k<15:=Qu;have f5:(15:Int)<=k:=Qu;clear c0 co dq c4 c5 c3 c7 H;have ev:=zH bq;clear bq;go_enter func75,ntmps75
 go_upto_region 1 with(fail)
 generalize (w.alloc _).alloc _=W at bn hq hr ⊢;have d1:=aF hq 0 rfl;have⟨cu,e2⟩:=bJ bn hr;clear bn hq hr;go_upto_region 5 with(first|(go_at_call 104;(with_reducible refine(cI.o _ cu.o).x ?_);rintro e gi ⟨rfl,h⟩;have y0:=ar h d1;have e3:=zH (ai e2 h);have cz:=zH (aT cu h);have fs:=zH h.size;clear h)|(go_at_call 106;(with_reducible refine(bg.o _ cz.o).x ?_);rintro e ac ⟨a7,bd,be,br,rfl,cV,cW,db,dc,h⟩;have e4:=zH (ai e3 h);have d5:=zH (aT cz h);have fx:=zH h.size;have ea:=zH cV;have eb:=zH cW;have ey:=zH db;have eA:=zH dc))
 have F:Below ac ac ((ac.alloc (.cells (bZ a7 bu bd) 35)).alloc (.cells (bZ be cr br) 35)):=((al _ _).alloc (ae _) _).alloc Qt _;have d2:=aF ((bO (ac.alloc (.cells (bZ a7 bu bd) 35)) (.cells (bZ be cr br) 35) (k:=ac.heap.size) Qt).t (aH ac (.cells (bZ a7 bu bd) 35) rfl)) 0 rfl;have ct:=aF (aH (ac.alloc (.cells (bZ a7 bu bd) 35)) (.cells (bZ be cr br) 35) (n:=(ac:Nat)+1) Qt) 0 rfl;generalize (ac.alloc _).alloc _=gn at F d2 ct ⊢;have⟨e5,d6,ez,eB⟩:=gG (ai e4 F) (aT d5 F) (bQ ey F) (bQ eA F);go_upto_region 6 with((go_at_call 75;(with_reducible refine(cF.o a7 bd _ ea.o ez.o).x ?_);intro e dT D;have⟨a2,bv,b7,bz,b8,b0,b9,ce,ba,bb,h⟩:=BJ.ψ D;subst ce;have d3:=ar h ct;have e6:=zH (ai e5 h);have d7:=zH (aT d6 h);have e0:=zH (bQ eB h);have ei:=zH bb.D;have ee:=zH ba))
 have⟨F,cp⟩:=bM dT (.cells (bj a2 bv b7 bz b8 b0 b9) 54);generalize dT.alloc _=gs at F cp ⊢;have fo:=ar F d3;have⟨e9,e7,d8,e1,ej⟩:=pD cp (ai e6 F) (aT d7 F) (bQ e0 F) (ei.ext F);go_upto_region 7 with((go_at_call 75;(with_reducible refine(b6.o be br _ eb.o e1.o).x ?_);intro e d0 D;have⟨a3,b1,ca,b2,cb,b3,cc,ce,ba,bb,h⟩:=BJ.ψ D;subst ce;have e8:=zH (ai e7 h);have d9:=zH (aT d8 h);have fa:=zH (ai e9 h);have ek:=zH (ej.ext h);have em:=zH bb.D;have eg:=zH ba))
 have⟨F,cq⟩:=bM d0 (.cells (bj a3 b1 ca b2 cb b3 cc) 54);generalize d0.alloc _=a1 at F cq ⊢;have⟨JA,G0,fb,cA,cB,fc⟩:=ny (ai e8 F) (aT d9 F) (ai fa F) (ek.ext F) (em.ext F) cq;have bh:=zH (show ∀V,ag a1 V->bA V ((w:Nat)+1) cw 54/\ag w V from fun V D=>⟨ai JA D,aT G0 D⟩);cases Z:a.pM
 .have HFF:=zH (by rw[b5.o,Z];rfl:(Tm.op k a b).pM=false);refine Mi fun r0 r1 r2 r3 f0 f1 f2 f3 y y0 y1 y2 y3 HE=>?_
  exact XY
 cases av:b.pM
 .have HFF:=zH (by rw[b5.o,Z,av];rfl:(Tm.op k a b).pM=false);refine Mi fun r0 r1 r2 r3 f0 f1 f2 f3 y y0 y1 y2 y3 HE=>?_
  clear y Z av;exact XY
 have bo:a2=a.gr:=ee Z;have bp:a3=b.gr:=eg av;have c8:a2.B=true:=by rw[bo];exact Tm.DN Z
 have c9:a3.B=true:=by rw[bp];exact Tm.DN av
 have U:(Tm.op k a b).pM=(Tm.op k a b).gr.B:=by rw[b5.o,Z,av];rfl
 have O:=eo.o;rw[<-bo,<-bp]at O;obtain⟨d4,a4,a5⟩:=er (show k=15->a2.o.length=a3.i from fun e=>by rw[bo,bp];exact es Z av e) c8 c9;have bq:=ev.o;have⟨f6,f7,f8,f9⟩:=aB fb;have⟨ga,gb,gc,gd⟩:=aB fc;have⟨S,cj⟩:=aR ((Tm.op k a b).gr);rw[<-cj]at U O;have HS:=zH cj;clear cj bo bp Z av c8 c9;rcases bq with rfl|rfl
 .rw[ak rfl]at O;have an:=zH (zgT a2 a3 bv bz b0 b1 b2 b3 b7 b8 b9 ca cb cc a1 a4 a5 (d4 rfl) cA cB);have a0:S.G1:=by rw[O];exact ď (Gr.nK a4) (Gr.nK a5)
  have bc:px S:=by rw[O];exact zlN a4 a5
  rw[<-O]at an;rw[a0.B]at U;have⟨a8,a9⟩:=bJ a0 bc;clear O a0 bc;cases H:jc S
  .obtain⟨HFF,am⟩:=bJ (show(Tm.op _ a b).pM=false from U.t H) H;go_wp2_with (first|(go_at_call 108;(with_reducible refine an.o.x ?_);intro e Y D;have ap:xr S a1 e Y:=yB.gr D;obtain⟨F1,l1,F2,l2,F3,l3,ao,J,h⟩:=ap;subst ao;have ah:=zH (zgn S F1 F2 F3 l1 l2 l3 Y J.D a8 a9 am);have ad:=zH h)|(go_at_call 107;(with_reducible refine ah.o.x ?_);rintro e ab ⟨rfl,h⟩;obtain⟨G,T⟩:=bh ab (aT ad h);have⟨r0,r1,r2,r3⟩:=aB G;have⟨f0,f1,f2,f3⟩:=cN G;have y:=cP (v0:=()) (v1:=dE) (v2:=dE) (v3:=dE) G;have⟨y0,y1,y2,y3⟩:=aB y;unfold dQ at y0 y1 y2 y3;have HE:=zH (bY T (b:=(w:Nat)+1) Qu (zI 0) (.slice none 0 0) (.slice none 0 0) (.slice none 0 0))))
   exact XQ
  .obtain⟨HFF,am⟩:=bJ (show(Tm.op _ a b).pM=true from U.t H) H;go_wp2_with (first|(go_at_call 108;(with_reducible refine an.o.x ?_);intro e Y D;have ap:xr S a1 e Y:=yB.gr D;obtain⟨F1,l1,F2,l2,F3,l3,ao,J,h⟩:=ap;subst ao;have ah:=zH (zd0 S F1 F2 F3 l1 l2 l3 Y J.D a8 a9 am);have ad:=zH h;have b4:=zH J;clear h)|(go_at_call 107;(with_reducible refine ah.o.x ?_);rintro e ab ⟨rfl,h⟩;obtain⟨G,T⟩:=bh ab (aT ad h);have⟨r0,r1,r2,r3⟩:=aB G;have⟨f0,f1,f2,f3⟩:=cN G;have y:=cP (v0:=.int .i64 (S.w:Nat)) (v1:=.slice F1 S.es l1) (v2:=.slice F2 S.i l2) (v3:=.slice F3 S.o l3) G;have⟨y0,y1,y2,y3⟩:=aB y;unfold dQ at y0 y1 y2 y3;have HE:=zH (bY T (b:=(w:Nat)+1) Qu (zI (S.w:Nat)) (.slice F1 S.es l1) (.slice F2 S.i l2) (.slice F3 S.o l3));have HF:=zH (((b4.ext h (ae _)).dQ (b:=(w:Nat)+1) (v0:=.int .i64 (S.w:Nat)) (v1:=.slice F1 S.es l1) (v2:=.slice F2 S.i l2) (v3:=.slice F3 S.o l3) (bk.1 JA).1).to (lo':=w.heap.size) (hi':=(dQ ab ((w:Nat)+1) (zI (S.w:Nat)) (.slice F1 S.es l1) (.slice F2 S.i l2) (.slice F3 S.o l3)).heap.size) G0.size (by rw[eK];exact h.size));clear G T y h))
   exact YS
 .rw[aj Qw]at O;have an:=zH (zhi a2 a3 bv bz b0 b1 b2 b3 b7 b8 b9 ca cb cc a1 (px.of a4) (px.of a5) cA cB);have a0:S.G1:=by rw[O];exact ĭ (Gr.nK a4) (Gr.nK a5)
  have bc:px S:=by rw[O];exact zlO a4 a5
  rw[<-O]at an;rw[a0.B]at U;have⟨a8,a9⟩:=bJ a0 bc;clear O;cases H:jc S
  .obtain⟨HFF,am⟩:=bJ (show(Tm.op _ a b).pM=false from U.t H) H;go_wp2_with (first|(go_at_call 109;(with_reducible refine an.o.x ?_);intro e Y D;have ap:xr S a1 e Y:=D;obtain⟨F1,l1,F2,l2,F3,l3,ao,J,h⟩:=ap;subst ao;have ah:=zH (zgn S F1 F2 F3 l1 l2 l3 Y J.D a8 a9 am);have ad:=zH h)|(go_at_call 107;(with_reducible refine ah.o.x ?_);rintro e ab ⟨rfl,h⟩;obtain⟨G,T⟩:=bh ab (aT ad h);have⟨r0,r1,r2,r3⟩:=aB G;have⟨f0,f1,f2,f3⟩:=cN G;have y:=cP (v0:=()) (v1:=dE) (v2:=dE) (v3:=dE) G;have⟨y0,y1,y2,y3⟩:=aB y;unfold dQ at y0 y1 y2 y3;have HE:=zH (bY T (b:=(w:Nat)+1) Qu (zI 0) (.slice none 0 0) (.slice none 0 0) (.slice none 0 0))))
   exact XQ
  .obtain⟨HFF,am⟩:=bJ (show(Tm.op _ a b).pM=true from U.t H) H;go_wp2_with (first|(go_at_call 109;(with_reducible refine an.o.x ?_);intro e Y D;have ap:xr S a1 e Y:=D;obtain⟨F1,l1,F2,l2,F3,l3,ao,J,h⟩:=ap;subst ao;have ah:=zH (zd0 S F1 F2 F3 l1 l2 l3 Y J.D a8 a9 am);have ad:=zH h;have b4:=zH J)|(go_at_call 107;(with_reducible refine ah.o.x ?_);rintro e ab ⟨rfl,h⟩;obtain⟨G,T⟩:=bh ab (aT ad h);have⟨r0,r1,r2,r3⟩:=aB G;have⟨f0,f1,f2,f3⟩:=cN G;have y:=cP (v0:=.int .i64 (S.w:Nat)) (v1:=.slice F1 S.es l1) (v2:=.slice F2 S.i l2) (v3:=.slice F3 S.o l3) G;have⟨y0,y1,y2,y3⟩:=aB y;unfold dQ at y0 y1 y2 y3;have HE:=zH (bY T (b:=(w:Nat)+1) Qu (zI (S.w:Nat)) (.slice F1 S.es l1) (.slice F2 S.i l2) (.slice F3 S.o l3));have HF:=zH (((b4.ext h (ae _)).dQ (b:=(w:Nat)+1) (v0:=.int .i64 (S.w:Nat)) (v1:=.slice F1 S.es l1) (v2:=.slice F2 S.i l2) (v3:=.slice F3 S.o l3) (bk.1 JA).1).to (lo':=w.heap.size) (hi':=(dQ ab ((w:Nat)+1) (zI (S.w:Nat)) (.slice F1 S.es l1) (.slice F2 S.i l2) (.slice F3 S.o l3)).heap.size) G0.size (by rw[eK];exact h.size))))
   exact YS
def yD:∀(t:Tm) (c:g_) (L:List eE) (A:ax) (ε:Nat) (w:aa),t.ty=some c->cJ L=t.d->L.length<=400->L.length<=ε->bR 3 jK w A L->az 75 (cY (aV A L ε)) w (BJ t w)
 |.lf n,c,L,A,ε,w,D,h,Y,T,O=>by
  have U:dI n=true:=by
   unfold Tm.ty at D;split at D
   .assumption
   .cases D
  match L,h with
  |[x],h=>
   have e:x.nd=n:=by simpa[cJ,Tm.d]using h
   rw[<-e]at U ⊢;exact zdZ x A ε w U O
  |[],h=>simp[cJ,Tm.d]at h
  |x::y::L,h=>simp[cJ,Tm.d]at h
 |.op k a b,c,L,A,ε,w,D,h,Y,T,O=>by obtain⟨Z,ab,ac,ad,-⟩:=Tm.qE D;exact zhX k a b c L A ε w D h Y T O (fun M F d V G H I J=>yD a Z M F d V ac G H I J) (fun M F d V G H I J=>yD b ab M F d V ad G H I J)
def zjc p g A1 A2 A3 c1 c2 c3 w(hp:2<=p)(JC:p<=97)(Z:jV w A1 A2 A3 g)(hg:g.B=true)(bu:∀e∈g.es,0<=e.v/\e.v<p):az 77 (gj p (bj g A1 c1 A2 c2 A3 c3)) w (Cx (g.N p) w):=by
 have⟨cF,cq,cA,cB,FU⟩:=dp gD;refine OF fun G8 If Ie F0=>?_
 have d0:g.i.length<=12:=G8.2.2.1;have d1:g.o.length<=12:=G8.2.2.2.1;obtain⟨IY,IW,JE,HV,a3⟩:=pD (fun V (hV:ag w V)=>Z.ext hV) If G8.2.2.2.2.1 bu (fun V (hV:ag w V)=>(by have:=iR A2 c2 (bD g.i) V (Z.ext hV).i Rn;rw[aS]at this;exact this:az 70 #[.slice A2 g.i c2] V fun e w'=>∃u,e=.returned u/\aE w' V u (bD g.i)/\ag V w'));refine PN fun f_ LL LR Gh gw Ie IV N LS LA Lv LW hB hq hr=>?_;clear Z hg bu G8 If
 go_enter func77,ntmps77
 go_upto_region 1 with(fail)
 generalize (w.alloc _).alloc _=W at hB hq hr ⊢;have⟨x0,x1,x2,x3⟩:=aB hq;obtain⟨HB,HQ,HR,c0⟩:=gG hB hq hr (show(w:Nat)+1<W from(bk.1 hr).1);have S0:=aQ x2 x3;clear hB hq hr x0 x1 x2 x3;go_region_held3 (fun V=>af V w 2 (.slice A2 g.i c2)/\af V w 3 (.slice A3 g.o c3))
  (first|with_reducible exact j6 GY.o S0|with_reducible exact j6 Hk.o S0|exact S0)
  ((first|(go_at_call 70;(with_reducible refine(a3.o _ (HB.o.drew)).x ?_);rintro e b1 ⟨u1,rfl,bq,bb⟩;have GY:=zH ((aC W).t bb);have a8:=zH bq;have a4:=zH (IY b1 (aT HB GY)).o;clear bq bb)|(refine df rfl (.tmp 15) (.tmp 17) rfl W b1 u1 (bD g.i) (bD g.o) A3 g.o c3 (aS _).q rfl rfl a8.o a4.o Rn GY.o.size ?_;intro v5 w2 br Gg;obtain⟨cV,c6,T,bh,-,-⟩:=br.p;subst T;have Hk:=zH (GY.t (Gg.x (ae _)));have a2:=zH bh;rw[LR.o];clear br Gg bh)))
 refine Pf fun FV IX IZ x0 x1 x2 x3 LX _ _ _ _ w3 Gm hz IS Ia JG LC=>?_
 clear Gm hz x0 x1 x2 x3 S0 HB HQ HR a3 Hk a8 a4 GY;go_wp2;go_loopw [26] (fun i wr=>∃(k:Nat) (C1:ax) (m1:Nat),k<=f_/\i=.int .i64 k/\CP w3 w2 wr f_ gw C1 k m1 ((g.H p).take k)/\ag w2 wr) (fun i _=>f_-(intOf i).toNat)
 case atStart=>exact⟨0,none,0,aW _,rfl,JG,Ia⟩
 case round=>
  obtain⟨k,C1,m1,dr,rfl,hS,Gg⟩:=hrel;clear JG;by_cases FX:k<f_
  .obtain⟨x,hx⟩:=aq (show k < (g.i++g.o).length by have:=LL.o;rw[bm];unfold Gr.f_ at this;omega);obtain⟨c4,c5,rfl,F⟩:=(a2.ext Gg).θ (k:=k) (by rw[LR.o];exact FX);have dl:=F k (x:Int) S9;have cz:x<gw:=XN;have cj:=zH (RL:(g.i++g.o).getD k 0=x);have Gl:=zH (show(g.H p).take (k+1)=(g.H p).take k++[iE p N [(k,1),(f_+x,p-1)]] from by refine jl ?_;unfold Gr.H;rw[bI,iy (by rw[<-LL.o];exact FX),Lv.o,LL.o,IV.o,<-cj.o];rfl)
   have⟨y,bv⟩:=aR (f_+x);have d2:IntKind.i64.wrap ((f_:Int)+(x:Int))=(y:Int):=Rt;rw[<-bv]at Gl;have LN:y<N:=SG;have Lx:k<N:=SG;obtain⟨O,G5⟩:=bJ ((sD (p:=p) (n:=N) (L:=[(k,1),(y,p-1)]) hp (fun q hq=>Vw)).1) (fun U Y V (h1:bA V U (iL k y) 3) (h2:bA V Y (uq (p-1)) 3)=>(show az 112 (CV p N (bH U) (bH Y)) V (fun e w'=>∃g,e=.returned (.slice (bH g) N N)/\nC V N g (iE p N [(k,1),(y,p-1)]) w'/\ag V w') from Ś p N [(k,1),(y,p-1)] (some ⟨U,0,none⟩) (some ⟨Y,0,none⟩) 2 2 V hp JC LA Qt (ki h1 rfl) (ki h2 rfl) (fun q hq=>by simp at hq;rcases hq with rfl|rfl;exact⟨Lx,RY,RY⟩;exact⟨LN,RY,RY⟩)));have⟨row,bp⟩:=aR (iE p N [(k,1),(y,p-1)]);rw[<-bp]at Gl O G5;have⟨z0,z1,z2⟩:=aD hS.Β;have S0:=aQ z0 (aQ z1 z2);have⟨JG,Ho⟩:=bJ hS Gg;clear F hx cz bv LN Lx bp hS Gg z0 z1 z2;go_upto_region 6 with(fail)
   refine cU (S:=(fun V=>af V w2 0 (zI (f_:Nat))/\af V w2 1 (zI (gw:Nat))/\af V w2 2 (.slice C1 k m1))) 19 QT S0 (fun hHeld=>?_);refine Qj ?_;refine aM 9 ?_;refine aM 10 ?_;refine aM 11 ?_;refine aM 12 ?_;refine aM 14 ?_;refine aM 15 ?_;refine ĉ (i:=13) (j:=16) QT rfl rfl (fun K hK=>?_) (fun K hK=>?_)
   .go_simp;refine hK.out _ _ (fun _=>jH VQ S0) (fun hHeld=>?_);clear hK K hHeld;refine P9 ?_;refine cm 16 fun K hK=>?_
    exact Z4
   .go_simp;refine hK.out _ _ (fun _=>jH VQ S0) (fun hHeld=>?_);clear hK K hHeld;refine P9 ?_;refine cm 13 fun K hK=>?_
    exact Z4
  .have cr:f_=k:=Qu;subst cr;rw[show(g.H p).take f_=sR p g 0 from VK]at hS;have⟨x0,x1,x2,x3⟩:=aB (ai IZ Gg);have⟨a7,a0⟩:=bJ hS Gg;clear hS Gg LS LW LA Ia a2;go_wp2;go_loopw [56] (fun i wr=>∃(j m m1:Nat) (C1:ax),j<=g.es.length/\i=.int .i64 j/\CP w3 w2 wr f_ gw C1 m m1 (sR p g j)/\ag w2 wr) (fun i _=>g.es.length-(intOf i).toNat)
   case atStart=>exact⟨0,_,_,_,aW _,rfl,a7,a0⟩
   case round=>
    obtain⟨j,m,m1,C1,dq,rfl,hS,Gg⟩:=hrel;clear a7 a0 x0 x1 x2 x3;by_cases FX:j<g.es.length
    .have⟨e,I⟩:=aq FX;have⟨c8,c9,D1,e1,D2,e2,ab,u0,u1,u2,u3,hi1,hi2⟩:=fU (IY wr (aT FV Gg)).es I;subst ab;obtain⟨kk,vv,ei,JH⟩:=e;dsimp only at u0 u1 u2 u3 hi1 hi2;have⟨Gm,ad⟩:=bM wr (.cells (eh kk vv D1 ei e1 D2 JH e2) 155);have I0:=aU I;refine Pg fun Ib R hR=>?_
     rw[<-hR]at Ib;have Lw:=zH (by rw[ż I,hR,LL.o,IV.o];rfl:sR p g (j+1)=sR p g j++R.map (zR f_));have O:=zH (show ∀r∈R,r.length=gw from fun r hr=>by rw[hR]at hr;obtain⟨L,co,rfl⟩:=cH.1 hr;refine(sD hp fun q hq=>?_).1;rw[IV.o];exact Gr.yh JE IW L (lh.2 ⟨_,I0,co⟩) q hq)
     have cp:R.length<=2:=by rw[hR,bs];unfold Ed.G;split<;>exact td ..
     have ct:m<=200:=VO;have⟨a6,G,a1,av⟩:=gG (ai (ai IZ Gg) Gm) (hS.ext Gm) (aT Gg Gm) Gm;clear I hi1 hi2 I0 hR hS Gg;go_upto_region 11 with(fail)
     generalize wr.alloc _=ao at Gm ad a6 G a1 av ⊢;have⟨cI,cK,n2,cO⟩:=aB ad;have⟨x0,x1,x2,x3⟩:=aB a6;clear u0 u1 u2 u3 ad Gm;go_wp2_with (go_at_call 113;(with_reducible refine(Ib.o _ av.o).x ?_);intro e J h;unfold ñ at h;obtain⟨cW,c7,T,be,Js⟩:=h;subst T;have b7:=zH be;have Jo:=zH Js;have ce:=zH (G.ext Js);have b6:=zH (aT a1 Js);clear be Js)
     have a5:=zH (show ∀g,(Value.slice C1 m m1).ownBlock=some g->g < (ao:Nat) from fun g h=>by obtain⟨us,cu⟩:=G.μ;exact(bS cu.η g h).2)
     clear cI cK n2 cO x0 x1 x2 x3;have⟨l,ac⟩:=aR R.length;have HL:=zH ac;rw[<-ac]at cp ⊢;clear ac;go_loopw [66] (fun i wr=>∃(q m m1:Nat) (C1:ax),q<=l/\i=.int .i64 q/\CP w3 w2 wr f_ gw C1 m m1 (sR p g j++(R.take q).map (zR f_))/\ag w2 wr/\(∀k,(ao:Nat)<=k->k < (J:Nat)->wr.heap[k]?=J.heap[k]?)/\(∀g,(Value.slice C1 m m1).ownBlock=some g->g < (ao:Nat)∨(J:Nat)<=g)/\(J:Nat)<=wr/\m<=200+q) (fun i _=>l-(intOf i).toNat)
     case atStart=>exact⟨0,_,_,_,aW _,rfl,(by simpa using ce.o),b6,fun _ _ _=>rfl,fun g h=>ay (a5 g h),ae _,ct⟩
     case round=>
      obtain⟨q,bz,b0,ap,hq,rfl,hS,Gg,LV,hC,LQ,LJ⟩:=hrel;clear a5;by_cases dO:q<l
      .obtain⟨r,hr⟩:=aq (show q<R.length by have:=HL.o;omega);have am:r.length=gw:=O r (aU hr);rcases b7 wr LV with h|⟨d4,d5,ab,F⟩
       .exact V9
       subst ab;obtain⟨b3,cn,bd,bi⟩:=F q r hr;rw[am]at bd;have Gl:=zH (by rw[jl hr];simp:sR p g j++(R.take (q+1)).map (zR f_)=(sR p g j++(R.take q).map (zR f_))++[zR f_ r]);have⟨z0,z1,z2⟩:=aD hS.Β;have S0:=aQ z0 z2;have⟨JG,Ho,ca,HC,ci,b8,cb⟩:=ß hS Gg LV hC LQ bi am;clear hr am F bi z0 z1 z2 hS Gg LV hC LQ;go_upto_region 14 with(fail)
       refine cU (S:=fun V=>af V w2 0 (zI (f_:Nat))/\af V w2 2 (.slice ap bz b0)) 8 QT S0 (fun hHeld=>?_);refine P8 ?_;refine aM 5 ?_;refine cm 4 fun K hK=>?_
       refine za3 _ rfl (.tmp 73) (.tmp 73) 26 rfl wr 3 cF (zI 0) 1 dR cq cA cB .i64 .i64 f_ f_ f_ rfl rfl rfl rfl RF SL Qt ?_;intro b2 ah bg;rw[jn]at ah;obtain⟨H,ch⟩:=bJ ((aC wr).t (cy bg)) (by simpa[aE]using ah:aE b2 wr (.slice (bH wr) f_ f_) (List.replicate f_ 0));clear ah bg;rw[show(wr.drew:Nat)=wr from rfl];refine hK.out _ _ (fun _=>j6 H S0) (fun hHeld=>?_);clear hK K hHeld;refine P9 ?_;refine cm 6 fun K hK=>?_
       refine df rfl (.tmp 74) (.tmp 75) rfl wr b2 (.slice (bH wr) f_ f_) (List.replicate f_ 0) r b3 gw cn cb.o.q rfl rfl ch.o (b8.ext H) (by rw[fA];omega) H.o.size ?_;intro v7 w7 bo bc;have D:=zH (H.t bc);have an:aE w7 wr v7 (zR f_ r):=bo;obtain⟨b4,ck,a9,-,-,-⟩:=an.p;have⟨cR,bn⟩:=aR ((zR f_ r).length);rw[<-bn]at a9;subst a9;have HU7:=zH an;clear bo bc an bn;refine hK.out _ _ (fun _=>j6 D S0) (fun hHeld=>?_);clear hK K hHeld;refine P9 ?_;refine Ny fun K hK=>?_
       refine hK.out _ _ (fun _=>j6 (D.alloc D.size _) S0) (fun hHeld=>?_);clear hK K hHeld;refine P9 ?_;refine cm 8 fun K hK=>?_
       refine uW rfl (.tmp 71) (.tmp 77) rfl w3 wr w7 (.slice ap bz b0) (.slice b4 cR ck) _ (zR f_ r) JG.o.μ D.o HU7.o SV JG.o.le rfl rfl ?_;intro g5 Jr w5 Lu Js hs5 hk5 ba;rw[JG.o.ι]at Lu ⊢;have⟨GW,hz5⟩:=CP.j JG Lu Js;have⟨z0,z1,z2⟩:=aD hz5;have⟨f0,f1,f2⟩:=cd hz5;have⟨IH,b5,cc,b9,LK⟩:=pD GW Js hs5 hk5 ba;clear Lu Js hs5 hk5 GW hz5 ba;refine Qn ?_;clear K hK;refine cm 9 fun K hK=>?_
       go_simp;refine Qn ?_;clear K hK;refine cm 10 fun K hK=>?_
       go_simp;refine Qn ?_;clear K hK;refine gM QT ?_ _;clear S0 z0 z1 z2 f0 f1 f2 bd;go_wp2;go_roundw
       case rel=>
        have h:=IH.o;rw[<-Gl.o]at h;have db:=G.le;have d3:=D.size;have dc:=cc.o;have LQ:=ci.o;have dT:=IS.o;refine⟨q+1,_,_,_,Qu,Qx,h,(Ho.t (b5.x (ix IS))).setCell (p:=⟨w2,2,none⟩) (ae _) _,fun k h1 h2=>?_,fun g h=>?_,QW,Qu⟩
        .refine(a_ _ _ _ _ (by show k≠w2.heap.size;omega)).t ((b9 k Qu (fun e=>?_)).t ((D.block k Qu).t (ca k h1 h2)));have:=HC k e.q;omega
        .exact Yb
       case measure=>simp[intOf];omega
      .exact Ze
    .have Ly:j=g.es.length:=Qu;rw[Ly,zjB]at hS;have⟨z0,z1,z2⟩:=aD hS.Β;have Lr:=ai IX.o Gg;have⟨r0,r1,r2⟩:=aD Lr;have⟨f0,f1,f2⟩:=cd Lr;have y:=ik (v0:=.int .i64 (f_:Nat)) (v1:=.int .i64 (gw:Nat)) (v2:=.slice C1 m m1) Lr;have⟨y0,y1,y2⟩:=aD y;have hf:=hS.μ.from.frC hS.le;have Hl:=IS.o
     refine P6 fun LG HF HE Lt LU=>?_
     clear hS Gg Lr y hf Hl LG Ly;go_wp2;refine aI (v:=.agg (gH f_ gw C1 m m1)) (by simp[results,results77,go_sem, *]) rfl ?_;exact Wx
structure GdT(p:Int)(L:List eE)(t:Tm):Prop where
 tr:fp (cJ L) []=some [t]
 ty:∃c,t.ty=some c
 fl:cJ L=t.d
 ln:L.length<=400
 f:bV p=true
 ov:qp p (cJ L)=true
 st:qS (cJ L)=true
 gb:t.pM=true
def grL(L:List eE):Bool:=match jE (cJ L)with|some t=>t.pM|none=>false
def qf(p:Int)(L:List eE):Bool:=Cg p L&&grL L
def v_{L}(h:kj (cJ L)=true):∃t c,jE (cJ L)=some t/\fp (cJ L) []=some [t]/\t.ty=some c/\cJ L=t.d/\L.length<=400:=by
 unfold kj at h;simp only[bN,cf]at h;obtain⟨-,H,I⟩:=h;obtain⟨t,G⟩:=Av.1 I;have F:fp (cJ L) []=some [t]:=by
  have D:=G;unfold jE at D;split at D
  .rename_i O e;cases D;exact e
  .cases D
 obtain⟨e,c,J⟩:=sZ.2 F;exact⟨t,c,G,F,J,e,by simpa[cJ]using H⟩
def DB{L}{t}(h:jE (cJ L)=some t):grL L=t.pM:=by unfold grL;rw[h]
def oc{p}{L}(h:qf p L=true):∃t,jE (cJ L)=some t/\GdT p L t:=by unfold qf Cg zU at h;simp only[bN]at h;obtain⟨⟨⟨F,G,H⟩,I⟩,J⟩:=h;have⟨t,c,D,Y,O,T,U⟩:=v_ G;exact⟨t,D,Y,⟨c,O⟩,T,U,F,H,I,by rw[<-DB D];exact J⟩
section
variable{p:Int}{L:List eE}{t:Tm}(h:GdT p L t)
include h
def GdT.ok:t.gr.B=true:=Tm.DN h.gb
def GdT.Q:t.pf p:=by obtain⟨c,D⟩:=h.ty;exact(Tm.DE D).2 (by rw[<-h.fl];exact⟨h.st,h.ov⟩)
def GdT.p2:2<=p/\p<=97:=cv h.f
def GdT.val:∀e∈t.gr.es,0<=e.v/\e.v<p:=fun e I=>by
 have H:=Tm.zbn h.Q h.gb e I;have F:=H.1;unfold Ed.jd at F;simp only[bN,cf]at F;have O:e.v<p:=zc3 h.p2.1 F.1 RY (fun J=>H.2.2.2.2 J);refine⟨?_,O⟩;have D:=F.1;unfold dI at D;dsimp only at D;rw[bN]at D;have D:=D.2;rw[aj Qu]at D;by_cases G:e.k=7∨e.k=13
 .rw[ak G]at D;simp only[bN,cf]at D;omega
 .rw[aj G]at D;simp only[bN,cf]at D;omega
def GdT.N:(t.gr.N p).Ok p:=Gr.zlU h.f h.ok
def GdT.Z:(t.rel p).l=t.gr.i.length/\(t.rel p).r=t.gr.o.length:=by obtain⟨c,G⟩:=h.ty;have D:=Tm.qF G;have F:=Tm.tN h.f G h.Q;exact⟨F.1.t D.2.1.q,F.2.1.t D.2.2.q⟩
end
def zlo{p}:Ð p g=(bV p&&ϙ p g):=by
 unfold Ð gdG ϙ;rw[xi];congr 2
 congr 1
 funext e
 show(!(decide (e.k=8)||decide (e.k=14)))=(decide (e.k≠8)&&decide (e.k≠14))
 rw[Bool.not_or];simp
def ŭ{p}{L}{t}(J:jE (cJ L)=some t)(F:tgB p L=true):qf p L=(t.pM&&Ð p t.gr):=by
 unfold tgB at F;simp only[bN]at F;obtain⟨G,D,H⟩:=F;have⟨Z,c,O,Y,T,I,U⟩:=v_ G;rw[J]at O;cases O
 unfold qf Cg zU;rw[G,D,H,DB J,zlo,D,Tm.zkn (cv D).1 T (by rw[<-I];exact H),<-I];simp[Bool.and_comm]
def ziD{p}{L}(h:tgB p L=false):qf p L=false:=by
 rw[uF];intro D;obtain⟨t,-,g⟩:=oc D;have:zU p L=true:=by unfold qf Cg at D;simp only[bN]at D;exact D.1.1
 unfold zU at this;unfold tgB at h;simp only[bN]at this;rw[this.1,this.2.1,this.2.2]at h;cases h
def tyB(D F:List eE):Bool:=match jE (cJ D),jE (cJ F)with|some s,some t=>decide (s.gr.i.length=t.gr.i)&&decide (s.gr.o.length=t.gr.o)|_,_=>false
def mN(p:Int)(D F:List eE):Bool:=qf p D&&(qf p F&&tyB D F)
def jM(p:Int)(L:List eE):Sy:=match jE (cJ L)with|some t=>t.gr.N p|none=>⟨0,0,[]⟩
def sG{p}{L}{t}(h:jE (cJ L)=some t):jM p L=t.gr.N p:=by unfold jM;rw[h]
def ziE{p}{L}(h:qf p L=true):(jM p L).Ok p:=by have⟨t,D,g⟩:=oc h;unfold jM;rw[D];exact g.N
def ğ(p:Int)(L:List eE)(w:aa)(e:Ending)(w':aa):Prop:=∃(H ne I no:Nat) (A1 D F:ax) (c1 c2 J:Nat) (S:Sy) (G:ax) (d:Nat),
 e=.returned (.tuple #[.agg (um H A1 ne c1 D I c2 F no J),.agg (da S G d),.bool (qf p L)])/\
 (qf p L=true->∃t,jE (cJ L)=some t/\I=t.gr.i.length/\no=t.gr.o.length/\S=t.gr.N p/\H=t.gr.w/\ne=t.gr.es.length/\Fr w' w w' (fun h=>jV h A1 D F t.gr))/\Fr w' w w' (fun h=>cS h G S.rows)/\ag w w'
abbrev uT(w:aa)(b:Nat)(v0 v1 v2 v3 u0 u1 u2:aG):World:=(((dQ w b v0 v1 v2 v3).setCell ⟨b+1,0,none⟩ u0).setCell ⟨b+1,1,none⟩ u1).setCell ⟨b+1,2,none⟩ u2
def qY{U Y h D F}{t2}(J:bA w b #[T,U,z2,Y] t)(O:bA w (b+1) #[h,D,F] t2):(uT w b v0 v1 v2 v3 u0 u1 u2).heap[b]?=some (.cells #[v0,v1,v2,v3] t (0,0))/\(uT w b v0 v1 v2 v3 u0 u1 u2).heap[b+1]?=some (.cells #[u0,u1,u2] t2 (0,0))/\(dQ w b v0 v1 v2 v3).heap[b+1]?=some (.cells #[h,D,F] t2 (0,0)):=by have H:=cP (v0:=v0) (v1:=v1) (v2:=v2) (v3:=v3) J;have G:(dQ w b v0 v1 v2 v3).heap[b+1]?=some (.cells #[h,D,F] t2 (0,0)):=(nZ Qu).t O;have I:=ik (v0:=u0) (v1:=u1) (v2:=u2) G;refine⟨?_,I,G⟩;exact(a_ _ _ _ _ (by show b≠b+1;omega)).t ((a_ _ _ _ _ (by show b≠b+1;omega)).t ((a_ _ _ _ _ (by show b≠b+1;omega)).t H))
def qZ(h:Below B w w')(D:B<=b)v0 v1 v2 v3 u0 u1 u2:Below B w (uT w' b v0 v1 v2 v3 u0 u1 u2):=(((bY h D v0 v1 v2 v3).setCell (p:=⟨b+1,0,none⟩) (by show B<=b+1;omega) u0).setCell (p:=⟨b+1,1,none⟩) (by show B<=b+1;omega) u1).setCell (p:=⟨b+1,2,none⟩) (by show B<=b+1;omega) u2
def PtB(w:aa)(b:Nat)(v0 v1 v2 v3 u0 u1:aG)(rows:aP)(V:aa):Prop:=∃h d,bA V b #[v0,v1,v2,v3] 54/\bA V (b+1) #[u0,u1,.slice h rows d] 57/\Fr V w V (fun D=>cS D h rows)/\ag w V
def zkp{D}{F}(I:Fr D lo D (fun h=>cS h F rows))(U:b+1<lo)(T:B<=b)(Y:(V:Nat)=D)(G:∀k,k≠b->k≠b+1->V.heap[k]?=D.heap[k]?):Fr V B V (fun h=>cS h F rows):=fun h H=>I h fun k J O=>(H k Qu Qu).t (G k Qu Qu)
def ziT{h}{P}(J:Fr h lo hi P)(O:B<=lo)(T:hi<=(V:Nat))(F:∀k,lo<=k->k<hi->V.heap[k]?=h.heap[k]?):Fr V B V P:=fun D I=>J D fun k G H=>(I k Qu Qu).t (F k G H)
def zeG(h:k≠b)(n2:k≠b+1):(uT w b v0 v1 v2 v3 u0 u1 u2).heap[k]?=w.heap[k]?:=(a_ _ _ _ _ n2).t ((a_ _ _ _ _ n2).t ((a_ _ _ _ _ n2).t (nZ h)))
def zmu{h}{am an ac ad ah}{D}(Z:bA h b #[T,am,z2,an] 54)(Y:bA h (b+1) #[ac,ad,ah] 57)(U:Fr h lo h (fun G=>cS G D rows))(J:b+1<lo)(F:(w:Nat)<=b)(O:ag w h):PtB w b v0 v1 v2 v3 u0 u1 rows (uT h b v0 v1 v2 v3 u0 u1 (.slice D rows d)):=by obtain⟨H,I,-⟩:=qY (v0:=v0) (v1:=v1) (v2:=v2) (v3:=v3) (u0:=u0) (u1:=u1) (u2:=.slice D rows d) Z Y;exact⟨D,d,H,I,zkp U J F (by simp[uT,dQ]) fun k ab n2=>(a_ _ _ _ _ n2).t ((a_ _ _ _ _ n2).t ((a_ _ _ _ _ n2).t (nZ ab))),qZ O F ..⟩
def zmv{h F D:aa}{P}(J:Fr h lo h P)(I:(F:Nat)<=D/\∀k,lo<=k->k < (h:Nat)->D.heap[k]?=h.heap[k]?)(Y:b+1-1+1<lo)(U:B<=b)(T:(h:Nat)<=F)(O:lo<=(h:Nat)):Fr (uT D b v0 v1 v2 v3 u0 u1 u2) B (uT D b v0 v1 v2 v3 u0 u1 u2) P:=ziT J Qu (by simp[uT,dQ];omega) fun k G H=>(zeG Qu Qu).t (I.2 k G H)
def DR p L A ε w(bu:bR 3 jK w A L)(cu:L.length<=1048576)(co:L.length<=ε):az 49 (gj p (aV A L ε)) w (ğ p L w):=by
 have hB:=ζ w (.cells (aV A L ε) 35) (.cells cw 54) (.cells bx 57);have⟨q0,q1,q2⟩:=cD w (.cells (aV A L ε) 35) (.cells cw 54) (.cells bx 57);have⟨a7,b9⟩:=bJ (fun V (ah:ag w V)=>zeu p L A ε V (bQ bu ah) cu) (fun V (ah:ag w V)=>bQ bu ah);have⟨l,b0⟩:=aR L.length;have⟨dq,c4⟩:=bJ b0 co;rw[<-b0]at hB q0 q1 q2 a7 ⊢;clear bu b0 cu co;go_enter func49,ntmps49
 go_upto_region 1 with(fail)
 generalize (((w.alloc _).alloc _).alloc _)=W at hB q0 q1 q2 ⊢;have x0:=aF q0 0 rfl
 have⟨a5,b2,b3⟩:=er hB q1 q2;clear hB q0 q1 q2;cases J:tgB p L
 .have⟨HT,d4⟩:=bJ (ziD J) (Calls.bl (a7 W a5) J);clear J;go_wp2_with (go_at_call 74;(with_reducible refine d4.o.x ?_);rintro e an ⟨rfl,D⟩;have I:=ai b2 D;have G:=ai b3 D;have HZ:=zH I;have HY:=zH G;have⟨r0,r1,r2,r3⟩:=aB I;have⟨f0,f1,f2,f3⟩:=cN I;have⟨s0,s1,s2⟩:=aD G;have g0:=aK G 0;have g1:=aK G 1;have g2:=aK G 2;have FV:=zH (aT a5 D);clear D)
  exact ZJ
 have d5:=zH (fun V (ah:ag w V)=>Calls.bl (a7 V ah) J);have cF:kj (cJ L)=true:=by unfold tgB at J;simp only[bN]at J;exact J.1
 have cr:bV p=true:=by unfold tgB at J;simp only[bN]at J;exact J.2.1
 have⟨t,c,bb,ee,cn,a3,ct⟩:=v_ cF;have⟨ce,d6⟩:=bJ (ŭ bb J) bb;have ck:∀V,ag w V->az 75 (cY (bZ A l ε)) V (BJ t V):=fun V ah=>by have:=yD t c L A ε V cn a3 ct c4 (b9 V ah);rw[<-dq.o]at this;exact this
 have dl:=zH ck;have dc:=zH (fun(eg:qf p L=true)=>by
  obtain⟨ek,cB,g⟩:=oc eg;rw[bb]at cB;cases cB
  exact g)
 have b7:=zH (cv cr);go_upto_region 4 with(first|(go_at_call 74;(with_reducible refine(d5.o W a5.o).x ?_);rintro e an ⟨rfl,D⟩;have ei:=ar D x0;have cO:=zH (ai b2 D);have a4:=zH (ai b3 D);have FV:=zH (aT a5 D))|(go_at_call 75;(with_reducible refine(dl.o _ FV.o).x ?_);intro e H h;have⟨F,T,ab,U,ac,Y,ad,ea,a3,bz,D⟩:=BJ.ψ h;subst ea;have cR:=zH (ai cO D);have cV:=zH (ai a4 D);have cW:=zH (aT FV D);have b8:=zH bz;have c9:=zH bz.D;have c5:=zH a3;have bq:=zH D.size))
 have⟨ap,b1⟩:=bM H (.cells (bj F T ab U ac Y ad) 54);generalize H.alloc _=cK at ap b1 ⊢;have⟨bo,bg,bi,bp,c8,cc⟩:=ny ap (ai cR ap) (ai cV ap) (aT cW ap) (c9.ext ap) b1;clear b1;cases av:t.pM
 .obtain⟨HT,HZ,HY,FV⟩:=gG (by rw[ce.o,av];rfl:qf p L=false) bg.o bi.o bp.o;have⟨an,cI⟩:=aR cK;rw[<-cI]at HZ HY FV ⊢;have⟨r0,r1,r2,r3⟩:=aB HZ;have⟨f0,f1,f2,f3⟩:=cN HZ;have⟨s0,s1,s2⟩:=aD HY;have⟨g0,g1,g2⟩:=cd HY;clear cI av;go_wp2;exact ZJ
 have a1:F=t.gr:=c5 av;have ba:F.B=true:=by rw[a1];exact Tm.DN av
 have b5:=zH (BO p F T U Y ab ac ad cK c8 ba);have a9:qf p L=Ð p F:=by rw[ce.o,av,a1];rfl
 have⟨q0,q1,q2,bc⟩:=aB cc;have br:=aQ q0 (aQ q1 (aQ q2 bc));cases a2:Ð p F
 .have⟨HT,bn⟩:=bJ (a9.t a2) (Calls.bl b5 a2);clear av a1;go_wp2_with (go_at_call 76;(with_reducible refine bn.o.x ?_);rintro e an ⟨rfl,D⟩;have I:=ai bg D;have G:=ai bi D;have HZ:=zH I;have HY:=zH G;have⟨r0,r1,r2,r3⟩:=aB I;have⟨f0,f1,f2,f3⟩:=cN I;have⟨s0,s1,s2⟩:=aD G;have g0:=aK G 0;have g1:=aK G 1;have g2:=aK G 2;have FV:=zH (aT bp D);clear G)
  exact ZJ
 have⟨HT,bn⟩:=bJ (a9.t a2) (Calls.bl b5 a2);have db:=zH (dc HT);have⟨S,bv⟩:=aR (F.N p);obtain⟨d3,Mt,d2⟩:=er (fun V (ah:∀k,(an:Nat)<=k->k < (H:Nat)->V.heap[k]?=H.heap[k]?)=>(by have:=zjc p F T U Y ab ac ad V b7.1 b7.2 (b8 V ah) ba (by rw[a1];exact db.val);rw[<-bv]at this;exact this:az 77 (gj p (bj F T ab U ac Y ad)) V (Cx S V))) a1 bv;clear av a1 ba a9 a2 q0 q1 q2 bc bv;have⟨q0,q1,q2,bc⟩:=aB cc;go_upto_region 6 with(go_at_call 76;(with_reducible refine bn.o.x ?_);rintro e O ⟨rfl,D⟩;have a0:=zH D;clear D)
 clear q0 q1 q2;have ci:=gS a0 br;obtain⟨cb,ch,bh,b4,b6⟩:=pD (show ∀k,(an:Nat)<=k->k < (H:Nat)->O.heap[k]?=H.heap[k]? from fun k a8 ao=>(a0.block k (gm ao bo.size)).t (bo.block k ao)) (aZ bo.size a0.size) (ai bg a0) (ai bi a0) (aT bp a0);have⟨r0,r1,r2,r3⟩:=aB bh;have⟨f0,f1,f2,f3⟩:=cN bh;obtain⟨dr,dO⟩:=bJ (show(w:Nat)+1<an by have:=(bk.1 a4).1;omega) (show(w:Nat)+1+1-1+1<an by have:=(bk.1 a4).1;omega);obtain⟨am,a6,ca,dT⟩:=gG (show H.heap.size≠(w:Nat)+1 by have:=dr.o;have:=bq.o;omega) (show H.heap.size≠(w:Nat)+1+1 by have:=(bk.1 a4).1;have:=bq.o;omega) (Qu:(w:Nat)<=w+1) (show(w:Nat)+1+1<O from(bk.1 b4).1);go_cut [6] from 9 (fun ej V=>ej=.bool true/\PtB w ((w:Nat)+1) (zI (F.w:Nat)) (.slice T F.es ab) (.slice U F.i ac) (.slice Y F.o ad) (zI S.v) (zI S.h) S.rows V/\Fr V w V (fun d9=>jV d9 T U Y F))
 case first=>
  have cj:af O.drew H 0 (zI (F.w:Nat))/\af O.drew H 1 (.slice T F.es ab)/\af O.drew H 2 (.slice U F.i ac)/\af O.drew H 3 (.slice Y F.o ad):=ci;go_region_held3 (fun V=>af V H 0 (zI (F.w:Nat))/\af V H 1 (.slice T F.es ab)/\af V H 2 (.slice U F.i ac)/\af V H 3 (.slice Y F.o ad))
   (first|with_reducible exact Z|with_reducible exact cj|with_reducible exact⟨dH am.o Z.1,dH am.o Z.2.1,dH am.o Z.2.2.1,dH am.o Z.2.2.2⟩|with_reducible exact⟨gO a6.o (dH am.o Z.1),gO a6.o (dH am.o Z.2.1),gO a6.o (dH am.o Z.2.2.1),gO a6.o (dH am.o Z.2.2.2)⟩)
   ((first
    |(go_at_call 77;(with_reducible refine iB (d3.o O.drew ?_) ?_);(focus (intro k a8 ao;exact cb k a8 ao));intro e bd h;unfold Cx at h;obtain⟨be,d,eb,cp,D⟩:=h;subst eb;have Z:=gS D cj;have c7:=zH (show Fr bd O bd _ from cp);have I:=ai (show O.drew.heap[(w:Nat)+1]?=_ from bh.o) D;have G:=ai (show O.drew.heap[(w:Nat)+1+1]?=_ from b4.o) D;have d8:=zH I;have d7:=zH G;have⟨r0,r1,r2,r3⟩:=aB I;have⟨f0,f1,f2,f3⟩:=cN I;have⟨s0,s1,s2⟩:=aD G;have g0:=aK G 0;have g1:=aK G 1;have g2:=aK G 2;have c3:=zH (b6.drew.t (D.x b6.size));have d0:=zH (show(O:Nat)<=bd/\∀k,(an:Nat)<=k->k < (H:Nat)->bd.heap[k]?=H.heap[k]? from⟨D.size,fun k a8 ao=>(D.block k (gm ao ch)).t (cb k a8 ao)⟩))
    |(go_at_call 77;trace_state;fail)))
  all_goals clear Z
  all_goals go_wp2_with fail
  all_goals
   go_meet
   with_reducible exact⟨rfl,zmu d8.o d7.o c7.o dT.o ca.o c3.o,zmv b8.o d0.o dO.o ca.o ch.o bq.o⟩
 case rest=>
  obtain⟨rfl,cz,cq⟩:=hcut;have c6:=zH cq;unfold PtB at cz;obtain⟨be,d,I,G,cA,D⟩:=cz;have⟨u0,u1,u2,u3⟩:=aB I;have⟨t0,t1,t2⟩:=aD G;have⟨d1,c0⟩:=bJ cA D;go_wp2;refine aI (v:=.tuple #[.agg (bj F T ab U ac Y ad),.agg (da S be d),.bool true]) (by simp[results,results49,go_sem, *]) rfl ?_;refine⟨F.w,_,_,_,T,U,Y,ab,ac,ad,S,be,d,by rw[HT.o],fun _=>⟨t,d6,QS,QS,by rw[d2.o,Mt.o],QS,QS,by rw[<-Mt.o];exact c6⟩,d1,c0⟩
end Go.Proofs.YtpieilkmmiopfaaGreatDoor
