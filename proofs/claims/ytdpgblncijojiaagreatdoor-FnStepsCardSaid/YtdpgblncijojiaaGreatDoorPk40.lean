/- Parts of the walks. Conditions: as stated with each. -/
import Derived.Test.YtdpgblncijojiaaGreatDoorPk37
import Derived.Test.YtdpgblncijojiaaGreatDoorPk38
import Derived.Test.YtdpgblncijojiaaGreatDoorPk39
namespace Go.Proofs.YtdpgblncijojiaaGreatDoor
open Go.RowKit Tryz
set_option linter.all false
set_option maxHeartbeats 8000000
set_option maxRecDepth 100000
variable{E V W:aa}{L:List jJ}{b:Nat}{p:Int}{t:dG}{v:au}
def zgJ{k v:Int}(h:aU W b (gY k v (ByteArray.mk #[])) 192):dp 3 nl W (some ⟨b,0,none⟩) [lJ k v]:=
 aA ⟨b,0,rfl,fun i x hi=>by
  match i,hi with
  |0,hi=>
   cases hi
   refine⟨_,fun j y z=>?_,rfl⟩;have:0+0*3+j=j:=RU;rw[this,aW h j];exact z
  |i+1,hi=>simp at hi⟩
def ue(w:aa)(z D E:Obj):Below w w (((w.alloc z).alloc D).alloc E)/\(((w.alloc z).alloc D).alloc E).heap[w.heap.size]?=some z/\(((w.alloc z).alloc D).alloc E).heap[(w:Nat)+1]?=some D/\(((w.alloc z).alloc D).alloc E).heap[(w:Nat)+2]?=some E:=⟨((((aj w w).alloc (ag _) _).alloc RS _).alloc Sk _),cA w z D E⟩
def bR{g:Nat}{o:Obj}(h:V.heap[g]?=some o)(z:V.grownBy E (some b))(D:b<g):E.heap[g]?=some o:=(z.block g (aM.1 h).1 fun e=>T5).trans h
def ec{g:Nat}(v':au)(h:aU V g #[v] t):ah V g 0 v/\V.frozen? ⟨g,0,none⟩=false/\(V.setCell ⟨g,0,none⟩ v').cell? ⟨g,0,none⟩=some v':=⟨du h 0 rfl,aP h 0,du (bs _ g 0 _ _ v' h) 0 rfl⟩
def iW(k v:Int)(w:aa):aw 184 (bP k v) w (za1 [lJ k v] w):=by
 have E:=az w (.cells fm 176) rfl;have D:=aD w (.cells fm 176);go_enter func184,ntmps184
 go_upto_region 1 with(fail)
 generalize w.alloc _=W at D E ⊢;have z:(w:Nat)<W:=(aM.1 E).1;have I:=(b_ W (.cells (gY k v (ByteArray.mk #[])) 192) z).trans E;have H:=az W (.cells (gY k v (ByteArray.mk #[])) 192) rfl;have F:=D.alloc D.size (.cells (gY k v (ByteArray.mk #[])) 192);obtain⟨U,f0,Y⟩:=ec (.slice (aY W) 1 1) I;obtain⟨O,Q,J⟩:=d_ H z F;clear E D I H z F;go_wp2;refine ax (v:=.agg #[.slice (aY W) 1 1]) (by simp[results,results184,go_sem, *]) rfl ?_;have z:=Q.o;refine⟨_,1,rfl,ag _,?_,J.o.setCell (p:=⟨w,0,none⟩) (ag _) _⟩;have h:At W (fun V=>dp 3 nl V (some ⟨W,0,none⟩) [lJ k v]) (W.alloc (.cells (gY k v (ByteArray.mk #[])) 192)):=
  ⟨(W:Nat)+1,RS,fun V R=>zgJ ((R W (ag _) RU).trans O)⟩
 exact(h.setCell (a:=⟨w,0,none⟩) z _).mono RU
def qK(n:Int)(w:aa):aw 179 (bg n) w (za1 [lJ 1 n] w):=by
 have E:=az w (.cells fm 176) rfl;have z:=aD w (.cells fm 176);go_enter func179,ntmps179
 go_upto_region 1 with(fail)
 generalize w.alloc _=W at z E ⊢;obtain⟨F,O⟩:=bS E z;clear E z;go_wp2_with (go_at_call 184;(with_reducible refine(iW 1 n W).mono ?_);rintro e Y ⟨A,c,rfl,I,H,D⟩;obtain⟨Z,f0,ab⟩:=ec (.slice A 1 c) (ak F D);have J:=zH H;have R:=zH I;have Q:=zH (cC O D);clear I H D)
 refine ax (v:=.agg (fK A c)) (by simp[results,results179,go_sem, *]) rfl ?_;have U:(w:Nat)<W:=(aM.1 F).1;exact⟨A,c,rfl,R.o,(At.setCell J.o (a:=⟨w,0,none⟩) U _).mono RU,Q.o.setCell (p:=⟨w,0,none⟩) (ag _) _⟩
def idB:List jJ->Bool
 |[x]=>decide (x.k=1)
 |_=>false
def za7(L:List jJ)(A:an)(cap:Nat)(w:aa)(F:dp 3 nl w A L):aw 187 (cJ (bL A L cap)) w (fC w (idB L)):=by
 have hB:=aD w (.cells (bL A L cap) 176);have z:=du (az w (.cells (bL A L cap) 176) rfl) 0 rfl;have KL:=dI F hB
 match L,KL with
 |[],KL=>
  go_enter func187,ntmps187
  go_upto_region 1 with(fail)
  dsimp only[List.length_nil]at z hB ⊢;generalize w.alloc _=W at hB z ⊢;have HB:=zH hB;clear hB KL;go_wp2;go_ret
  exact⟨rfl,HB⟩
 |[x],KL=>
  obtain⟨b,o,rfl,D,-,-⟩:=jK KL (k:=0) rfl;simp only[r7,jz]at D;by_cases hk:x.k=1
  .have H:(x.k==1)=true:=Sb;go_enter func187,ntmps187
   go_upto_region 1 with(fail)
   dsimp only[List.length_cons,List.length_nil]at z hB ⊢;generalize w.alloc _=W at hB z D ⊢;obtain⟨HB,HK⟩:=bS hB (by unfold idB;simp[hk]:idB [x]=true);exact Xt
  .have H:(x.k==1)=false:=Sb;go_enter func187,ntmps187
   go_upto_region 1 with(fail)
   dsimp only[List.length_cons,List.length_nil]at z hB ⊢;generalize w.alloc _=W at hB z D ⊢;obtain⟨HB,HK⟩:=bS hB (by unfold idB;simp[hk]:idB [x]=false);exact Xt
 |x::y::L,KL=>
  obtain⟨n,E⟩:=aO ((x::y::L).length);rw[<-E]at z hB ⊢;have I:((n:Int)==1)=false:=by have:n=L.length+2:=E;simp;omega
  clear KL E F;go_enter func187,ntmps187
  go_upto_region 1 with(fail)
  generalize w.alloc _=W at hB z ⊢;have HB:=zH hB;clear hB;go_wp2;go_ret
  exact⟨rfl,HB⟩
def yP(D F:List jJ)(A1 A2:an)(c1 c2:Nat)(k:Int)(w:aa)(Z:dp 3 nl w A1 D)(O:dp 3 nl w A2 F)(b6:0<D.length)(n2:0<F.length)(b4:D.length+F+1<=1048576):aw 178 #[.agg (bL A1 D c1),.agg (bL A2 F c2),k] w (za1 (D++F++[lJ k 0]) w):=by
 obtain⟨M,Q⟩:=aO (D++F);obtain⟨L,ab⟩:=aO (M++[lJ k 0]);rw[<-Q,<-ab];obtain⟨Y,a9,ba⟩:=d_ ab Q (by rw[Q,bQ];exact b4:M.length+1<=1048576);clear ab Q;obtain⟨H,am,ao,R⟩:=ue w (.cells (bL A1 D c1) 176) (.cells (bL A2 F c2) 176) (.cells fm 176);go_enter func178,ntmps178
 go_upto_region 1 with(fail)
 generalize ((w.alloc _).alloc _).alloc _=W at H am ao R ⊢;have I:=aD W (.cells #[] 192);have cc:=du (ak am I) 0 rfl;obtain⟨bm,bb,bd,b0,a4,a6,J,br,bv⟩:=zH9 (bN.lit 192 3 nl W W (ag _)) (dI (dI Z H) I) (dI O H) (show(W:Nat)<=(W.alloc (.cells #[] 192)) from I.size) (show(w:Nat)+2<W from(aM.1 R).1) H I ao R;clear Z O H am ao R I;go_upto_region 2 with(at_builtin;refine qm rfl _ _ rfl W _ _ A1 c1 D bm.o bb.o b6 b0.o RU rfl rfl ?_;intro v' ca E z;have ce:=du (ak br (J.o.trans z)) 0 rfl;have bo:=zH E;have a7:=zH (J.o.trans z);have be:=zH (dI bd (J.o.trans z));have b1:=zH (J.o.trans z).size;clear E z)
 go_upto_region 3 with(at_builtin;refine Cf rfl _ _ rfl W _ _ A2 c2 D F bo.o be.o n2 b1.o RU rfl rfl ?_;intro b7 ap E z;rw[<-a9.o]at E;have bp:=zH E;have a8:=zH (a7.trans z);clear E z)
 have ac:=aD ap (.cells #[k,(),.string (ByteArray.mk #[])] 192);obtain⟨U,a1⟩:=bS (cC a8 ac) (bp.ext ac);obtain⟨bz,bi,a3⟩:=d_ (ak bv U.o) (az ap (.cells #[k,(),.string (ByteArray.mk #[])] 192) rfl) U.o.size;clear ac;go_wp2_with (at_builtin;refine er Cx rfl (.tmp 16) (.tmp 19) rfl W _ b7 M (lJ k 0) [.int .i64 k,.int .i64 0,.string (ByteArray.mk #[])] ap a1.o rfl T4 (jS.flat a1 a3 fun _=>rfl) ba.o a3.o rfl rfl bi.o ?_;intro g cap cb E b3 b2 z;obtain⟨ci,f0,ch⟩:=ec (.slice (aY g) (M.length+1) cap) ((z.block _ a4.o).trans bz);have a2:=zH E;have a0:=zH (U.o.trans z);clear E b3 b2 z)
 refine ax (v:=.agg (eG (aY g) (M.length+1) cap)) (by simp[results,results178,go_sem, *]) rfl ?_;have b5:=a4.o;have ad:L.length=M+1:=by rw[Y.o];simp
 have a5:=a2.view;rw[<-Y.o,ad]at a5;obtain⟨b8,b9,e,Z,O,-⟩:=a5;cases e
 refine⟨_,cap,by rw[ad],?_,?_,(cC a6 a0).setCell (p:=⟨(w:Nat)+2,0,none⟩) (by show(w:Nat)<=w+2;omega) _⟩
 .rw[ad];exact O
 .have h:=a2.fr (fun _ _ _ _ _ h=>h) a0.size;rw[<-Y.o]at h;exact((At.of h).setCell (a:=⟨(w:Nat)+2,0,none⟩) b5 _).mono RU
def AK(z D:List jJ)(A1 A2:an)(c1 c2:Nat)(w:aa)(U:dp 3 nl w A1 z)(Y:dp 3 nl w A2 D)(ao:0<z.length)(n2:0<D.length)(am:z.length+D+1<=1048576):aw 170 (kg (bL A1 z c1) (bL A2 D c2)) w (za1 (z++D++[lJ 15 0]) w):=by
 obtain⟨E,H,I,J⟩:=ue w (.cells (bL A1 z c1) 176) (.cells (bL A2 D c2) 176) (.cells fm 176);have Q:=zH (fun W (ac:ai w W)=>yP z D A1 A2 c1 c2 15 W (dI U ac) (dI Y ac) ao n2 am);obtain⟨M,ab⟩:=aO (z++D++[lJ 15 0]);rw[<-ab]at Q ⊢;clear U Y ao n2 am ab;go_enter func170,ntmps170
 go_upto_region 1 with(fail)
 generalize ((w.alloc _).alloc _).alloc _=W at E H I J ⊢;have a4:=du H 0 rfl;have a5:=du I 0 rfl;obtain⟨R,O⟩:=bS J E;clear H I J E;go_wp2_with (go_at_call 178;(with_reducible refine(Q.o W O.o).mono ?_);rintro e a3 ⟨A,c,rfl,ad,Z,F⟩;obtain⟨a7,f0,a6⟩:=ec (.slice A M c) (ak R.o F);have ap:=zH Z;have a1:=zH ad;have a0:=zH (cC O F);clear ad Z F)
 refine ax (v:=.agg (bL A M c)) (by simp[results,results170,go_sem, *]) rfl ?_;have a2:(w:Nat)+2<W:=(aM.1 R.o).1;exact⟨A,c,rfl,a1,(At.setCell ap (a:=⟨(w:Nat)+2,0,none⟩) a2 _).mono RU,a0.setCell (p:=⟨(w:Nat)+2,0,none⟩) (by show(w:Nat)<=w+2;omega) _⟩
def vQ(z D:List jJ)(A1 A2:an)(c1 c2:Nat)(w:aa)(U:dp 3 nl w A1 z)(Y:dp 3 nl w A2 D)(ao:0<z.length)(n2:0<D.length)(am:z.length+D+1<=1048576):aw 168 (kg (bL A1 z c1) (bL A2 D c2)) w (za1 (z++D++[lJ 16 0]) w):=by
 obtain⟨E,H,I,J⟩:=ue w (.cells (bL A1 z c1) 176) (.cells (bL A2 D c2) 176) (.cells fm 176);have Q:=zH (fun W (ac:ai w W)=>yP z D A1 A2 c1 c2 16 W (dI U ac) (dI Y ac) ao n2 am);obtain⟨M,ab⟩:=aO (z++D++[lJ 16 0]);rw[<-ab]at Q ⊢;clear U Y ao n2 am ab;go_enter func168,ntmps168
 go_upto_region 1 with(fail)
 generalize ((w.alloc _).alloc _).alloc _=W at E H I J ⊢;have a4:=du H 0 rfl;have a5:=du I 0 rfl;obtain⟨R,O⟩:=bS J E;clear H I J E;go_wp2_with (go_at_call 178;(with_reducible refine(Q.o W O.o).mono ?_);rintro e a3 ⟨A,c,rfl,ad,Z,F⟩;obtain⟨a7,f0,a6⟩:=ec (.slice A M c) (ak R.o F);have ap:=zH Z;have a1:=zH ad;have a0:=zH (cC O F);clear ad Z F)
 refine ax (v:=.agg (bL A M c)) (by simp[results,results168,go_sem, *]) rfl ?_;have a2:(w:Nat)+2<W:=(aM.1 R.o).1;exact⟨A,c,rfl,a1,(At.setCell ap (a:=⟨(w:Nat)+2,0,none⟩) a2 _).mono RU,a0.setCell (p:=⟨(w:Nat)+2,0,none⟩) (by show(w:Nat)<=w+2;omega) _⟩
def TmP(p:Int)(c:gW)(n lo:Nat)(w':aa)(v:au):Prop:=∃L A cap,v=.agg (bL A L cap)/\L.length<=cap/\L.length<=n/\kS p L c/\nA lo L A w'
def kS.pos{c:gW}(h:kS p L c):0<L.length:=by
 obtain⟨⟨t,D,-⟩,-⟩:=h;have z:=mX List.length D;have E:0<t.flat.length:=by cases t <;>simp[Tm.flat] <;>omega
 unfold dY at z;rw[bt]at z;omega
def zhF(h:idB L=true):∃x,L=[x]/\x.k=1:=by
 match L,h with
 |[x],h=>exact⟨x,rfl,by unfold idB at h;simpa using h⟩
def kS.idB{c:gW}(h:kS p L c)(hi:idB L=true):c.1=c.2:=by obtain⟨⟨k,v,s⟩,rfl,z⟩:=zhF hi;have z:k=1:=z;subst z;exact h.zi6
def Dh(C:Code)(b m:Nat)(w:aa)(p:Int)(E D:List jJ)(A1 A2:an)(c1 c2 a4 lo i j o:Nat)(F:cH C b m w)(b5:m<=549755813888)(bm:b<a4)(z:b<lo)(br:lo<=(w:Nat))(Q:nA a4 E A1 w)(a2:nA lo D A2 w)(bv:D.length<=c2)(t1:kS p E (i,j))(t2:kS p D (j,o))(bp:E.length+D+1<=1048576):aw 182 #[.pointer (aY b),.agg (bL A1 E c1),.agg (bL A2 D c2)] w (kM C b (m+2) (TmP p (i,o) (E.length+D+1) lo) w):=by
 obtain⟨R,H,Y,Z⟩:=ue w (.cells (bL A1 E c1) 176) (.cells (bL A2 D c2) 176) (.cells fm 176);obtain⟨Ew,a8,a0⟩:=d_ F.lt (fun W (Q:nA a4 E A1 W) (a2:nA lo D A2 W)=>AK E D A1 A2 c1 c2 W Q.now a2.now t1.pos t2.pos bp) (fun W (Q:nA a4 E A1 W)=>za7 E A1 c1 W Q.now);obtain⟨M,a3⟩:=aO (E++D++[lJ 15 0]);obtain⟨HM,Kr⟩:=bS (by rw[a3];simp;omega:M.length<=E+D+1) (by rw[a3];exact t1.seq t2:kS p M (i,o));rw[<-a3]at a8;obtain⟨a1,Kq,bd,bz,b0,be,ao,a5⟩:=zH8 (show idB E=true->kS p D (i,o) from fun h=>by have:=t1.idB h;have e:i=j:=this;subst e;exact t2) br z bm bv F Q a2;clear Q a2 bp a3 t1 t2 br z bm bv F;by_cases hid:idB E=true
 .rw[hid]at a0;have a1:=zH (a1 hid);clear hid;go_enter func182,ntmps182
  go_upto_region 1 with(fail)
  generalize ((w.alloc _).alloc _).alloc _=W at R H Y Z ⊢;have b8:=du H 0 rfl;obtain⟨ba,bb,a9,ab⟩:=fU H Y Z R;clear H Y Z R;go_wp2_with (first
   |(go_at_call 187;((with_reducible refine(a0.o W (ao.o.ext ab.o)).mono ?_);rintro e b6 ⟨rfl,z⟩;have ap:=zH (cC ab z);have b1:=zH (ak ba z);have b2:=zH (ak bb z);have b3:=zH (ak a9 z);clear z))
   |(go_at_call 46;(with_reducible refine(gX C b m b6 5 (be.o.ext ap.o) b5).mono ?_);rintro e am ⟨v,rfl,⟨y,rfl⟩,bo,J⟩;have b4:=Ew.o;have b9:=du (bR b1 J RU) 0 rfl;have ca:=du (bR b2 J RU) 0 rfl;have O:=zH (bR b3 J RU);obtain⟨ch,f0,ce⟩:=ec (.slice A2 D c2) O;have I:=zH ((aN (row:=some b) ap).trans J);have a7:=zH ((a5.ext ap).drawn J bd);have a6:=zH ((ao.ext ap).drawn J bz);have bi:=zH bo;have Ks:=zH (show(w:Nat)+2<am from(aM.1 O).1);clear bo J b4)
   |(go_at_call 170;(with_reducible refine(a8.o am a6.o a7.o).mono ?_);rintro e b7 ⟨A,c,rfl,F,ad,z⟩;obtain⟨cc,f1,cb⟩:=ec (.slice A M c) (ak O z);have HA:=zH ad;have HK:=zH F;have ac:=zH z;clear F ad z))
  .have U:=bW I (a:=⟨(w:Nat)+2,0,none⟩) (by show(w:Nat)<=w+2;omega) (.slice A2 D c2);refine ax (v:=.agg (bL A2 D c2)) VQ rfl ⟨_,rfl,?_,bi.iP (a:=⟨(w:Nat)+2,0,none⟩) Wq _,U⟩;exact⟨D,A2,c2,rfl,b0,RU,a1,a5.drawn U bd⟩
  .have U:=bW (I.trans (aN ac)) (a:=⟨(w:Nat)+2,0,none⟩) (by show(w:Nat)<=w+2;omega) (.slice A M c);refine ax (v:=.agg (bL A M c)) VQ rfl ⟨_,rfl,?_,(bi.ext ac).iP (a:=⟨(w:Nat)+2,0,none⟩) Wq _,U⟩;exact YX
 .rw[se]at hid;rw[hid]at a0;clear hid a1;go_enter func182,ntmps182
  go_upto_region 1 with(fail)
  generalize ((w.alloc _).alloc _).alloc _=W at R H Y Z ⊢;have b8:=du H 0 rfl;obtain⟨ba,bb,a9,ab⟩:=fU H Y Z R;clear H Y Z R;go_wp2_with (first
   |(go_at_call 187;(with_reducible refine(a0.o W (ao.o.ext ab.o)).mono ?_);rintro e am ⟨rfl,z⟩;have I:=zH (cC ab z);have b9:=du (ak ba z) 0 rfl;have ca:=du (ak bb z) 0 rfl;have O:=zH (ak a9 z);have Ks:=zH (show(w:Nat)+2<am from(aM.1 O).1);have a6:=zH (ao.ext I);have a7:=zH (a5.ext I);clear z)
   |(go_at_call 170;(with_reducible refine(a8.o am a6.o a7.o).mono ?_);rintro e b7 ⟨A,c,rfl,F,ad,z⟩;obtain⟨cc,f1,cb⟩:=ec (.slice A M c) (ak O z);have HA:=zH ad;have HK:=zH F;have ac:=zH z;clear F ad z))
  have U:=bW (row:=some b) ((aN I).trans (aN ac)) (a:=⟨(w:Nat)+2,0,none⟩) (by show(w:Nat)<=w+2;omega) (.slice A M c);refine ax (v:=.agg (bL A M c)) VQ rfl ⟨_,rfl,?_,(((be.ext I).ext ac).iP (a:=⟨(w:Nat)+2,0,none⟩) Wq _).mono RU,U⟩;exact YX
def zcA{k v:Int}(h:2<=k):(pz ⟨k,v,true⟩,sN ⟨k,v,true⟩)=(nP k,qq k):=by
 by_cases z:k=2
 .subst z;rfl
 .have:=uk (k:=k) (v:=v) RU;rw[this.1,this.2]
def zcB{k v:Int}(z:k=7∨k=13)(E:0<=v)(D:v<p)(F:p<=97):kS p [lJ k v] (nP k,qq k):=by rw[<-zcA (v:=v) RU];refine kS.leaf ?_ ⟨show k≠8 by omega,show k≠14 by omega,fun _=>D⟩;unfold dZ;rw[al (RU:¬k=1),ay z];simp;omega
def zcC{k:Int}(z:2<=k)(F:k<=13)(D:k≠7)(H:k≠8)(E:k≠13):kS p [lJ k 0] (nP k,qq k):=by
 rw[<-zcA (v:=0) z];refine kS.leaf ?_ ⟨show k≠8 by omega,show k≠14 by omega,fun h=>?_⟩
 .unfold dZ;rw[al (RU:¬k=1),al (RU:¬(k=7∨k=13))];simp;omega
 .rcases h with h|h
  .exact absurd h D
  .exact absurd h E
def LfP(p:Int)(lo:Nat)(w':aa)(v:au):Prop:=∃k x A cap,v=.agg (fK A cap)/\1<=cap/\(2:Int)<=k/\k<=13/\kS p [lJ k x] (nP k,qq k)/\nA lo [lJ k x] A w'
def zf2(C:Code)(b m:Nat)(w:aa)(p:Int)(hc:cH C b m w)(a2:m<=549755813000)(a3:2<=p)(Jp:p<=97):aw 180 #[.pointer (aY b),p,.bool false] w (kM C b (m+4) (LfP p w) w):=by
 have H:=az w (.cells fm 176) rfl;have E:=aD w (.cells fm 176);have Z:∀r:Nat,r<13->IntKind.i64.wrap ((2:Int)+(r:Int))=(2:Int)+(r:Int):=fun r Y=>SQ
 obtain⟨Ew,ab⟩:=bS hc.lt hc;clear hc;go_enter func180,ntmps180
 go_upto_region 1 with(fail)
 generalize w.alloc _=W at E H ⊢;obtain⟨ad,J⟩:=bS H E;clear H E;go_upto_region 2 with(go_at_call 88;(with_reducible refine(dg C b m W 13 (ab.o.ext J.o) RU).mono ?_);rintro e w1 ⟨v,rfl,⟨r,rfl,Y,-⟩,R,F⟩;have I:r<13:=RU;have am:=Z r I;have Q:=zH I;have Jo:=zH R;have Jv:=zH ((aN (row:=some b) J.o).trans F);have Ju:=zH (bR ad F Ew);clear R F Y I)
 obtain⟨k,U⟩:∃k:Int,k=(2:Int)+(r:Int):=⟨_,rfl⟩;rw[<-U];have Jn:=zH (show 2<=k/\k<=14 by have:=Q.o;omega);clear U am Z Q;by_cases h8:k=8
 .subst h8;exact ZZ
 by_cases D:k=14
 .subst D;exact Z0
 by_cases h7:k=7
 .subst h7;exact ZZ
 by_cases z:k=13
 .subst z;exact Z0
 have a1:(k==8)=false:=SA;have ap:(k==14)=false:=by simpa using D
 have a0:(k==7)=false:=SB;have ao:(k==13)=false:=by simpa using z
 obtain⟨ac,O⟩:=bS (zcC (p:=p) Jn.1 (by have:=Jn.2;omega) h7 h8 z) (show 2<=k/\k<=13 by have:=Jn.o;omega);clear Jn h8 D h7 z;go_wp2_with (go_at_call 184;(with_reducible refine(iW k 0 w1).mono ?_);rintro e w3 ⟨A,c,rfl,hc,hA,hb⟩;obtain⟨z0,f0,y0⟩:=ec (.slice A 1 c) (ak Ju hb);have HA:=zH hA;have HK:=zH hc;have Er:=zH hb;clear hc hA hb)
 have hG:=bW (Jv.trans (aN Er)) (a:=⟨w,0,none⟩) (ag _) (.slice A 1 c);refine ax (v:=.agg (fK A c)) (by simp[results,results180,go_sem, *]) rfl ⟨_,rfl,?_,((Jo.ext Er).iP (a:=⟨w,0,none⟩) Ew _).mono RU,hG⟩;have hs:(w:Nat)<w1:=(aM.1 Ju).1;exact⟨k,0,A,c,rfl,HK,O.1,O.2,ac,(At.setCell HA (a:=⟨w,0,none⟩) hs _).mono RU⟩
def ziS(p:Int)(c:gW)(n lo:Nat)(w:aa)(e:Ending)(w':aa):Prop:=∃L A cap,e=.returned (.agg (bL A L cap))/\L.length<=cap/\L.length<=n/\kS p L c/\nA lo L A w'/\ai w w'
def zcG(z:List jJ)(A1 D:an)(c1 d f:Nat)(w:aa)(E:dp 3 nl w D [lJ 1 (f:Int)])(F:dp 3 nl w A1 z)(n:0<z.length)(H:z.length<=1002):aw 168 (kg (fK D d) (bL A1 z c1)) w (za1 ([lJ 1 (f:Int)]++z++[lJ 16 0]) w):=vQ [lJ 1 (f:Int)] z D A1 d c1 w E F RS n Sk
def zcH(z:List jJ)(A1 D:an)(c1 d f:Nat)(w:aa)(F:dp 3 nl w A1 z)(E:dp 3 nl w D [lJ 1 (f:Int)])(n:0<z.length)(H:z.length<=1002):aw 168 (kg (bL A1 z c1) (fK D d)) w (za1 (z++[lJ 1 (f:Int)]++[lJ 16 0]) w):=vQ z [lJ 1 (f:Int)] A1 D c1 d w F E n RS Sk
def zaf(p:Int)(z:List jJ)(A1:an)(c1 lo f g i o:Nat)(w:aa)(c6:lo<=(w:Nat))(cO:nA lo z A1 w)(c8:z.length<=c1)(t1:kS p z (i,o))(hi:f+i+g<=12)(c7:f+o+g<=12)(bm:z.length<=1000):aw 183 #[f,.agg (bL A1 z c1),g] w (ziS p (f+i+g,f+o+g) (z.length+4) lo w):=by
 have H:=((aj w w).alloc (ag _) (.cells (bL A1 z c1) 176)).alloc RS (.cells fm 176);have a0:=(b_ (w.alloc (.cells (bL A1 z c1) 176)) (.cells fm 176) (k:=w.heap.size) RS).trans (az w _ rfl);have a1:=az (w.alloc (.cells (bL A1 z c1) 176)) (.cells fm 176) (n:=(w:Nat)+1) RS;have ap:=At.ext cO H;obtain⟨da,b1,c9,GN,ck,b4,KO⟩:=zH7 cO c6 c8 bm t1.pos t1 (bn hi c7);clear cO c6 c8 bm t1 hi c7;by_cases c5:f=0
 .subst c5;by_cases bo:g=0
  .subst bo;go_enter func183,ntmps183
   go_upto_region 1 with(fail)
   generalize (w.alloc _).alloc _=W at a0 a1 H ap ⊢;obtain⟨a4,a5,a8,bi⟩:=fU a0 a1 H ap;clear a0 a1 H ap;have R:=du a4.o 0 rfl;obtain⟨a3,f0,cR⟩:=ec (.slice A1 z c1) a5;go_wp2;refine ax (v:=.agg (bL A1 z c1)) VI rfl ?_;have bm:=b1.o;have H:=a8.setCell (p:=⟨(w:Nat)+1,0,none⟩) (by show(w:Nat)<=w+1;omega) (.slice A1 z c1);exact⟨z,A1,c1,rfl,c9,RU,(by have h:=b4.o;simpa using h),da.ext H,H⟩
  have dc:0 < (g:Int):=RU;clear bo;go_enter func183,ntmps183
  go_upto_region 1 with(fail)
  generalize (w.alloc _).alloc _=W at a0 a1 H ap ⊢;obtain⟨a4,a5,a8,bi⟩:=fU a0 a1 H ap;clear a0 a1 H ap;go_upto_region 4 with(fail)
  have R:=du a4.o 0 rfl;have br:(W.drew).cell? ⟨w,0,none⟩=some (.slice A1 z c1):=R;refine bJ (S:=fun V=>ah V w 0 (.slice A1 z c1)) 3 Si br (fun hHeld=>?_);refine aC 0 ?_;refine aC 1 ?_;refine bM 2 fun K hK=>?_
  go_simp
  (with_reducible refine(qK g _).mono ?_)
  rintro e bz ⟨b6,cI,rfl,bb,a2,F⟩;obtain⟨a7,cc⟩:=bS ((aI W).trans F) a2;clear F a2 bb;go_simp;refine hK.out _ _ (fun _=>av a7 R) (fun hHeld=>?_);clear hK K;try simp only[Act.put,zA]
  have hHeld:=hHeld RX;refine bM 3 fun K hK=>?_
  go_simp
  (with_reducible refine(zcH z A1 b6 c1 cI g bz (bi.o.ext a7.o).now cc.o.now ck.o (by have:=GN.o;have:=GN.o;omega)).mono ?_)
  rintro e be ⟨J,O,rfl,ac,ab,F⟩;obtain⟨E,I⟩:=aO (z++[lJ 1 (g:Int)]++[lJ 16 0]);rw[<-I]at ab ac ⊢;obtain⟨ch,cy,ba⟩:=d_ (show E.length<=z+2 by rw[I];simp;try omega) (show kS p E (i+g,o+g) by rw[I];exact b4.par (kS.id p (n:=g) Tv) Tv Tv) (cC a7 F);have am:=ak a4 ba;obtain⟨a3,f0,-⟩:=ec (.slice J E O) am;obtain⟨co,b8,ce,KN⟩:=fU am ab ac (show(w:Nat)+1<bz by have:=a7.size;have:=(aM.1 a5).1;omega);clear ab ac F I am;go_simp;refine hK.out _ _ (fun h=>absurd h RX) (fun hHeld=>?_);clear hK K;try simp only[Act.put,zA]
  refine bM 4 fun K hK=>?_
  go_simp;refine hK.out _ _ (fun h=>absurd h RX) (fun hHeld=>?_);clear hK K;try simp only[Act.put,zA]
  refine eC Si ?_ _;have Q:=bs be w 0 _ _ (.slice J E O) co;simp only[mZ,jA]at Q;have ao:=(bw be ⟨w,0,none⟩ (.slice J E O) ((w:Nat)+1) (by show(w:Nat)+1≠w.heap.size;omega)).trans (ak a5 ba);have Z:=(cC a8 ba).setCell (p:=⟨w,0,none⟩) (ag _) (.slice J E O);have ad:=(At.setCell b8 (a:=⟨w,0,none⟩) Wm (.slice J E O)).mono (lo':=(w:Nat)+2) (by have:=KN.o;omega);generalize be.setCell ⟨w,0,none⟩ _=db at Q ao Z ad ⊢;obtain⟨cr,ct,ca,cj⟩:=fU Q ao Z ad;clear Q ao Z ad a3 f0 R br;have R:=du cr.o 0 rfl;obtain⟨a3,f0,cR⟩:=ec (.slice J E O) ct;go_wp2;refine ax (v:=.agg (bL J E O)) VI rfl ?_;have bm:=b1.o;have H:=ca.setCell (p:=⟨(w:Nat)+1,0,none⟩) (by show(w:Nat)<=w+1;omega) (.slice J E O);exact⟨E,J,O,rfl,ce,by have:=ch.o;omega,(by have h:=cy.o;simpa using h),(At.setCell cj (a:=⟨(w:Nat)+1,0,none⟩) (by show(w:Nat)+1<w+2;omega) _).mono RU,H⟩
 have dl:0 < (f:Int):=RU;clear c5;by_cases bo:g=0
 .subst bo;go_enter func183,ntmps183
  go_upto_region 1 with(fail)
  generalize (w.alloc _).alloc _=W at a0 a1 H ap ⊢;obtain⟨a4,a5,a8,bi⟩:=fU a0 a1 H ap;clear a0 a1 H ap;go_upto_region 2 with(fail)
  have R:=du a4.o 0 rfl;have bp:(W.drew).cell? ⟨w,0,none⟩=some (.slice A1 z c1):=R;refine bJ (S:=fun V=>ah V w 0 (.slice A1 z c1)) 3 Si bp (fun hHeld=>?_);refine aC 0 ?_;refine aC 2 ?_;refine bM 1 fun K hK=>?_
  go_simp
  (with_reducible refine(qK f _).mono ?_)
  rintro e bv ⟨b5,cF,rfl,bb,a2,F⟩;obtain⟨a6,cb⟩:=bS ((aI W).trans F) a2;clear F a2 bb;go_simp;refine hK.out _ _ (fun _=>av a6 R) (fun hHeld=>?_);clear hK K;try simp only[Act.put,zA]
  have hHeld:=hHeld RX;refine bM 3 fun K hK=>?_
  go_simp
  (with_reducible refine(zcG z A1 b5 c1 cF f bv cb.o.now (bi.o.ext a6.o).now ck.o Ty).mono ?_)
  rintro e bd ⟨U,Y,rfl,ac,ab,F⟩;obtain⟨D,I⟩:=aO ([lJ 1 (f:Int)]++z++[lJ 16 0]);rw[<-I]at ab ac ⊢;obtain⟨b0,c4,cu,a9⟩:=fU (show D.length<=z+2 by rw[I];simp;try omega) (by rw[I];simp:0<D.length) (show kS p D (f+i,f+o) by rw[I];exact(kS.id p (n:=f) Tv).par b4 Tv Tv) (cC a6 F);have am:=ak a4 a9;obtain⟨a3,f0,-⟩:=ec (.slice U D Y) am;obtain⟨cn,b7,c0,KM⟩:=fU am ab ac (show(w:Nat)+1<bv by have:=a6.size;have:=(aM.1 a5).1;omega);clear ab ac F I am;go_simp;refine hK.out _ _ (fun h=>absurd h RX) (fun hHeld=>?_);clear hK K;try simp only[Act.put,zA]
  refine bM 4 fun K hK=>?_
  go_simp;refine hK.out _ _ (fun h=>absurd h RX) (fun hHeld=>?_);clear hK K;try simp only[Act.put,zA]
  refine eC Si ?_ _;have Q:=bs bd w 0 _ _ (.slice U D Y) cn;simp only[mZ,jA]at Q;have ao:=(bw bd ⟨w,0,none⟩ (.slice U D Y) ((w:Nat)+1) (by show(w:Nat)+1≠w.heap.size;omega)).trans (ak a5 a9);have Z:=(cC a8 a9).setCell (p:=⟨w,0,none⟩) (ag _) (.slice U D Y);have ad:=(At.setCell b7 (a:=⟨w,0,none⟩) Wl (.slice U D Y)).mono (lo':=(w:Nat)+2) (by have:=KM.o;omega);generalize bd.setCell ⟨w,0,none⟩ _=cz at Q ao Z ad ⊢;obtain⟨b2,b3,b9,ci⟩:=fU Q ao Z ad;clear Q ao Z ad a3 f0 R bp;have R:=du b2.o 0 rfl;obtain⟨a3,f0,cR⟩:=ec (.slice U D Y) b3;go_wp2;refine ax (v:=.agg (bL U D Y)) VI rfl ?_;have bm:=b1.o;have H:=b9.setCell (p:=⟨(w:Nat)+1,0,none⟩) (by show(w:Nat)<=w+1;omega) (.slice U D Y);exact⟨D,U,Y,rfl,c0,by have:=b0.o;omega,(by have h:=cu.o;simpa using h),(At.setCell ci (a:=⟨(w:Nat)+1,0,none⟩) (by show(w:Nat)+1<w+2;omega) _).mono RU,H⟩
 have dc:0 < (g:Int):=RU;clear bo;go_enter func183,ntmps183
 go_upto_region 1 with(fail)
 generalize (w.alloc _).alloc _=W at a0 a1 H ap ⊢;obtain⟨a4,a5,a8,bi⟩:=fU a0 a1 H ap;clear a0 a1 H ap;go_upto_region 2 with(fail)
 have R:=du a4.o 0 rfl;have bp:(W.drew).cell? ⟨w,0,none⟩=some (.slice A1 z c1):=R;refine bJ (S:=fun V=>ah V w 0 (.slice A1 z c1)) 3 Si bp (fun hHeld=>?_);refine aC 0 ?_;refine aC 2 ?_;refine bM 1 fun K hK=>?_
 go_simp
 (with_reducible refine(qK f _).mono ?_)
 rintro e bv ⟨b5,cF,rfl,bb,a2,F⟩;obtain⟨a6,cb⟩:=bS ((aI W).trans F) a2;clear F a2 bb;go_simp;refine hK.out _ _ (fun _=>av a6 R) (fun hHeld=>?_);clear hK K;try simp only[Act.put,zA]
 have hHeld:=hHeld RX;refine bM 3 fun K hK=>?_
 go_simp
 (with_reducible refine(zcG z A1 b5 c1 cF f bv cb.o.now (bi.o.ext a6.o).now ck.o Ty).mono ?_)
 rintro e bd ⟨U,Y,rfl,ac,ab,F⟩;obtain⟨D,I⟩:=aO ([lJ 1 (f:Int)]++z++[lJ 16 0]);rw[<-I]at ab ac ⊢;obtain⟨b0,c4,cu,a9⟩:=fU (show D.length<=z+2 by rw[I];simp;try omega) (by rw[I];simp:0<D.length) (show kS p D (f+i,f+o) by rw[I];exact(kS.id p (n:=f) Tv).par b4 Tv Tv) (cC a6 F);have am:=ak a4 a9;obtain⟨a3,f0,-⟩:=ec (.slice U D Y) am;obtain⟨cn,b7,c0,KM⟩:=fU am ab ac (show(w:Nat)+1<bv by have:=a6.size;have:=(aM.1 a5).1;omega);clear ab ac F I am;go_simp;refine hK.out _ _ (fun h=>absurd h RX) (fun hHeld=>?_);clear hK K;try simp only[Act.put,zA]
 refine bM 4 fun K hK=>?_
 go_simp;refine hK.out _ _ (fun h=>absurd h RX) (fun hHeld=>?_);clear hK K;try simp only[Act.put,zA]
 refine eC Si ?_ _;have Q:=bs bd w 0 _ _ (.slice U D Y) cn;simp only[mZ,jA]at Q;have ao:=(bw bd ⟨w,0,none⟩ (.slice U D Y) ((w:Nat)+1) (by show(w:Nat)+1≠w.heap.size;omega)).trans (ak a5 a9);have Z:=(cC a8 a9).setCell (p:=⟨w,0,none⟩) (ag _) (.slice U D Y);have ad:=(At.setCell b7 (a:=⟨w,0,none⟩) Wl (.slice U D Y)).mono (lo':=(w:Nat)+2) (by have:=KM.o;omega);generalize bd.setCell ⟨w,0,none⟩ _=cz at Q ao Z ad ⊢;obtain⟨b2,b3,b9,ci⟩:=fU Q ao Z ad;clear Q ao Z ad a3 f0 R bp;go_upto_region 4 with(fail)
 have R:=du b2.o 0 rfl;have br:(cz.drew).cell? ⟨w,0,none⟩=some (.slice U D Y):=R;refine bJ (S:=fun V=>ah V w 0 (.slice U D Y)) 3 Si br (fun hHeld=>?_);refine aC 0 ?_;refine aC 1 ?_;refine bM 2 fun K hK=>?_
 go_simp
 (with_reducible refine(qK g _).mono ?_)
 rintro e bz ⟨b6,cI,rfl,bb,a2,F⟩;obtain⟨a7,cc⟩:=bS ((aI cz).trans F) a2;clear F a2 bb;go_simp;refine hK.out _ _ (fun _=>av a7 R) (fun hHeld=>?_);clear hK K;try simp only[Act.put,zA]
 have hHeld:=hHeld RX;refine bM 3 fun K hK=>?_
 go_simp
 (with_reducible refine(zcH D U b6 Y cI g bz (ci.o.ext a7.o).now cc.o.now c4.o (by have:=GN.o;have:=b0.o;omega)).mono ?_)
 rintro e be ⟨J,O,rfl,ac,ab,F⟩;obtain⟨E,I⟩:=aO (D++[lJ 1 (g:Int)]++[lJ 16 0]);rw[<-I]at ab ac ⊢;obtain⟨ch,cy,ba⟩:=d_ (show E.length<=D+2 by rw[I];simp;try omega) (show kS p E (f+i+g,f+o+g) by rw[I];exact cu.par (kS.id p (n:=g) Tv) Tv Tv) (cC a7 F);have am:=ak b2 ba;obtain⟨a3,f0,-⟩:=ec (.slice J E O) am;obtain⟨co,b8,ce,KN⟩:=fU am ab ac (show(w:Nat)+1<bz by have:=a7.size;have:=(aM.1 b3).1;omega);clear ab ac F I am;go_simp;refine hK.out _ _ (fun h=>absurd h RX) (fun hHeld=>?_);clear hK K;try simp only[Act.put,zA]
 refine bM 4 fun K hK=>?_
 go_simp;refine hK.out _ _ (fun h=>absurd h RX) (fun hHeld=>?_);clear hK K;try simp only[Act.put,zA]
 refine eC Si ?_ _;have Q:=bs be w 0 _ _ (.slice J E O) co;simp only[mZ,jA]at Q;have ao:=(bw be ⟨w,0,none⟩ (.slice J E O) ((w:Nat)+1) (by show(w:Nat)+1≠w.heap.size;omega)).trans (ak b3 ba);have Z:=(cC b9 ba).setCell (p:=⟨w,0,none⟩) (ag _) (.slice J E O);have ad:=(At.setCell b8 (a:=⟨w,0,none⟩) Wm (.slice J E O)).mono (lo':=(w:Nat)+2) (by have:=KN.o;omega);generalize be.setCell ⟨w,0,none⟩ _=db at Q ao Z ad ⊢;obtain⟨cr,ct,ca,cj⟩:=fU Q ao Z ad;clear Q ao Z ad a3 f0 R br;have R:=du cr.o 0 rfl;obtain⟨a3,f0,cR⟩:=ec (.slice J E O) ct;go_wp2;refine ax (v:=.agg (bL J E O)) VI rfl ?_;have bm:=b1.o;have H:=ca.setCell (p:=⟨(w:Nat)+1,0,none⟩) (by show(w:Nat)<=w+1;omega) (.slice J E O);exact⟨E,J,O,rfl,ce,by have:=ch.o;have:=b0.o;omega,cy,(At.setCell cj (a:=⟨(w:Nat)+1,0,none⟩) (by show(w:Nat)+1<w+2;omega) _).mono RU,H⟩
end Go.Proofs.YtdpgblncijojiaaGreatDoor
