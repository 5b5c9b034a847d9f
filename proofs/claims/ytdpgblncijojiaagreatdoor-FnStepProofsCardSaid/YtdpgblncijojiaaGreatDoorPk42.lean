/- Parts of the walks. Conditions: as stated with each. -/
import Derived.Test.YtdpgblncijojiaaGreatDoorPk31
namespace Go.Proofs.YtdpgblncijojiaaGreatDoor
open Go.RowKit Tryz
set_option linter.all false
set_option maxHeartbeats 8000000
set_option maxRecDepth 100000
variable{E w w' wr:aa}{H Ro Ru Rw u v v1 v2 v3 v4 y z2:av}{Rv t:dE}{X:List cZ}{b c i:Nat}{p:Int}{s:Sy}
def uW(s:Sy)(c r:Nat):Int:=if cN s c r=s.rows.length then -1 else(cN s c r:Nat)
def fc(D:dE)(w wr:aa)(b:Nat)(p:Int)(s:Sy)(X:List cZ):Prop:=
 (w:Nat)<=b/\aj w wr/\∃A c z B us,aW wr b (uX p s A c z X B) D/\Kept w wr (b+1) A c s.rows/\
  bG wr (b+1) (.slice z X B) X us
def xP(h:aW w b #[H,Rw,z2,Ru,Ro] t):(((w.setCell ⟨b,1,none⟩ v1).setCell ⟨b,2,none⟩ v2).setCell ⟨b,3,none⟩ v3).heap[b]?=some (.cells #[H,v1,v2,v3,Ro] t (0,0)):=by have z:=bw w b 1 _ _ v1 h;have B:=bw _ b 2 _ _ v2 z;have D:=bw _ b 3 _ _ v3 B;simpa using D
def zdl(h:aW w b #[H,Rw,z2,Ru,Ro] t):(w.setCell ⟨b,4,none⟩ v4).heap[b]?=some (.cells #[H,Rw,z2,Ru,v4] t (0,0)):=by have z:=bw w b 4 _ _ v4 h;simpa using z
def oR{x:av}(h:aW w b #[x,y,H,u,v] t):w.frozen? ⟨b,0,none⟩=false/\w.frozen? ⟨b,1,none⟩=false/\w.frozen? ⟨b,2,none⟩=false/\w.frozen? ⟨b,3,none⟩=false/\w.frozen? ⟨b,4,none⟩=false:=by obtain⟨_,z,B,D,E,F⟩:=m6 (ai _ _) h;exact⟨z,B,D,E,F⟩
def yl(h:Below b w w')(v0 v1 v2:av):Below b w (((w'.setCell ⟨b,1,none⟩ v0).setCell ⟨b,2,none⟩ v1).setCell ⟨b,3,none⟩ v2):=((h.setCell (ah _) _).setCell (ah _) _).setCell (ah _) _
def CA(w wr:aa)(b:Nat)(p:Int)(s:Sy)(X:List cZ)(r c:Nat)(h:fc 116 w wr b p s X)(E:s.Ok p)(am:r<=s.rows.length)(a5:(c:Int)<s.v+s.h):ax 126 (wy (aX b) r c) wr fun e w'=>e=.returned (zI (uW s c r))/\wr=w':=by
 obtain⟨_,H,A,a3,ap,a2,us,z,U,_⟩:=h;have ad:=zH (U.rows H);have Z:=E.small;have a9:s.rows.length<=160:=Z.n;have ac:=zH (show ∀q∈s.rows,c<q.length from fun q z=>by have:=Sys.len E q z;omega);obtain⟨bd,be,bi,bm,bo⟩:=bO z;clear z U H E Z;go_enter func126,ntmps126
 go_wp2;go_loop [7] (fun i=>∃j:Nat,r<=j/\j<=s.rows.length/\i=.int .i64 j/\Hd (∀k,r<=k->k<j->fB s k c=0)) (fun i=>s.rows.length-(intOf i).toNat)
 case atStart=>exact⟨r,ah _,am,rfl,zH (fun k h1 h2=>Ry)⟩
 case round=>
  obtain⟨j,R,T,rfl,HZ⟩:=hrel;by_cases D:j<s.rows.length
  .obtain⟨q,z⟩:=aw D;have O:=ac q (aR z);obtain⟨x,F⟩:=aw O;obtain⟨a1,o,rfl,I⟩:=ad.here D;obtain⟨ao,a4,a7,Q⟩:=I j q z;obtain⟨a0,bb,rfl,J⟩:=Q.here O;have a8:=J c x F;have HE:=zH (CE z F);have a6:(c:Int) < (q:Int):=Ry;clear z F I Q J;by_cases hz:x=0
   .exact Y9
   .have ba:(x !=0)=true:=RJ;have B:=zH (se R T HZ (fun _=>by rw[HE.o];exact hz));go_wp2;go_ret
    exact⟨lC (by rw[uW,B.o,ak Ry]),rfl⟩
  .obtain⟨B,ab⟩:=bL (se R T HZ (fun h=>absurd h D)) (Ry:j=s.rows.length);go_wp2;go_ret
   exact⟨lC (by rw[uW,B.o,ab.o,ar rfl]),rfl⟩
def oz(w wr:aa)(bb:Nat)(p:Int)(s:Sy)(X:List cZ)(k a b c:Int)(a8:cU w)(h:fc 116 w wr bb p s X)(bp:s.Ok p)(bo:eZ p s ⟨k,a,b,c,[]⟩=true)(ci:X.length<=1000000):ax 127 #[.pointer (aX bb),.agg (mf k a b c)] wr fun e w'=>e=.returned (.tuple #[])/\fc 116 w w' bb p (cq p s ⟨k,a,b,c,[]⟩) (X++[⟨k,a,b,c,[]⟩])/\Below bb wr w':=by
 obtain⟨IB,bd,A,ch,U,ac,us,a1,bm,br⟩:=h;have ao:=zH (fun(A cap W ca cb)=>Dt p s ⟨k,a,b,c,[]⟩ A cap W none 0 ca cb (aG rfl) (aT _) bp bo);simp only[h_]at ao;obtain⟨z,bz⟩:=aK (cq p s ⟨k,a,b,c,[]⟩);rw[<-bz]at ao ⊢;have cj:bb < (wr:Nat):=(aP.1 a1).1;obtain⟨b7,b3,Gj,Fb,b6⟩:=l_ a1 bm br bd a8;clear a1 bm br bd bp bo bz a8;go_enter func127,ntmps127
 go_wp2;obtain⟨ab,FI⟩:=aK (wr.alloc (.cells (mf k a b c) 29));rw[<-FI];have T:aj wr ab:=VC;have a2:aW ab wr (mf k a b c) 29:=Uj;obtain⟨EA,a7,Z,b4⟩:=fS T a2 (aA b7 T) ((b3.ext T).rows (an Fb T));have b2:=zH (an Fb T).drew;obtain⟨J,O,Q,R,I⟩:=bO Z;obtain⟨B,D,E,F,H⟩:=bO a2;clear T a2 FI;refine zk (S:=fun W=>af W bb 0 (zI p)/\af W wr 0 (zI k)/\af W wr 1 (zI a)/\af W wr 2 (zI b)/\af W wr 3 (zI c)/\af W wr 4 (.slice none 0 0)) RU ⟨J,B,D,E,F,H⟩ (fun hHeld=>?_);refine cE 0 ?_;refine cE 1 ?_;refine cE 2 ?_;refine cE 3 ?_;refine cE 4 ?_;refine cE 5 ?_;refine cE 6 ?_;refine cE 7 ?_;refine cE 9 ?_;refine fK (rs:=[8]) RU Rx ?_;refine i_ rfl (fun K hK=>?_) fL;go_simp;refine hK.out _ _ RV (fun hHeld=>?_);clear hK K;try simp only[Act.put,zA]
 refine fK (rs:=[10]) RU Rx ?_;refine i_ rfl (fun K hK=>?_) fL;go_simp;refine(ao.o _ _ _ (b6.ext b2) (b4.ext (ai _ _).drew)).mono ?_;rintro e am ⟨A2,c2,rfl,b0,ba⟩;obtain⟨H2,b9,a6⟩:=dD ((ai ab ab).drew.trans ba) b0 (fun w' (h:aj ab w')=>(⟨ag h J,ag h B,ag h D,ag h E,ag h F,ag h H⟩:af w' bb 0 (zI p)/\af w' wr 0 (zI k)/\af w' wr 1 (zI a)/\af w' wr 2 (zI b)/\af w' wr 3 (zI c)/\af w' wr 4 (.slice none 0 0)));clear b0 ba B D E F H J O Q R I hHeld;go_simp;refine hK.out _ _ (a6.o _ H2.o) (fun hHeld=>?_);clear hK K;try simp only[Act.put,zA]
 refine cE 11 ?_;refine cE 12 ?_;refine cE 13 ?_;refine cE 14 ?_;refine cE 15 ?_;obtain⟨J,O,Q,R,I⟩:=bO (aA Z H2);obtain⟨f0,f1,f2,f3,f4⟩:=oR (aA Z H2);obtain⟨B,D,E,F,H⟩:=bO (aA a7 H2);refine fK (rs:=[16]) RU Rx ?_;refine i_ rfl (fun K hK=>?_) fL;go_simp;have a9:(fun W=>af W bb 0 (zI p)/\af W wr 0 (zI k)/\af W wr 1 (zI a)/\af W wr 2 (zI b)/\af W wr 3 (zI c)/\af W wr 4 (.slice none 0 0)) (((am.setCell ⟨bb,1,none⟩ (zI z.v)).setCell ⟨bb,2,none⟩ (zI z.h)).setCell ⟨bb,3,none⟩ (.slice A2 z.rows c2)):=by have Kk:wr.heap.size≠bb:=Ry;obtain⟨ce,_⟩:=bO (xP (v1:=.int .i64 z.v) (v2:=.int .i64 z.h) (v3:=.slice A2 z.rows c2) (aA Z H2));refine⟨ce,?_,?_,?_,?_,?_⟩ <;> (rw[cD Sv,cD Sv,cD Sv];assumption)
 refine hK.out _ _ (by exact a9) (fun hHeld=>?_);clear hK K hHeld a9 a6 B D E F H J O Q R I f0 f1 f2 f3 f4;refine qK RU ?_ _;try dsimp only
 obtain⟨W3,EY⟩:=aK (((am.setCell ⟨bb,1,none⟩ (zI z.v)).setCell ⟨bb,2,none⟩ (zI z.h)).setCell ⟨bb,3,none⟩ (.slice A2 z.rows c2));rw[<-EY];have cn:=EA.size;have co:=H2.size;have IA:∀j,j≠bb->W3.heap[j]?=am.heap[j]?:=fun j hj=>Yd
 obtain⟨a4,b8⟩:=bL (by rw[EY];exact xP (aA Z H2):aW W3 bb (uX p z A2 c2 U X ac) 116) (Sc:(W3:Nat)=am);have ap:aW W3 wr (mf k a b c) 29:=(IA _ Ry).trans (aA a7 H2);have be:Below bb wr W3:=XG;obtain⟨Ix,b5,Gk⟩:=dD be (((Gj.ext (bQ EA H2))).same (fun j hj=>IA j Ry)) ((b9.mono (B':=bb+1) RX).same (fun j hj=>IA j Ry));obtain⟨J,O,Q,R,I⟩:=bO a4;obtain⟨B,D,E,F,H⟩:=bO ap;have Gb:=zH ap;clear IA ap be EY;go_wp2;refine bk (S:=fun W=>af W bb 4 (.slice U X ac)/\af W wr 0 (zI k)/\af W wr 1 (zI a)/\af W wr 2 (zI b)/\af W wr 3 (zI c)/\af W wr 4 (.slice none 0 0)) 10 RU ⟨I,B,D,E,F,H⟩ (fun hHeld=>?_);refine ay 0 ?_;refine ay 1 ?_;refine ay 2 ?_;refine ay 3 ?_;refine ay 4 ?_;refine ay 5 ?_;refine bu 6 fun K hK=>?_
 have a5:=zH (fun w' (h:aj W3 w')=>(⟨ag h I,ag h B,ag h D,ag h E,ag h F,ag h H⟩:af w' bb 4 (.slice U X ac)/\af w' wr 0 (zI k)/\af w' wr 1 (zI a)/\af w' wr 2 (zI b)/\af w' wr 3 (zI c)/\af w' wr 4 (.slice none 0 0)));go_simp;refine hK.out _ _ (fun _=>a5.o _ ((ai _ _).drew.alloc (ah _) _)) (fun hHeld=>?_);clear hK K J O Q R I B D E F H;try simp only[Act.put,zA]
 have hHeld:=hHeld RC;refine bu 7 fun K hK=>?_
 have Iz:=zH (b5.ext (ai _ _).drew);refine oy rfl (.tmp 24) (.tmp 26) rfl (bb+1) W3.drew (.slice U X ac) (.slice none 0 0) X us ⟨k,a,b,c,[]⟩ Iz.o (au.nil _ _) (fun b cc=>by cases cc) Ry (by have:=b8.o;simp;omega) rfl rfl ?_;intro g5 FW w5 bv a0 Fk;have ad:aW w5 bb (uX p z A2 c2 U X ac) 116:=(Fk.block bb Ry).trans a4;have b1:aW w5 wr (mf k a b c) 29:=(a0.block wr UU (fun e=>Vs)).trans Gb;obtain⟨IC,Iv,FX,Iy⟩:=fS bv a0 Fk ad;obtain⟨J,O,Q,R,I⟩:=bO ad;obtain⟨f0,f1,f2,f3,f4⟩:=oR ad;obtain⟨B,D,E,F,H⟩:=bO b1;clear bv a0 Fk ad b1;refine hK.out _ _ (fun _=>⟨I,B,D,E,F,H⟩) (fun hHeld=>?_);clear hK K B D E F H;try simp only[Act.put,zA]
 have hHeld:=hHeld RC;refine ay 8 ?_;refine ay 9 ?_;refine bu 10 fun K hK=>?_
 go_simp;refine hK.out _ _ (fun h=>absurd h RC) (fun _=>?_);clear hK K hHeld a5 J O Q R I f0 f1 f2 f3 f4;try simp only[Act.put,zA]
 refine dS RU ?_ _;have bi:fc 116 w (w5.setCell ⟨bb,4,none⟩ (.slice (aX g5) (X.length+1) FW)) bb p z (X++[⟨k,a,b,c,[]⟩])/\Below bb wr (w5.setCell ⟨bb,4,none⟩ (.slice (aX g5) (X.length+1) FW)):=ZQ;have a3:=zH bi;clear bi;go_wp2;go_end0
 exact⟨rfl,a3.1,a3.2⟩
def CB(w wr:aa)(b:Nat)(p:Int)(s:Sy)(X:List cZ)(r c:Nat)(h:fc 119 w wr b p s X)(E:s.Ok p)(ad:r<=s.rows.length)(a4:(c:Int)<s.v+s.h):ax 100 (wy (aX b) r c) wr fun e w'=>e=.returned (zI (cN s c r:Nat))/\wr=w':=by
 obtain⟨_,H,A,a2,ao,a1,us,z,U,_⟩:=h;have ac:=zH (U.rows H);have Z:=E.small;have a8:s.rows.length<=160:=Z.n;have ab:=zH (show ∀q∈s.rows,c<q.length from fun q z=>by have:=Sys.len E q z;omega);obtain⟨bd,be,bi,bm,bo⟩:=bO z;clear z U H E Z;go_enter func100,ntmps100
 go_wp2;go_loop [1] (fun i=>∃j:Nat,r<=j/\j<=s.rows.length/\i=.int .i64 j/\Hd (∀k,r<=k->k<j->fB s k c=0)) (fun i=>s.rows.length-(intOf i).toNat)
 case atStart=>exact⟨r,ah _,ad,rfl,zH (fun k h1 h2=>Ry)⟩
 case round=>
  obtain⟨j,R,T,rfl,HZ⟩:=hrel;by_cases D:j<s.rows.length
  .obtain⟨q,z⟩:=aw D;have O:=ab q (aR z);obtain⟨x,F⟩:=aw O;obtain⟨a0,o,rfl,I⟩:=ac.here D;obtain⟨am,a3,a6,Q⟩:=I j q z;obtain⟨ap,bb,rfl,J⟩:=Q.here O;have a7:=J c x F;have HE:=zH (CE z F);have a5:(c:Int) < (q:Int):=Ry;clear z F I Q J;by_cases hz:x=0
   .exact Y9
   .have a9:(x !=0)=true:=RJ;have ba:(x==0)=false:=RJ;have B:=zH (se R T HZ (fun _=>by rw[HE.o];exact hz));go_wp2;go_ret
    exact⟨lC (by rw[B.o]),rfl⟩
  .have B:=zH (se R T HZ (fun h=>absurd h D));go_wp2;go_ret
   exact⟨lC (by rw[B.o]),rfl⟩
def oA(w wr:aa)(bb:Nat)(p:Int)(s:Sy)(X:List cZ)(k a b c:Int)(h:fc 119 w wr bb p s X)(bi:s.Ok p)(be:eZ p s ⟨k,a,b,c,[]⟩=true)(b8:X.length<=1000000):ax 101 #[.pointer (aX bb),.agg (mf k a b c)] wr fun e w'=>e=.returned (.tuple #[])/\fc 119 w w' bb p (cq p s ⟨k,a,b,c,[]⟩) (X++[⟨k,a,b,c,[]⟩])/\Below bb wr w':=by
 obtain⟨IB,a8,A,a6,T,ab,us,a1,bd,bm⟩:=h;have ao:=zH (fun(A cap W b6)=>Dz p s ⟨k,a,b,c,[]⟩ A cap W none 0 b6 (aG rfl) bi be);simp only[h_]at ao;obtain⟨R,bp⟩:=aK (cq p s ⟨k,a,b,c,[]⟩);rw[<-bp]at ao ⊢;have b9:bb < (wr:Nat):=(aP.1 a1).1;obtain⟨b2,bz,Gj,Fb⟩:=fS a1 bd bm a8;clear a1 bd bm a8 bi be bp;go_enter func101,ntmps101
 go_wp2;obtain⟨Z,FI⟩:=aK (wr.alloc (.cells (mf k a b c) 29));rw[<-FI];have ac:aj wr Z:=VC;have a2:aW Z wr (mf k a b c) 29:=Uj;obtain⟨EA,b5,ad,b0⟩:=fS ac a2 (aA b2 ac) ((bz.ext ac).rows (an Fb ac));obtain⟨I,J,O,Q,H⟩:=bO ad;obtain⟨z,B,D,E,F⟩:=bO a2;clear ac a2 FI;refine bk (S:=fun W=>af W bb 0 (zI p)/\af W bb 1 (zI s.v)/\af W bb 2 (zI s.h)/\af W bb 3 (.slice A s.rows a6)/\af W wr 0 (zI k)/\af W wr 1 (zI a)/\af W wr 2 (zI b)/\af W wr 3 (zI c)/\af W wr 4 (.slice none 0 0)) 13 RU ⟨I,J,O,Q,z,B,D,E,F⟩ (fun hHeld=>?_);refine ay 0 ?_;refine ay 1 ?_;refine ay 2 ?_;refine ay 3 ?_;refine ay 4 ?_;refine ay 5 ?_;refine ay 6 ?_;refine ay 7 ?_;refine ay 8 ?_;refine ay 9 ?_;refine bu 10 fun K hK=>?_
 go_simp;refine(ao.o _ _ _ (b0.ext (ai _ _).drew)).mono ?_;rintro e a3 ⟨A2,c2,rfl,br,a7⟩;obtain⟨H2,b4,U⟩:=dD ((ai Z Z).drew.trans a7) br (fun w' (h:aj Z w')=>(⟨ag h I,ag h J,ag h O,ag h Q,ag h z,ag h B,ag h D,ag h E,ag h F⟩:af w' bb 0 (zI p)/\af w' bb 1 (zI s.v)/\af w' bb 2 (zI s.h)/\af w' bb 3 (.slice A s.rows a6)/\af w' wr 0 (zI k)/\af w' wr 1 (zI a)/\af w' wr 2 (zI b)/\af w' wr 3 (zI c)/\af w' wr 4 (.slice none 0 0)));clear br a7 z B D E F I J O Q H;go_simp;refine hK.out _ _ (fun _=>U.o _ H2.o) (fun hHeld=>?_);clear hK K;try simp only[Act.put,zA]
 have hHeld:=hHeld RC;refine ay 11 ?_;refine ay 12 ?_;obtain⟨I,J,O,Q,H⟩:=bO (aA ad H2);obtain⟨f0,f1,f2,f3,f4⟩:=oR (aA ad H2);refine bu 13 fun K hK=>?_
 go_simp;refine hK.out _ _ (fun h=>absurd h RC) (fun _=>?_);clear hK K hHeld U I J O Q H f0 f1 f2 f3 f4;try simp only[Act.put,zA]
 refine dS RU ?_ _;obtain⟨W3,EY⟩:=aK (((a3.setCell ⟨bb,1,none⟩ (zI R.v)).setCell ⟨bb,2,none⟩ (zI R.h)).setCell ⟨bb,3,none⟩ (.slice A2 R.rows c2));rw[<-EY];have ca:=EA.size;have cb:=H2.size;have IA:∀j,j≠bb->W3.heap[j]?=a3.heap[j]?:=fun j hj=>Yd
 obtain⟨a5,b3⟩:=bL (by rw[EY];exact xP (aA ad H2):aW W3 bb (uX p R A2 c2 T X ab) 119) (Sc:(W3:Nat)=a3);have ap:aW W3 wr (mf k a b c) 29:=(IA _ Ry).trans (aA b5 H2);have a9:Below bb wr W3:=XG;obtain⟨Ix,b1,Gk⟩:=dD a9 (((Gj.ext (bQ EA H2))).same (fun j hj=>IA j Ry)) ((b4.mono (B':=bb+1) RX).same (fun j hj=>IA j Ry));obtain⟨I,J,O,Q,H⟩:=bO a5;obtain⟨z,B,D,E,F⟩:=bO ap;have Gb:=zH ap;clear IA ap a9 EY;go_wp2;refine bk (S:=fun W=>af W bb 4 (.slice T X ab)/\af W wr 0 (zI k)/\af W wr 1 (zI a)/\af W wr 2 (zI b)/\af W wr 3 (zI c)/\af W wr 4 (.slice none 0 0)) 10 RU ⟨H,z,B,D,E,F⟩ (fun hHeld=>?_);refine ay 0 ?_;refine ay 1 ?_;refine ay 2 ?_;refine ay 3 ?_;refine ay 4 ?_;refine ay 5 ?_;refine bu 6 fun K hK=>?_
 have U:=zH (fun w' (h:aj W3 w')=>(⟨ag h H,ag h z,ag h B,ag h D,ag h E,ag h F⟩:af w' bb 4 (.slice T X ab)/\af w' wr 0 (zI k)/\af w' wr 1 (zI a)/\af w' wr 2 (zI b)/\af w' wr 3 (zI c)/\af w' wr 4 (.slice none 0 0)));go_simp;refine hK.out _ _ (fun _=>U.o _ ((ai _ _).drew.alloc (ah _) _)) (fun hHeld=>?_);clear hK K I J O Q H z B D E F;try simp only[Act.put,zA]
 have hHeld:=hHeld RC;refine bu 7 fun K hK=>?_
 have Iz:=zH (b1.ext (ai _ _).drew);refine oy rfl (.tmp 21) (.tmp 23) rfl (bb+1) W3.drew (.slice T X ab) (.slice none 0 0) X us ⟨k,a,b,c,[]⟩ Iz.o (au.nil _ _) (fun b b7=>by cases b7) Ry (by have:=b3.o;simp;omega) rfl rfl ?_;intro g5 FW w5 bo a0 Fk;have am:aW w5 bb (uX p R A2 c2 T X ab) 119:=(Fk.block bb Ry).trans a5;have bv:aW w5 wr (mf k a b c) 29:=(a0.block wr UU (fun e=>Vs)).trans Gb;obtain⟨IC,Iv,FX,Iy⟩:=fS bo a0 Fk am;obtain⟨I,J,O,Q,H⟩:=bO am;obtain⟨f0,f1,f2,f3,f4⟩:=oR am;obtain⟨z,B,D,E,F⟩:=bO bv;clear bo a0 Fk am bv;refine hK.out _ _ (fun _=>⟨H,z,B,D,E,F⟩) (fun hHeld=>?_);clear hK K z B D E F;try simp only[Act.put,zA]
 have hHeld:=hHeld RC;refine ay 8 ?_;refine ay 9 ?_;refine bu 10 fun K hK=>?_
 go_simp;refine hK.out _ _ (fun h=>absurd h RC) (fun _=>?_);clear hK K hHeld U I J O Q H f0 f1 f2 f3 f4;try simp only[Act.put,zA]
 refine dS RU ?_ _;have ba:fc 119 w (w5.setCell ⟨bb,4,none⟩ (.slice (aX g5) (X.length+1) FW)) bb p R (X++[⟨k,a,b,c,[]⟩])/\Below bb wr (w5.setCell ⟨bb,4,none⟩ (.slice (aX g5) (X.length+1) FW)):=ZQ;have a4:=zH ba;clear ba;go_wp2;go_end0
 exact⟨rfl,a4.1,a4.2⟩
def fc.ext(h:fc Rv w wr b p s X)(z:aj wr E):fc Rv w E b p s X:=by obtain⟨F,H,A,c,B,D,us,O,I,J⟩:=h;exact⟨F,an H z,A,c,B,D,us,aA O z,I.ext z,J.ext z⟩
def fc.lt(h:fc Rv w wr b p s X):b < (wr:Nat):=by obtain⟨E,F,A,c,B,D,us,z,H,I⟩:=h;exact(aP.1 z).1
def fc.cells(h:fc Rv w wr b p s X)(I:s.Ok p)(hi:i<s.rows.length)(a4:(c:Int)<s.v+s.h):∃F B o z E n2 c2,af wr b 0 (zI p)/\af wr b 1 (zI s.v)/\af wr b 2 (zI s.h)/\af wr b 3 (.slice (some ⟨B,o,none⟩) s.rows F)/\af wr B (o+i) (.slice (some ⟨z,E,none⟩) n2 c2)/\c<n2/\n2<=1000/\af wr z (E+c) (zI (fB s i c)):=by obtain⟨_,Q,A,F,a2,a3,us,ac,ab,_⟩:=h;obtain⟨am,ao,ap,a0,a6⟩:=bO ac;obtain⟨q,D⟩:=aw hi;have a5:=Sys.len I q (aR D);have ad:=I.small.len q (aR D);have H:c<q.length:=Ry;obtain⟨x,J⟩:=aw H;obtain⟨B,o,rfl,R⟩:=(ab.rows Q).here hi;obtain⟨a1,O,U,Z⟩:=R i q D;obtain⟨z,E,rfl,T⟩:=Z.here H;exact⟨F,B,o,z,E,q,O,am,ao,ap,a0,U,H,ad,by rw[CE D J];exact T c x J⟩
def v_(p:Int)(a c:Nat)(iv:Int)(q:Sy×List cZ):∀i,(mW p a c iv i q).2.length<=q.2+i
 |0=>ah _
 |i+1=>by
  have:=v_ p a c iv q i;unfold mW;split
  .simp[push];omega
  .omega
def zhB{y:Int}(z:0<p):(p-y%p)%p=(-y)%p:=by rw[show p-y%p=-(y%p)+p by omega,Int.add_emod_right];have h:=Int.emod_add_mul_ediv y p;rw[show -y=-(y%p) + -(y / p)*p by rw[lN,iI (y / p) p];omega,Int.add_mul_emod_self_right]
def zeP{x y:Int}(z:0<=x)(B:x<=97)(D:0<=y)(E:y<=97):0<=x*y/\x*y<=9409:=zcI z B D E
def pS(w D:aa)(z:Nat)(p:Int)(s:Sy)(X:List cZ)(a c:Nat)(ce:cU w)(h:fc 116 w D z p s X)(B:s.Ok p)(J:a<s.rows.length)(H:(c:Int)<s.v+s.h)(b1:fB s a c≠0)(cI:X.length<=900000):ax 128 (wy (aX z) a c) D fun e w'=>e=.returned (.tuple #[])/\fc 116 w w' z p (mW p a c (ec p (fB s a c)) s.rows (s,X)).1 (mW p a c (ec p (fB s a c)) s.rows (s,X)).2/\Below z D w':=by
 have c8:=B.small.n;have cr:=Sys.p2 B;have c9:=Sys.p97 B;have am:=nR B J H;obtain⟨F,O⟩:=aK (fB s a c);rw[<-O]at am b1 ⊢;have bv:1<=F:=Ry;have bz:F<p:=am.2;have a8:=zH (Sys.f B);obtain⟨a1,cz,cF⟩:=iW a8 bv bz;obtain⟨iv,b0⟩:=aK (ec p F);have bd:=zH (fun(W:aa)=>(oJ p F _ a8 bv bz:ax 129 (bI p F) W _));rw[<-b0]at bd a1 cz cF ⊢;have IX:=zH a1;obtain⟨bi,g,o,ab,a2,n2,c2,a3,b6,b7,a4,a5,ci,co,z2⟩:=h.cells B J H;rw[<-O]at z2;obtain⟨HE,a9,b9⟩:=dD O h B;have c4:=h.lt;clear a1 O b0 am h B b1;have f0:∀W:Ext D,af W.W z 0 (zI p):=fun W=>W.cell a3
 have f3:∀W:Ext D,af W.W z 3 (.slice (some ⟨g,o,none⟩) s.rows bi):=fun W=>W.cell a4
 have cb:∀W:Ext D,af W.W g (o+a) (.slice (some ⟨ab,a2,none⟩) n2 c2):=fun W=>W.cell a5
 have cc:∀W:Ext D,af W.W ab (a2+c) (zI F):=fun W=>W.cell z2
 have cO:(a:Int) < (s.rows:Int):=Ry;have c0:(c:Int) < (n2:Int):=Ry;have cK:(0:Int)<=(a:Int):=Ry;have cR:(0:Int)<=(c:Int):=Ry;clear a3 b6 b7 a4 a5 z2;go_enter func128,ntmps128
 go_wp2;refine bM RU RU ?_
 repeat (go_big_quiet_step ((go_at_call 129;exact Calls.cC (bd.o _))))
 refine dm ?_;rintro _ ⟨W,rfl⟩;obtain⟨T,Z⟩:=bL W.ok (a9.ext W.ok);have b5:=f3 W;obtain⟨dl,b3⟩:=aK W.W;rw[<-b3]at T Z b5 ⊢;clear f0 f3 cb cc b3 a9;go_wp2;clear b5;go_loopw [31] (fun i wr=>∃k:Nat,k<=s.rows.length/\i=.int .i64 k/\fc 116 w wr z p (mW p a c iv k (s,X)).1 (mW p a c iv k (s,X)).2/\Below z D wr)
  (fun i _=>s.rows.length-(intOf i).toNat)
 case atStart=>exact⟨0,aT _,rfl,Z,T.mono Ry⟩
 case round=>
  obtain⟨k,cj,rfl,Q,bo⟩:=hrel;clear Z T;have E:=sf (p:=p) (a:=a) (c:=c) (iv:=iv) (X:=X) b9 J H T1 k cj;have ao:=v_ p a c iv (s,X) k;obtain⟨t,ap⟩:=aK ((mW p a c iv k (s,X)).1);obtain⟨I,ad⟩:=aK ((mW p a c iv k (s,X)).2);rw[<-ap]at Q E;rw[<-ad]at Q ao;have ch:I.length<=1000000:=by dsimp only at ao;omega
  obtain⟨HT,IY,b8,Fb,FG,U⟩:=lq ap ad E bo Q E.ok;have ct:t.rows.length=s.rows:=E.n;have da:t.rows.length<=s.rows:=Ry;have db:s.rows.length<=t.rows:=Ry;have br:(c:Int)<t.v+t.h:=by rw[E.v,E.h];exact H
  have a7:=zH br;clear ao ap ad E bo Q ct br;by_cases cn:k<s.rows.length
  .obtain⟨bi,g,o,ab,a2,n2,c2,a3,b6,b7,a4,a5,ci,co,z2⟩:=FG.cells U.o (Ry:k<t.rows.length) a7;have b4:=nR U.o (Ry:k<t.rows.length) a7;have R:=uY (p:=p) (a:=a) (c:=c) (iv:=iv) cr J H T1 b8 cn;obtain⟨x,a0⟩:=aK (fB t k c);have bp:mW p a c iv (k+1) (s,X)=if k≠a/\x≠0 then push p (t,I) ⟨3,a,k,(-(x*iv))%p,[]⟩ else(t,I):=by rw[a0,HT.o,IY.o];rfl
   unfold DK at R;rw[<-a0]at z2 b4 R;obtain⟨cu,dc⟩:=b4;obtain⟨IU,bb⟩:=bL bp R;clear a0 bp R;by_cases IW:k=a
   .exact Zc
   .have Et:((k:Int)!=(a:Int))=true:=RX;have IV:=zH IW;clear IW;by_cases hz:x=0
    .exact Y_
    .have Fg:(x !=0)=true:=RJ;obtain⟨ba,HZ⟩:=bL ((bb.1 ⟨IV,hz⟩).1) hz;have c7:=zeP cu (Ry:x<=97) (Ry:0<=iv) (Ry:iv<=97);obtain⟨a6,ac⟩:=aK ((-(x*iv))%p);rw[<-ac]at IU ba;clear hz bb;have be:=zH (Dc p (-x*iv) wr Ry Ry R6 R6);rw[show(-x*iv)%p=a6 by rw[lN,ac]]at be;have c5:-1000000<=-x*iv:=R6;have c6:-x*iv<=1000000:=R6;have ca:=zH (oz w wr z p t I 3 a k a6 ce FG U.o ba ch);clear ac;go_wp2_with (first|(go_at_call 143;refine be.mono ?_;rintro e dT ⟨rfl,rfl⟩)|(go_at_call 127;refine ca.mono ?_;rintro e d0 ⟨rfl,b2,bm⟩;have FD:=zH b2;have Eu:=zH bm;clear b2 bm))
     exact YT
  .exact Yz
def pT(w D:aa)(z:Nat)(p:Int)(s:Sy)(X:List cZ)(a c:Nat)(h:fc 119 w D z p s X)(B:s.Ok p)(J:a<s.rows.length)(I:(c:Int)<s.v+s.h)(b2:fB s a c≠0)(c0:X.length<=900000):ax 102 (wy (aX z) a c) D fun e w'=>e=.returned (.tuple #[])/\fc 119 w w' z p (mW p a c (ec p (fB s a c)) s.rows (s,X)).1 (mW p a c (ec p (fB s a c)) s.rows (s,X)).2/\Below z D w':=by
 have c9:=B.small.n;have R:=Sys.p2 B;have b3:=Sys.p97 B;have Q:=nR B J I;obtain⟨E,O⟩:=aK (fB s a c);rw[<-O]at Q b2 ⊢;have cr:0<=E:=Q.1;have ct:1<=E:=Ry;have b0:E<p:=Q.2;have cc:=zH (Sys.f B);obtain⟨a4,cK,cO⟩:=iW cc ct b0;obtain⟨iv,b1⟩:=aK (ec p E);have bm:=zH (fun(W:aa)=>(so p E _ R b3 cr b0:ax 103 (bI p E) W _));rw[<-b1]at bm a4 cK cO ⊢;have IX:=zH a4;obtain⟨bo,g,o,am,a5,n2,c2,Z,b8,b9,a6,a7,co,cF,z2⟩:=h.cells B J I;rw[<-O]at z2;obtain⟨HE,bd,ce⟩:=dD O h B;have c8:=h.lt;clear a4 O b1 Q h B b2;have f0:∀W:Ext D,af W.W z 0 (zI p):=fun W=>W.cell Z
 have f3:∀W:Ext D,af W.W z 3 (.slice (some ⟨g,o,none⟩) s.rows bo):=fun W=>W.cell a6
 have ci:∀W:Ext D,af W.W g (o+a) (.slice (some ⟨am,a5,none⟩) n2 c2):=fun W=>W.cell a7
 have cj:∀W:Ext D,af W.W am (a5+c) (zI E):=fun W=>W.cell z2
 have c5:(a:Int) < (s.rows:Int):=Ry;have c7:(c:Int) < (n2:Int):=Ry;have c4:(0:Int)<=(a:Int):=Ry;have c6:(0:Int)<=(c:Int):=Ry;clear Z b8 b9 a6 a7 z2;go_enter func102,ntmps102
 go_wp2;refine bM RU RU ?_
 repeat (go_big_quiet_step ((go_at_call 103;exact Calls.cC (bm.o _))))
 refine dm ?_;rintro _ ⟨W,rfl⟩;obtain⟨ab,ad⟩:=bL W.ok (bd.ext W.ok);have b7:=f3 W;obtain⟨dT,b5⟩:=aK W.W;rw[<-b5]at ab ad b7 ⊢;clear f0 f3 ci cj b5 bd;go_wp2;clear b7;go_loopw [31] (fun i wr=>∃k:Nat,k<=s.rows.length/\i=.int .i64 k/\fc 119 w wr z p (mW p a c iv k (s,X)).1 (mW p a c iv k (s,X)).2/\Below z D wr)
  (fun i _=>s.rows.length-(intOf i).toNat)
 case atStart=>exact⟨0,aT _,rfl,ad,ab.mono Ry⟩
 case round=>
  obtain⟨k,cu,rfl,T,br⟩:=hrel;clear ad ab;have F:=sf (p:=p) (a:=a) (c:=c) (iv:=iv) (X:=X) ce J I T1 k cu;have a0:=v_ p a c iv (s,X) k;obtain⟨t,a2⟩:=aK ((mW p a c iv k (s,X)).1);obtain⟨H,ap⟩:=aK ((mW p a c iv k (s,X)).2);rw[<-a2]at T F;rw[<-ap]at T a0;have cn:H.length<=1000000:=by dsimp only at a0;omega
  obtain⟨HT,IY,cb,Fb,FG,ac⟩:=lq a2 ap F br T F.ok;have cI:t.rows.length=s.rows:=F.n;have da:t.rows.length<=s.rows:=Ry;have db:s.rows.length<=t.rows:=Ry;have bz:(c:Int)<t.v+t.h:=by rw[F.v,F.h];exact I
  have ba:=zH bz;clear a0 a2 ap F br T cI bz;by_cases cz:k<s.rows.length
  .obtain⟨bo,g,o,am,a5,n2,c2,Z,b8,b9,a6,a7,co,cF,z2⟩:=FG.cells ac (Ry:k<t.rows.length) ba;have b6:=nR ac (Ry:k<t.rows.length) ba;have U:=uY (p:=p) (a:=a) (c:=c) (iv:=iv) R J I T1 cb cz;obtain⟨x,a3⟩:=aK (fB t k c);have bv:mW p a c iv (k+1) (s,X)=if k≠a/\x≠0 then push p (t,H) ⟨3,a,k,(-(x*iv))%p,[]⟩ else(t,H):=by rw[a3,HT.o,IY.o];rfl
   unfold DK at U;rw[<-a3]at z2 b6 U;obtain⟨dc,dl⟩:=b6;obtain⟨IU,bi⟩:=bL bv U;clear a3 bv U;by_cases IW:k=a
   .exact Zc
   .have Et:((k:Int)!=(a:Int))=true:=RX;have IV:=zH IW;clear IW;by_cases hz:x=0
    .exact Y_
    .have Fg:(x !=0)=true:=RJ;obtain⟨be,HZ⟩:=bL ((bi.1 ⟨IV,hz⟩).1) hz;obtain⟨a8,ao⟩:=aK ((-(x*iv))%p);rw[<-ao]at IU be;clear hz bi;have ca:=zH (fun W=>nJ p x iv W Ry Ry Ry Ry Ry Ry);have a1:=zE (p:=p) (x:=x*iv) R;have a9:=zH (fun W=>sl p ((x*iv)%p) W R b3 a1.1 a1.2);have bb:(p-x*iv%p)%p=a8:=by rw[ao];exact zhB Ry
     rw[bb]at a9;have ch:=zH (fun W (h:fc 119 w W z p t H)=>oA w W z p t H 3 a k a8 h ac be cn);clear ao bb a1;go_upto_region 6 with(fail)
     refine bk (S:=fun W=>af W z 0 (zI p)) 16 RU Z (fun hHeld=>?_);refine ay 0 ?_;refine ay 1 ?_;refine ay 2 ?_;refine ay 3 ?_;refine ay 4 ?_;refine ay 5 ?_;refine ay 6 ?_;refine ay 7 ?_;refine ay 8 ?_;refine ay 9 ?_;refine ay 10 ?_;refine ay 11 ?_;refine ay 12 ?_;refine bu 13 fun K hK=>?_
     go_simp;refine(ca.o _).mono ?_;rintro e cR ⟨rfl,rfl⟩;go_simp;refine hK.out _ _ (fun _=>hHeld) (fun hHeld=>?_);clear hK K;try simp only[Act.put,zA]
     have hHeld:=hHeld RC;refine bu 14 fun K hK=>?_
     go_simp;refine(a9.o _).mono ?_;rintro e cR ⟨rfl,rfl⟩;go_simp;refine hK.out _ _ (fun _=>hHeld) (fun hHeld=>?_);clear hK K;try simp only[Act.put,zA]
     have hHeld:=hHeld RC;refine ay 15 ?_;refine bu 16 fun K hK=>?_
     go_simp;refine(ch.o _ (FG.ext (ai _ _).drew)).mono ?_;rintro e d0 ⟨rfl,b4,bp⟩;obtain⟨FD,Eu⟩:=bL b4 ((show Below z wr wr.drew from⟨rfl,rfl,rfl,ah _,fun _ _=>rfl⟩).trans bp);clear b4 bp;go_simp;refine hK.out _ _ (fun h=>absurd h RC) (fun _=>?_);clear hK K hHeld;try simp only[Act.put,zA]
     refine dS RU ?_ _;go_wp2;exact YT
  .exact Yz
end Go.Proofs.YtdpgblncijojiaaGreatDoor
