/- Parts of the walks. Conditions: as stated with each. -/
import Derived.Test.YtdpgblncijojiaaGreatDoorPk28
import Derived.Test.YtdpgblncijojiaaGreatDoorPk37
namespace Go.Proofs.YtdpgblncijojiaaGreatDoor
open Go.RowKit Tryz
set_option linter.all false
set_option maxHeartbeats 2000000
set_option maxRecDepth 100000
variable{A:aq}{c k n:Nat}{p:Int}{w:aa}
structure O4(B:Nat)(V:aa)(v1 v2 v3 v4:av)(l1 l2 l3 l4:aH):Prop where
 o1:bP 3 1 EI V B v1 l1
 o2:bP 3 1 EI V B v2 l2
 o3:bP 3 1 EI V B v3 l3
 o4:bP 3 1 EI V B v4 l4
 d12:∀g,v1.ownBlock=some g->v2.ownBlock≠some g
 d13:∀g,v1.ownBlock=some g->v3.ownBlock≠some g
 d14:∀g,v1.ownBlock=some g->v4.ownBlock≠some g
 d23:∀g,v2.ownBlock=some g->v3.ownBlock≠some g
 d24:∀g,v2.ownBlock=some g->v4.ownBlock≠some g
 d34:∀g,v3.ownBlock=some g->v4.ownBlock≠some g
 le:B<=(V:Nat)
section
variable{B:Nat}{V V' w8:aa}{v1 v2 v3 v4:av}{l1 l2 l3 l4 l:aH}{o:Obj}{g n cap:Nat}
def O4.nil(h:B<=(V:Nat)):O4 B V (.slice none 0 0) (.slice none 0 0) (.slice none 0 0) (.slice none 0 0) [] [] [] []:=⟨bP.nil ..,bP.nil ..,bP.nil ..,bP.nil ..,nofun,nofun,nofun,nofun,nofun,nofun,h⟩
def O4.ext(h:O4 B V v1 v2 v3 v4 l1 l2 l3 l4)(z:aj V V'):O4 B V' v1 v2 v3 v4 l1 l2 l3 l4:=⟨h.o1.ext z,h.o2.ext z,h.o3.ext z,h.o4.ext z,h.d12,h.d13,h.d14,h.d23,h.d24,h.d34,bE h.le z.size⟩
def O4.set(h:O4 B V v1 v2 v3 v4 l1 l2 l3 l4){a:dw}(z:a.block<B)(u:av):O4 B (V.setCell a u) v1 v2 v3 v4 l1 l2 l3 l4:=⟨h.o1.setCell z u,h.o2.setCell z u,h.o3.setCell z u,h.o4.setCell z u,h.d12,h.d13,h.d14,h.d23,h.d24,h.d34,by simpa using h.le⟩
def O4.sw(h:O4 B V v1 v2 v3 v4 l1 l2 l3 l4):O4 B V v2 v1 v3 v4 l2 l1 l3 l4:=⟨h.o2,h.o1,h.o3,h.o4,lH h.d12,h.d23,h.d24,h.d13,h.d14,h.d34,h.le⟩
def O4.rot(h:O4 B V v1 v2 v3 v4 l1 l2 l3 l4):O4 B V v3 v4 v1 v2 l3 l4 l1 l2:=⟨h.o3,h.o4,h.o1,h.o2,h.d34,lH h.d13,lH h.d23,lH h.d14,lH h.d24,h.d12,h.le⟩
def O4.app(h:O4 B V v1 v2 v3 v4 l1 l2 l3 l4)(D:(V.alloc o).grownBy w8 v1.ownBlock)(z:v1.ownBlock=some g∨g=(V.alloc o:Nat))(hb:Below B (V.alloc o) w8)(J:bP 3 1 EI w8 B (.slice (aX g) n cap) l):O4 B w8 (.slice (aX g) n cap) v2 v3 v4 l l2 l3 l4:=by obtain⟨E,F⟩:=kf h.o2 h.d12 D z;obtain⟨H,I⟩:=kf h.o3 h.d13 D z;obtain⟨c1,c2⟩:=kf h.o4 h.d14 D z;exact⟨J,E,H,c1,qm F,qm I,qm c2,h.d23,h.d24,h.d34,Wm⟩
end
def xk{B n:Nat}{l:aH}(h:bP 3 1 EI w B (.slice A n c) l)(z:B<=(w:Nat)):Fr w B w (fun W=>aU W A l):=(h.fr (fun _ _ _ _ _ h=>h) z).imp fun W h=>vH h
def zif{a b:Gr}(D:a.okB=true)(E:b.okB=true):sq (Bo a b):=by
 have g:=ze8 (Gr.nT D) (Gr.nT E);have s:=zaf D E;have e:=zaA (zr (Gr.lX D) (Gr.lX E)) (DT (Gr.lX D) (Gr.lX E));have z:Bo a b=iB (ls a b) (zcy a b):=rfl;refine⟨g.inr,?_,?_,?_,?_,fun e z=>by have:=G1.el g e z;omega⟩
 .rw[z,e]
  show ql _ _ _<=_
  have:=Dj (ls a b) (ji (ls a b).w (zcy a b)) (ls a b).w;have:=s.w;omega
 .rw[z,e];show((ls a b).es.map _).length<=_;rw[bl];exact s.es
 .rw[z,e];show((ls a b).i.map _).length<=_;rw[bl];exact s.i
 .rw[z,e];show((ls a b).o.map _).length<=_;rw[bl];exact s.o
def zig{a b:Gr}(z:a.okB=true)(D:b.okB=true):sq (pH a b):=by
 have g:=ze9 (Gr.nT z) (Gr.nT D);have F:=Gr.gx.1 z;have H:=Gr.gx.1 D;refine⟨g.inr,?_,?_,?_,?_,fun e E=>by have:=G1.el g e E;omega⟩
 .show a.w+b.w<=_;omega
 .show(jj a b).length<=_;unfold jj;rw[bS,bl];omega
 .show(a.i++b.i.map _).length<=_;rw[bS,bl];omega
 .show(a.o++b.o.map _).length<=_;rw[bS,bl];omega

def zcG{n:Nd}(h:dV n=true):n.k<15:=by
 unfold dV at h;rw[bn]at h;have h:=h.2;by_cases z:n.k=1
 .omega
 rw[ak z]at h;by_cases B:n.k=7∨n.k=13
 .omega
 rw[ak B]at h;simp only[bn,cw]at h;omega
def zJ(p:Int):∀(L z:wg) (r:aH),rT p (L++z) r=rT p z (rT p L r)
 |[],_,_=>rfl
 |q::L,z,r=>zJ p L z _
def zdE{L:wg}{q:Nat×Int}(h:L[k]?=some q):l5 p n (L.take (k+1))=(l5 p n (L.take k)).set q.1 (((l5 p n (L.take k)).getD q.1 0+q.2)%p):=by unfold l5;rw[kd h,zJ];rfl
def BE(p:Int)(n:Nat)(L:wg)(A A2:aq)(c c2:Nat)(w:aa)(bi:2<=p)(b4:p<=97)(b3:n<=4096)(b2:L.length<=4096)(a2:aU w A (bC (L.map (·.1))))(a3:aU w A2 (L.map (·.2)))(Q:∀q∈L,q.1<n/\0<=q.2/\q.2<=p):ax 135 #[p,(n:Nat),.slice A L c,.slice A2 L c2] w fun e w'=>∃g,e=.returned (.slice (aX g) n n)/\lZ w n g (l5 p n L) w'/\aj w w':=by
 obtain⟨bp,hi,a9,ba,Ev⟩:=cM fq;obtain⟨am,a0,ao,ad⟩:=fS a2 a3 Q (fun k=>AM (p:=p) (n:=n) (L:=L.take k) bi fun q z=>(Q q (qG z)).1);clear a2 a3 Q;go_enter func135,ntmps135
 go_upto_region 2 with((at_make;refine iJ _ rfl _ _ 27 rfl w.heap.size 3 bp (zI 0) 1 dA hi a9 ba .i64 .i64 n n n rfl rfl rfl rfl SB TB (ah _) ?_;intro bv T a6;rw[gl]at T;have ap:=zH T;have ac:=zH (bT a6);clear T a6))
 have ab:=zH (show lZ w n w (l5 p n (L.take 0)) bv from⟨by unfold au;rw[show l5 p n (L.take 0)=List.replicate n 0 from rfl,iU];exact ap,by show(List.replicate n (0:Int)).length=n;simp,ah _⟩);clear a9 ba Ev hi;go_wp2;go_loopw [16] (fun i wr=>∃k:Nat,k<=L.length/\i=.int .i64 k/\lZ w n w (l5 p n (L.take k)) wr/\aj w wr) (fun i _=>L.length-(intOf i).toNat)
 case atStart=>exact⟨0,aT _,rfl,ab,ac⟩
 case round=>
  obtain⟨k,b1,rfl,B,D⟩:=hrel;clear ab ap ac;by_cases R:k<L.length
  .obtain⟨⟨x,y⟩,z⟩:=aw R;obtain⟨b,o,rfl,a4⟩:=(am.ext D).here (k:=k) (by rw[bf,bl];exact R);obtain⟨bd,br,rfl,a5⟩:=(a0.ext D).here (k:=k) (by rw[bl];exact R);have bz:=a4 k (x:Int) (fk (by rw[bR,z];rfl));have O:=a5 k y (by rw[bR,z];rfl);obtain⟨a7,a8,bo⟩:=ao.o _ (aR z);dsimp only at a7 a8 bo;obtain⟨be,a1⟩:=ad k;have F:=a1 x a7;obtain⟨v,U⟩:=aw (Ry:x < (l5 p n (L.take k)).length);have Z:(l5 p n (L.take k)).getD x 0=v:=by rw[bg,U];rfl
   rw[Z]at F;have bm:0<=v:=by rw[F];exact gI _ Ry
   have b5:v<p:=by rw[F];exact gJ _ Ry
   have I:=zH (zdE (p:=p) (n:=n) z);rw[Z]at I;dsimp only at I;obtain⟨J,b0⟩:=B.at U;obtain⟨H,E,bb⟩:=dD B D (fun V=>BX p v y V Ry Ry bm Ry a8 Ry);clear a4 a5 z be a1 F U Z B D ad ao am a0;go_upto_region 5 with(fail)
   refine bk (S:=fun V=>af V w x (zI v)/\af V bd (br+k) (zI y)) 13 RU ⟨J,O⟩ (fun hHeld=>?_);refine ay 0 ?_;refine ay 1 ?_;refine ay 2 ?_;refine ay 3 ?_;refine ay 4 ?_;refine ay 5 ?_;refine ay 6 ?_;refine ay 7 ?_;refine ay 8 ?_;refine ay 9 ?_;refine ay 10 ?_;refine bu 11 fun K hK=>?_
   go_simp;refine(bb.o _).mono ?_;rintro e w' ⟨rfl,rfl⟩;go_simp;refine hK.out _ _ (fun _=>⟨J,O⟩) (fun hHeld=>?_);clear hK K hHeld;try simp only[Act.put,zA]
   refine bu 12 fun K hK=>?_
   go_simp;refine hK.out _ _ (fun _=>⟨J,O⟩) (fun hHeld=>?_);clear hK K hHeld;try simp only[Act.put,zA]
   refine bu 13 fun K hK=>?_
   go_simp;refine hK.out _ _ (fun h=>absurd h RC) (fun _=>?_);clear hK K;try simp only[Act.put,zA]
   refine dS RU ?_ _;go_wp2;go_roundw
   case rel=>
    have h:=H.o.put x ((v+y)%p);rw[<-I.o]at h;exact⟨k+1,Ry,RB,(by first|exact h|exact h.ext (aF _)),by first|exact E.o.setCell (p:=⟨w,x,none⟩) (ah _) _|exact(E.o.setCell (p:=⟨w,x,none⟩) (ah _) _).drew|exact E.o.drew.setCell (p:=⟨w,x,none⟩) (ah _) _⟩
   case measure=>simp[intOf];omega
  .rw[fO Ry]at B;obtain⟨H,E⟩:=bL B D;clear B D;go_wp2;go_ret
   exact⟨_,rfl,H.o,E.o⟩
end Go.Proofs.YtdpgblncijojiaaGreatDoor
