/- Parts of the walks. Conditions: as stated with each. -/
import Derived.Test.YtdpgblncijojiaaGreatDoorPk3
namespace Go.Proofs.YtdpgblncijojiaaGreatDoor
open Go.RowKit Tryz
set_option linter.all false
set_option maxHeartbeats 2000000
set_option maxRecDepth 100000
variable{D b i m:Nat}{H v v' y:av}{Q:iF}{R:ir}{W w w':aa}{a:Act}{o:ie}{row:Option Nat}{t:dE}{us:bN}{xs:aH}
structure Code where
 A:Option Addr
 n:Nat
 c:Nat
variable{C:Code}
def m_(w:aa)(A:aq)(n:Nat):Prop:=∀k,k<n->∃(a o x:Nat),A=some ⟨a,o,none⟩/\x<256/\af w a (o+k) (.int .u8 x)
structure cy(C:Code)(b m:Nat)(w:aa):Prop where
 box:∃(i:Nat) (s:Int),aW w b #[.slice C.A C.n C.c,.int .i64 i,.int .u64 s] 71/\i<=m
 bytes:m_ w C.A C.n
 low:∀a,C.A=some a->a.block<b
 n20:C.n<=1048576
section
variable{C:Code}{b m m':Nat}{w w':aa}
def cy.lt(h:cy C b m w):b < (w:Nat):=by obtain⟨i,s,h,_⟩:=h.box;exact(aP.1 h).1
def gX{p:dw}(h:W.heap[p.block]?=w.heap[p.block]?)(z:w.cell? p=some v):W.cell? p=some v:=by rw[<-z];unfold World.cell?;rw[h]
def cy.oD(h:cy C b m w)(B:∀k,k<=b->w'.heap[k]?=w.heap[k]?):cy C b m w':=by obtain⟨⟨i,s,D,E⟩,F,z,H⟩:=h;refine⟨⟨i,s,(B b (ah _)).trans D,E⟩,fun k J=>?_,z,H⟩;obtain⟨a,o,x,e,O,I⟩:=F k J;have:=z _ e;exact⟨a,o,x,e,O,gX (B a (by show a<=b;have:a<b:=this;omega)) I⟩
def cy.mono(h:cy C b m w)(H:m<=m'):cy C b m' w:=by obtain⟨⟨i,s,z,F⟩,B,D,E⟩:=h;exact⟨⟨i,s,z,Ry⟩,B,D,E⟩
def cy.below(h:cy C b m w)(z:Below D w w')(B:b<D):cy C b m w':=h.oD fun k E=>z.block k Ry
def cy.ext(h:cy C b m w)(z:aj w w'):cy C b m w':=h.below z h.lt
def cy.grown(h:cy C b m w)(z:w.grownBy w' row)(B:∀g,row=some g->b<g):cy C b m w':=h.oD fun k D=>z.block k (by have:=h.lt;omega) fun e=>by have:=B k e.symm;omega
end
def kQ(C:Code)(b k:Nat)(P:World->Value->Prop)(w:aa)(e:Ending)(w':aa):Prop:=∃v,e=.returned v/\P w' v/\cy C b k w'/\w.grownBy w' (some b)
def vB(w:aa)(row:Option Nat):w.grownBy w row:=⟨rfl,rfl,rfl,ah _,fun _ _ _=>rfl⟩
def aN{w w':aa}(h:aj w w'):w.grownBy w' row:=⟨h.os,h.tape,h.output,h.size,fun k z _=>h.block k z⟩
def au.drawn{w w':aa}{b:Nat}(h:au w D v xs)(B:w.grownBy w' (some b))(F:b<D):au w' D v xs:=
 h.kept B (by
  cases e:v.ownBlock with
  |none=>exact aG rfl
  |some g=>exact aB fun z=>by have:=(h.lt g e).1;have E:=eE z;omega)
section
open Go.Proofs.Tryz Go.ChangeShapes Go.WideShapes Go.ChangeAt Go.Deep Go.Joins
def own:ownKnob prog.godebug=none:=RU
def laidOut:laidOutB prog=true:=RU
def zgH:prog.cellsOf 3=1:=RU
section
variable{H:Type}{enc:TypeId×Value->H}{W:aa}
end
end
section
open Go.Proofs.Tryz Go.ChangeShapes Go.WideShapes Go.ChangeAt
def zeQ:prog.cellsOf 5=1:=RU
section
variable{H:Type}{enc:TypeId×Value->H}{W:aa}
def zgG{x:TypeId×Nat}(h:w.shape? b=some x):b < (w:Nat):=by
 rcases pj b w with z|z
 .exact z
 .unfold World.shape? at h;rw[pn z]at h;simp at h
def zaY{d:DataW H}{p:List MemPlace}(B:Value.okWide prog W .any D 22 v)(h:DataW.Trod enc prog W 0 (fun _=>true) true 22 v d p):∃(A:aq) (n cap:Nat),v=.slice A n cap/\m_ W A n/\∀a,A=some a->a.block < (W:Nat):=by
 obtain⟨A,n,cap,rfl⟩:=okWide_slice underlying22 B;refine⟨A,n,cap,rfl,?_,?_⟩
 .obtain⟨ac,O⟩:=h;rcases open_ints underlying22 underlying5 zeQ O with⟨z,_⟩|⟨a,ap,ab,E,z,_,am,ao,U,_,I,T⟩
  .simp[Value.cells]at z;obtain⟨rfl,rfl,rfl⟩:=z;exact fun k J=>absurd J (Nat.not_lt_zero _)
  .simp[Value.cells]at z;obtain⟨rfl,rfl,rfl⟩:=z;simp only[jo]at U;intro k J;obtain⟨b,o,Z⟩:=a;have R:Z=none:=by simpa[Addr.add]using World.cell?_spot (I 0 Ry)
   subst R;have F:=I k Ry;have ad:=range_u8 T k;rw[bg,add_plain]at F;exact⟨b,o,(E[k]?.getD 0).toNat,rfl,Ry,by rw[F,show(((E[k]?.getD 0).toNat:Nat):Int)=E[k]?.getD 0 by omega]⟩
 .rintro a rfl;simp only[Value.okWide,underlying22,Cell.okWide,Cell.ok]at B;obtain⟨_,_,_,_,r,cs,Q,_⟩:=B;exact zgG Q
end
end
def a_.form{rows:aC}(h:a_ w D v rows us)(z:0<rows.length):∃g cap,v=.slice (aX g) rows cap/\D<=g/\g < (w:Nat):=h.outer.form z
def zb9(a b p v h:Int)(A:aq)(cap:Nat)(rows:aC)(w:aa)(O:aL w A rows)(bd:rows.length<=160)(Ew:∀r∈rows,r.length<=1000)(a6:0<=a)(a7:a<rows.length)(a9:0<=b)(ba:b<rows.length)(a8:a≠b):ax 207 (eL (bI a b) p (ae v h A rows cap)) w fun e w'=>∃u,e=.returned (.agg (dz v h u))/\aI w' w u ((rows.set a.toNat (rows.getD b.toNat [])).set b.toNat (rows.getD a.toNat []))/\aj w w':=by
 obtain⟨ra,EW⟩:=aw (Ry:a.toNat<rows.length);obtain⟨rb,Fm⟩:=aw (Ry:b.toNat<rows.length);obtain⟨HA,HB,Z,ab⟩:=fS (TI:rows.getD a.toNat []=ra) (TH:rows.getD b.toNat []=rb) (Ry:rows.length<=1048576) (show ∀r∈rows,r.length<=1048576 from fun r hr=>TZ);clear Ew;go_enter func207,ntmps207
 go_wp2_with fail
 refine(lL _ _ _ _ _ _ (O.ext (((ai _ _).alloc Rx _ |>.alloc Rx _).alloc Sn _)) Z ab).mono ?_;rintro e D ⟨u,rfl,⟨us,E⟩,F⟩;obtain⟨g,EV,rfl,a0,bb⟩:=E.form Ry;simp only[cx]at a0;obtain⟨J,a3,B⟩:=cv w (.cells (bI a b) 130) (.cells (ae v h A rows cap) 26) (.cells aQ 26);have a2:=F.size;simp only[cx]at a2;obtain⟨be,E_,R⟩:=E.get EW;obtain⟨bi,I,T⟩:=E.get Fm;obtain⟨Aa,ca,rfl,_⟩:=R.view;obtain⟨Ab,cb,rfl,_⟩:=T.view;go_wp2;obtain⟨W2,Er⟩:=aK (D.alloc (.cells (ae v h (aX g) rows EV) 26));rw[<-Er];have H:aj D W2:=VH;have z:=bQ F H;have Q:aW W2 D (ae v h (aX g) rows EV) 26:=Um;have E9:=E.ext H;have y0:=zfR z J 0;have y1:=zfR z J 1;obtain⟨a4,a5,x2⟩:=bU Q;have r0:=zfR z B 0;have r1:=zfR z B 1;have r2:=zfR z B 2;have s0:=zin z B 0;have s1:=zin z B 1;have s2:=zin z B 2;simp only[dg,cT]at y0 y1 a4 a5 x2 r0 r1 r2;have z0:af W2 g a.toNat (.slice Aa ra ca):=VD;have z1:af W2 g b.toNat (.slice Ab rb cb):=by rw[E9.outer.cellAt _ Ry,I]
 have f0:=E9.outer.frozenAt a.toNat;have f1:=E9.outer.frozenAt b.toNat;obtain⟨am,U,ac,ad,ao,ap⟩:=lq E9 z EW Fm E_ I;clear E F EW Fm E_ I R T O E9 z H Q J a3 B Er;have Ji:∀W5,W5=((W2.setCell ⟨g,a.toNat,none⟩ (.slice Ab rb cb)).setCell ⟨g,b.toNat,none⟩ (.slice Aa ra ca)).drew->
   af W5 D 0 (zI v)/\af W5 D 1 (zI h)/\af W5 D 2 (.slice (aX g) rows EV)/\
   af W5 ((w:Nat)+1+1) 0 (zI 0)/\af W5 ((w:Nat)+1+1) 1 (zI 0)/\af W5 ((w:Nat)+1+1) 2 (.slice none 0 0)/\
   W5.frozen? ⟨(w:Nat)+1+1,0,none⟩=false/\W5.frozen? ⟨(w:Nat)+1+1,1,none⟩=false/\W5.frozen? ⟨(w:Nat)+1+1,2,none⟩=false/\
   aI W5 ((w:Nat)+3) (.slice (aX g) rows EV) ((rows.set a.toNat rb).set b.toNat ra)/\aj w W5:=by
  rintro W5 rfl;have a1:=am.swap rfl ao.o ap.o ac.o ad.o;refine⟨?_,?_,?_,?_,?_,?_,by simpa using s0,by simpa using s1,by simpa using s2,⟨_,a_.mono (a1.ext (ai _ _).drew) Sn⟩,((kA ((below_alloc3 w _ _ _).trans (U.o.mono (B':=w.heap.size) Sn)) Sn _).setCell Sn _).drew⟩
  all_goals refine(cD (w:=W2.setCell _ _) Sn).trans ((cD Sn).trans ?_)
  all_goals assumption
 refine zk (S:=fun w'=>af w' w 0 (zI a)/\af w' w 1 (zI b)/\af w' D 2 (.slice (aX g) rows EV)) RU RI (fun hHeld=>?_);refine cE 0 ?_;refine cE 1 ?_;refine cE 2 ?_;refine cE 3 ?_;refine cE 4 ?_;refine cE 5 ?_;refine cE 6 ?_;refine cE 7 ?_;refine cE 8 ?_;refine cE 9 ?_;refine cE 10 ?_;refine cE 11 ?_;refine cE 12 ?_;refine cE 14 ?_;refine cE 15 ?_;refine cE 16 ?_;refine cE 17 ?_;refine cE 18 ?_;refine fK (rs:=[13,19]) RU Rx ?_;refine i_ rfl (fun K hK=>?_) (i_ rfl (fun K hK=>?_) fL)
 .go_simp;refine hK.out _ _ RV (fun hHeld=>?_);clear hK K;try simp only[Act.put,zA]
  refine fK (rs:=[19]) RU Rx ?_;exact Z7
 .go_simp;refine hK.out _ _ RV (fun hHeld=>?_);clear hK K;try simp only[Act.put,zA]
  refine fK (rs:=[13]) RU Rx ?_;exact Z7
def cQ{K:oS}{O:Prop}(ac:o.guard=none)(s x:kE)(H:o.op=.call {callee:=.builtin .append,args:=#[s,x],argTypes:=#[27,27]})(z:Nat)(W:aa)(v:av)(xs ys:aH)(A:aq)(m c:Nat)(am:m=ys.length)(I:a.eval s=v)(D:a.eval x=.slice A m c)(Es:au W z v xs)(Fs:aU W A ys)(a6:xs.length+m<=1099511627776)(E:z<=(W:Nat))(h:∀v' w',au w' z v' (xs++ys)->Below z W w'->K (a.put o.dst v') w'):if Region.wanted o (yielded Q a.tmps)=true then Oper.wp prog o a W K R else O:=by
 rw[ar (by simp[Region.wanted,ac]:Region.wanted o (yielded Q a.tmps)=true)];subst am;obtain⟨J,hi,a1,a2,a3⟩:=cM fq;cases A with
 |none=>
  have B:ys=[]:=WT;subst B;have ap:=jx (P:=prog) (w:=W) z 27 o.type 3 J 1 dA hi v _ c _ Es;unfold Oper.wp;simp only[h_]at D;simp[execOp,H,resolve,invoke,builtin,I,D,ap,Result.andThen];exact h v W SG (ai _ _)
 |some T=>
  obtain⟨v',w',ao,U,Z,a4,a5⟩:=run_append_own_at (P:=prog) W z 27 o.type 3 J (zI 0) 1 8 dA hi a1 a2 a3 rfl RC v _ _ Es T ys c (ys.map (Value.int .i64)) Rx (by
   intro j u F;rw[bR]at F;obtain⟨y,B,rfl⟩:=o_.1 F;rcases Fs with h|⟨b,o,h,ab⟩
   .simp[h]at B
   .cases h;rw[dy];exact ab j y B) (by
   intro u a0;obtain⟨y,_,rfl⟩:=cd.1 a0;rfl) TB Ry E
  unfold Oper.wp execOp;simp only[H,resolve,invoke,builtin,Sem.run_bind,Sem.run_pure,Result.andThen_ok,List.map_toArray,List.map_cons,List.map_nil,I,D,ao];exact h v' w' (by simpa[au]using U) ((ai _ _).grown Z E fun k ad=>(b_ Es k ad).1)
def pK{x:av}(h:aW w b #[x,y,H] t):(af w b 0 x/\af w b 1 y/\af w b 2 H)/\w.frozen? ⟨b,0,none⟩=false/\w.frozen? ⟨b,1,none⟩=false/\w.frozen? ⟨b,2,none⟩=false:=by simp[World.cell?,World.frozen?,h]
def zcZ{x:av}(h:aW W b #[x,y,H] t):((W.setCell ⟨b,1,none⟩ v).setCell ⟨b,2,none⟩ v').heap[b]?=some (.cells #[x,v,v'] t (0,0)):=by have z:=bw W b 1 _ _ v h;have B:=bw _ b 2 _ _ v' z;simpa using B
def Cd(v v':av):W.grownBy ((W.setCell ⟨b,1,none⟩ v).setCell ⟨b,2,none⟩ v') (some b):=⟨rfl,rfl,rfl,Rx,fun k _ z=>(bx _ _ _ _ (fun e=>z Rz)).trans (bx _ _ _ _ (fun e=>z Rz))⟩
def cy.step{s:Int}(h:cy C b m w)(I:w.grownBy w' (some b))(H:aW w' b #[.slice C.A C.n C.c,.int .i64 i,.int .u64 s] 71)(hi:i<=D):cy C b D w':=by obtain⟨-,E,z,F⟩:=h;refine⟨⟨i,s,H,hi⟩,fun k J=>?_,z,F⟩;obtain⟨a,o,x,e,O,B⟩:=E k J;have:=z _ e;exact⟨a,o,x,e,O,gX (I.block a (iK _ _ B) (fun e=>by have e:=eE e;have:a<b:=this;omega)) B⟩
def zf1{S:Int}(B:0<=S)(D:S<18446744073709551616):∃r:Nat,wrap64 (bits .and .u64 (S / 1099511627776) 255)=(r:Int)/\r<256:=by have e:=u64_and (S / 1099511627776) 255 Ry Ry RC RC;have z:(S / 1099511627776).toNat&&& (255:Int).toNat<=255:=Nat.and_le_right;refine⟨_,?_,Nat.lt_of_le_of_lt z RC⟩;rw[e];unfold wrap64;omega
def jX(w:aa)(row:Option Nat):w.grownBy w.drew row:=⟨rfl,rfl,rfl,ah _,fun _ _ _=>rfl⟩
def zf2(C:Code)(b m:Nat)(w:aa)(T:cy C b m w)(a1:m<=1099511627776):ax 118 #[.pointer (aX b)] w (kQ C b (m+1) (fun _ v=>∃r:Nat,v=.int .i64 r/\r<256) w):=by
 have Q:=zH T;obtain⟨⟨i,s,J,hi⟩,O,Z,ac⟩:=T;obtain⟨A,n,c⟩:=C;dsimp only at J O Z ac;obtain⟨⟨z,c1,c2⟩,f0,f1,f2⟩:=pK J;by_cases ab:i<n
 .obtain⟨a,o,x,rfl,ap,U⟩:=O i ab;have ao:IntKind.i64.wrap ((i:Int)+1)=(i:Int)+1:=Sq;have a2:IntKind.i64.wrap (x:Int)=(x:Int):=Sq;go_enter func118,ntmps118
  go_wp2;go_region_held3 (fun V=>af V b 0 (.slice (some ⟨a,o,none⟩) n c)/\af V b 1 (zI (i:Nat)))
   (first|exact⟨z,c1⟩)
   ((fail))
  have d0:af w.drew b 0 (.slice (some ⟨a,o,none⟩) n c):=z;have d1:af w.drew b 1 (zI (i:Nat)):=c1;have d3:af w.drew a (o+i) (.int .u8 (x:Nat)):=U;go_upto_region 3 with(fail)
  go_region_held3 (fun V=>af V b 0 (.slice (some ⟨a,o,none⟩) n c)/\af V b 1 (zI (i:Nat))/\af V a (o+i) (.int .u8 (x:Nat)))
   (first|exact⟨d0,d1,d3⟩)
   ((fail))
  go_upto_region 4 with(fail)
  obtain⟨W,I⟩:=aK w.drew.drew;rw[<-I];have F:w.grownBy W (some b):=by subst I;exact⟨rfl,rfl,rfl,ah _,fun _ _ _=>rfl⟩
  have B:aW W b #[.slice (some ⟨a,o,none⟩) n c,.int .i64 (i:Nat),.int .u64 s] 71:=by subst I;exact J
  have a0:m_ W (some ⟨a,o,none⟩) n:=by subst I;exact O
  clear I z c1 c2 f0 f1 f2 d0 d1 d3;obtain⟨⟨z,c1,c2⟩,f0,f1,f2⟩:=pK B;go_upto_region 6 with(fail)
  obtain⟨S,H⟩:=aK (IntKind.u64.wrap (IntKind.u64.wrap (IntKind.u64.wrap (s*6364136223846793005)+(x:Int))+1442695040888963407));rw[<-H];have E:=zcZ (v:=.int .i64 ((i:Int)+1)) (v':=.int .u64 S) B;have D:=F.trans (Cd (W:=W) (b:=b) (zI ((i:Int)+1)) (.int .u64 S));generalize ((W.setCell ⟨b,1,none⟩ _).setCell ⟨b,2,none⟩ _)=V at E D ⊢;clear H z c1 c2 f0 f1 f2 B F;obtain⟨⟨z,c1,c2⟩,f0,f1,f2⟩:=pK E;go_region_held3 (fun V=>af V b 0 (.slice (some ⟨a,o,none⟩) n c)/\af V b 1 (zI ((i:Int)+1)))
   (first|exact⟨z,c1⟩)
   ((fail))
  go_wp2;go_ret
  exact⟨_,rfl,⟨x,rfl,ap⟩,Q.o.step (i:=i+1) (D.trans (jX _ _)) E Ry,D.trans (jX _ _)⟩
 .have ao:IntKind.i64.wrap ((i:Int)+1)=(i:Int)+1:=Sq;go_enter func118,ntmps118
  go_wp2;go_region_held3 (fun V=>af V b 0 (.slice A n c)/\af V b 1 (zI (i:Nat)))
   (first|exact⟨z,c1⟩)
   ((fail))
  go_upto_region 4 with(fail)
  have B:aW w.drew b #[.slice A n c,.int .i64 (i:Nat),.int .u64 s] 71:=J;have F:=jX w (some b);generalize w.drew=W at B F ⊢;clear z c1 c2 f0 f1 f2;obtain⟨⟨z,c1,c2⟩,f0,f1,f2⟩:=pK B;go_upto_region 6 with(fail)
  obtain⟨S,H⟩:=aK (IntKind.u64.wrap (IntKind.u64.wrap (IntKind.u64.wrap (s*6364136223846793005))+1442695040888963407));rw[<-H];have E:=zcZ (v:=.int .i64 ((i:Int)+1)) (v':=.int .u64 S) B;have D:=F.trans (Cd (W:=W) (b:=b) (zI ((i:Int)+1)) (.int .u64 S));generalize ((W.setCell ⟨b,1,none⟩ _).setCell ⟨b,2,none⟩ _)=V at E D ⊢;have R:0<=S/\S<18446744073709551616:=by rw[H,IntKind.wrap_u64];omega
  clear H z c1 c2 f0 f1 f2 B F;obtain⟨r,ad,am⟩:=zf1 R.1 R.2;obtain⟨⟨z,c1,c2⟩,f0,f1,f2⟩:=pK E;go_region_held3 (fun V=>af V b 0 (.slice A n c)/\af V b 1 (zI ((i:Int)+1)))
   (first|exact⟨z,c1⟩)
   ((fail))
  have d2:af V.drew b 2 (.int .u64 S):=c2;go_wp2;go_ret
  exact⟨_,by rw[<-ad];rfl,⟨r,rfl,am⟩,Q.o.step (i:=i+1) (D.trans (jX _ _)) E Ry,D.trans (jX _ _)⟩
end Go.Proofs.YtdpgblncijojiaaGreatDoor
