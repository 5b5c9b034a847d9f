/- Parts of the walks. Conditions: as stated with each. -/
import Derived.Test.YtdpgblncijojiaaGreatDoorPk2
namespace Go.Proofs.YtdpgblncijojiaaGreatDoor
open Go.RowKit Tryz
set_option linter.all false
set_option maxHeartbeats 2000000
set_option maxRecDepth 100000
variable{A RJ:an}{B D b c hi i lo m n:Nat}{E RL W w w':aa}{H R RR U u v v' v0 v1 v2 v3 v4 y z2:au}{RB RK Ry Rz:Int}{r' xs:aG}{row:Option Nat}{t:dG}{us:bG}
structure Code where
 A:Option Addr
 n:Nat
 c:Nat
variable{C:Code}
def lL(w:aa)(A:an)(n:Nat):Prop:=∀k,k<n->∃(a o x:Nat),A=some ⟨a,o,none⟩/\x<256/\ah w a (o+k) (.int .u8 x)
structure cH(C:Code)(b m:Nat)(w:aa):Prop where
 box:∃(i:Nat) (s:Int),aU w b #[.slice C.A C.n C.c,.int .i64 i,.int .u64 s] 71/\i<=m
 bytes:lL w C.A C.n
 low:∀a,C.A=some a->a.block<b
 n20:C.n<=1048576
section
variable{C:Code}{b m m':Nat}{w w':aa}
def cH.lt(h:cH C b m w):b < (w:Nat):=by obtain⟨i,s,h,_⟩:=h.box;exact(aM.1 h).1
def ik{p:dD}(h:W.heap[p.block]?=w.heap[p.block]?)(z:w.cell? p=some v):W.cell? p=some v:=by rw[<-z];unfold World.cell?;rw[h]
def cH.nR(h:cH C b m w)(D:∀k,k<=b->w'.heap[k]?=w.heap[k]?):cH C b m w':=by obtain⟨⟨i,s,E,F⟩,H,z,I⟩:=h;refine⟨⟨i,s,(D b (ag _)).trans E,F⟩,fun k O=>?_,z,I⟩;obtain⟨a,o,x,e,Q,J⟩:=H k O;have:=z _ e;exact⟨a,o,x,e,Q,ik (D a (by show a<=b;have:a<b:=this;omega)) J⟩
def cH.mono(h:cH C b m w)(I:m<=m'):cH C b m' w:=by obtain⟨⟨i,s,z,H⟩,D,E,F⟩:=h;exact⟨⟨i,s,z,RU⟩,D,E,F⟩
def cH.below(h:cH C b m w)(z:Below B w w')(D:b<B):cH C b m w':=h.nR fun k E=>z.block k RU
def cH.ext(h:cH C b m w)(z:ai w w'):cH C b m w':=h.below z h.lt
def cH.grown(h:cH C b m w)(z:w.grownBy w' row)(D:∀g,row=some g->b<g):cH C b m w':=h.nR fun k E=>z.block k (by have:=h.lt;omega) fun e=>by have:=D k e.symm;omega
end
def kM(C:Code)(b k:Nat)(P:World->Value->Prop)(w:aa)(e:Ending)(w':aa):Prop:=∃v,e=.returned v/\P w' v/\cH C b k w'/\w.grownBy w' (some b)
def uE(w:aa)(row:Option Nat):w.grownBy w row:=⟨rfl,rfl,rfl,ag _,fun _ _ _=>rfl⟩
def aN{w w':aa}(h:ai w w'):w.grownBy w' row:=⟨h.os,h.tape,h.output,h.size,fun k z _=>h.block k z⟩
def ar.drawn{w w':aa}{b:Nat}(h:ar w B v xs)(D:w.grownBy w' (some b))(F:b<B):ar w' B v xs:=
 h.kept D (by
  cases e:v.ownBlock with
  |none=>exact aF rfl
  |some g=>exact aA fun z=>by have:=(h.lt g e).1;have E:=eH z;omega)
section
open Go.Proofs.Tryz Go.ChangeShapes Go.WideShapes Go.ChangeAt Go.Deep Go.Joins
def own:ownKnob prog.godebug=none:=Si
def laidOut:laidOutB prog=true:=Si
def zf8:prog.cellsOf 3=1:=Si
section
variable{H:Type}{enc:TypeId×Value->H}{W:aa}
end
end
section
open Go.Proofs.Tryz Go.ChangeShapes Go.WideShapes Go.ChangeAt
def zee:prog.cellsOf 5=1:=Si
section
variable{H:Type}{enc:TypeId×Value->H}{W:aa}
def zf7{x:TypeId×Nat}(h:w.shape? b=some x):b < (w:Nat):=by
 rcases qi b w with z|z
 .exact z
 .unfold World.shape? at h;rw[oK z]at h;simp at h
def zan{d:DataW H}{p:List MemPlace}(E:Value.okWide prog W .any D 22 v)(h:DataW.Trod enc prog W 0 (fun _=>true) true 22 v d p):∃(A:an) (n cap:Nat),v=.slice A n cap/\lL W A n/\∀a,A=some a->a.block < (W:Nat):=by
 obtain⟨A,n,cap,rfl⟩:=okWide_slice underlying22 E;refine⟨A,n,cap,rfl,?_,?_⟩
 .obtain⟨ad,Q⟩:=h;rcases open_ints underlying22 underlying5 zee Q with⟨z,_⟩|⟨a,a0,ac,F,z,_,ao,ap,Z,_,J,Y⟩
  .simp[Value.cells]at z;obtain⟨rfl,rfl,rfl⟩:=z;exact fun k O=>absurd O (Nat.not_lt_zero _)
  .simp[Value.cells]at z;obtain⟨rfl,rfl,rfl⟩:=z;simp only[jf]at Z;intro k O;obtain⟨b,o,ab⟩:=a;have U:ab=none:=by simpa[Addr.add]using World.cell?_spot (J 0 RU)
   subst U;have I:=J k RU;have am:=range_u8 Y k;rw[bu,add_plain]at I;exact⟨b,o,(F[k]?.getD 0).toNat,rfl,RU,by rw[I,show(((F[k]?.getD 0).toNat:Nat):Int)=F[k]?.getD 0 by omega]⟩
 .rintro a rfl;simp only[Value.okWide,underlying22,Cell.okWide,Cell.ok]at E;obtain⟨_,_,_,_,r,cs,R,_⟩:=E;exact zf7 R
end
end
def bh.form{rows:aE}(h:bh w B v rows us)(z:0<rows.length):∃g cap,v=.slice (aY g) rows cap/\B<=g/\g < (w:Nat):=h.outer.form z
def zbA(a b p v h:Int)(A:an)(cap:Nat)(rows:aE)(w:aa)(Q:aX w A rows)(be:rows.length<=160)(Et:∀r∈rows,r.length<=1000)(a7:0<=a)(a8:a<rows.length)(ba:0<=b)(bb:b<rows.length)(a9:a≠b):aw 207 (eQ (bP a b) p (ae v h A rows cap)) w fun e w'=>∃u,e=.returned (.agg (dE v h u))/\aJ w' w u ((rows.set a.toNat (rows.getD b.toNat [])).set b.toNat (rows.getD a.toNat []))/\ai w w':=by
 obtain⟨ra,EU⟩:=aB (RU:a.toNat<rows.length);obtain⟨rb,Fa⟩:=aB (RU:b.toNat<rows.length);obtain⟨HA,HB,ab,ac⟩:=fU (T1:rows.getD a.toNat []=ra) (T0:rows.getD b.toNat []=rb) (RU:rows.length<=1048576) (show ∀r∈rows,r.length<=1048576 from fun r hr=>Uf);clear Et;go_enter func207,ntmps207
 go_wp2_with fail
 refine(lp _ _ _ _ _ _ (Q.ext (((aj _ _).alloc RS _ |>.alloc RS _).alloc SJ _)) ab ac).mono ?_;rintro e E ⟨u,rfl,⟨us,F⟩,H⟩;obtain⟨g,ET,rfl,a1,bd⟩:=F.form RU;simp only[cg]at a1;obtain⟨O,a4,D⟩:=cA w (.cells (bP a b) 130) (.cells (ae v h A rows cap) 26) (.cells aQ 26);have a3:=H.size;simp only[cg]at a3;obtain⟨bi,E6,U⟩:=F.get EU;obtain⟨bm,J,Y⟩:=F.get Fa;obtain⟨Aa,ca,rfl,_⟩:=U.view;obtain⟨Ab,cb,rfl,_⟩:=Y.view;go_wp2;obtain⟨W2,En⟩:=aO (E.alloc (.cells (ae v h (aY g) rows ET) 26));rw[<-En];have I:ai E W2:=Wc;have z:=cC H I;have R:aU W2 E (ae v h (aY g) rows ET) 26:=UF;have E5:=F.ext I;have y0:=zfo z O 0;have y1:=zfo z O 1;obtain⟨a5,a6,x2⟩:=bT R;have r0:=zfo z D 0;have r1:=zfo z D 1;have r2:=zfo z D 2;have s0:=zh6 z D 0;have s1:=zh6 z D 1;have s2:=zh6 z D 2;simp only[dt,cZ]at y0 y1 a5 a6 x2 r0 r1 r2;have z0:ah W2 g a.toNat (.slice Aa ra ca):=VW;have z1:ah W2 g b.toNat (.slice Ab rb cb):=by rw[E5.outer.cellAt _ RU,J]
 have f0:=E5.outer.frozenAt a.toNat;have f1:=E5.outer.frozenAt b.toNat;obtain⟨ao,Z,ad,am,ap,a0⟩:=mA E5 z EU Fa E6 J;clear F H EU Fa E6 J U Y Q E5 z I R O a4 D En;have IC:∀W5,W5=((W2.setCell ⟨g,a.toNat,none⟩ (.slice Ab rb cb)).setCell ⟨g,b.toNat,none⟩ (.slice Aa ra ca)).drew->
   ah W5 E 0 (zI v)/\ah W5 E 1 (zI h)/\ah W5 E 2 (.slice (aY g) rows ET)/\
   ah W5 ((w:Nat)+1+1) 0 (zI 0)/\ah W5 ((w:Nat)+1+1) 1 (zI 0)/\ah W5 ((w:Nat)+1+1) 2 (.slice none 0 0)/\
   W5.frozen? ⟨(w:Nat)+1+1,0,none⟩=false/\W5.frozen? ⟨(w:Nat)+1+1,1,none⟩=false/\W5.frozen? ⟨(w:Nat)+1+1,2,none⟩=false/\
   aJ W5 ((w:Nat)+3) (.slice (aY g) rows ET) ((rows.set a.toNat rb).set b.toNat ra)/\ai w W5:=by
  rintro W5 rfl;have a2:=ao.swap rfl ap.o a0.o ad.o am.o;refine⟨?_,?_,?_,?_,?_,?_,by simpa using s0,by simpa using s1,by simpa using s2,⟨_,bh.mono (a2.ext (aj _ _).drew) SJ⟩,((kn ((below_alloc3 w _ _ _).trans (Z.o.mono (B':=w.heap.size) SJ)) SJ _).setCell SJ _).drew⟩
  all_goals refine(c_ (w:=W2.setCell _ _) SJ).trans ((c_ SJ).trans ?_)
  all_goals assumption
 refine vG (S:=fun w'=>ah w' w 0 (zI a)/\ah w' w 1 (zI b)/\ah w' E 2 (.slice (aY g) rows ET)) Si R4 (fun hHeld=>?_);refine cW 0 ?_;refine cW 1 ?_;refine cW 2 ?_;refine cW 3 ?_;refine cW 4 ?_;refine cW 5 ?_;refine cW 6 ?_;refine cW 7 ?_;refine cW 8 ?_;refine cW 9 ?_;refine cW 10 ?_;refine cW 11 ?_;refine cW 12 ?_;refine cW 14 ?_;refine cW 15 ?_;refine cW 16 ?_;refine cW 17 ?_;refine cW 18 ?_;refine cq (rs:=[13,19]) Si RS ?_;refine di rfl (fun K hK=>?_) (di rfl (fun K hK=>?_) cv)
 .go_simp;refine hK.out _ _ Sh (fun hHeld=>?_);clear hK K;try simp only[Act.put,zA]
  refine cq (rs:=[19]) Si RS ?_;exact Z5
 .go_simp;refine hK.out _ _ Sh (fun hHeld=>?_);clear hK K;try simp only[Act.put,zA]
  refine cq (rs:=[13]) Si RS ?_;exact Z5
def zo(w:aa)(r:Option Nat):w.grownBy w r:=⟨rfl,rfl,rfl,ag _,fun _ _ _=>rfl⟩

def fx(h:n<=1048576):n<=maxLen:=TS
def xq{rows:aE}(h:aJ w B (.slice A n c) rows):aX w A rows:=by obtain⟨E,F,z,D,_⟩:=h.view;simp only[fO]at z;obtain⟨rfl,_,_⟩:=z;exact D
def ak{o:Obj}(h:w.heap[b]?=some o)(z:ai w w'):w'.heap[b]?=some o:=(z.block b (aM.1 h).1).trans h
def zhD{o:Obj}(h:w.heap[b]?=some o)(D:dh lo hi w w')(z:b<lo∨hi<=b):w'.heap[b]?=some o:=(D.block b (aM.1 h).1 z).trans h
def aq{x:au}(h:aU w b #[x,y,H] t):ah w b 0 x/\ah w b 1 y/\ah w b 2 H:=by obtain⟨z,D,E,_⟩:=kV (aj _ _) h;exact⟨z,D,E⟩
def bH{x:au}(h:aU w b #[x,y,H,u,v] t):ah w b 0 x/\ah w b 1 y/\ah w b 2 H/\ah w b 3 u/\ah w b 4 v:=by obtain⟨z,_⟩:=jk (aj _ _) h;exact z
section
variable{w2:aa}{E8 E10 E11 E12:gh}{v8 v10 v11 v12:au}{r8:aG}{R10:aE}{r11 r12:aG}{l8 h8 b8 l10 h10 b10 l11 h11 b11 l12 h12 b12:Nat}{W W':aa}
end
def ff(h:Below B w w')(z:B<=b)(v0 v1 v2 v3 v4:au):Below B w (((((w'.setCell ⟨b,0,none⟩ v0).setCell ⟨b,1,none⟩ v1).setCell ⟨b,2,none⟩ v2).setCell ⟨b,3,none⟩ v3).setCell ⟨b,4,none⟩ v4):=((((h.setCell z _).setCell z _).setCell z _).setCell z _).setCell z _
def kP{p:dD}(h:p.block≠b):(((((w'.setCell ⟨b,0,none⟩ v0).setCell ⟨b,1,none⟩ v1).setCell ⟨b,2,none⟩ v2).setCell ⟨b,3,none⟩ v3).setCell ⟨b,4,none⟩ v4).cell? p=w'.cell? p:=by rw[c_ h,c_ h,c_ h,c_ h,c_ h]
def zaD(h:aU w b #[H,R,z2,U,RR] t):(((((w.setCell ⟨b,0,none⟩ v0).setCell ⟨b,1,none⟩ v1).setCell ⟨b,2,none⟩ v2).setCell ⟨b,3,none⟩ v3).setCell ⟨b,4,none⟩ v4).heap[b]?=some (.cells #[v0,v1,v2,v3,v4] t (0,0)):=by have z:=bs w b 0 _ _ v0 h;have D:=bs _ b 1 _ _ v1 z;have E:=bs _ b 2 _ _ v2 D;have F:=bs _ b 3 _ _ v3 E;have I:=bs _ b 4 _ _ v4 F;simpa using I
def zaE(w2:aa)(I E F H:Int)(r':aG)(ok:Bool)(J O:au)(W:aa):Prop:=
 ∃(b8 l8 h8:Nat) (z:an) (D:Nat),J=.pointer (aY b8)/\O=.bool ok/\ai w2 W/\
  ((w2:Nat)<=b8/\(w2:Nat)<=l8/\l8<=h8/\(b8<l8∨h8<=b8)/\b8 < (W:Nat)/\h8<=(W:Nat))/\
  aU W b8 (bB I E F H z r' D) 29/\uJ W l8 h8 (.slice z r' D) r'
def zaE.late{w2:aa}{ok:Bool}(z:ai w2 RL)(I:ar RL E (.slice RJ r' D) r')(F:(w2:Nat)<=E)(H:(E:Nat)<=RL):zaE w2 RK RB Rz Ry r' ok (.pointer (aY RL)) (.bool ok) (RL.alloc (.cells (bB RK RB Rz Ry RJ r' D) 29)):=⟨_,E,RL,RJ,D,rfl,rfl,z.alloc z.size _,⟨z.size,F,H,aA (ag _),RS,RS⟩,az _ _ rfl,(uJ.of I).ext ((aj _ _).alloc (ag _) _)⟩
def zaE.early{w2:aa}{ok:Bool}{b8 l8:Nat}(J:ai w2 E)(F:ar E l8 (.slice RJ r' D) r')(z:aU E b8 #[H,R,z2,U,RR] 29)(h8:(w2:Nat)<=b8/\b8+1<=l8)(I:l8<=(E:Nat)):zaE w2 RK RB Rz Ry r' ok (.pointer (aY b8)) (.bool ok) (((((E.setCell ⟨b8,0,none⟩ (zI RK)).setCell ⟨b8,1,none⟩ (zI RB)).setCell ⟨b8,2,none⟩ (zI Rz)).setCell ⟨b8,3,none⟩ (zI Ry)).setCell ⟨b8,4,none⟩ (.slice RJ r' D)):=
 ⟨b8,l8,E,RJ,D,rfl,rfl,ff J h8.1 _ _ _ _ _,⟨h8.1,RU,I,aF RU,by have:=(aM.1 z).1;simp;omega,RS⟩,zaD z,
  ⟨((((F.setCell SJ _).setCell SJ _).setCell SJ _).setCell SJ _).setCell SJ _,(uJ.of F).up⟩⟩
def fH{x:au}(h:aU w b #[x,y,H] t):(ah w b 0 x/\ah w b 1 y/\ah w b 2 H)/\w.frozen? ⟨b,0,none⟩=false/\w.frozen? ⟨b,1,none⟩=false/\w.frozen? ⟨b,2,none⟩=false:=by simp[World.cell?,World.frozen?,h]
def zcm{x:au}(h:aU W b #[x,y,H] t):((W.setCell ⟨b,1,none⟩ v).setCell ⟨b,2,none⟩ v').heap[b]?=some (.cells #[x,v,v'] t (0,0)):=by have z:=bs W b 1 _ _ v h;have D:=bs _ b 2 _ _ v' z;simpa using D
def Bw(v v':au):W.grownBy ((W.setCell ⟨b,1,none⟩ v).setCell ⟨b,2,none⟩ v') (some b):=⟨rfl,rfl,rfl,RS,fun k _ z=>(bw _ _ _ _ (fun e=>z RV)).trans (bw _ _ _ _ (fun e=>z RV))⟩
def cH.step{s:Int}(h:cH C b m w)(J:w.grownBy w' (some b))(I:aU w' b #[.slice C.A C.n C.c,.int .i64 i,.int .u64 s] 71)(hi:i<=D):cH C b D w':=by obtain⟨-,F,z,H⟩:=h;refine⟨⟨i,s,I,hi⟩,fun k O=>?_,z,H⟩;obtain⟨a,o,x,e,Q,E⟩:=F k O;have:=z _ e;exact⟨a,o,x,e,Q,ik (J.block a (iN _ _ E) (fun e=>by have e:=eH e;have:a<b:=this;omega)) E⟩
def zfx{S:Int}(D:0<=S)(E:S<18446744073709551616):∃r:Nat,wrap64 (bits .and .u64 (S / 1099511627776) 255)=(r:Int)/\r<256:=by have e:=u64_and (S / 1099511627776) 255 RU RU RX RX;have z:(S / 1099511627776).toNat&&& (255:Int).toNat<=255:=Nat.and_le_right;refine⟨_,?_,Nat.lt_of_le_of_lt z RX⟩;rw[e];unfold wrap64;omega
def jP(w:aa)(row:Option Nat):w.grownBy w.drew row:=⟨rfl,rfl,rfl,ag _,fun _ _ _=>rfl⟩
def zfy(C:Code)(b m:Nat)(w:aa)(Y:cH C b m w)(a2:m<=1099511627776):aw 118 #[.pointer (aY b)] w (kM C b (m+1) (fun _ v=>∃r:Nat,v=.int .i64 r/\r<256) w):=by
 have R:=zH Y;obtain⟨⟨i,s,O,hi⟩,Q,ab,ad⟩:=Y;obtain⟨A,n,c⟩:=C;dsimp only at O Q ab ad;obtain⟨⟨z,c1,c2⟩,f0,f1,f2⟩:=fH O;by_cases ac:i<n
 .obtain⟨a,o,x,rfl,a0,Z⟩:=Q i ac;have ap:IntKind.i64.wrap ((i:Int)+1)=(i:Int)+1:=SQ;have a3:IntKind.i64.wrap (x:Int)=(x:Int):=SQ;go_enter func118,ntmps118
  go_wp2;go_region_held3 (fun V=>ah V b 0 (.slice (some ⟨a,o,none⟩) n c)/\ah V b 1 (zI (i:Nat)))
   (first|exact⟨z,c1⟩)
   ((fail))
  have d0:ah w.drew b 0 (.slice (some ⟨a,o,none⟩) n c):=z;have d1:ah w.drew b 1 (zI (i:Nat)):=c1;have d3:ah w.drew a (o+i) (.int .u8 (x:Nat)):=Z;go_upto_region 3 with(fail)
  go_region_held3 (fun V=>ah V b 0 (.slice (some ⟨a,o,none⟩) n c)/\ah V b 1 (zI (i:Nat))/\ah V a (o+i) (.int .u8 (x:Nat)))
   (first|exact⟨d0,d1,d3⟩)
   ((fail))
  go_upto_region 4 with(fail)
  obtain⟨W,J⟩:=aO w.drew.drew;rw[<-J];have H:w.grownBy W (some b):=by subst J;exact⟨rfl,rfl,rfl,ag _,fun _ _ _=>rfl⟩
  have D:aU W b #[.slice (some ⟨a,o,none⟩) n c,.int .i64 (i:Nat),.int .u64 s] 71:=by subst J;exact O
  have a1:lL W (some ⟨a,o,none⟩) n:=by subst J;exact Q
  clear J z c1 c2 f0 f1 f2 d0 d1 d3;obtain⟨⟨z,c1,c2⟩,f0,f1,f2⟩:=fH D;go_upto_region 6 with(fail)
  obtain⟨S,I⟩:=aO (IntKind.u64.wrap (IntKind.u64.wrap (IntKind.u64.wrap (s*6364136223846793005)+(x:Int))+1442695040888963407));rw[<-I];have F:=zcm (v:=.int .i64 ((i:Int)+1)) (v':=.int .u64 S) D;have E:=H.trans (Bw (W:=W) (b:=b) (zI ((i:Int)+1)) (.int .u64 S));generalize ((W.setCell ⟨b,1,none⟩ _).setCell ⟨b,2,none⟩ _)=V at F E ⊢;clear I z c1 c2 f0 f1 f2 D H;obtain⟨⟨z,c1,c2⟩,f0,f1,f2⟩:=fH F;go_region_held3 (fun V=>ah V b 0 (.slice (some ⟨a,o,none⟩) n c)/\ah V b 1 (zI ((i:Int)+1)))
   (first|exact⟨z,c1⟩)
   ((fail))
  go_wp2;go_ret
  exact⟨_,rfl,⟨x,rfl,a0⟩,R.o.step (i:=i+1) (E.trans (jP _ _)) F RU,E.trans (jP _ _)⟩
 .have ap:IntKind.i64.wrap ((i:Int)+1)=(i:Int)+1:=SQ;go_enter func118,ntmps118
  go_wp2;go_region_held3 (fun V=>ah V b 0 (.slice A n c)/\ah V b 1 (zI (i:Nat)))
   (first|exact⟨z,c1⟩)
   ((fail))
  go_upto_region 4 with(fail)
  have D:aU w.drew b #[.slice A n c,.int .i64 (i:Nat),.int .u64 s] 71:=O;have H:=jP w (some b);generalize w.drew=W at D H ⊢;clear z c1 c2 f0 f1 f2;obtain⟨⟨z,c1,c2⟩,f0,f1,f2⟩:=fH D;go_upto_region 6 with(fail)
  obtain⟨S,I⟩:=aO (IntKind.u64.wrap (IntKind.u64.wrap (IntKind.u64.wrap (s*6364136223846793005))+1442695040888963407));rw[<-I];have F:=zcm (v:=.int .i64 ((i:Int)+1)) (v':=.int .u64 S) D;have E:=H.trans (Bw (W:=W) (b:=b) (zI ((i:Int)+1)) (.int .u64 S));generalize ((W.setCell ⟨b,1,none⟩ _).setCell ⟨b,2,none⟩ _)=V at F E ⊢;have U:0<=S/\S<18446744073709551616:=by rw[I,IntKind.wrap_u64];omega
  clear I z c1 c2 f0 f1 f2 D H;obtain⟨r,am,ao⟩:=zfx U.1 U.2;obtain⟨⟨z,c1,c2⟩,f0,f1,f2⟩:=fH F;go_region_held3 (fun V=>ah V b 0 (.slice A n c)/\ah V b 1 (zI ((i:Int)+1)))
   (first|exact⟨z,c1⟩)
   ((fail))
  have d2:ah V.drew b 2 (.int .u64 S):=c2;go_wp2;go_ret
  exact⟨_,by rw[<-am];rfl,⟨r,rfl,ao⟩,R.o.step (i:=i+1) (E.trans (jP _ _)) F RU,E.trans (jP _ _)⟩
end Go.Proofs.YtdpgblncijojiaaGreatDoor
