/- Parts of the walks and laws (Rm1, Rm2p, Rm2). Conditions: as stated with each. -/
import Derived.Test.YtpieilkmmiopfaaGreatDoorPk41
namespace Go.Proofs.YtpieilkmmiopfaaGreatDoor
open Go.RowKit Tryz
set_option linter.all false
set_option maxHeartbeats 4000000
set_option maxRecDepth 100000
variable{A:aq}{B k s:Nat}{J w:aa}{L:List er}{QW:Rl}{Re:List Tm}{Rk:du}{p:Int}{v:ax}{xs:aH}
theorem bF.imp{h:Type}{E E':World->h->List Value->Prop}{xs:List h}(H:∀x c,E w x c->E' w x c)(D:bF s E w A xs):bF s E' w A xs:=
 Or.imp id (fun⟨b,o,e,I⟩=>⟨b,o,e,fun k x J=>by obtain⟨c,F,G⟩:=I k x J;exact⟨c,F,H x c G⟩⟩) D
theorem aV.toE{D:Type}{E E':World->D->List Value->Prop}{xs:List D}(O:∀W x c,E W x c->E' W x c)(h:aV Rk s E w B v xs):aV Rk s E' w B v xs:=by obtain⟨cs,h⟩:=h;refine⟨cs,h.outer,h.len,fun k x c T R=>?_⟩;obtain⟨F,G,lo,hi,H,I,J,N⟩:=h.each k x c T R;exact⟨F,G,lo,hi,H,I,J,N.imp fun W h=>O W x c h⟩
def zcJ(G:aa)(rows:aN)(D:Nat)(w:aa)(e:Ending)(w':aa):Prop:=∃h F,e=.returned (.slice h D F)/\aV 26 1 (fun _=>xf G) w' w.heap.size (.slice h D F) rows/\ag w w'
theorem AO{rows:aN}(h:bF 1 (fun _=>xf w) J A rows)(D:ag w J):dm J A rows:=jR (bF.imp (fun _ _ h=>xf.ext D h) h)
theorem zhx(f:List Int->List Int)(M:aN)(N a1:Nat)(A:aq)(v0 v1 bd:ax)(h w:aa)(a2:ag h w)(a4:M.length=N)(b3:N<=1048576)(a5:dm h A M)(ac:∀(xs:aH) (H:aq) (d:Nat) (T:aa),xs∈M->ag w T->aJ h H xs->xs.length<=d->aw 175 #[bd,.slice H xs.length d] T fun e br=>∃D F,e=.returned (.slice D (f xs).length F)/\(f xs).length<=F/\aJ h D (f xs)/\ag T br):aw 173 #[.agg #[v0,v1,.slice A N a1],.func (.func 175) #[bd] #[]] w (zcJ h (M.map f) N w):=by
 obtain⟨bo,HM,bq,ad⟩:=fU ac a4 a5 a2;obtain⟨G,ab⟩:=bA w (.cells #[v0,v1,.slice A N a1] 67);clear ac a5 a4 a2;go_enter func173,ntmps173
 go_upto_region 1 with(fail)
 generalize w.alloc _=W at G ab ⊢;have ao:=zH (aV.lit 26 1 (fun _=>xf h) W w.heap.size G.size);have J:=ak W (.cells #[] 26);have am:=zH (G.trans (J.mono G.size));have bg:=aI (ah ab J) 2 rfl;clear G ab;go_upto_region 2 with(fail)
 generalize W.alloc _=b0 at ao am bg J ⊢;clear J;go_wp2;go_loopw [5,12] (fun u i wr=>∃k:Nat,k<=N/\i=.int .i64 k/\aV 26 1 (fun _=>xf h) wr w.heap.size u ((M.take k).map f)/\ag w wr) (fun _ i _=>N-(intOf i).toNat)
 case atStart=>exact⟨0,aX _,rfl,ao.o,am.o⟩
 case round=>
  obtain⟨k,b4,rfl,EF,EL⟩:=hrel;clear bg;by_cases EH:k<N
  .obtain⟨xs,hx⟩:=aB (Tz:k<M.length);have bz:=bq.o;rcases bz with FH|⟨b,o,rfl,a8⟩
   .exact Wm
   obtain⟨H,d,Y,a7,a3⟩:=a8 k xs hx;have R:=zH (bo.o xs H d wr (aY hx) EL a3 a7)
   replace Y:=al (ad.o.trans (EL.mono ad.o.size)) Y
   obtain⟨E_,EW⟩:=bD (Ty:(M.take (k+1)).map f=(M.take k).map f++[f xs]) (Ue:((M.take k).map f).length=k);obtain⟨u0,cu,rfl,-⟩:=EF.view;rw[EW.o];obtain⟨a0,EP⟩:=bD EF EL;obtain⟨n,bc⟩:=aM xs.length;rw[<-bc]at Y R;obtain⟨U,ba⟩:=aM (f xs);rw[<-ba]at R E_;clear EF EL a8 hx a3 a7 bc ba;rw[EW.o]at a0;go_upto_region 6 with(first|(go_at_call 175;refine R.o.mono ?_;rintro e O ⟨D,F,rfl,bb,a9,V⟩;have I:=zH V;have bi:=zH a9;have bp:=zH bb;have ap:=zH (a0.o.ext V);clear a9 V bb)|(at_builtin;refine cL uG rfl (.tmp 16) (.tmp 20) rfl w.heap.size (O.alloc (.cells (aO D U F) 26)) (.slice u0 k cu) ((M.take k).map f) U [.slice D U.length F] O.heap.size (ap.o.ext (ak _ _)) rfl TK (iV.flat (ap.o.ext (ak _ _)) (aR EP.o.size (aR I.o.size (ak _ _).size)) fun _=>⟨D,F,rfl,bp.o,bi.o⟩) SQ (aR EP.o.size (aR I.o.size (ak _ _).size)) rfl rfl (aC O _ rfl) ?_;intro b2 b1 b5 Z bv bu a6;rw[EW.o]at Z ⊢;have Fi:=zH Z;have Fj:=zH (((EP.o.trans (I.o.mono EP.o.size)).trans ((ak O _).mono (aR EP.o.size I.o.size))).trans a6);clear Z bv bu a6))
   exact YC
  .exact Zh
theorem zhy(f:List Int->List Int)(M:aN)(N a1:Nat)(A:aq)(v0 v1 bd:ax)(h w:aa)(a2:ag h w)(a4:M.length=N)(b3:N<=1048576)(a5:dm h A M)(ac:∀(xs:aH) (H:aq) (d:Nat) (T:aa),xs∈M->ag w T->aJ h H xs->xs.length<=d->aw 174 #[bd,.slice H xs.length d] T fun e br=>∃D F,e=.returned (.slice D (f xs).length F)/\(f xs).length<=F/\aJ h D (f xs)/\ag T br):aw 173 #[.agg #[v0,v1,.slice A N a1],.func (.func 174) #[bd] #[]] w (zcJ h (M.map f) N w):=by
 obtain⟨bo,HM,bq,ad⟩:=fU ac a4 a5 a2;obtain⟨G,ab⟩:=bA w (.cells #[v0,v1,.slice A N a1] 67);clear ac a5 a4 a2;go_enter func173,ntmps173
 go_upto_region 1 with(fail)
 generalize w.alloc _=W at G ab ⊢;have ao:=zH (aV.lit 26 1 (fun _=>xf h) W w.heap.size G.size);have J:=ak W (.cells #[] 26);have am:=zH (G.trans (J.mono G.size));have bg:=aI (ah ab J) 2 rfl;clear G ab;go_upto_region 2 with(fail)
 generalize W.alloc _=b0 at ao am bg J ⊢;clear J;go_wp2;go_loopw [5,12] (fun u i wr=>∃k:Nat,k<=N/\i=.int .i64 k/\aV 26 1 (fun _=>xf h) wr w.heap.size u ((M.take k).map f)/\ag w wr) (fun _ i _=>N-(intOf i).toNat)
 case atStart=>exact⟨0,aX _,rfl,ao.o,am.o⟩
 case round=>
  obtain⟨k,b4,rfl,EF,EL⟩:=hrel;clear bg;by_cases EH:k<N
  .obtain⟨xs,hx⟩:=aB (Tz:k<M.length);have bz:=bq.o;rcases bz with FH|⟨b,o,rfl,a8⟩
   .exact Wm
   obtain⟨H,d,Y,a7,a3⟩:=a8 k xs hx;have R:=zH (bo.o xs H d wr (aY hx) EL a3 a7)
   replace Y:=al (ad.o.trans (EL.mono ad.o.size)) Y
   obtain⟨E_,EW⟩:=bD (Ty:(M.take (k+1)).map f=(M.take k).map f++[f xs]) (Ue:((M.take k).map f).length=k);obtain⟨u0,cu,rfl,-⟩:=EF.view;rw[EW.o];obtain⟨a0,EP⟩:=bD EF EL;obtain⟨n,bc⟩:=aM xs.length;rw[<-bc]at Y R;obtain⟨U,ba⟩:=aM (f xs);rw[<-ba]at R E_;clear EF EL a8 hx a3 a7 bc ba;rw[EW.o]at a0;go_upto_region 6 with(first|(go_at_call 174;refine R.o.mono ?_;rintro e O ⟨D,F,rfl,bb,a9,V⟩;have I:=zH V;have bi:=zH a9;have bp:=zH bb;have ap:=zH (a0.o.ext V);clear a9 V bb)|(at_builtin;refine cL uG rfl (.tmp 16) (.tmp 20) rfl w.heap.size (O.alloc (.cells (aO D U F) 26)) (.slice u0 k cu) ((M.take k).map f) U [.slice D U.length F] O.heap.size (ap.o.ext (ak _ _)) rfl TK (iV.flat (ap.o.ext (ak _ _)) (aR EP.o.size (aR I.o.size (ak _ _).size)) fun _=>⟨D,F,rfl,bp.o,bi.o⟩) SQ (aR EP.o.size (aR I.o.size (ak _ _).size)) rfl rfl (aC O _ rfl) ?_;intro b2 b1 b5 Z bv bu a6;rw[EW.o]at Z ⊢;have Fi:=zH Z;have Fj:=zH (((EP.o.trans (I.o.mono EP.o.size)).trans ((ak O _).mono (aR EP.o.size I.o.size))).trans a6);clear Z bv bu a6))
   exact YC
  .exact Zh
theorem AP(h:Rl)(A:aq)(D F:Nat)(G w:aa)(J:ag G w)(R:h.b.length=D)(T:D<=1048576)(U:dm G A h.b)(Y:∀row∈h.b,row.length=h.l+h.r)(am:h.l+h.r<=1048576):aw 173 #[.agg (dF h.l h.r A D F),.func (.func 175) #[.agg (dF h.l h.r A D F)] #[]] w (zcJ G (pk h) D w):=by
 refine zhx (fun xs=>xs.take h.l) h.b D F A _ _ _ G w J R T U fun xs H d I Z ab O ac=>?_
 have ad:=Y xs Z;refine gG (Ce h.l h.r D F A H xs.length d I Rr Rr) ?_;rintro e w' ⟨rfl,V⟩;have N:(xs.take h.l).length=h.l:=Sr;rw[N];exact⟨H,d,rfl,Rr,kJ O _,V⟩
theorem yi(h:Rl)(A:aq)(D F:Nat)(G w:aa)(N:ag G w)(R:h.b.length=D)(T:D<=1048576)(U:dm G A h.b)(Y:∀row∈h.b,row.length=h.l+h.r/\0<row.length)(am:h.l+h.r<=1048576):aw 173 #[.agg (dF h.l h.r A D F),.func (.func 174) #[.agg (dF h.l h.r A D F)] #[]] w (zcJ G (rh h) D w):=by
 refine zhy (fun xs=>xs.drop h.l) h.b D F A _ _ _ G w N R T U fun xs ab d I Z ac H V=>?_
 obtain⟨ad,J⟩:=Y xs Z;obtain⟨b,o,rfl,-⟩:=H.here J;refine gG (xR h.l h.r D F A b o xs.length d I Rr V Rr) ?_;rintro e w' ⟨rfl,hb⟩;have O:(xs.drop h.l).length=xs.length-h.l:=by rw[gp]
 rw[O];by_cases e:d=h.l
 .rw[ay e];exact WS
 .rw[av e];exact⟨_,_,rfl,Rr,mJ H _,hb⟩
theorem Rl.Ok.row(h:QW.Ok p):∀row∈QW.b,row.length=QW.l+QW.r/\0<row.length:=fun row D=>by obtain⟨k,G⟩:=fk.1 D;have F:=fI.row h.shp row D;have H:=h.red.ln k (bG.1 G).1;exact⟨F,Rr⟩
theorem Rl.Ok.len(h:QW.Ok p):QW.b.length<=QW.l+QW.r:=by
 have F:∀i,i<QW.b.length->i<=ldF QW.b i:=by
  intro i;induction i with
  |zero=>intro _;exact aX _
  |succ i ih=>intro hi;have:=h.red.inc i (i+1) Rr hi;have:=ih Rr;omega
 rcases wL QW.b.length with D|D
 .omega
 .have G:=F (QW.b.length-1) Rr;have H:=h.red.ln (QW.b.length-1) Rr;omega
structure RSm(R:Rl):Prop where
 l:R.l<=1024
 r:R.r<=1024
structure xg(p:Int)(L:List er)(t:Tm)(T:List Tm)(k:Nat):Prop where
 kl:k<=L.length
 rd:eI ((b_ L).drop k) T=some [t]
 ty:∀u∈T,∃c,u.ty=some c
 ov:∀u∈T,u.tY p
 len:T.length<=k
theorem xg.start{t:Tm}(h:eI (b_ L) []=some [t]):xg p L t [] 0:=⟨aX _,h,fun u h=>RM,fun u h=>RM,af _⟩
theorem xg.leaf{t:Tm}{x:er}(h:xg p L t Re k)(U:n_ (b_ L)=true)(T:nv p (b_ L)=true)(F:L[k]?=some x)(N:¬x.k=15)(O:¬x.k=16):tg p x.nd/\xg p L t (Tm.lf x.nd::Re) (k+1):=by
 have R:=(bG.1 F).1;have hr:=h.rd;rw[jN F,ic,xi N O]at hr;have hl:dh x.nd=true:=W9;rw[ay hl]at hr;have H:x.nd∈b_ L:=List.mem_map_of_mem (aY F);have G:=fZ.1 U x.nd H;have J:=fZ.1 T x.nd H;simp only[bE,bX]at G;have I:tg p x.nd:=⟨hl,G.1,G.2,fun D=>by
  simp only[iG,wk,qw,qx,bX]at J;rcases J with h|h
  .rcases D with D|D
   .exact absurd D h.1
   .exact absurd D h.2
  .exact h⟩
 have JO:(Tm.lf x.nd).ty=some (nW x.nd,qJ x.nd):=by unfold Tm.ty;rw[ay hl]
 refine⟨I,R,hr,?_,?_,by have:=h.len;simp;omega⟩
 .exact Xj
 .intro u hu;rcases dQ.1 hu with rfl|hu
  .exact I
  .exact h.ov u hu
theorem xg.join{t:Tm}{x:er}(h:xg p L t Re k)(H:L[k]?=some x)(h1:x.k=15∨x.k=16):∃b a S z,Re=b::a::S/\(Tm.op x.k a b).ty=some z/\(Tm.op x.k a b).tY p/\xg p L t (Tm.op x.k a b::S) (k+1):=by
 have I:=(bG.1 H).1;have F:=h.rd;rw[jN H,ic]at F;have J:BD x.nd=true:=Ve;cases D:stepT Re x.nd with
 |none=>rw[D]at F;cases F
 |some O=>
  rw[D]at F;unfold stepT at D;rw[ay J]at D;split at D
  .split at D
   .rename_i b a S;split at D
    .rename_i R N;obtain⟨z,hz⟩:=wm.1 N;cases D
     have G:(Tm.op x.k a b).tY p:=⟨h.ov a Rq,h.ov b Rq⟩;refine⟨b,a,S,z,rfl,hz,G,I,F,?_,?_,UW⟩
     .exact XC
     .intro u hu;rcases dQ.1 hu with rfl|hu
      .exact G
      .exact h.ov u (by simp[hu])
    .cases D
   .cases D
  .cases D
theorem xg.stop{t:Tm}(D:xg p L t Re k)(F:¬k<L.length):Re=[t]:=by have h:=D.rd;rw[iN SB]at h;unfold eI at h;exact je h
theorem Da{t:Tm}{c:fQ}(H:cN p=true)(h:t.ty=some c)(I:t.tY p):(t.rel p).Ok p/\(t.rel p).l=c.1/\(t.rel p).r=c.2/\RSm (t.rel p):=by obtain⟨D,F,G⟩:=Tm.Dr H h I;have:=Tm.CD h;exact⟨G,D,F,⟨Rr,Rr⟩⟩
def sM(p:Int)(h:List Tm):List Rl:=h.reverse.map (Tm.rel p)
theorem ot(p:Int)(h:List Tm):(sM p h).length=h.length:=by simp[sM]
theorem nA(p:Int)(t:Tm)(h:List Tm):sM p (t::h)=sM p h++[t.rel p]:=by simp[sM]
theorem zcy(D:aJ w A xs)(h:0<xs.length):∀a,A=some a->a.block<w.heap.size:=fun a e=>by
 obtain⟨b,o,rfl,F⟩:=D.here h;cases e
 obtain⟨x,G⟩:=aB h;exact jA _ _ (F 0 x G)
theorem vo(p b:Int)(B n cap G:Nat)(A1 D:aq)(xs ys:aH)(w:aa)(ac:1<=p)(ad:p<=1000)(T:-1000000<=b)(U:b<=1000000)(h:aD w B (.slice A1 n cap) xs)(N:aJ w D ys)(R:∀a,D=some a->0<n->a.block<B)(F:xs.length=n)(I:ys.length=n)(a3:n<=1048576)(am:∀x∈xs,0<=x/\x<=1000)(ao:∀y∈ys,0<=y/\y<=1000)(O:B<=w.heap.size):aw 176 #[p,.slice A1 n cap,b,.slice D n G] w fun e w'=>e=.returned (.tuple #[])/\aD w' B (.slice A1 n cap) (dD p b xs ys)/\Below B w w':=by
 rcases wL n with H|H
 .subst H;refine gG (pE p b A1 D cap G w) ?_;rintro e w' ⟨rfl,rfl⟩;have J:xs=[]:=fC F;subst J;exact⟨rfl,by simpa[dD]using h,aj _ _⟩
 .unfold aD at h;rw[F]at h;obtain⟨g,rfl⟩:∃g,A1=some ⟨g,0,none⟩:=by
   rcases h.2 with⟨_,a1⟩|⟨g,c,a0,e,_⟩
   .omega
   .cases e;exact⟨g,rfl⟩
  have V:=(bL h g rfl).1;have:=pR p b B g cap G D xs ys w ac ad T U (by rw[F];exact h) N (fun ap o e a2=>by have:=R _ e H;simp at this;omega) Rr Rr am ao;rw[F,I]at this;refine gG this ?_;rintro e w' ⟨rfl,ab,Y⟩;refine⟨rfl,?_,(aj _ _).grown Y O fun k Z=>by cases Z;exact V⟩;unfold aD;rw[nL,F,I,wB];exact ab
theorem yb(p:Int)(c:aH)(M:aN)(m n h:Nat)(A1 ad:aq)(cc ce:Nat)(w:aa)(bd:cN p=true)(a2:aJ w A1 c)(a4:bk w ad M)(bi:c.length=m)(cp:h<=m)(a5:∀x∈c,-1000000<=x/\x<=1000000)(ab:∀r∈M,r.length=n/\∀x∈r,0<=x/\x<=1000)(a3:M.length=h)(co:h<=1048576)(b9:n<=1048576):aw 178 #[p,.slice A1 m cc,.slice ad h ce,n] w fun e w'=>∃am k,e=.returned (.slice am n k)/\n<=k/\Fr w' w.heap.size w'.heap.size (fun W=>aJ W am (jg p c M n h))/\ag w w':=by
 obtain⟨p2,ct⟩:=di bd;have Z:∀i,i<h->(M.getD i []).length=n:=fun i hi=>by obtain⟨r,F⟩:=aB (Rr:i<M.length);rw[getD_some F];exact(ab r (aY F)).1
 have R:=zH (lq (p:=p) (c:=c) Z);have b0:=zH (show ∀k,k<=h->∀x∈jg p c M n k,0<=x/\x<=1000 from fun k G x H=>by obtain⟨d,bb⟩:=fk.1 H;have bc:=(bG.1 bb).1;rw[R.o k G]at bc;have:=C7 (c:=c) p2 Z bc k G;rw[getD_some bb]at this;omega)
 obtain⟨b3,bz,b4,bu,HM,Gx⟩:=kE a4 a2 ab a5 a3 bi;clear a4 a2 ab a5 Z a3 bi bd;go_enter func178,ntmps178
 go_upto_region 2 with(go_at_call 98;refine(kx n _ Rr).mono ?_;rintro e cu ⟨u,rfl,N,a6⟩;obtain⟨O,T,rfl,-⟩:=N.view;rw[iF]at N ⊢;have ap:=zH N;have ao:=zH a6;clear N a6)
 go_wp2;go_loopw [16] (fun i wr=>∃k:Nat,k<=h/\i=.int .i64 k/\aD wr w.heap.size (.slice O n T) (jg p c M n k)/\ag w wr) (fun i _=>h-(intOf i).toNat)
 case atStart=>exact⟨0,aX _,rfl,ap.o,ao.o⟩
 case round=>
  obtain⟨k,G,rfl,I,D⟩:=hrel;clear ap ao;by_cases EH:k<h
  .obtain⟨r,F⟩:=aB (Tz:k<M.length);obtain⟨cj,o,rfl,a9⟩:=b3.o.here (Tz:k<M.length);obtain⟨ac,b6,ba,V⟩:=a9 k r F;have b8:=al D ba;have bg:=V.ext D;obtain⟨Y,bp⟩:=b4.o r (aY F);rw[Y]at b8;obtain⟨x,H⟩:=aB (SL:k<c.length);obtain⟨ci,cr,rfl,a8⟩:=(bz.o.ext D).here (SL:k<c.length);have cq:=a8 k x H;obtain⟨ca,cb⟩:=bu.o x (aY H);have b5:=zH (show jg p c M n (k+1)=dD p x (jg p c M n k) r by show dD p (c.getD k 0) _ (M.getD k [])=_;rw[getD_some H,getD_some F]);have a1:∀a,ac=some a->0<n->a.block<w.heap.size:=fun a e cn=>zcy V Rr a e
   obtain⟨br,J⟩:=bD (vo p x w.heap.size n T b6 O ac (jg p c M n k) r wr Rr Rr ca cb I bg a1 (R.o k G) Y b9 (b0.o k G) bp D.size) D;clear I D bg V ba a9 a8 H F a1 bp Y;go_wp2_with ((go_at_call 176;refine br.o.mono ?_;rintro e cz ⟨rfl,bo,a7⟩;have b2:=zH bo;have bv:=zH (J.o.trans a7);clear bo a7))
   go_roundw
   case rel=>exact⟨k+1,Rr,Rt,by rw[b5.o];exact b2.o,bv.o⟩
   case measure=>simp[intOf];omega
  .obtain rfl:k=h:=Rr;obtain⟨b1,J⟩:=bD I D;obtain⟨ch,ck,a0,b7,U,-⟩:=I.view;rw[R.o k G]at a0 U;cases a0
   have bq:=zH U;clear I D b7 U;go_wp2;go_ret
   exact⟨O,T,rfl,bq.o,b1.o.fr J.o.size,J.o⟩
theorem Ej(F G H I:aH)(A1 N O R:aq)(c1 c2 Y Z T n2 U V n:Nat)(D:aa)(a4:aJ D A1 F)(a5:aJ D N G)(a6:aJ D O H)(a7:aJ D R I)(ap:T=F.length)(a0:n2=G.length)(a1:U=H.length)(a2:V=I.length)(a3:n=(F++(G++(H++I))).length)(bg:T+n2+U+V<=1048576):aw 65 #[.slice (some ⟨D.heap.size,0,none⟩) 4 4] (D.alloc (.cells #[.slice A1 T c1,.slice N n2 c2,.slice O U Y,.slice R V Z] 26)) fun e w'=>∃ab ac,e=.returned (.slice ab n ac)/\n<=ac/\Fr w' D.heap.size w'.heap.size (fun W=>aJ W ab (F++(G++(H++I))))/\ag D w':=by
 have J:=ak D (.cells #[.slice A1 T c1,.slice N n2 c2,.slice O U Y,.slice R V Z] 26);obtain⟨ba,bb,bc,bd⟩:=aA (aC D (.cells #[.slice A1 T c1,.slice N n2 c2,.slice O U Y,.slice R V Z] 26) rfl);have a8:bk (D.alloc (.cells #[.slice A1 T c1,.slice N n2 c2,.slice O U Y,.slice R V Z] 26)) (some ⟨D.heap.size,0,none⟩) [F,G,H,I]:=an ⟨D.heap.size,0,rfl,fun k r h=>by
  match k,h with
  |0,h=>simp at h;subst h;exact⟨A1,c1,by rw[<-ap];exact ba,a4.ext J⟩
  |1,h=>simp at h;subst h;exact⟨N,c2,by rw[<-a0];exact bb,a5.ext J⟩
  |2,h=>simp at h;subst h;exact⟨O,Y,by rw[<-a1];exact bc,a6.ext J⟩
  |3,h=>simp at h;subst h;exact⟨R,Z,by rw[<-a2];exact bd,a7.ext J⟩
  |k+4,h=>simp at h⟩
 have:=tz [F,G,H,I] (some ⟨D.heap.size,0,none⟩) 4 _ a8 Rq (fun k _=>by
  match k with
  |0=>simp
  |1=>simp;omega
  |2=>simp;omega
  |3=>simp;omega
  |k+4=>simp;omega)
 refine gG this ?_;rintro e w' ⟨u,rfl,ad,am⟩;have a9:[F,G,H,I].flatten=F++(G++(H++I)):=Rq;rw[a9]at ad;obtain⟨ab,ac,rfl,-,ao,-⟩:=ad.view;rw[<-a3]at ao ⊢;exact⟨ab,ac,rfl,ao,(ad.fr am.size).to J.size (af _),J.trans (am.mono J.size)⟩
theorem C0(n:Nat)(w:aa)(h:n<=1099511627776):aw 98 (bs n) w fun e w'=>∃u,e=.returned u/\aD w' w.heap.size u (iu n)/\ag w w':=kx n w h
theorem Ek(xs:aH)(l r k U d I T h D cB c2:Nat)(A b0 O:aq)(F:aa)(bo:aW F I (iJ l r A k U) 67)(bp:aW F T (iJ h D b0 cB c2) 67)(ac:aJ F O xs)(a0:xs.length=l+r)(a6:0<xs.length)(ao:xs.length<=d)(ct:l+r<=65536)(cu:h+D<=65536):aw 180 #[.slice O xs.length d,.pointer (some ⟨I,0,none⟩),.pointer (some ⟨T,0,none⟩)] F fun e w'=>∃N Y,e=.returned (.slice N (xs.take l++(iu h++(xs.drop l++iu D))).length Y)/\(xs.take l++(iu h++(xs.drop l++iu D))).length<=Y/\Fr w' F.heap.size w'.heap.size (fun W=>aJ W N (xs.take l++(iu h++(xs.drop l++iu D))))/\ag F w':=by
 obtain⟨a4,a1,cq,cr⟩:=fU (fun W (ad:ag F W)=>tw xs l r k U d A O W (ac.ext ad) a0 a6 ao Rr) (fun W (ad:ag F W)=>wX xs l r k U d A O W (ac.ext ad) a0 ao Rr) (fun W=>C0 h W Rr) (fun W=>C0 D W Rr);obtain⟨n,bi⟩:=aM xs.length;obtain⟨m,ap⟩:=aM ((xs.take l++(iu h++(xs.drop l++iu D))).length);obtain⟨ck,cn,co,a2,a3,cp⟩:=kE ap (Sr:l=(xs.take l).length) (Sk:r=(xs.drop l).length) (RL:h=(iu h).length) (RL:D=(iu D).length) (Rr:l+h+r+D<=1048576);rw[<-bi]at a4 a1 ⊢;rw[<-ap];obtain⟨bq,br,bu⟩:=aG bo;obtain⟨bv,bz,-⟩:=aG bp;have G:=aF bq (aF br (aF bu (aF bv bz)));clear bo bp ac a0 a6 ao ct cu bi ap bq br bu bv bz;go_enter func180,ntmps180
 go_upto_region 1 with(fail)
 go_region_held3 (fun W=>ae W I 0 (.int .i64 (l:Nat))/\ae W I 1 (.int .i64 (r:Nat))/\ae W I 2 (.slice A k U)/\ae W T 0 (.int .i64 (h:Nat))/\ae W T 1 (.int .i64 (D:Nat)))
  (first|with_reducible exact G|with_reducible exact iS (az _) G|with_reducible exact iS Z.o G|with_reducible exact iS R.o G|with_reducible exact iS ab.o G|with_reducible exact iS H.o G|with_reducible exact iS (H.o.alloc H.o.size _) G|with_reducible exact iS a5.o G)
  ((first|(go_at_call 175;with_reducible refine(a1.o _ (az F)).mono ?_;rintro e cO ⟨b1,d1,rfl,-,ba,a7⟩;have Z:=zH ((az F).trans (a7.mono (az F).size));have b6:=zH ba;clear ba a7)|(go_at_call 98;with_reducible refine(cq.o _).mono ?_;rintro e c0 ⟨u2,rfl,cz,am⟩;obtain⟨b2,d2,rfl,bb,-⟩:=cz.view;rw[<-a2.o];have R:=zH (Z.o.trans (am.mono Z.o.size));have cc:=zH bb;have b7:=zH (b6.o.ext am);clear bb am)|(go_at_call 174;with_reducible refine(a4.o _ R.o).mono ?_;rintro e c3 ⟨b3,d3,rfl,-,bc,V⟩;have ab:=zH (R.o.trans (V.mono R.o.size));have ca:=zH bc;have b8:=zH (b7.o.ext V);have ce:=zH (cc.o.ext V);clear bc V)|(go_at_call 98;with_reducible refine(cr.o _).mono ?_;rintro e cF ⟨u4,rfl,cA,J⟩;obtain⟨b4,d4,rfl,bd,-⟩:=cA.view;rw[<-a3.o];have H:=zH (ab.o.trans (J.mono ab.o.size));have ci:=zH bd;have b9:=zH (b8.o.ext J);have ch:=zH (ce.o.ext J);have cb:=zH (ca.o.ext J);clear bd J)|(go_at_call 65;with_reducible refine(Ej (xs.take l) (iu h) (xs.drop l) (iu D) b1 b2 b3 b4 d1 d2 d3 d4 l h r D m cF b9.o ch.o cb.o ci.o cn.o a2.o co.o a3.o ck.o cp.o).mono ?_;rintro e cI ⟨N,Y,rfl,bg,a9,a8⟩;have cj:=zH bg;have a5:=zH (H.o.trans (a8.mono H.o.size));have b5:=zH (a9.to (lo':=F.heap.size) H.o.size (af _));clear bg a9 a8)))
 go_wp2;go_ret
 exact⟨N,Y,rfl,cj.o,b5.o,a5.o⟩
theorem El(xs:aH)(l r k V d I U h D cB c2:Nat)(A b0 O:aq)(F:aa)(bo:aW F I (iJ l r A k V) 67)(bp:aW F U (iJ h D b0 cB c2) 67)(ac:aJ F O xs)(a0:xs.length=l+r)(a6:0<xs.length)(ao:xs.length<=d)(ct:l+r<=65536)(cu:h+D<=65536):aw 181 #[.slice O xs.length d,.pointer (some ⟨U,0,none⟩),.pointer (some ⟨I,0,none⟩)] F fun e w'=>∃N Z,e=.returned (.slice N (iu h++(xs.take l++(iu D++xs.drop l))).length Z)/\(iu h++(xs.take l++(iu D++xs.drop l))).length<=Z/\Fr w' F.heap.size w'.heap.size (fun W=>aJ W N (iu h++(xs.take l++(iu D++xs.drop l))))/\ag F w':=by
 obtain⟨a4,a1,cq,cr⟩:=fU (fun W (ad:ag F W)=>tw xs l r k V d A O W (ac.ext ad) a0 a6 ao Rr) (fun W (ad:ag F W)=>wX xs l r k V d A O W (ac.ext ad) a0 ao Rr) (fun W=>C0 h W Rr) (fun W=>C0 D W Rr);obtain⟨n,bi⟩:=aM xs.length;obtain⟨m,ap⟩:=aM ((iu h++(xs.take l++(iu D++xs.drop l))).length);obtain⟨ck,cn,co,a2,a3,cp⟩:=kE ap (Sr:l=(xs.take l).length) (Sk:r=(xs.drop l).length) (RL:h=(iu h).length) (RL:D=(iu D).length) (Rr:h+l+D+r<=1048576);rw[<-bi]at a4 a1 ⊢;rw[<-ap];obtain⟨bq,br,bu⟩:=aG bo;obtain⟨bv,bz,-⟩:=aG bp;have G:=aF bq (aF br (aF bu (aF bv bz)));clear bo bp ac a0 a6 ao ct cu bi ap bq br bu bv bz;go_enter func181,ntmps181
 go_upto_region 1 with(fail)
 go_region_held3 (fun W=>ae W I 0 (.int .i64 (l:Nat))/\ae W I 1 (.int .i64 (r:Nat))/\ae W I 2 (.slice A k V)/\ae W U 0 (.int .i64 (h:Nat))/\ae W U 1 (.int .i64 (D:Nat)))
  (first|with_reducible exact G|with_reducible exact iS (az _) G|with_reducible exact iS R.o G|with_reducible exact iS ab.o G|with_reducible exact iS T.o G|with_reducible exact iS H.o G|with_reducible exact iS (H.o.alloc H.o.size _) G|with_reducible exact iS a5.o G)
  ((first|(go_at_call 98;with_reducible refine(cq.o _).mono ?_;rintro e cO ⟨u1,rfl,cz,a7⟩;obtain⟨b1,d1,rfl,ba,-⟩:=cz.view;rw[<-a2.o];have R:=zH ((az F).trans (a7.mono (az F).size));have ca:=zH ba;clear ba a7)|(go_at_call 175;with_reducible refine(a1.o _ R.o).mono ?_;rintro e c0 ⟨b2,d2,rfl,-,bb,am⟩;have ab:=zH (R.o.trans (am.mono R.o.size));have b6:=zH bb;have cb:=zH (ca.o.ext am);clear bb am)|(go_at_call 98;with_reducible refine(cr.o _).mono ?_;rintro e c3 ⟨u3,rfl,cA,Y⟩;obtain⟨b3,d3,rfl,bc,-⟩:=cA.view;rw[<-a3.o];have T:=zH (ab.o.trans (Y.mono ab.o.size));have ch:=zH bc;have cc:=zH (cb.o.ext Y);have b7:=zH (b6.o.ext Y);clear bc Y)|(go_at_call 174;with_reducible refine(a4.o _ T.o).mono ?_;rintro e cF ⟨b4,d4,rfl,-,bd,J⟩;have H:=zH (T.o.trans (J.mono T.o.size));have b9:=zH bd;have ce:=zH (cc.o.ext J);have b8:=zH (b7.o.ext J);have ci:=zH (ch.o.ext J);clear bd J)|(go_at_call 65;with_reducible refine(Ej (iu h) (xs.take l) (iu D) (xs.drop l) b1 b2 b3 b4 d1 d2 d3 d4 h l D r m cF ce.o b8.o ci.o b9.o a2.o cn.o a3.o co.o ck.o cp.o).mono ?_;rintro e cI ⟨N,Z,rfl,bg,a9,a8⟩;have cj:=zH bg;have a5:=zH (H.o.trans (a8.mono H.o.size));have b5:=zH (a9.to (lo':=F.heap.size) H.o.size (af _));clear bg a9 a8)))
 go_wp2;go_ret
 exact⟨N,Z,rfl,cj.o,b5.o,a5.o⟩
def zgA(rows:aN)(D:Nat)(w:aa)(e:Ending)(w':aa):Prop:=∃h F,e=.returned (.slice h D F)/\aV 26 1 xf w' w.heap.size (.slice h D F) rows/\ag w w'
theorem zc5(f:List Int->List Int)(M:aN)(N ap:Nat)(A:aq)(v0 v1:ax)(bb p2:ax)(w:aa)(a2:M.length=N)(b3:N<=1048576)(a3:dm w A M)(ad:∀(xs:aH) (I:aq) (d:Nat) (h:aa),xs∈M->ag w h->aJ h I xs->xs.length<=d->aw 180 #[.slice I xs.length d,bb,p2] h fun e U=>∃D F,e=.returned (.slice D (f xs).length F)/\(f xs).length<=F/\Fr U h.heap.size U.heap.size (fun W=>aJ W D (f xs))/\ag h U):aw 173 #[.agg #[v0,v1,.slice A N ap],.func (.func 180) #[] #[bb,p2]] w (zgA (M.map f) N w):=by
 obtain⟨bg,HM,bq⟩:=dO ad a2 (show ∀h,ag w h->dm h A M from fun h Y=>a3.ext Y);obtain⟨G,ac⟩:=bA w (.cells #[v0,v1,.slice A N ap] 67);clear ad a3 a2;go_enter func173,ntmps173
 go_upto_region 1 with(fail)
 generalize w.alloc _=W at G ac ⊢;have ao:=zH (aV.lit 26 1 xf W w.heap.size G.size);have J:=ak W (.cells #[] 26);have am:=zH (G.trans (J.mono G.size));have bc:=aI (ah ac J) 2 rfl;clear G ac;go_upto_region 2 with(fail)
 generalize W.alloc _=b0 at ao am bc J ⊢;clear J;go_wp2;go_loopw [5,12] (fun u i wr=>∃k:Nat,k<=N/\i=.int .i64 k/\aV 26 1 xf wr w.heap.size u ((M.take k).map f)/\ag w wr) (fun _ i _=>N-(intOf i).toNat)
 case atStart=>exact⟨0,aX _,rfl,ao.o,am.o⟩
 case round=>
  obtain⟨k,b4,rfl,EF,EL⟩:=hrel;clear bc;by_cases EH:k<N
  .obtain⟨xs,hx⟩:=aB (Tz:k<M.length);have bz:=bq.o wr EL;rcases bz with FH|⟨b,o,rfl,a6⟩
   .exact Wm
   obtain⟨I,d,bu,a5,a1⟩:=a6 k xs hx;obtain⟨O,E_,EW⟩:=dO (bg.o xs I d wr (aY hx) EL a1 a5) (Ty:(M.take (k+1)).map f=(M.take k).map f++[f xs]) (Ue:((M.take k).map f).length=k);obtain⟨u0,cu,rfl,-⟩:=EF.view;rw[EW.o];obtain⟨R,EP⟩:=bD EF EL;obtain⟨n,ba⟩:=aM xs.length;rw[<-ba]at bu O;obtain⟨V,a8⟩:=aM (f xs);rw[<-a8]at O E_;clear EF EL a6 hx a1 a5 ba a8;have bp:=zH (show ∀g,(Value.slice u0 k cu).ownBlock=some g->g<wr.heap.size from fun g e=>by obtain⟨cs,a0⟩:=R.o;rw[EW.o]at a0;exact(bL a0.outer g e).2)
   rw[EW.o]at R;go_upto_region 6 with(first|(go_at_call 180;refine O.o.mono ?_;rintro e H ⟨D,F,rfl,a9,a7,Z⟩;have T:=zH Z;have bd:=zH a7;have bi:=zH a9;have bo:=zH (R.o.ext Z);clear a7 Z a9)|(at_builtin;refine cL uG rfl (.tmp 16) (.tmp 20) rfl w.heap.size (H.alloc (.cells (aO D V F) 26)) (.slice u0 k cu) ((M.take k).map f) V [.slice D V.length F] H.heap.size (bo.o.ext (ak _ _)) rfl TK ⟨wr.heap.size,H.heap.size,EP.o.size,(ak _ _).size,fun g e=>au (bp.o g e),(bd.o.ext (ak _ _) (af _)).imp fun h Y=>⟨D,F,rfl,bi.o,Y⟩⟩ SQ (aR EP.o.size (aR T.o.size (ak _ _).size)) rfl rfl (aC H _ rfl) ?_;intro b2 b1 b5 ab bv br a4;rw[EW.o]at ab ⊢;have Fi:=zH ab;have Fj:=zH (((EP.o.trans (T.o.mono EP.o.size)).trans ((ak H _).mono (aR EP.o.size T.o.size))).trans a4);clear ab bv br a4))
   exact YC
  .exact Zh
theorem zc6(f:List Int->List Int)(M:aN)(N ap:Nat)(A:aq)(v0 v1:ax)(bb p2:ax)(w:aa)(a2:M.length=N)(b3:N<=1048576)(a3:dm w A M)(ad:∀(xs:aH) (I:aq) (d:Nat) (h:aa),xs∈M->ag w h->aJ h I xs->xs.length<=d->aw 181 #[.slice I xs.length d,bb,p2] h fun e U=>∃D F,e=.returned (.slice D (f xs).length F)/\(f xs).length<=F/\Fr U h.heap.size U.heap.size (fun W=>aJ W D (f xs))/\ag h U):aw 173 #[.agg #[v0,v1,.slice A N ap],.func (.func 181) #[] #[bb,p2]] w (zgA (M.map f) N w):=by
 obtain⟨bg,HM,bq⟩:=dO ad a2 (show ∀h,ag w h->dm h A M from fun h Y=>a3.ext Y);obtain⟨G,ac⟩:=bA w (.cells #[v0,v1,.slice A N ap] 67);clear ad a3 a2;go_enter func173,ntmps173
 go_upto_region 1 with(fail)
 generalize w.alloc _=W at G ac ⊢;have ao:=zH (aV.lit 26 1 xf W w.heap.size G.size);have J:=ak W (.cells #[] 26);have am:=zH (G.trans (J.mono G.size));have bc:=aI (ah ac J) 2 rfl;clear G ac;go_upto_region 2 with(fail)
 generalize W.alloc _=b0 at ao am bc J ⊢;clear J;go_wp2;go_loopw [5,12] (fun u i wr=>∃k:Nat,k<=N/\i=.int .i64 k/\aV 26 1 xf wr w.heap.size u ((M.take k).map f)/\ag w wr) (fun _ i _=>N-(intOf i).toNat)
 case atStart=>exact⟨0,aX _,rfl,ao.o,am.o⟩
 case round=>
  obtain⟨k,b4,rfl,EF,EL⟩:=hrel;clear bc;by_cases EH:k<N
  .obtain⟨xs,hx⟩:=aB (Tz:k<M.length);have bz:=bq.o wr EL;rcases bz with FH|⟨b,o,rfl,a6⟩
   .exact Wm
   obtain⟨I,d,bu,a5,a1⟩:=a6 k xs hx;obtain⟨O,E_,EW⟩:=dO (bg.o xs I d wr (aY hx) EL a1 a5) (Ty:(M.take (k+1)).map f=(M.take k).map f++[f xs]) (Ue:((M.take k).map f).length=k);obtain⟨u0,cu,rfl,-⟩:=EF.view;rw[EW.o];obtain⟨R,EP⟩:=bD EF EL;obtain⟨n,ba⟩:=aM xs.length;rw[<-ba]at bu O;obtain⟨V,a8⟩:=aM (f xs);rw[<-a8]at O E_;clear EF EL a6 hx a1 a5 ba a8;have bp:=zH (show ∀g,(Value.slice u0 k cu).ownBlock=some g->g<wr.heap.size from fun g e=>by obtain⟨cs,a0⟩:=R.o;rw[EW.o]at a0;exact(bL a0.outer g e).2)
   rw[EW.o]at R;go_upto_region 6 with(first|(go_at_call 181;refine O.o.mono ?_;rintro e H ⟨D,F,rfl,a9,a7,Z⟩;have T:=zH Z;have bd:=zH a7;have bi:=zH a9;have bo:=zH (R.o.ext Z);clear a7 Z a9)|(at_builtin;refine cL uG rfl (.tmp 16) (.tmp 20) rfl w.heap.size (H.alloc (.cells (aO D V F) 26)) (.slice u0 k cu) ((M.take k).map f) V [.slice D V.length F] H.heap.size (bo.o.ext (ak _ _)) rfl TK ⟨wr.heap.size,H.heap.size,EP.o.size,(ak _ _).size,fun g e=>au (bp.o g e),(bd.o.ext (ak _ _) (af _)).imp fun h Y=>⟨D,F,rfl,bi.o,Y⟩⟩ SQ (aR EP.o.size (aR T.o.size (ak _ _).size)) rfl rfl (aC H _ rfl) ?_;intro b2 b1 b5 ab bv br a4;rw[EW.o]at ab ⊢;have Fi:=zH ab;have Fj:=zH (((EP.o.trans (T.o.mono EP.o.size)).trans ((ak H _).mono (aR EP.o.size T.o.size))).trans a4);clear ab bv br a4))
   exact YC
  .exact Zh
end Go.Proofs.YtpieilkmmiopfaaGreatDoor
