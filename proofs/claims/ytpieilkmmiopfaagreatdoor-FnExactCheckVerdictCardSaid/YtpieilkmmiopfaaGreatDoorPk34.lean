/- Parts of the walks. Conditions: as stated with each. -/
import Derived.Test.YtpieilkmmiopfaaGreatDoorPk32
namespace Go.Proofs.YtpieilkmmiopfaaGreatDoor
open Go.RowKit Tryz
set_option linter.all false
set_option maxHeartbeats 4000000
set_option maxRecDepth 100000
variable{A:ax}{B s:Nat}{V w:aa}{rows:aP}{v:aG}
def Fq f M N c0 A v0 v1 a9 w(hM:M.length=N)(bz:N<=1048576)(hR:cS w A M)(H:∀(xs:aL) (T:ax) (d:Nat) (V:aa),xs∈M->ag w V->aO V T xs->xs.length<=d->az 215 #[.slice T xs d,a9] V fun e ad=>∃F J,e=.returned (.slice F (f xs) J)/\(f xs).length<=J/\Fr ad V ad (fun W=>aO W F (f xs))/\ag V ad):az 173 #[.agg #[v0,v1,.slice A N c0],.func (.func 215) #[] #[a9]] w fun e w'=>∃ao bh,e=.returned (.slice ao N bh)/\Fr w' w w' (fun W=>cS W ao (M.map f))/\ag w w':=by
 refine Od fun HH HM HR hB hq=>?_;clear hM hR H
 go_enter func173,ntmps173
 go_upto_region 1 with(fail)
 generalize w.alloc _=W at hB hq ⊢;have av:=zH (bw.lit 26 1 Bf W w hB.size);have Y:=aw W (.cells #[] 26);have ap:=zH (aT hB Y);have ba:=aF (ai hq Y) 2 rfl;clear hB hq;go_upto_region 2 with(fail)
 generalize W.alloc _=br at av ap ba Y ⊢;clear Y;go_wp2;go_loopw [5,12] (fun u i wr=>∃k:Nat,k<=N/\i=.int .i64 k/\bw 26 1 Bf wr w u ((M.take k).map f)/\ag w wr) (fun _ i _=>N-(intOf i).toNat)
 case atStart=>exact⟨0,aW _,rfl,av,ap⟩
 case round=>
  obtain⟨k,b0,rfl,h,D⟩:=hrel;clear ba;by_cases FX:k<N
  .have⟨xs,hx⟩:=aq (SF:k<M.length);have bq:=HR wr D;rcases bq with Ht|⟨b,o,rfl,a3⟩
   .exact Wc
   obtain⟨T,d,bo,a2,a0⟩:=a3 k xs hx;have⟨Z,Gl,Gu⟩:=er (HH xs T d wr (aU hx) D a0 a2) (SE:(M.take (k+1)).map f=(M.take k).map f++[f xs]) (Tv:((M.take k).map f).length=k);obtain⟨u0,U,rfl,-⟩:=h.p;rw[Gu.o];have⟨ab,G⟩:=bJ h D;have⟨n,a8⟩:=aR xs.length;rw[<-a8]at bo Z;have⟨ah,a5⟩:=aR (f xs);rw[<-a5]at Z Gl;clear h D a3 hx a0 a2 a8 a5;have bg:=zH (show ∀g,(Value.slice u0 k U).ownBlock=some g->g < (wr:Nat) from fun g e=>by obtain⟨cs,I⟩:=ab.o;rw[Gu.o]at I;exact(bS I.η g e).2)
   rw[Gu.o]at ab;go_upto_region 6 with(first|(go_at_call 215;refine Z.x ?_;rintro e O ⟨F,J,rfl,a6,a4,am⟩;have ac:=zH am;have bc:=zH a4;have bd:=zH a6;have be:=zH (ab.ext am);clear a4 am a6)|(at_builtin;refine de yU rfl (.tmp 16) (.tmp 20) rfl w (O.alloc (.cells (aV F ah J) 26)) (.slice u0 k U) ((M.take k).map f) ah [.slice F ah J] O (be.ext (aw _ _)) rfl SU ⟨wr,O,G.size,(aw _ _).size,fun g e=>ay (bg g e),(bc.ext (aw _ _) (ae _)).E fun V hV=>⟨F,J,rfl,bd,hV⟩⟩ R5 (aZ G.size (aZ ac.size (aw _ _).size)) rfl rfl (aH O _ rfl) ?_;intro bv bu b1 an bp bi a1;rw[Gu.o]at an ⊢;have Gv:=zH an;have G0:=zH (((aT G ac).t ((aw O _).x (aZ G.size ac.size))).t a1);clear an bp bi a1))
   exact Yz
  .obtain rfl:k=N:=Qu;rw[cZ (by rw[HM.o];exact ae _)]at h;obtain⟨u0,U,rfl,-⟩:=h.p;have a7:(M.map f).length=k:=by rw[bs,HM.o]
   rw[a7]at h ⊢;have⟨bb,G⟩:=bJ ((h.fr (fun _ _ _ _ bn I=>I.ext bn) D.size).E fun V I=>lM I) D;clear h D a7;go_wp2;go_ret
   exact⟨u0,U,rfl,bb,G⟩
def zbS p R N D A w(a3:bV p=true)(a1:cS w A R.b)(a0:R.b.length=N)(an:N<=1048576)(a9:R.l+R.r<=1048576)(a7:∀row∈R.b,row.length=R.l+R.r/\0<row.length)(a8:eV p N (R.r+R.l) (R.b.map fun row=>row.drop R.l++row.take R.l)):az 183 (gj p (dh R.l R.r A N D)) w (lJ (za5 p R) w):=by
 obtain⟨l,r,M⟩:=R;dsimp only at *;have am:=((al w w).alloc (ae _) (.cells (eO l r A N D) 67)).alloc Qt (.cells bx 67);have Y:=(bO (w.alloc (.cells (eO l r A N D) 67)) (.cells bx 67) (k:=w.heap.size) Qt).t (aH w _ rfl);have Z:=aH (w.alloc (.cells (eO l r A N D) 67)) (.cells bx 67) (n:=(w:Nat)+1) Qt;have⟨Q,ao⟩:=aR (vc p r l (M.map fun row=>row.drop l++row.take l));have bq:=zH (show za5 p ⟨l,r,M⟩=Q from ao.q);have bh:=zH (fun(W V:aa) (b1:ag w W) (F:bA W w (eO l r A N D) 67)=>Fq (fun row=>row.drop l++row.take l) M N D A (zI l) (zI r) (.pointer (bH w)) W a0 an (a1.ext b1) (fun xs G d V b3 b0 bz b2=>by
  have U:=a7 xs b3;have bv:(xs.drop l++xs.take l).length=xs:=by rw[bm,fS,cQ];omega
  rw[bv];exact FA xs l r N D d w A G V (ai F b0) bz U.1 U.2 b2 a9))
 have av:=zH (fun(W:aa) (O:ax) (ah:Nat) (I:cS W O (M.map fun row=>row.drop l++row.take l))=>mO p r l N (M.map fun row=>row.drop l++row.take l) O ah W a3 I.at a8 an Qu);rw[<-ao]at av;rw[bq.o];clear a3 a1 a0 an a9 a7 a8 ao;go_enter func183,ntmps183
 go_upto_region 1 with(fail)
 generalize (w.alloc _).alloc _=W at am Y Z ⊢;have⟨ba,bb,bc⟩:=aD Y;have H:=aQ ba (aQ bb bc);obtain⟨ac,bp,br,Gn,h⟩:=pD am Y Z (show(w:Nat)+1<W from(bk.1 Z).1) (Qu:w.heap.size≠(w:Nat)+1);clear am Y Z ba bb bc;go_region_held3 (fun V=>af V w 0 (zI (l:Nat))/\af V w 1 (zI (r:Nat))/\af V w 2 (.slice A N D))
  (first|with_reducible exact H|with_reducible exact jH (aC _) H|with_reducible exact jH ad.o H|with_reducible exact jH T.o H|with_reducible exact kp3 h.o h.o h.o (kp3 h.o h.o h.o (kp3 h.o h.o h.o (jH T.o H))))
  ((first|(go_at_call 173;with_reducible refine(bh.o _ W (ac.o.t ((aC W).x ac.o.size)) (ai bp.o (aC W))).x ?_;rintro e b7 ⟨O,ah,rfl,a4,a2⟩;have ad:=zH ((aC W).t (a2.x (aC W).size));have bi:=zH a4.D;clear a4 a2)|(go_at_call 179;with_reducible refine(av.o b7 O ah bi.o).x ?_;intro e ab I;unfold lJ at I;obtain⟨G,d,U,a5,J⟩:=I;subst U;have T:=zH (aT ad.o J);have bn:=zH (Fr.to (lo':=W.heap.size) (hi':=ab.heap.size) a5 ad.o.size (ae _));have F:=ai br.o T.o;have⟨b4,b5,b6⟩:=aD F;have f0:=aK F 0;have f1:=aK F 1;have f2:=aK F 2;have bu:=zH F;clear a5 J F)))
 have bd:=bE ab ((w:Nat)+1) 0 _ _ (zI (Q.l:Nat)) bu;have be:=bE _ ((w:Nat)+1) 1 _ _ (zI (Q.r:Nat)) bd;have ap:=bE _ ((w:Nat)+1) 2 _ _ (.slice G Q.b d) be;simp only[zA]at ap;have⟨u0,u1,u2⟩:=aD ap;have J:=aT ac T.o;have a6:Fr (((ab.setCell ⟨(w:Nat)+1,0,none⟩ (zI (Q.l:Nat))).setCell ⟨(w:Nat)+1,1,none⟩ (zI (Q.r:Nat))).setCell ⟨(w:Nat)+1,2,none⟩ (.slice G Q.b d)) W ab (fun V=>cS V G Q.b):=bn.y fun q a _=>by have I:=Gn.o;exact(a_ _ _ _ _ (by show q≠(w:Nat)+1;omega)).t ((a_ _ _ _ _ (by show q≠(w:Nat)+1;omega)).t (a_ _ _ _ _ (by show q≠(w:Nat)+1;omega)))
 have⟨bo,bg⟩:=bJ a6 J;clear bd be ap a6 J b4 b5 b6 f0 f1 f2 H;go_wp2;refine aI (v:=.agg (dh Q.l Q.r G Q.b d)) (by simp[results,results183,go_sem, *]) rfl ⟨G,d,rfl,?_,((bg.setCell (p:=⟨(w:Nat)+1,0,none⟩) (by show(w:Nat)<=w+1;omega) _).setCell (p:=⟨(w:Nat)+1,1,none⟩) (by show(w:Nat)<=w+1;omega) _).setCell (p:=⟨(w:Nat)+1,2,none⟩) (by show(w:Nat)<=w+1;omega) _⟩;exact bo.to Sx Qt
def bR.E{h}{E E'}{xs:List h}(H:∀x c,E w x c->E' w x c)(D:bR s E w A xs):bR s E' w A xs:=
 Or.E id (fun⟨b,o,e,I⟩=>⟨b,o,e,fun k x J=>by obtain⟨c,F,G⟩:=I k x J;exact⟨c,F,H x c G⟩⟩) D
def bw.toE{F}{D}{E E'}{xs:List F}(U:∀W x c,E W x c->E' W x c)(h:bw D s E w B v xs):bw D s E' w B v xs:=by obtain⟨cs,h⟩:=h;refine⟨cs,h.η,h.ι,fun k x c Z Y=>?_⟩;obtain⟨G,H,lo,hi,I,J,O,T⟩:=h.ν k x c Z Y;exact⟨G,H,lo,hi,I,J,O,T.E fun W h=>U W x c h⟩
def zgj(F:aa)(rows:aP)(N:Nat)(w:aa)(e:Ending)(w':aa):Prop:=∃h D,e=.returned (.slice h N D)/\bw 26 1 (fun _=>Bf F) w' w (.slice h N D) rows/\ag w w'
def ER(h:bR 1 (fun _=>Bf w) V A rows)(D:ag w V):cS V A rows:=lM (bR.E (fun _ _ h=>Bf.ext D h) h)
def zlV f M N an A v0 v1 a5 h w(ao:ag h w)(ap:M.length=N)(bi:N<=1048576)(av:cS h A M)(ab:∀(xs:aL) (D:ax) (d:Nat) (V:aa),xs∈M->ag w V->aO h D xs->xs.length<=d->az 175 #[a5,.slice D xs d] V fun e ba=>∃F G,e=.returned (.slice F (f xs) G)/\(f xs).length<=G/\aO h F (f xs)/\ag V ba):az 173 #[.agg #[v0,v1,.slice A N an],.func (.func 175) #[a5] #[]] w (zgj h (M.map f) N w):=by
 have⟨HH,HM,a9,Nu⟩:=gG ab ap av ao;have⟨I,Z⟩:=bM w (.cells #[v0,v1,.slice A N an] 67);clear ab av ap ao;go_enter func173,ntmps173
 go_upto_region 1 with(fail)
 generalize w.alloc _=W at I Z ⊢;have ad:=zH (bw.lit 26 1 (fun _=>Bf h) W w I.size);have J:=aw W (.cells #[] 26);have ac:=zH (aT I J);have a6:=aF (ai Z J) 2 rfl;clear I Z;go_upto_region 2 with(fail)
 generalize W.alloc _=be at ad ac a6 J ⊢;clear J;go_wp2;go_loopw [5,12] (fun u i wr=>∃k:Nat,k<=N/\i=.int .i64 k/\bw 26 1 (fun _=>Bf h) wr w u ((M.take k).map f)/\ag w wr) (fun _ i _=>N-(intOf i).toNat)
 case atStart=>exact⟨0,aW _,rfl,ad,ac⟩
 case round=>
  obtain⟨k,bn,rfl,FT,FW⟩:=hrel;clear a6;by_cases FX:k<N
  .have⟨xs,hx⟩:=aq (SF:k<M.length);have bd:=a9.o;rcases bd with Ht|⟨b,o,rfl,Gk⟩
   .exact Wc
   refine M5 fun D d Nt hI HC J7 Gl Gu=>?_
   obtain⟨u0,cu,rfl,-⟩:=FT.p;rw[Gu.o];have⟨am,Gc⟩:=bJ FT FW;have⟨n,a4⟩:=aR xs.length;rw[<-a4]at J7 HC;have⟨T,a2⟩:=aR (f xs);rw[<-a2]at HC Gl;clear FT FW Gk hx hI Nt a4 a2;rw[Gu.o]at am;go_upto_region 6 with(first|(go_at_call 175;refine HC.x ?_;rintro e O ⟨F,G,rfl,a3,a1,U⟩;have H:=zH U;have a7:=zH a1;have a8:=zH a3;have ah:=zH (am.ext U);clear a1 U a3)|(at_builtin;refine de yU rfl (.tmp 16) (.tmp 20) rfl w (O.alloc (.cells (aV F T G) 26)) (.slice u0 k cu) ((M.take k).map f) T [.slice F T G] O (ah.ext (aw _ _)) rfl SU (kn.d (ah.ext (aw _ _)) (aZ Gc.size (aZ H.size (aw _ _).size)) fun _=>⟨F,G,rfl,a8,a7⟩) R5 (aZ Gc.size (aZ H.size (aw _ _).size)) rfl rfl (aH O _ rfl) ?_;intro bh bg bo Y bc bb a0;rw[Gu.o]at Y ⊢;have Gv:=zH Y;have G0:=zH (((aT Gc H).t ((aw O _).x (aZ Gc.size H.size))).t a0);clear Y bc bb a0))
   exact Yz
  .exact Zh
def zlW f M N an A v0 v1 a5 h w(ao:ag h w)(ap:M.length=N)(bi:N<=1048576)(av:cS h A M)(ab:∀(xs:aL) (D:ax) (d:Nat) (V:aa),xs∈M->ag w V->aO h D xs->xs.length<=d->az 174 #[a5,.slice D xs d] V fun e ba=>∃F G,e=.returned (.slice F (f xs) G)/\(f xs).length<=G/\aO h F (f xs)/\ag V ba):az 173 #[.agg #[v0,v1,.slice A N an],.func (.func 174) #[a5] #[]] w (zgj h (M.map f) N w):=by
 have⟨HH,HM,a9,Nu⟩:=gG ab ap av ao;have⟨I,Z⟩:=bM w (.cells #[v0,v1,.slice A N an] 67);clear ab av ap ao;go_enter func173,ntmps173
 go_upto_region 1 with(fail)
 generalize w.alloc _=W at I Z ⊢;have ad:=zH (bw.lit 26 1 (fun _=>Bf h) W w I.size);have J:=aw W (.cells #[] 26);have ac:=zH (aT I J);have a6:=aF (ai Z J) 2 rfl;clear I Z;go_upto_region 2 with(fail)
 generalize W.alloc _=be at ad ac a6 J ⊢;clear J;go_wp2;go_loopw [5,12] (fun u i wr=>∃k:Nat,k<=N/\i=.int .i64 k/\bw 26 1 (fun _=>Bf h) wr w u ((M.take k).map f)/\ag w wr) (fun _ i _=>N-(intOf i).toNat)
 case atStart=>exact⟨0,aW _,rfl,ad,ac⟩
 case round=>
  obtain⟨k,bn,rfl,FT,FW⟩:=hrel;clear a6;by_cases FX:k<N
  .have⟨xs,hx⟩:=aq (SF:k<M.length);have bd:=a9.o;rcases bd with Ht|⟨b,o,rfl,Gk⟩
   .exact Wc
   refine M5 fun D d Nt hI HC J7 Gl Gu=>?_
   obtain⟨u0,cu,rfl,-⟩:=FT.p;rw[Gu.o];have⟨am,Gc⟩:=bJ FT FW;have⟨n,a4⟩:=aR xs.length;rw[<-a4]at J7 HC;have⟨T,a2⟩:=aR (f xs);rw[<-a2]at HC Gl;clear FT FW Gk hx hI Nt a4 a2;rw[Gu.o]at am;go_upto_region 6 with(first|(go_at_call 174;refine HC.x ?_;rintro e O ⟨F,G,rfl,a3,a1,U⟩;have H:=zH U;have a7:=zH a1;have a8:=zH a3;have ah:=zH (am.ext U);clear a1 U a3)|(at_builtin;refine de yU rfl (.tmp 16) (.tmp 20) rfl w (O.alloc (.cells (aV F T G) 26)) (.slice u0 k cu) ((M.take k).map f) T [.slice F T G] O (ah.ext (aw _ _)) rfl SU (kn.d (ah.ext (aw _ _)) (aZ Gc.size (aZ H.size (aw _ _).size)) fun _=>⟨F,G,rfl,a8,a7⟩) R5 (aZ Gc.size (aZ H.size (aw _ _).size)) rfl rfl (aH O _ rfl) ?_;intro bh bg bo Y bc bb a0;rw[Gu.o]at Y ⊢;have Gv:=zH Y;have G0:=zH (((aT Gc H).t ((aw O _).x (aZ Gc.size H.size))).t a0);clear Y bc bb a0))
   exact Yz
  .exact Zh
def ES R A N h D w(G:ag D w)(J:R.b.length=N)(O:N<=1048576)(T:cS D A R.b)(Y:∀row∈R.b,row.length=R.l+R.r)(ah:R.l+R.r<=1048576):az 173 #[.agg (dh R.l R.r A N h),.func (.func 175) #[.agg (dh R.l R.r A N h)] #[]] w (zgj D (kS R) N w):=by
 refine zlV (fun xs=>xs.take R.l) R.b N h A _ _ _ D w G J O T fun xs F d V Z ab I ac=>?_
 have ad:=Y xs Z;refine iB (zas R.l R.r N h A F xs d V Qu Qu) ?_;rintro e w' ⟨rfl,U⟩;have H:(xs.take R.l).length=R.l:=Rv;rw[H];exact⟨F,d,rfl,Qu,lL I _,U⟩
def Cf R A N h D w(H:ag D w)(J:R.b.length=N)(O:N<=1048576)(T:cS D A R.b)(Y:∀row∈R.b,row.length=R.l+R.r/\0<row.length)(ah:R.l+R.r<=1048576):az 173 #[.agg (dh R.l R.r A N h),.func (.func 174) #[.agg (dh R.l R.r A N h)] #[]] w (zgj D (mA R) N w):=by
 refine zlW (fun xs=>xs.drop R.l) R.b N h A _ _ _ D w H J O T fun xs ab d V Z ac F U=>?_
 obtain⟨ad,G⟩:=Y xs Z;obtain⟨b,o,rfl,-⟩:=F.θ G;refine iB (BQ R.l R.r N h A b o xs d V Qu U Qu) ?_;rintro e w' ⟨rfl,hb⟩;have I:(xs.drop R.l).length=xs-R.l:=by rw[fS]
 rw[I];by_cases e:d=R.l
 .rw[ak e];exact WJ
 .rw[aj e];exact⟨_,_,rfl,Qu,mR F _,hb⟩
end Go.Proofs.YtpieilkmmiopfaaGreatDoor
