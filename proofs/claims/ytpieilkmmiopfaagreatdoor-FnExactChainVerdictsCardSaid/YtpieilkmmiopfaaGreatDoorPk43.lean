/- Parts of the walks and laws (Em1). Conditions: as stated with each. -/
import Derived.Test.YtpieilkmmiopfaaGreatDoorPk17
namespace Go.Proofs.YtpieilkmmiopfaaGreatDoor
open Go.RowKit Tryz Go.Maps
set_option linter.all false
set_option maxHeartbeats 2000000
variable{P:iU}{Q:gj}{Q7:DataW Unit}{a:Act}{o:fR}{ops:gP}{rest:List Oper}{x:Nat}
theorem zeF:Keyed prog 3:=int_keyed gE
theorem zhW(w:aa):(zeroValue 3).run prog w=.ok (.int .i64 0) w:=RP
theorem zy{h:Type}(w:aa)(J:o.guard=none)(m x v:jk)(t:du)(T:o.op=Op.insert t m x v)(k e:du)(K:Keyed P k)(Y:P.underlying t=some (.map k e))(D:Value->Option (DataW h×List MemPlace))(b n:Nat)(F:DataW h)(O:a.eval m=.map (some b))(U:w.ownsMap P k D b n F)(R:n<maxLen)(G val:ax)(H:Lit)(ac:a.eval x=G)(Z:a.eval v=val)(N:keyOf P k G=some H)(d:DataW h)(ps:List MemPlace)(ab:D val=some (d,ps))(hK:∀w',w'.ownsMap P k D b (n+1) (F.put H d)->w.grownBy w' (some b)->wpList P ops Q rest (a.put o.dst undef) w'):wpList P ops Q (o::rest) a w:=by
 refine lj J fun ao I=>?_
 obtain⟨w',V,ad,am⟩:=U.update K Y R N ab;unfold Oper.wp;simp[execOp,T,O,ac,Z,V,Result.andThen];exact I _ _ (hK w' ad am)
def isK(L:gX)(x:Nat):Bool:=L.any fun q=>decide (q.1=x)
structure mz(D:DataW Unit)(L:gX):Prop where
 m:IsMap D
 h:∀x:Nat,Maps.has D (.int .i64 x)=isK L x
 a:∀x:Nat,isK L x=true->∀z,D.atKey (.int .i64 x) z=.lit (.int .i64 (gO L x))
 n:∀kl,Maps.has D kl=true->∃x:Nat,kl=.int .i64 x/\isK L x=true
theorem uA(L:gX)(q:Nat×Int)(x:Nat):isK (L++[q]) x=(isK L x||decide (q.1=x)):=by simp[isK]
theorem zz:∀(L:gX) (q:Nat×Int) (x:Nat),gO (L++[q]) x=gO L x+(if q.1=x then q.2 else 0)
 |[],q,x=>by simp[gO]
 |r::L,q,x=>by
  show(if r.1=x then r.2 else 0)+gO (L++[q]) x=(if r.1=x then r.2 else 0)+gO L x+_
  rw[zz L q x];omega
theorem wW:∀{L:gX} {x:Nat},isK L x=false->gO L x=0
 |[],_,_=>rfl
 |r::L,x,h=>by
  unfold isK at h;rw[List.any_cons,qw,qx]at h
  show(if r.1=x then r.2 else 0)+gO L x=0
  rw[av h.1,wW (L:=L) h.2];rfl
theorem zB{M:Int}(D:0<=M):∀{L:gX} {x:Nat},(∀q∈L,-M<=q.2/\q.2<=M)->-(M*(L.length:Int))<=gO L x/\gO L x<=M*(L.length:Int)
 |[],_,_=>by simp[gO]
 |r::L,x,h=>by
  have G:=h r (lh ..);have H:=zB D (L:=L) (x:=x) fun q F=>h q (lg _ F)
  rw[jc,AY,Int.natCast_add,Int.mul_add];split <;>omega
theorem zgU(h:x<=4096):keyOf prog 3 (.int .i64 (x:Int))=some (.int .i64 x):=keyOf_int_mk gE (WalkArith.wf_i64 Rr)
theorem mz.one(x:Nat)(v:Int):mz ((DataW.map []).put (.int .i64 x) (.lit (.int .i64 v))) [(x,v)]:=by
 have D:IsMap (DataW.map []:DataW Unit):=⟨_,rfl⟩;refine⟨D.put _ _,fun y=>?_,fun y h z=>?_,fun F h=>?_⟩
 .by_cases e:x=y
  .subst e;rw[has_put_same D TU];simp[isK]
  .rw[has_put_other UF];simp[isK,e];rfl
 .have e:x=y:=by simpa[isK]using h
  subst e;rw[atKey_put_same D TU];simp[gO]
 .by_cases e:F=.int .i64 x
  .exact⟨x,e,by simp[isK]⟩
  .rw[has_put_other e]at h;cases h
theorem mz.put{L:gX}(h:mz Q7 L)(x:Nat)(v:Int):mz (Q7.put (.int .i64 x) (.lit (.int .i64 (gO L x+v)))) (L++[(x,v)]):=by
 refine⟨h.m.put _ _,fun y=>?_,fun y F z=>?_,fun G D=>?_⟩
 .rw[uA];by_cases e:x=y
  .subst e;rw[has_put_same h.m TU];simp
  .rw[has_put_other UF,h.h];simp[e]
 .rw[zz];by_cases e:x=y
  .subst e;rw[atKey_put_same h.m TU,ay rfl]
  .rw[atKey_put_other UF,av e,Int.add_zero];rw[uA]at F;exact h.a y (by simpa[e]using F) z
 .by_cases e:G=.int .i64 x
  .exact⟨x,e,by rw[uA];simp⟩
  .rw[has_put_other e]at D;obtain⟨y,H,I⟩:=h.n G D;exact⟨y,H,by rw[uA,I];rfl⟩
theorem mz.look{L:gX}(D:mz Q7 L){c:Int}(e:Q7.atKey (.int .i64 x) (.lit (.int .i64 0))=.lit (.int .i64 c)):c=gO L x:=by
 cases h:isK L x
 .have F:=D.h x;rw[h]at F;rw[atKey_of_not_has F]at e;cases e
  exact(wW h).symm
 .rw[D.a x h]at e;cases e;rfl
def zC(L:gX)(w:aa)(e:Ending)(w':aa):Prop:=∃b h,e=.returned (.map (some b))/\w.heap.size<=b/\w'.ownsMap prog 3 (plainElem prog 3) b 3 h/\mz h L/\ag w w'
def D_(one:Nat)(h:bO)(v:Int):List (Nat×Int):=(one,1)::h.map (·,v)
set_option maxRecDepth 100000 in
theorem lW(one:Nat)(l:bO)(v:Int)(A:aq)(cap:Nat)(w:aa)(am:aJ w A (bt l))(bd:one<=4096)(bp:l.length<=2)(h:∀x∈l,x<=4096)(b2:-97<=v)(b3:v<=97):aw 171 #[(one:Nat),.slice A l.length cap,v] w (zC (D_ one l v) w):=by
 have b1:=@run_makeMap prog;obtain⟨Y,ad,bv⟩:=dO (fun bc (bg:ag w bc)=>am.ext bg) h bp;clear am h;have br:(Lit.int .i64 (1:Int)).wf=true:=Rs;go_enter func171,ntmps171
 go_upto_region 2 with((refine zy _ rfl _ _ _ 167 rfl 3 3 zeF underlying167 (plainElem prog 3) w.heap.size 0 (.map []:DataW Unit) rfl (World.ownsMap_made _ _ _ _) TD _ _ _ rfl rfl (zgU bd) _ [] (plainElem_int gE br) ?_;intro b5 a3 a1;have T:=zH a3;have ab:=zH a1;clear a3 a1))
 have R:=zH (show mz ((DataW.map []).put (.int .i64 (one:Int)) (.lit (.int .i64 1))) (D_ one (l.take 0) v) from mz.one one 1);obtain⟨a8,ao⟩:=aM ((DataW.map []:DataW Unit).put (.int .i64 (one:Int)) (.lit (.int .i64 1)));rw[<-ao]at T R;have Z:=zH (((aj w.heap.size w).alloc (af _) (.map #[] 0)).grown ab.o Rq (fun j V=>by cases V;exact af _));clear ao ab;go_wp2;go_loopw [15] (fun i wr=>∃(k:Nat) (D:DataW Unit),k<=l.length/\i=.int .i64 k/\wr.ownsMap prog 3 (plainElem prog 3) w.heap.size (k+1) D/\mz D (D_ one (l.take k) v)/\ag w wr) (fun i _=>l.length-(intOf i).toNat)
 case atStart=>exact⟨0,a8,aX _,rfl,T.o,R.o,Z.o⟩
 case round=>
  obtain⟨k,D,b0,rfl,N,F,G⟩:=hrel;clear T R Z;by_cases EH:k<l.length
  .obtain⟨x,h⟩:=aB EH;obtain⟨b,o,rfl,a0⟩:=(Y.o wr G).here (k:=k) S_;have bz:=a0 k (x:Int) (dJ h);have a7:=ad.o x (aY h);have bi:=zB (M:=97) Rs (L:=D_ one (l.take k) v) (x:=x) (fun q O=>by
    unfold D_ at O;rcases dQ.1 O with rfl|O
    .dsimp only;omega
    .obtain⟨y,-,rfl⟩:=cM.1 O;dsimp only;omega)
   have bo:(D_ one (l.take k) v).length<=3:=by unfold D_;rw[jc,bh,cG];omega
   have a6:-291<=gO (D_ one (l.take k) v) x/\gO (D_ one (l.take k) v) x<=291:=Rr;have a9:=zH (by unfold D_;rw[dH,h];simp:D_ one (l.take k) v++[(x,v)]=D_ one (l.take (k+1)) v);obtain⟨M,U⟩:=aM (gO (D_ one (l.take k) v) x);have ac:=zH U;rw[<-U]at a6;have b4:IntKind.i64.wrap (M+v)=M+v:=Sq;have bu:(Lit.int .i64 (M+v)).wf=true:=WalkArith.wf_i64 Rr;obtain⟨J,I,H⟩:=dO N F G;clear a0 h bi bo a6 U N F G Y ad;go_wp2_with (first
    |(at_lookup;refine wpList_lookup_own_int _ rfl _ _ 167 rfl 3 3 .i64 zeF underlying167 gE (zhW _) w.heap.size (k+1) D rfl J.o _ _ rfl (zgU a7) ?_;intro c ap bq;obtain rfl:c=M:=(I.o.look ap).trans ac.o.symm;clear ap bq)
    |(at_mapUpdate;refine wpList_mapUpdate_own _ rfl _ _ _ 167 rfl 3 3 zeF underlying167 _ w.heap.size (k+1) D rfl J.o TD _ _ _ rfl rfl (zgU a7) _ [] (plainElem_int gE bu) ?_;intro b6 a4 a2;have bb:=zH a4;have ba:=zH a2;clear a4 a2))
   go_roundw
   case rel=>
    have a5:=I.o.put x v;rw[a9.o,<-ac.o]at a5;exact⟨k+1,_,Rr,Rt,bb.o,a5,H.o.grown ba.o H.o.size (fun j V=>by cases V;exact af _)⟩
   case measure=>simp[intOf];omega
  .have e:l.take k=l:=cY Rr;rw[e]at F;obtain⟨J,I,H⟩:=dO (N.mono (n':=3) Rr) F G;clear N F G e;go_wp2;go_ret
   exact⟨_,D,rfl,af _,J.o,I.o,H.o⟩
end Go.Proofs.YtpieilkmmiopfaaGreatDoor
