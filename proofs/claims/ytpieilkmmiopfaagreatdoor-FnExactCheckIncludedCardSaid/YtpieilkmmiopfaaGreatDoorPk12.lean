/- Parts of the walks. Conditions: as stated with each. -/
import Derived.Test.YtpieilkmmiopfaaGreatDoorPk5
namespace Go.Proofs.YtpieilkmmiopfaaGreatDoor
open Go.RowKit Tryz Go.Maps
set_option linter.all false
set_option maxHeartbeats 2000000
variable{P:jk}{Q:gZ}{a:Act}{o:h_}{ops:iI}{rest:List Oper}{x:Nat}
def Ϧ:Keyed prog 3:=int_keyed fL
def zmo w:(zeroValue 3).run prog w=.ok (.int .i64 0) w:=QT
def Dv{h}w(I:o.guard=none)m x v t(U:o.op=Op.insert t m x v)k e(K:Keyed P k)(ab:P.underlying t=some (.map k e))R b n D(O:a.eval m=.map (some b))(Y:w.ownsMap P k R b n D)(T:n<maxLen)F val G(ah:a.eval x=F)(ac:a.eval v=val)(J:keyOf P k F=some G)(d:DataW h)ps(ad:R val=some (d,ps))(hK:∀w',w'.ownsMap P k R b (n+1) (D.put G d)->w.grownBy w' (some b)->wpList P ops Q rest (a.put o.dst undef) w'):wpList P ops Q (o::rest) a w:=by
 refine l7 I fun ao H=>?_
 obtain⟨w',Z,am,an⟩:=Y.update K ab T J ad;unfold Oper.wp;simp[execOp,U,O,ah,ac,Z,Result.andThen];exact H _ _ (hK w' am an)
def È(L:iH)(x:Nat):Bool:=L.any fun q=>decide (q.1=x)
structure pE(D:DataW Unit)(L:iH):Prop where
 m:IsMap D
 h:∀x:Nat,Maps.has D (.int .i64 x)=È L x
 a:∀x:Nat,È L x=true->∀z,D.atKey (.int .i64 x) z=.lit (.int .i64 (iD L x))
 n:∀kl,Maps.has D kl=true->∃x:Nat,kl=.int .i64 x/\È L x=true
def yN L q x:È (L++[q]) x=(È L x||decide (q.1=x)):=by simp[È]
def Dw:∀(L:iH) (q:Nat×Int) (x:Nat),iD (L++[q]) x=iD L x+(if q.1=x then q.2 else 0)
 |[],q,x=>by simp[iD]
 |r::L,q,x=>by
  show(if r.1=x then r.2 else 0)+iD (L++[q]) x=(if r.1=x then r.2 else 0)+iD L x+_
  rw[Dw L q x];omega
def AT:∀{L:iH} {x:Nat},È L x=false->iD L x=0
 |[],_,_=>rfl
 |r::L,x,h=>by
  unfold È at h;rw[List.any_cons,uC,uD]at h
  show(if r.1=x then r.2 else 0)+iD L x=0
  rw[aj h.1,AT (L:=L) h.2];rfl
def Dx{M}(D:0<=M):∀{L:iH} {x:Nat},(∀q∈L,-M<=q.2/\q.2<=M)->-(M*(L:Int))<=iD L x/\iD L x<=M*(L:Int)
 |[],_,_=>by simp[iD]
 |r::L,x,h=>by
  have G:=h r (kb ..);have H:=Dx D (L:=L) (x:=x) fun q F=>h q (kC _ F)
  rw[jT,E6,C3,Aq];split<;>omega
def ē(h:x<=4096):keyOf prog 3 (.int .i64 (x:Int))=some (.int .i64 x):=keyOf_int_mk fL (WalkArith.wf_i64 Qu)
def pE.ψ(x:Nat)v:pE ((DataW.map []).put (.int .i64 x) (.lit (.int .i64 v))) [(x,v)]:=by
 have D:IsMap (DataW.map []:DataW Unit):=⟨_,rfl⟩;refine⟨D.put _ _,fun y=>?_,fun y h z=>?_,fun F h=>?_⟩
 .by_cases e:x=y
  .subst e;rw[has_put_same D S8];simp[È]
  .rw[has_put_other T4];simp[È,e];rfl
 .have e:x=y:=by simpa[È]using h
  subst e;rw[atKey_put_same D S8];simp[iD]
 .by_cases e:F=.int .i64 x
  .exact⟨x,e,by simp[È]⟩
  .rw[has_put_other e]at h;cases h
def pE.put{D}{L}(h:pE D L)(x:Nat)v:pE (D.put (.int .i64 x) (.lit (.int .i64 (iD L x+v)))) (L++[(x,v)]):=by
 refine⟨h.m.put _ _,fun y=>?_,fun y G z=>?_,fun H F=>?_⟩
 .rw[yN];by_cases e:x=y
  .subst e;rw[has_put_same h.m S8];simp
  .rw[has_put_other T4,h.h];simp[e]
 .rw[Dw];by_cases e:x=y
  .subst e;rw[atKey_put_same h.m S8,ak rfl]
  .rw[atKey_put_other T4,aj e,ux];rw[yN]at G;exact h.a y (by simpa[e]using G) z
 .by_cases e:H=.int .i64 x
  .exact⟨x,e,by rw[yN];simp⟩
  .rw[has_put_other e]at F;obtain⟨y,I,J⟩:=h.n H F;exact⟨y,I,by rw[yN,J];rfl⟩
def pE.look{D}{L}(F:pE D L){c}(e:D.atKey (.int .i64 x) (.lit (.int .i64 0))=.lit (.int .i64 c)):c=iD L x:=by
 cases h:È L x
 .have G:=F.h x;rw[h]at G;rw[atKey_of_not_has G]at e;cases e
  exact(AT h).q
 .rw[F.a x h]at e;cases e;rfl
def Dy(L:iH)(w:aa)(e:Ending)(w':aa):Prop:=∃b h,e=.returned (.map (some b))/\(w:Nat)<=b/\w'.ownsMap prog 3 (plainElem prog 3) b 3 h/\pE h L/\ag w w'
def Χ(ψ:Nat)(h:bP)(v:Int):List (Nat×Int):=(ψ,1)::h.map (·,v)
set_option maxRecDepth 100000 in
def oU ψ l(v:Int)A ε w(ao:aO w A (bD l))(bc:ψ<=4096)(bq:l.length<=2)(h:∀x∈l,x<=4096)(bu:-97<=v)(bv:v<=97):az 171 #[(ψ:Nat),.slice A l ε,v] w (Dy (Χ ψ l v) w):=by
 have br:=@run_makeMap prog;have⟨ac,an⟩:=bJ (fun V (bd:ag w V)=>ao.ext bd) h;clear ao h;have bi:(Lit.int .i64 (1:Int)).wf=true:=Qw;go_enter func171,ntmps171
 go_upto_region 2 with((refine Dv _ rfl _ _ _ 167 rfl 3 3 Ϧ underlying167 (plainElem prog 3) w.heap.size 0 (.map []:DataW Unit) rfl (World.ownsMap_made _ _ _ _) SL _ _ _ rfl rfl (ē bc) _ [] (plainElem_int fL bi) ?_;intro b0 a3 a1;have Y:=zH a3;have ah:=zH a1;clear a3 a1))
 have U:=zH (show pE ((DataW.map []).put (.int .i64 (ψ:Int)) (.lit (.int .i64 1))) (Χ ψ (l.take 0) v) from pE.ψ ψ 1);have⟨a8,ap⟩:=aR ((DataW.map []:DataW Unit).put (.int .i64 (ψ:Int)) (.lit (.int .i64 1)));rw[<-ap]at Y U;have ad:=zH (((al w w).alloc (ae _) (.map #[] 0)).grown ah Qt (fun j ab=>by cases ab;exact ae _));clear ap ah;go_wp2;go_loopw [15] (fun i wr=>∃(k:Nat) (D:DataW Unit),k<=l.length/\i=.int .i64 k/\wr.ownsMap prog 3 (plainElem prog 3) w (k+1) D/\pE D (Χ ψ (l.take k) v)/\ag w wr) (fun i _=>l.length-(intOf i).toNat)
 case atStart=>exact⟨0,a8,aW _,rfl,Y,U,ad⟩
 case round=>
  obtain⟨k,D,bp,rfl,O,F,G⟩:=hrel;clear Y U ad;by_cases FX:k<l.length
  .have⟨x,h⟩:=aq FX;obtain⟨b,o,rfl,a0⟩:=(ac wr G).θ (k:=k) Se;have bo:=a0 k (x:Int) (dK h);have a7:=an x (aU h);have be:=Dx (M:=97) Qw (L:=Χ ψ (l.take k) v) (x:=x) (fun q T=>by
    unfold Χ at T;rcases et.1 T with rfl|T
    .dsimp only;omega
    .obtain⟨y,-,rfl⟩:=cH.1 T;dsimp only;omega)
   have bg:(Χ ψ (l.take k) v).length<=3:=by unfold Χ;rw[jT,bs,cQ];omega
   have a6:-291<=iD (Χ ψ (l.take k) v) x/\iD (Χ ψ (l.take k) v) x<=291:=Qu;have a9:=zH (by unfold Χ;rw[du,h];simp:Χ ψ (l.take k) v++[(x,v)]=Χ ψ (l.take (k+1)) v);have⟨M,Z⟩:=aR (iD (Χ ψ (l.take k) v) x);have am:=zH Z;rw[<-Z]at a6;have bz:IntKind.i64.wrap (M+v)=M+v:=Rt;have bn:(Lit.int .i64 (M+v)).wf=true:=WalkArith.wf_i64 Qu;have⟨J,I,H⟩:=er O F G;clear a0 h be bg a6 Z O F G ac an;go_wp2_with (first
    |(at_lookup;refine wpList_lookup_own_int _ rfl _ _ 167 rfl 3 3 .i64 Ϧ underlying167 fL (zmo _) w.heap.size (k+1) D rfl J.o _ _ rfl (ē a7) ?_;intro c av bh;obtain rfl:c=M:=(I.look av).t am.q;clear av bh)
    |(at_mapUpdate;refine wpList_mapUpdate_own _ rfl _ _ _ 167 rfl 3 3 Ϧ underlying167 _ w.heap.size (k+1) D rfl J.o SL _ _ _ rfl rfl (ē a7) _ [] (plainElem_int fL bn) ?_;intro b1 a4 a2;have bb:=zH a4;have ba:=zH a2;clear a4 a2))
   go_roundw
   case rel=>
    have a5:=I.put x v;rw[a9.o,<-am.o]at a5;exact⟨k+1,_,Qu,Qx,bb,a5,H.grown ba H.size (fun j ab=>by cases ab;exact ae _)⟩
   case measure=>simp[intOf];omega
  .have e:l.take k=l:=cZ Qu;rw[e]at F;have⟨J,I,H⟩:=er (O.x (n':=3) Qu) F G;clear O F G e;go_wp2;go_ret
   exact⟨_,D,rfl,ae _,J.o,I,H⟩
end Go.Proofs.YtpieilkmmiopfaaGreatDoor
