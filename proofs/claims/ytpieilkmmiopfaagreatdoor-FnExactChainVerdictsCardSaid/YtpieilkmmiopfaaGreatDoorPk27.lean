/- Parts of the walks and laws (Gr15p, StM). Conditions: as stated with each. -/
import Derived.Test.YtpieilkmmiopfaaGreatDoorPk24
import Derived.Test.YtpieilkmmiopfaaGreatDoorPk25
import Derived.Test.YtpieilkmmiopfaaGreatDoorPk26
namespace Go.Proofs.YtpieilkmmiopfaaGreatDoor
open Go.RowKit Tryz
set_option linter.all false
set_option maxHeartbeats 2000000
variable{L:List er}{Re:List Tm}{g:Gr}{k:Nat}
theorem mL.of(D:g.okB=true):mL g:=by
 have h:=(Gr.mo D);have F:gM g=true:=by rw[<-h.okB];exact D
 unfold gM at F;simp only[bE,bX]at F;exact⟨h.inr,Rr,Rr,Rr,Rr,fun e G=>by have:=G1.el h e G;omega⟩
structure Dh(g:Gr):Prop where
 w:g.w<=65536
 es:g.es.length<=65536
 i:g.i.length<=65536
 o:g.o.length<=65536
theorem Dh.par{a b:Gr}(h:mL a)(D:mL b):Dh (jT a b):=by
 have:=h.w;have:=D.w;have:=h.es;have:=D.es;have:=h.i;have:=D.i;have:=h.o;have:=D.o;refine⟨by show a.w+b.w<=_;omega,?_,?_,?_⟩
 .show(ff a b).length<=_;unfold ff;rw[bx,bh];omega
 .show(a.i++b.i.map _).length<=_;rw[bx,bh];omega
 .show(a.o++b.o.map _).length<=_;rw[bx,bh];omega
theorem Dh.seq{a b:Gr}(h:mL a)(D:mL b):Dh (nX a b):=by
 have:=h.w;have:=D.w;have:=h.es;have:=D.es;have:=h.i;have:=D.i;have:=h.o;have:=D.o;have F:(im a b).w<=8192:=by show a.w+b.w<=_;omega
 rw[zf8,vy (rp h.inr D.inr) (uI h.inr D.inr)];refine⟨?_,?_,?_,?_⟩
 .show lD _ _ _<=_
  have:=sm (im a b) (iH (im a b).w (xW a b)) (im a b).w;omega
 .show((ff a b).map _).length<=_;unfold ff;rw[bh,bx,bh];omega
 .show(a.i.map _).length<=_;rw[bh];omega
 .show((b.o.map _).map _).length<=_;rw[bh,bh];omega
structure rA(L:List er)(t:Tm)(T:List Tm)(k:Nat):Prop where
 kl:k<=L.length
 rd:eI ((b_ L).drop k) T=some [t]
 gd:lY ((b_ L).drop k) (T.map Tm.gr)=lY (b_ L) []
 ty:∀u∈T,∃c,u.ty=some c
 ok:∀u∈T,u.gr.okB=true
 len:T.length<=k
theorem rA.start{t:Tm}(h:eI (b_ L) []=some [t]):rA L t [] 0:=⟨aX _,h,rfl,fun u h=>RM,fun u h=>RM,af _⟩
theorem rA.tree{t:Tm}{c:fQ}(h:eI (b_ L) []=some [t])(D:t.ty=some c):lY (b_ L) []=if t.np=true then some [t.gr] else none:=by
 have:=pU h;rw[<-zdl D];congr 1
 simpa[rM]using this.symm
theorem rA.leaf{t:Tm}{x:er}(h:rA L t Re k)(F:L[k]?=some x)(H:¬x.k=15)(I:¬x.k=16):dh x.nd=true/\rA L t (Tm.lf x.nd::Re) (k+1):=by
 have J:=(bG.1 F).1;have hr:=h.rd;rw[jN F,ic,xi H I]at hr;have hl:dh x.nd=true:=W9;rw[ay hl]at hr;have G:=pg hl;have D:=h.gd;rw[jN F,pM]at D;have N:stepG (Re.map Tm.gr) x.nd=some (eY x.nd::Re.map Tm.gr):=by unfold stepG;rw[av (zcp hl),ay G]
 rw[N]at D;have JO:(Tm.lf x.nd).ty=some (nW x.nd,qJ x.nd):=by unfold Tm.ty;rw[ay hl]
 refine⟨hl,J,hr,D,?_,?_,by have:=h.len;simp;omega⟩
 .exact Xj
 .intro u hu;rcases dQ.1 hu with rfl|hu
  .exact G
  .exact h.ok u hu
theorem rA.join{t:Tm}{x:er}(h:rA L t Re k)(I:L[k]?=some x)(h1:x.k=15∨x.k=16):∃b a S z,Re=b::a::S/\(Tm.op x.k a b).ty=some z/\((Tm.op x.k a b).gr.okB=true->rA L t (Tm.op x.k a b::S) (k+1))/\((Tm.op x.k a b).gr.okB=false->lY (b_ L) []=none):=by
 have J:=(bG.1 I).1;have G:=h.rd;rw[jN I,ic]at G;have N:BD x.nd=true:=Ve;cases D:stepT Re x.nd with
 |none=>rw[D]at G;cases G
 |some T=>
  rw[D]at G;unfold stepT at D;rw[ay N]at D;split at D
  .split at D
   .rename_i b a S;split at D
    .rename_i U O;obtain⟨z,hz⟩:=wm.1 O;cases D
     have F:=h.gd;rw[jN I,pM]at F;have e:(if x.nd.k=15 then nX a.gr b.gr else jT a.gr b.gr)=(Tm.op x.k a b).gr:=rfl;have R:stepG ((b::a::S).map Tm.gr) x.nd=if(Tm.op x.k a b).gr.okB=true then some ((Tm.op x.k a b).gr::S.map Tm.gr) else none:=by
      unfold stepG;rw[ay (show x.nd.k=15∨x.nd.k=16 from h1)]
      show(if(if x.nd.k=15 then nX a.gr b.gr else jT a.gr b.gr).okB=true then _ else _)=_
      rw[e]
     rw[R]at F;refine⟨b,a,S,z,rfl,hz,fun H=>?_,fun H=>?_⟩
     .rw[ay H]at F;refine⟨J,G,F,?_,?_,UW⟩
      .exact XC
      .intro u hu;rcases dQ.1 hu with rfl|hu
       .exact H
       .exact h.ok u (by simp[hu])
     .rw[av (by rw[H];simp)]at F;exact F.symm
    .cases D
   .cases D
  .cases D
theorem rA.stop{t:Tm}(D:rA L t Re k)(G:¬k<L.length):Re=[t]/\lY (b_ L) []=some [t.gr]:=by
 have h:=D.rd;have F:=D.gd;rw[iN SB]at h F;have:Re=[t]:=by unfold eI at h;exact je h
 subst this;exact⟨rfl,F.symm⟩
theorem zcc(p v h k a b c:Int)(A:aq)(cap:Nat)(rows:aN)(w:aa)(F:aq)(row:aH)(G:Nat)(I:bk w A rows)(ad:aJ w F row)(s:Sys p v h rows)(ao:lC p v h rows k a b c row=true):aw 96 (iK p (ar v h A rows cap) (fO k a b c F row.length G)) w fun e w'=>∃u,e=.returned (.agg (dK v (eS k h) u))/\aU w' w.heap.size u (bT p v rows k a b c row (v+h).toNat)/\ag w w':=by
 have ap:=s.p2;have a0:=s.p97;have a1:=s.v0;have a2:=s.v24;have a3:=s.h0;have a4:=s.h100;have H:=s.n;have J:∀r∈rows,r.length<=1000:=fun r hr=>Ui
 have N:∀r∈rows,∀x∈r,0<=x/\x<=1000:=fun r hr x hx=>Uv
 have am:∀r∈rows,r.length=(v+h).toNat:=fun r hr=>Ui
 have D:=ao;unfold lC at D;rw[bE]at D
 replace D:=D.2
 by_cases O:k=1
 .subst O;simp[cX]at D;rw[show eS 1 h=h by simp[eS],show bT p v rows 1 a b c row (v+h).toNat=((rows.set a.toNat (rows.getD b.toNat [])).set b.toNat (rows.getD a.toNat [])) by simp[bT]];exact zgp p v h a b c A cap rows w F row.length G I H J Rr Rr Rr Rr Rr
 by_cases R:k=2
 .subst R;simp[cX]at D;rw[show eS 2 h=h by simp[eS],show bT p v rows 2 a b c row (v+h).toNat=(rows.set a.toNat (iZ p c (rows.getD a.toNat []))) by simp[bT]];exact zfF p v h a b c A cap rows w F row.length G I H J Rr Rr Rr Rr Rr Rr N
 by_cases T:k=3
 .subst T;simp[cX]at D;rw[show eS 3 h=h by simp[eS],show bT p v rows 3 a b c row (v+h).toNat=(rows.set b.toNat (dD p c (rows.getD b.toNat []) (rows.getD a.toNat []))) by simp[bT]];exact zgT p v h a b c A cap rows w F row.length G I H J Rr Rr Rr Rr Rr Rr Rr Rr Rr N (v+h).toNat am
 by_cases U:k=4
 .subst U;simp[cX]at D;rw[show eS 4 h=h by simp[eS],show bT p v rows 4 a b c row (v+h).toNat=(rows.eraseIdx a.toNat) by simp[bT]];exact zgq p v h a b c A cap rows w F row.length G I H J Rr Rr
 by_cases V:k=5
 .subst V;simp[cX]at D;rw[show eS 5 h=h by simp[eS],show bT p v rows 5 a b c row (v+h).toNat=(cf rows a.toNat (List.replicate (v+h).toNat 0)) by simp[bT]];exact zhC p v h a b c A cap rows w F row.length G I H J Rr Rr Rr Rr Rr Rr
 by_cases Y:k=6
 .subst Y;simp[cX]at D;rw[show eS 6 h=h-1 by simp[eS],show bT p v rows 6 a b c row (v+h).toNat=((rows.map (fun r=>r.eraseIdx (v+b).toNat)).eraseIdx a.toNat) by simp[bT]];exact zeR p v h a b c A cap rows w F row.length G I H J Rr Rr Rr Rr Rr Rr Rr Rr (fun r hr=>Ui)
 by_cases Z:k=7
 .subst Z;simp[cX]at D;rw[show eS 7 h=h+1 by simp[eS],show bT p v rows 7 a b c row (v+h).toNat=(cf (rows.map (fun r=>cf r (v+b).toNat 0)) a.toNat row) by simp[bT]];exact zfo p v h a b c A cap rows w F row.length G I H J Rr Rr Rr Rr Rr Rr (fun r hr=>Ui) Rr Rr row ad rfl Rr
 by_cases ab:k=8
 .subst ab;simp[cX]at D;rw[show eS 8 h=h-1 by simp[eS],show bT p v rows 8 a b c row (v+h).toNat=(rows.map (fun r=>r.eraseIdx (v+b).toNat)) by simp[bT]];exact zdd p v h a b c A cap rows w F row.length G I H J Rr Rr Rr Rr Rr Rr (fun r hr=>Ui)
 by_cases ac:k=9
 .subst ac;simp[cX]at D;rw[show eS 9 h=h+1 by simp[eS],show bT p v rows 9 a b c row (v+h).toNat=(rows.map (fun r=>cf r (v+b).toNat 0)) by simp[bT]];exact zdZ p v h a b c A cap rows w F row.length G I H J Rr Rr Rr Rr Rr Rr (fun r hr=>Ui)
 simp[*]at D
end Go.Proofs.YtpieilkmmiopfaaGreatDoor
