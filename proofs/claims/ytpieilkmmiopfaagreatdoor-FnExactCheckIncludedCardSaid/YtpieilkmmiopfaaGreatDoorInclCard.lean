/- FnExactCheckIncluded returns true for all arguments, and each argument reads afterwards as before: the row, and its card. Condition: the table of small primes is laid as the program's text lays it (tied by the card). -/
import Derived.Test.YtpieilkmmiopfaaGreatDoorCards
import Derived.Test.YtpieilkmmiopfaaGreatDoorTie
import Derived.Test.YtpieilkmmiopfaaGreatDoorPk17
namespace Go.Proofs.YtpieilkmmiopfaaGreatDoor.checkIncluded
set_option linter.all false
open Go.Proofs.Tryz
set_option maxRecDepth 100000
open Go.ChangeShapes Go.WideShapes Go.ChangeAt Go.RowKit
variable{W:aa}
theorem tF:prog.globalNamed "loop.example/g01073/impl.smallPrimes"=some 0:=QT
theorem qz:(prog.globals[0]?).map (·.type)=some 224:=QT
theorem Ev:prog.cellsOf 224=4:=QT
theorem Γ(h:laidMetH prog Rows.fnExactCheckIncludedRow.laid W):Lib.TabIs prog W "loop.example/g01073/impl.smallPrimes" .i64 [2,3,5,7]:=Lib.tabIs_of_head (rest:=[]) tF qz underlying224 fL mT Ev h
theorem ze8(h:laidMetH prog Rows.fnExactCheckIncludedRow.laid W):dZ W:=⟨(Γ h).cell tF 0 Qw,(Γ h).cell tF 1 Qw,(Γ h).cell tF 2 Qw,(Γ h).cell tF 3 Qw⟩
def km:Array Value:=([2,3,5,7]:aL).map (fun z=>Value.int .i64 z) |>.toArray
theorem pe{h:Type}(enc:TypeId×Value->h)(W:aa)(D:Nat->Bool):DataW.trod enc prog W 0 D true 3 224 km.toList=some (Rows.laid_loop_example_g01073_impl_smallPrimes,[]):=QT
theorem contract(F:Type)(enc:TypeId×Value->F)(W:aa)(av:Nat)(args:gg)(ds a8:List (DataW F))(a0:List MemPlace)(D:∀(j:Nat) t v,Tryz.f4.params[j]?=some t->args[j]?=some v->Value.okWide prog W .any av t v)(U:DataW.Whole enc prog Tryz.f4.params.toList Rows.fnExactCheckIncludedSpec.vars false W args.toList ds a8 a0)(T:laidMetH prog Rows.fnExactCheckIncludedRow.laid W):az 4 args W fun e W'=>∃v,e=.returned v/\Rows.fnExactCheckIncludedSpec.post enc prog Tryz.f4 false true false false W args v W':=by
 have be:=U;obtain⟨p,q,O,bd,rfl,cu,cz⟩:=U;have J:DataW.TrodAll enc prog W 0 (fun _=>true) true Tryz.f4.params.toList args.toList ds p:=O;rw[Tryz.params4]at J D;obtain⟨v0,cR,d0,co,cB,cF,ct,rfl,rfl,a9,b9⟩:=trodAll_cons J;obtain⟨v1,cV,d1,cp,Y,cI,rfl,rfl,rfl,G,ca⟩:=trodAll_cons b9;obtain⟨v2,cW,d2,cq,p2,cK,rfl,rfl,rfl,H,cb⟩:=trodAll_cons ca;obtain⟨v3,c0,d3,cr,Z,cO,rfl,rfl,rfl,I,cc⟩:=trodAll_cons cb;obtain⟨rfl,rfl,rfl⟩:=trodAll_nil cc;obtain rfl:args=#[v0,v1,v2,v3]:=by cases args;simp_all
 obtain⟨g,t,cs,a7,d,cA,rfl,bi,bv,O_,bg,rfl⟩:=trodVars_one bd;obtain rfl:=ji (tF.q.t bi);obtain rfl:=ji (qz.q.t bv);obtain rfl:cs=km:=ji (O_.q.t (Γ T));obtain⟨rfl,rfl⟩:=DataW.Trod.unique (v:=.agg km) ⟨a7,bg⟩ ⟨3,pe enc W _⟩;have k1:=G;have k2:=H;have k3:=I;obtain⟨b8,rfl,rfl,rfl,ch⟩:=open_int fL (D 0 3 v0 rfl rfl) a9;obtain⟨A1,an,a4,rfl,ba,bn,bq⟩:=CC (D 1 24 v1 rfl rfl) G;obtain⟨ab,ao,a5,rfl,bb,bo,br⟩:=CC (D 2 24 v2 rfl rfl) H;obtain⟨ap,am,cn,a6,ce,ac,ci,a1,ad,cj,a2,ah,ck,a3,rfl,⟨bc,bp,bu⟩,⟨bz,b5⟩,⟨b0,b6⟩,b1,b7⟩:=Dn (D 3 28 v3 rfl rfl) I;have b2:∀x∈Y,x.block < (W:Nat):=(by obtain⟨m,hm⟩:=k1;exact xn m _ _ _ hm);have b3:∀x∈p2,x.block < (W:Nat):=(by obtain⟨m,hm⟩:=k2;exact xn m _ _ _ hm);have b4:∀x∈Z,x.block < (W:Nat):=(by obtain⟨m,hm⟩:=k3;exact xn m _ _ _ hm);clear O;refine(zcB b8 an A1 a4 ao ab a5 ⟨ap,cn,ce,ci,cj,ck⟩ ⟨am,a6,ac,a1,ad,a2,ah,a3⟩ W (ze8 T) ba bn bq bb bo br ⟨bc,bz,b0,b1⟩ ⟨bp,bu,b5,b6,b7⟩).x fun e W' ⟨bh,O5⟩=>?_
 subst bh;refine OH fun O0=>?_
 refine⟨_,rfl,_,_,_,[],[]++(Y++(p2++(Z++[]))),MemPlace.row ⟨0,0,none⟩ km.size++[]++[],be,trodAll_mk1 (shut_bool underlying4 _),(sg (shut_int fL ch) (sg (xo Ζ QT (oM QT) k1 O5 b2) (sg (xo Ζ QT (oM QT) k2 O5 b3) (sg (xo Ζ QT (oM QT) k3 O5 b4) trodAll_mk0)))),O0,O5.frame _,fun h=>Qy⟩
noncomputable def nQ(h:Os):World:=
 {World.holding prog h ⟨#[],#[],[]⟩with heap:=(World.holding prog h ⟨#[],#[],[]⟩).heap.modify 0 fun
   |.cells _ t frozen=>.cells wS t frozen
   |o=>o}
def φ:Array Value:=#[.int .i64 0,.agg lU,.agg lU,.agg tW]
theorem Ew(h:Os):laidMet prog Rows.fnExactCheckIncludedRow.laid ((nQ h).forCall (fun _ _=>0) ⟨#[],φ,[]⟩).memory:=laidMet_of_run' 8 QT QT
theorem Ù(D:Os){h:Type}(enc:TypeId×Value->h):∃F,DataW.whole enc prog ((nQ D).forCall (fun _ _=>0) ⟨#[],φ,[]⟩).memory Tryz.f4.params.toList Rows.fnExactCheckIncludedSpec.vars false φ.toList 8= some ([.lit (.int .i64 0),.agg [.nil],.agg [.nil],.agg [.lit (.bool false),.nil,.lit (.int .i64 0),.nil,.nil,.nil]],[Rows.laid_loop_example_g01073_impl_smallPrimes],F):=⟨[.cell 0 0,.cell 0 1,.cell 0 2,.cell 0 3],QT⟩
theorem Ü(h:Os)(Z:h.Started)(D:Type)(enc:TypeId×Value->D)(F:Stop.Interp):ReturnsInHanded {} Tryz.checked h 4 .any ((OpenSpec.ofChange Rows.fnExactCheckIncludedSpec).preRow enc prog Tryz.f4 Rows.fnExactCheckIncludedRow.domain false Rows.fnExactCheckIncludedRow.laid) (((OpenSpec.ofChange Rows.fnExactCheckIncludedSpec).at F).post enc prog Tryz.f4 false true false false):=by
 obtain⟨ab,Y⟩:=Ù h enc;refine returnsInHanded_of_row (C:=Tryz.checked) (s:=OpenSpec.ofChange Rows.fnExactCheckIncludedSpec) μ Z QT func4
  (witness_row_at (enc:=enc) (C:=Tryz.checked) false (nQ h) φ rfl QT QT QT
   (OpenSpec.preRow_of_cond 8 Y QT (fun k T=>by cases T) QT (Ew h))) ?_
 intro W G args ds I H U O _ _ _ J _ _;exact contract D enc W G args ds I H U O J
theorem said:Rows.FnExactCheckIncludedSaid:=OpenClaim.holds_of_cond 4 Tryz.f4 rfl rfl rfl rfl rfl rfl rfl ⟨rfl,rfl,rfl,rfl,rfl⟩ rfl rfl rfl rfl rfl QT func4 QT
  (oM QT) (by unfold Func.isWrapper;first|(rw[ak (by decide +kernel)];kernel_rfl)|(rw[aj (by decide +kernel)];exact⟨rfl,rfl⟩))
  (fun os OW H enc _ F=>(by rw[OpenClaim.pre_eq_preRow];exact Ü os OW H enc F))
theorem Ú(f:FuncId)(fn:Func)(D:Tryz.pinned.checked.prog.funcNamed "loop.example/g01073/laws.FnExactCheckIncluded"=some f)(F:Tryz.pinned.checked.prog.funcs[f]?=some fn):false=Tryz.pinned.checked.prog.looks []/\∀(j:Nat) t,fn.params[j]?=some t->Tryz.pinned.checked.prog.wantsStandIn t=false:=by obtain rfl:f=4:=ji ((QT:prog.funcNamed "loop.example/g01073/laws.FnExactCheckIncluded"=some 4).q.t D) |>.q;obtain rfl:fn=Tryz.f4:=(ji (func4.q.t F)).q;refine⟨QT,fun j t ht=>?_⟩;rw[Tryz.params4]at ht;have G:t∈[3,24,24,28]:=(by simpa using Array.mem_of_getElem? ht);have h:([3,24,24,28].all fun u=>!prog.wantsStandIn u)=true:=QT;exact(by simpa using eD.1 h t G:prog.wantsStandIn t=false)
theorem card:Rows.FnExactCheckIncludedCardSaid:=Claim7.holds_tied_plain_at .later [] _ _ _ _ said (fun _ h=>Qy) QT (fun _ h=>Qy) fnExactCheckIncluded_row_tie rfl ⟨rfl,rfl⟩ QT rfl Ú QT
#print axioms card
end Go.Proofs.YtpieilkmmiopfaaGreatDoor.checkIncluded
