/- FnStepProofs returns true for all arguments, and each argument reads afterwards as before: the row, and its card. Condition: the table of small primes is laid as the program's text lays it (tied by the card). -/
import Derived.Test.YtdpgblncijojiaaGreatDoorCards
import Derived.Test.YtdpgblncijojiaaGreatDoorTie
import Derived.Test.YtdpgblncijojiaaGreatDoorPk51
namespace Go.Proofs.YtdpgblncijojiaaGreatDoor.stepProofs
set_option linter.all false
open Go.Proofs.Tryz
set_option maxRecDepth 100000
open Go.ChangeShapes Go.WideShapes Go.ChangeAt Go.RowKit
variable{W:aa}
def Dq:prog.globalNamed "loop.example/g01073/impl.smallPrimes"=some 0:=RU
def AF:(prog.globals[0]?).map (·.type)=some 124:=RU
def zgg:prog.cellsOf 124=4:=RU
def table(h:laidMetH prog Rows.fnStepProofsRow.laid W):Lib.TabIs prog W "loop.example/g01073/impl.smallPrimes" .i64 [2,3,5,7]:=Lib.tabIs_of_head (rest:=[]) Dq AF underlying124 underlying3 zgH zgg h
def ziv(h:laidMetH prog Rows.fnStepProofsRow.laid W):cU W:=⟨(table h).cell Dq 0 RC,(table h).cell Dq 1 RC,(table h).cell Dq 2 RC,(table h).cell Dq 3 RC⟩
def pP:Array Value:=([2,3,5,7]:aH).map (fun z=>Value.int .i64 z) |>.toArray
def yg{z:Type}(enc:TypeId×Value->z)(W:aa)(B:Nat->Bool):DataW.trod enc prog W 0 B true 3 124 pP.toList=some (Rows.laid_loop_example_g01073_impl_smallPrimes,[]):=RU
def contract(H:Type)(enc:TypeId×Value->H)(W:aa)(am:Nat)(args:gq)(ds a2:List (DataW H))(ao:List MemPlace)(E:∀(j:Nat) t v,Tryz.f4.params[j]?=some t->args[j]?=some v->Value.okWide prog W .any am t v)(T:DataW.Whole enc prog Tryz.f4.params.toList Rows.fnStepProofsSpec.vars false W args.toList ds a2 ao)(R:laidMetH prog Rows.fnStepProofsRow.laid W):ax 4 args W fun e z=>∃v,e=.returned v/\Rows.fnStepProofsSpec.post enc prog Tryz.f4 false true false false W args v z:=by
 have a6:=T;obtain⟨p,q,Q,a5,rfl,b2,b3⟩:=T;have O:DataW.TrodAll enc prog W 0 (fun _=>true) true Tryz.f4.params.toList args.toList ds p:=Q;rw[Tryz.params4]at O E;obtain⟨v0,b7,d0,bz,ab,b5,b1,rfl,rfl,I,br⟩:=trodAll_cons O;obtain⟨v1,b8,d1,b0,ac,b6,rfl,rfl,rfl,J,bv⟩:=trodAll_cons br;obtain⟨rfl,rfl,rfl⟩:=trodAll_nil bv;obtain rfl:args=#[v0,v1]:=by cases args;simp_all
 obtain⟨g,t,cs,a1,d,b4,rfl,bb,bd,F,a9,rfl⟩:=trodVars_one a5;obtain rfl:=eE (Dq.symm.trans bb);obtain rfl:=eE (AF.symm.trans bd);obtain rfl:cs=pP:=eE (F.symm.trans (table R));obtain⟨rfl,rfl⟩:=DataW.Trod.unique (v:=.agg pP) ⟨a1,a9⟩ ⟨3,yg enc W _⟩;have U:=I;have Z:=J;obtain⟨ad,bo,ap,rfl,a3,a7⟩:=zaY (E 0 22 v0 rfl rfl) I;obtain⟨A1,bp,a0,rfl,a4,a8⟩:=zaY (E 1 22 v1 rfl rfl) J;have bi:∀x∈ab,x.block < (W:Nat):=by obtain⟨m,D⟩:=U;exact DataW.trod_lt m _ _ _ D
 have bm:∀x∈ac,x.block < (W:Nat):=by obtain⟨m,D⟩:=Z;exact DataW.trod_lt m _ _ _ D
 clear Q;refine(Bu ad bo ap A1 bp a0 W (ziv R) a3 a4 a7 a8).mono fun e z ⟨ba,B⟩=>?_
 subst ba;have be:DataW.TrodVars enc prog z (fun b=>decide (b < (W:Nat))) ["loop.example/g01073/impl.smallPrimes"] [Rows.laid_loop_example_g01073_impl_smallPrimes] (MemPlace.row ⟨0,0,none⟩ pP.size++[]++[]):=
  ⟨0,124,pP,3,[],[],Dq,AF,var?_below B Dq (iK _ _ (World.var?_cell Dq F 0)) F,yg enc z _,rfl,rfl⟩
 refine⟨_,rfl,_,_,_,[],ab++(ac++[]),MemPlace.row ⟨0,0,none⟩ pP.size++[]++[],a6,trodAll_mk1 (shut_bool underlying4 _),(trodAll_cons_mk (Below.trod laidOut RU (of_decide_eq_true RU) U B bi) (trodAll_cons_mk (Below.trod laidOut RU (of_decide_eq_true RU) Z B bm) trodAll_mk0)),be,B.frame _,fun h=>RE⟩
noncomputable def xD(z:Os):World:=
 {World.holding prog z ⟨#[],#[],[]⟩with heap:=(World.holding prog z ⟨#[],#[],[]⟩).heap.modify 0 fun
   |.cells _ t frozen=>.cells wj t frozen
   |o=>o}
def start:Array Value:=#[.slice none 0 0,.slice none 0 0]
def zgh(z:Os):laidMet prog Rows.fnStepProofsRow.laid ((xD z).forCall (fun _ _=>0) ⟨#[],start,[]⟩).memory:=laidMet_of_run' 8 RU RU
def reads(B:Os){z:Type}(enc:TypeId×Value->z):∃D,DataW.whole enc prog ((xD B).forCall (fun _ _=>0) ⟨#[],start,[]⟩).memory Tryz.f4.params.toList Rows.fnStepProofsSpec.vars false start.toList 8= some ([.nil,.nil],[Rows.laid_loop_example_g01073_impl_smallPrimes],D):=⟨[.cell 0 0,.cell 0 1,.cell 0 2,.cell 0 3],RU⟩
def lifted(z:Os)(T:z.Started)(B:Type)(enc:TypeId×Value->B)(D:Stop.Interp):ReturnsInHanded {} Tryz.checked z 4 .any ((OpenSpec.ofChange Rows.fnStepProofsSpec).preRow enc prog Tryz.f4 Rows.fnStepProofsRow.domain false Rows.fnStepProofsRow.laid) (((OpenSpec.ofChange Rows.fnStepProofsSpec).at D).post enc prog Tryz.f4 false true false false):=by
 obtain⟨U,R⟩:=reads z enc;refine returnsInHanded_of_row (C:=Tryz.checked) (s:=OpenSpec.ofChange Rows.fnStepProofsSpec) own T RU func4
  (witness_row_at (enc:=enc) (C:=Tryz.checked) false (xD z) start rfl RU RU RU
   (OpenSpec.preRow_of_cond 8 R RU (fun k O=>by cases O) RU (zgh z))) ?_
 intro W E args ds H F Q J _ _ _ I _ _;exact contract B enc W E args ds H F Q J I
def said:Rows.FnStepProofsSaid:=OpenClaim.holds_of_cond 4 Tryz.f4 rfl rfl rfl rfl rfl rfl rfl ⟨rfl,rfl,rfl,rfl,rfl⟩ rfl rfl rfl rfl rfl RU func4 RU
  (of_decide_eq_true RU) (by unfold Func.isWrapper;first|(rw[ar Su];kernel_rfl)|(rw[ak Su];exact⟨rfl,rfl⟩))
  (fun D E B enc _ z=>by rw[OpenClaim.pre_eq_preRow];exact lifted D E B enc z)
def plain(f:FuncId)(z:Func)(E:Tryz.pinned.checked.prog.funcNamed "loop.example/g01073/laws.FnStepProofs"=some f)(F:Tryz.pinned.checked.prog.funcs[f]?=some z):false=Tryz.pinned.checked.prog.looks []/\∀(j:Nat) t,z.params[j]?=some t->Tryz.pinned.checked.prog.wantsStandIn t=false:=by
 obtain rfl:f=4:=eE ((RU:prog.funcNamed "loop.example/g01073/laws.FnStepProofs"=some 4).symm.trans E) |>.symm;obtain rfl:z=Tryz.f4:=(eE (func4.symm.trans F)).symm;refine⟨RU,fun j t B=>?_⟩;rw[Tryz.params4]at B;have H:t∈[22,22]:=by simpa using Array.mem_of_getElem? B
 have D:([22,22].all fun u=>!prog.wantsStandIn u)=true:=RU;exact(by simpa using eD.1 D t H:prog.wantsStandIn t=false)
def card:Rows.FnStepProofsCardSaid:=Claim7.holds_tied_plain_at .later [] _ _ _ _ said (fun _ h=>RE) RU (fun _ h=>RE) fnStepProofs_row_tie rfl ⟨rfl,rfl⟩ RU rfl plain RU
#print axioms card
end Go.Proofs.YtdpgblncijojiaaGreatDoor.stepProofs
