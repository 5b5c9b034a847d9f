/- FnSteps returns true for all arguments, and each argument reads afterwards as before: the row, and its card. Condition: the table of small primes is laid as the program's text lays it (tied by the card). -/
import Derived.Test.YtdpgblncijojiaaGreatDoorCards
import Derived.Test.YtdpgblncijojiaaGreatDoorTie
import Derived.Test.YtdpgblncijojiaaGreatDoorPk51
namespace Go.Proofs.YtdpgblncijojiaaGreatDoor.steps
set_option linter.all false
open Go.Proofs.Tryz
set_option maxRecDepth 100000
open Go.ChangeShapes Go.WideShapes Go.ChangeAt Go.RowKit
variable{W:aa}
def Cc:prog.globalNamed "loop.example/g01073/impl.smallPrimes"=some 0:=Si
def yB:(prog.globals[0]?).map (·.type)=some 124:=Si
def zeU:prog.cellsOf 124=4:=Si
def table(h:laidMetH prog Rows.fnStepsRow.laid W):Lib.TabIs prog W "loop.example/g01073/impl.smallPrimes" .i64 [2,3,5,7]:=Lib.tabIs_of_head (rest:=[]) Cc yB underlying124 underlying3 zf8 zeU h
def zhL(h:laidMetH prog Rows.fnStepsRow.laid W):dm W:=⟨(table h).cell Cc 0 RX,(table h).cell Cc 1 RX,(table h).cell Cc 2 RX,(table h).cell Cc 3 RX⟩
def oW:Array Value:=([2,3,5,7]:aG).map (fun z=>Value.int .i64 z) |>.toArray
def wM{z:Type}(enc:TypeId×Value->z)(W:aa)(D:Nat->Bool):DataW.trod enc prog W 0 D true 3 124 oW.toList=some (Rows.laid_loop_example_g01073_impl_smallPrimes,[]):=Si
def contract(I:Type)(enc:TypeId×Value->I)(W:aa)(ao:Nat)(args:gh)(ds a3:List (DataW I))(ap:List MemPlace)(F:∀(j:Nat) t v,Tryz.f3.params[j]?=some t->args[j]?=some v->Value.okWide prog W .any ao t v)(Y:DataW.Whole enc prog Tryz.f3.params.toList Rows.fnStepsSpec.vars false W args.toList ds a3 ap)(U:laidMetH prog Rows.fnStepsRow.laid W):aw 3 args W fun e z=>∃v,e=.returned v/\Rows.fnStepsSpec.post enc prog Tryz.f3 false true false false W args v z:=by
 have a7:=Y;obtain⟨p,q,R,a6,rfl,b3,b4⟩:=Y;have Q:DataW.TrodAll enc prog W 0 (fun _=>true) true Tryz.f3.params.toList args.toList ds p:=R;rw[Tryz.params3]at Q F;obtain⟨v0,b8,d0,b0,ac,b6,b2,rfl,rfl,J,bv⟩:=trodAll_cons Q;obtain⟨v1,b9,d1,b1,ad,b7,rfl,rfl,rfl,O,bz⟩:=trodAll_cons bv;obtain⟨rfl,rfl,rfl⟩:=trodAll_nil bz;obtain rfl:args=#[v0,v1]:=by cases args;simp_all
 obtain⟨g,t,cs,a2,d,b5,rfl,bd,be,H,ba,rfl⟩:=trodVars_one a6;obtain rfl:=eH (Cc.symm.trans bd);obtain rfl:=eH (yB.symm.trans be);obtain rfl:cs=oW:=eH (H.symm.trans (table U));obtain⟨rfl,rfl⟩:=DataW.Trod.unique (v:=.agg oW) ⟨a2,ba⟩ ⟨3,wM enc W _⟩;have Z:=J;have ab:=O;obtain⟨am,bp,a0,rfl,a4,a8⟩:=zan (F 0 22 v0 rfl rfl) J;obtain⟨A1,br,a1,rfl,a5,a9⟩:=zan (F 1 22 v1 rfl rfl) O;have bm:∀x∈ac,x.block < (W:Nat):=by obtain⟨m,E⟩:=Z;exact DataW.trod_lt m _ _ _ E
 have bo:∀x∈ad,x.block < (W:Nat):=by obtain⟨m,E⟩:=ab;exact DataW.trod_lt m _ _ _ E
 clear R;refine(CE am bp a0 A1 br a1 W (zhL U) a4 a5 a8 a9).mono fun e z ⟨bb,D⟩=>?_
 subst bb;have bi:DataW.TrodVars enc prog z (fun b=>decide (b < (W:Nat))) ["loop.example/g01073/impl.smallPrimes"] [Rows.laid_loop_example_g01073_impl_smallPrimes] (MemPlace.row ⟨0,0,none⟩ oW.size++[]++[]):=
  ⟨0,124,oW,3,[],[],Cc,yB,var?_below D Cc (iN _ _ (World.var?_cell Cc H 0)) H,wM enc z _,rfl,rfl⟩
 refine⟨_,rfl,_,_,_,[],ac++(ad++[]),MemPlace.row ⟨0,0,none⟩ oW.size++[]++[],a7,trodAll_mk1 (shut_bool underlying4 _),(trodAll_cons_mk (Below.trod laidOut Si (of_decide_eq_true Si) Z D bm) (trodAll_cons_mk (Below.trod laidOut Si (of_decide_eq_true Si) ab D bo) trodAll_mk0)),bi,D.frame _,fun h=>RZ⟩
noncomputable def vV(z:Os):World:=
 {World.holding prog z ⟨#[],#[],[]⟩with heap:=(World.holding prog z ⟨#[],#[],[]⟩).heap.modify 0 fun
   |.cells _ t frozen=>.cells vm t frozen
   |o=>o}
def start:Array Value:=#[.slice none 0 0,.slice none 0 0]
def zeV(z:Os):laidMet prog Rows.fnStepsRow.laid ((vV z).forCall (fun _ _=>0) ⟨#[],start,[]⟩).memory:=laidMet_of_run' 8 Si Si
def reads(D:Os){z:Type}(enc:TypeId×Value->z):∃E,DataW.whole enc prog ((vV D).forCall (fun _ _=>0) ⟨#[],start,[]⟩).memory Tryz.f3.params.toList Rows.fnStepsSpec.vars false start.toList 8= some ([.nil,.nil],[Rows.laid_loop_example_g01073_impl_smallPrimes],E):=⟨[.cell 0 0,.cell 0 1,.cell 0 2,.cell 0 3],Si⟩
def lifted(z:Os)(Y:z.Started)(D:Type)(enc:TypeId×Value->D)(E:Stop.Interp):ReturnsInHanded {} Tryz.checked z 3 .any ((OpenSpec.ofChange Rows.fnStepsSpec).preRow enc prog Tryz.f3 Rows.fnStepsRow.domain false Rows.fnStepsRow.laid) (((OpenSpec.ofChange Rows.fnStepsSpec).at E).post enc prog Tryz.f3 false true false false):=by
 obtain⟨Z,U⟩:=reads z enc;refine returnsInHanded_of_row (C:=Tryz.checked) (s:=OpenSpec.ofChange Rows.fnStepsSpec) own Y Si func3
  (witness_row_at (enc:=enc) (C:=Tryz.checked) false (vV z) start rfl Si Si Si
   (OpenSpec.preRow_of_cond 8 U Si (fun k Q=>by cases Q) Si (zeV z))) ?_
 intro W F args ds I H R O _ _ _ J _ _;exact contract D enc W F args ds I H R O J
def said:Rows.FnStepsSaid:=OpenClaim.holds_of_cond 3 Tryz.f3 rfl rfl rfl rfl rfl rfl rfl ⟨rfl,rfl,rfl,rfl,rfl⟩ rfl rfl rfl rfl rfl Si func3 Si
  (of_decide_eq_true Si) (by unfold Func.isWrapper;first|(rw[ay SP];kernel_rfl)|(rw[al SP];exact⟨rfl,rfl⟩))
  (fun E F D enc _ z=>by rw[OpenClaim.pre_eq_preRow];exact lifted E F D enc z)
def plain(f:FuncId)(z:Func)(F:Tryz.pinned.checked.prog.funcNamed "loop.example/g01073/laws.FnSteps"=some f)(H:Tryz.pinned.checked.prog.funcs[f]?=some z):false=Tryz.pinned.checked.prog.looks []/\∀(j:Nat) t,z.params[j]?=some t->Tryz.pinned.checked.prog.wantsStandIn t=false:=by
 obtain rfl:f=3:=eH ((Si:prog.funcNamed "loop.example/g01073/laws.FnSteps"=some 3).symm.trans F) |>.symm;obtain rfl:z=Tryz.f3:=(eH (func3.symm.trans H)).symm;refine⟨Si,fun j t D=>?_⟩;rw[Tryz.params3]at D;have I:t∈[22,22]:=by simpa using Array.mem_of_getElem? D
 have E:([22,22].all fun u=>!prog.wantsStandIn u)=true:=Si;exact(by simpa using fp.1 E t I:prog.wantsStandIn t=false)
def card:Rows.FnStepsCardSaid:=Claim7.holds_tied_plain_at .later [] _ _ _ _ said (fun _ h=>RZ) Si (fun _ h=>RZ) fnSteps_row_tie rfl ⟨rfl,rfl⟩ Si rfl plain Si
#print axioms card
end Go.Proofs.YtdpgblncijojiaaGreatDoor.steps
