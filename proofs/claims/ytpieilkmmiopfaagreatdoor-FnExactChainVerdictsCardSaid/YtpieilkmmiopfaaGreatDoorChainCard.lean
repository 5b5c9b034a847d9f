/- FnExactChainVerdicts returns true for all arguments, and each argument reads afterwards as before: the row, and its card. Condition: the table of small primes is laid as the program's text lays it (tied by the card). -/
import Derived.Test.YtpieilkmmiopfaaGreatDoorCards
import Derived.Test.YtpieilkmmiopfaaGreatDoorTie
import Derived.Test.YtpieilkmmiopfaaGreatDoorPk51
namespace Go.Proofs.YtpieilkmmiopfaaGreatDoor.chainVerdicts
set_option linter.all false
open Go.Proofs.Tryz
set_option maxRecDepth 100000
open Go.ChangeShapes Go.WideShapes Go.ChangeAt Go.RowKit
variable{W:aa}
theorem C3:prog.globalNamed "loop.example/g01073/impl.smallPrimes"=some 0:=RP
theorem zx:(prog.globals[0]?).map (·.type)=some 224:=RP
theorem zeC:prog.cellsOf 224=4:=RP
theorem table(h:laidMetH prog Rows.fnExactChainVerdictsRow.laid W):Lib.TabIs prog W "loop.example/g01073/impl.smallPrimes" .i64 [2,3,5,7]:=Lib.tabIs_of_head (rest:=[]) C3 zx underlying224 gE lZ zeC h
theorem zgR(h:laidMetH prog Rows.fnExactChainVerdictsRow.laid W):eB W:=⟨(table h).cell C3 0 Rs,(table h).cell C3 1 Rs,(table h).cell C3 2 Rs,(table h).cell C3 3 Rs⟩
def pf:Array Value:=([2,3,5,7]:aH).map (fun z=>Value.int .i64 z) |>.toArray
theorem xO{h:Type}(enc:TypeId×Value->h)(W:aa)(D:Nat->Bool):DataW.trod enc prog W 0 D true 3 224 pf.toList=some (Rows.laid_loop_example_g01073_impl_smallPrimes,[]):=RP
theorem contract(J:Type)(enc:TypeId×Value->J)(W:aa)(br:Nat)(args:eU)(ds ca:List (DataW J))(bu:List MemPlace)(G:∀(j:Nat) t v,Tryz.f5.params[j]?=some t->args[j]?=some v->Value.okWide prog W .any br t v)(ab:DataW.Whole enc prog Tryz.f5.params.toList Rows.fnExactChainVerdictsSpec.vars false W args.toList ds ca bu)(Z:laidMetH prog Rows.fnExactChainVerdictsRow.laid W):aw 5 args W fun e H=>∃v,e=.returned v/\Rows.fnExactChainVerdictsSpec.post enc prog Tryz.f5 false true false false W args v H:=by
 have cn:=ab;obtain⟨p,q,Y,ck,rfl,fs,fx⟩:=ab;have V:DataW.TrodAll enc prog W 0 (fun _=>true) true Tryz.f5.params.toList args.toList ds p:=Y;rw[Tryz.params5]at V G;obtain⟨v0,f7,d0,e9,f0,f1,fo,rfl,rfl,cb,ei⟩:=trodAll_cons V;obtain⟨v1,f8,d1,fa,a0,f2,rfl,rfl,rfl,N,ej⟩:=trodAll_cons ei;obtain⟨v2,f9,d2,fb,p2,f3,rfl,rfl,rfl,O,ek⟩:=trodAll_cons ej;obtain⟨v3,ga,d3,fd,a1,f4,rfl,rfl,rfl,R,em⟩:=trodAll_cons ek;obtain⟨v4,gb,d4,fl,a2,f5,rfl,rfl,rfl,T,eo⟩:=trodAll_cons em;obtain⟨v5,gc,d5,fn,a3,f6,rfl,rfl,rfl,U,es⟩:=trodAll_cons eo;obtain⟨rfl,rfl,rfl⟩:=trodAll_nil es;obtain rfl:args=#[v0,v1,v2,v3,v4,v5]:=by cases args;simp_all
 obtain⟨g,t,cs,b9,d,fz,rfl,cq,c3,I,co,rfl⟩:=trodVars_one ck;obtain rfl:=je (C3.symm.trans cq);obtain rfl:=je (zx.symm.trans c3);obtain rfl:cs=pf:=je (I.symm.trans (table Z));obtain⟨rfl,rfl⟩:=DataW.Trod.unique (v:=.agg pf) ⟨b9,co⟩ ⟨3,xO enc W _⟩;have ac:=N;have ad:=O;have am:=R;have ao:=T;have ap:=U;obtain⟨eg,rfl,rfl,rfl,e0⟩:=open_int gE (G 0 3 v0 rfl rfl) cb;obtain⟨A1,bg,b4,rfl,cc,cr,cB⟩:=CY (G 1 24 v1 rfl rfl) N;obtain⟨a4,bi,b5,rfl,ce,ct,cF⟩:=CY (G 2 24 v2 rfl rfl) O;obtain⟨a5,bo,b6,rfl,ch,cu,cI⟩:=CY (G 3 24 v3 rfl rfl) R;obtain⟨bp,bc,e7,b7,ev,a6,e1,bv,a8,e3,b0,ba,e5,b2,rfl,⟨ci,cz,cO⟩,⟨c5,d6⟩,⟨c7,d8⟩,c9,ea⟩:=zo (G 4 28 v4 rfl rfl) T;obtain⟨bq,bd,e8,b8,ey,a7,e2,bz,a9,e4,b1,bb,e6,b3,rfl,⟨cj,cA,c0⟩,⟨c6,d7⟩,⟨c8,d9⟩,db,eb⟩:=zo (G 5 28 v5 rfl rfl) U;have dc:∀x∈a0,x.block<W.heap.size:=by obtain⟨m,D⟩:=ac;exact wg m _ _ _ D
 have dl:∀x∈p2,x.block<W.heap.size:=by obtain⟨m,D⟩:=ad;exact wg m _ _ _ D
 have dq:∀x∈a1,x.block<W.heap.size:=by obtain⟨m,D⟩:=am;exact wg m _ _ _ D
 have dr:∀x∈a2,x.block<W.heap.size:=by obtain⟨m,D⟩:=ao;exact wg m _ _ _ D
 have dT:∀x∈a3,x.block<W.heap.size:=by obtain⟨m,D⟩:=ap;exact wg m _ _ _ D
 clear Y;refine(DF eg bg A1 b4 bi a4 b5 bo a5 b6 ⟨bp,e7,ev,e1,e3,e5⟩ ⟨bc,b7,a6,bv,a8,b0,ba,b2⟩ ⟨bq,e8,ey,e2,e4,e6⟩ ⟨bd,b8,a7,bz,a9,b1,bb,b3⟩ W (zgR Z) cc cr cB ce ct cF ch cu cI ⟨ci,c5,c7,c9⟩ ⟨cz,cO,d6,d8,ea⟩ ⟨cj,c6,c8,db⟩ ⟨cA,c0,d7,d9,eb⟩).mono fun e H ⟨cp,F⟩=>?_
 subst cp;have c4:DataW.TrodVars enc prog H (fun b=>decide (b<W.heap.size)) ["loop.example/g01073/impl.smallPrimes"] [Rows.laid_loop_example_g01073_impl_smallPrimes] (MemPlace.row ⟨0,0,none⟩ pf.size++[]++[]):=
  ⟨0,224,pf,3,[],[],C3,zx,var?_below F C3 (jA _ _ (World.var?_cell C3 I 0)) I,xO enc H _,rfl,rfl⟩
 refine⟨_,rfl,_,_,_,[],[]++(a0++(p2++(a1++(a2++(a3++[]))))),MemPlace.row ⟨0,0,none⟩ pf.size++[]++[],cn,trodAll_mk1 (shut_bool underlying4 _),(sE (shut_int gE e0) (sE (Below.trod laidOut RP (sF RP) ac F dc) (sE (Below.trod laidOut RP (sF RP) ad F dl) (sE (Below.trod laidOut RP (sF RP) am F dq) (sE (Below.trod laidOut RP (sF RP) ao F dr) (sE (Below.trod laidOut RP (sF RP) ap F dT) trodAll_mk0)))))),c4,F.frame _,fun h=>Ru⟩
noncomputable def wV(h:Os):World:=
 {World.holding prog h ⟨#[],#[],[]⟩with heap:=(World.holding prog h ⟨#[],#[],[]⟩).heap.modify 0 fun
   |.cells _ t frozen=>.cells vP t frozen
   |o=>o}
def start:Array Value:=#[.int .i64 0,.agg kj,.agg kj,.agg kj,.agg dy,.agg dy]
theorem zeD(h:Os):laidMet prog Rows.fnExactChainVerdictsRow.laid ((wV h).forCall (fun _ _=>0) ⟨#[],start,[]⟩).memory:=laidMet_of_run' 8 RP RP
theorem reads(D:Os){h:Type}(enc:TypeId×Value->h):∃F,DataW.whole enc prog ((wV D).forCall (fun _ _=>0) ⟨#[],start,[]⟩).memory Tryz.f5.params.toList Rows.fnExactChainVerdictsSpec.vars false start.toList 8= some ([.lit (.int .i64 0),.agg [.nil],.agg [.nil],.agg [.nil],.agg [.lit (.bool false),.nil,.lit (.int .i64 0),.nil,.nil,.nil],.agg [.lit (.bool false),.nil,.lit (.int .i64 0),.nil,.nil,.nil]],[Rows.laid_loop_example_g01073_impl_smallPrimes],F):=⟨[.cell 0 0,.cell 0 1,.cell 0 2,.cell 0 3],RP⟩
theorem lifted(h:Os)(U:h.Started)(D:Type)(enc:TypeId×Value->D)(F:Stop.Interp):ReturnsInHanded {} Tryz.checked h 5 .any ((OpenSpec.ofChange Rows.fnExactChainVerdictsSpec).preRow enc prog Tryz.f5 Rows.fnExactChainVerdictsRow.domain false Rows.fnExactChainVerdictsRow.laid) (((OpenSpec.ofChange Rows.fnExactChainVerdictsSpec).at F).post enc prog Tryz.f5 false true false false):=by
 obtain⟨V,T⟩:=reads h enc;refine returnsInHanded_of_row (C:=Tryz.checked) (s:=OpenSpec.ofChange Rows.fnExactChainVerdictsSpec) own U RP func5
  (witness_row_at (enc:=enc) (C:=Tryz.checked) false (wV h) start rfl RP RP RP
   (OpenSpec.preRow_of_cond 8 T RP (fun k O=>by cases O) RP (zeD h))) ?_
 intro W G args ds I H R N _ _ _ J _ _;exact contract D enc W G args ds I H R N J
theorem said:Rows.FnExactChainVerdictsSaid:=OpenClaim.holds_of_cond 5 Tryz.f5 rfl rfl rfl rfl rfl rfl rfl ⟨rfl,rfl,rfl,rfl,rfl⟩ rfl rfl rfl rfl rfl RP func5 RP
  (sF RP) (by unfold Func.isWrapper;first|(rw[ay Sn];kernel_rfl)|(rw[av Sn];exact⟨rfl,rfl⟩))
  (fun F G D enc _ h=>by rw[OpenClaim.pre_eq_preRow];exact lifted F G D enc h)
theorem plain(f:FuncId)(h:Func)(G:Tryz.pinned.checked.prog.funcNamed "loop.example/g01073/laws.FnExactChainVerdicts"=some f)(H:Tryz.pinned.checked.prog.funcs[f]?=some h):false=Tryz.pinned.checked.prog.looks []/\∀(j:Nat) t,h.params[j]?=some t->Tryz.pinned.checked.prog.wantsStandIn t=false:=by
 obtain rfl:f=5:=je ((RP:prog.funcNamed "loop.example/g01073/laws.FnExactChainVerdicts"=some 5).symm.trans G) |>.symm;obtain rfl:h=Tryz.f5:=(je (func5.symm.trans H)).symm;refine⟨RP,fun j t D=>?_⟩;rw[Tryz.params5]at D;have I:t∈[3,24,24,24,28,28]:=by simpa using Array.mem_of_getElem? D
 have F:([3,24,24,24,28,28].all fun u=>!prog.wantsStandIn u)=true:=RP;exact(by simpa using fZ.1 F t I:prog.wantsStandIn t=false)
theorem card:Rows.FnExactChainVerdictsCardSaid:=Claim7.holds_tied_plain_at .later [] _ _ _ _ said (fun _ h=>Ru) RP (fun _ h=>Ru) fnExactChainVerdicts_row_tie rfl ⟨rfl,rfl⟩ RP rfl plain RP
#print axioms card
end Go.Proofs.YtpieilkmmiopfaaGreatDoor.chainVerdicts
