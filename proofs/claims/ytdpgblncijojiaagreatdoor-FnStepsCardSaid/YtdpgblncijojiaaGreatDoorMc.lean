/- Steps that stand more than once. Conditions: none. -/
import Derived.BigQuiet
import Derived.ChangeVars
import Derived.Deep.AppendLies
import Derived.Deep.Cut
import Derived.Deep.CutBlock
import Derived.Deep.CutRange
import Derived.Deep.DeepHandedRow
import Derived.Deep.Matrix
import Derived.Deep.QuietTactic
import Derived.Deep.RegionHeld
import Derived.Deep.RegionHeld3
import Derived.Deep.RegionLaw
import Derived.Deep.RegionWith
import Derived.LaidLaws
import Derived.Laws.BitsAllLaws
import Derived.Laws.CopyOwn
import Derived.Laws.Externs
import Derived.Laws.IdiomCopy
import Derived.Lib.AppendZeros
import Derived.Lib.AppendZerosOnto
import Derived.Lib.Hide
import Derived.Lib.LaidTab
import Derived.Lib.Overlaps
import Derived.Lib.SliceRun
import Derived.Lib.SmallJoins
import Derived.Maps.AppendAt
import Derived.OpenShut
import Derived.ProofKit
import Derived.StillTail
import Derived.Test.YtdpgblncijojiaaGreatDoorProg
import Derived.WalkKit
import Derived.WalkLawsBesides
import Derived.WalkSmall
import Derived.WalkSpells
namespace Go.Proofs.YtdpgblncijojiaaGreatDoor
open Go.RowKit Tryz
set_option linter.all false
def zA.{u}:(∀{α:Type u} (l:List α) (i:Nat) (a:α),l.toArray.setIfInBounds i a=(l.set i a).toArray)/\(∀{α:Type u} {x:α} {l:List α} {a:α},(x::l).set 0 a=a::l)/\∀{α:Type u} {x:α} {l:List α} {n:Nat} {a:α},(x::l).set (n+1) a=x::l.set n a:=⟨fun _ _ _=>List.setIfInBounds_toArray ..,rfl,rfl⟩
instance:CoeOut World Nat:=⟨(·.heap.size)⟩
instance {α}:CoeOut (List α) Nat:=⟨(·.length)⟩
def Hd(p:Prop):Prop:=(fun _=>p) @wpAnyQ
def Hd.o{p:Prop}(h:Hd p):p:=h
def zH{p:Prop}(h:p):Hd p:=h
def aO{α:Sort _}(a:α):∃x,x=a:=⟨a,rfl⟩
def cC{a b c:World}(h:Below a a b)(l:Below b b c):Below a a c:=h.trans (l.mono h.size)
def bS{p0 p1:Prop}(a0:p0)(a1:p1):Hd p0/\Hd p1:=⟨a0,a1⟩
def d_{p0 p1 p2:Prop}(a0:p0)(a1:p1)(a2:p2):Hd p0/\Hd p1/\Hd p2:=⟨a0,a1,a2⟩
def fU{p0 p1 p2 p3:Prop}(a0:p0)(a1:p1)(a2:p2)(a3:p3):Hd p0/\Hd p1/\Hd p2/\Hd p3:=⟨a0,a1,a2,a3⟩
def lv{p0 p1 p2 p3 p4:Prop}(a0:p0)(a1:p1)(a2:p2)(a3:p3)(a4:p4):Hd p0/\Hd p1/\Hd p2/\Hd p3/\Hd p4:=⟨a0,a1,a2,a3,a4⟩
def mA{p0 p1 p2 p3 p4 p5:Prop}(a0:p0)(a1:p1)(a2:p2)(a3:p3)(a4:p4)(a5:p5):Hd p0/\Hd p1/\Hd p2/\Hd p3/\Hd p4/\Hd p5:=⟨a0,a1,a2,a3,a4,a5⟩
def zH7{p0 p1 p2 p3 p4 p5 p6:Prop}(a0:p0)(a1:p1)(a2:p2)(a3:p3)(a4:p4)(a5:p5)(a6:p6):Hd p0/\Hd p1/\Hd p2/\Hd p3/\Hd p4/\Hd p5/\Hd p6:=⟨a0,a1,a2,a3,a4,a5,a6⟩
def zH8{p0 p1 p2 p3 p4 p5 p6 p7:Prop}(a0:p0)(a1:p1)(a2:p2)(a3:p3)(a4:p4)(a5:p5)(a6:p6)(a7:p7):Hd p0/\Hd p1/\Hd p2/\Hd p3/\Hd p4/\Hd p5/\Hd p6/\Hd p7:=⟨a0,a1,a2,a3,a4,a5,a6,a7⟩
def zH9{p0 p1 p2 p3 p4 p5 p6 p7 p8:Prop}(a0:p0)(a1:p1)(a2:p2)(a3:p3)(a4:p4)(a5:p5)(a6:p6)(a7:p7)(a8:p8):Hd p0/\Hd p1/\Hd p2/\Hd p3/\Hd p4/\Hd p5/\Hd p6/\Hd p7/\Hd p8:=⟨a0,a1,a2,a3,a4,a5,a6,a7,a8⟩
def zat{p0 p1 p2 p3 p4 p5 p6 p7 p8 p9:Prop}(a0:p0)(a1:p1)(a2:p2)(a3:p3)(a4:p4)(a5:p5)(a6:p6)(a7:p7)(a8:p8)(a9:p9):Hd p0/\Hd p1/\Hd p2/\Hd p3/\Hd p4/\Hd p5/\Hd p6/\Hd p7/\Hd p8/\Hd p9:=⟨a0,a1,a2,a3,a4,a5,a6,a7,a8,a9⟩
def AD{p0 p1 p2 p3 p4 p5 p6 p7 p8 p9 p10:Prop}(a0:p0)(a1:p1)(a2:p2)(a3:p3)(a4:p4)(a5:p5)(a6:p6)(a7:p7)(a8:p8)(a9:p9)(a10:p10):Hd p0/\Hd p1/\Hd p2/\Hd p3/\Hd p4/\Hd p5/\Hd p6/\Hd p7/\Hd p8/\Hd p9/\Hd p10:=⟨a0,a1,a2,a3,a4,a5,a6,a7,a8,a9,a10⟩
def zO{p0 p1 p2 p3 p4 p5 p6 p7 p8 p9 p10 p11:Prop}(a0:p0)(a1:p1)(a2:p2)(a3:p3)(a4:p4)(a5:p5)(a6:p6)(a7:p7)(a8:p8)(a9:p9)(a10:p10)(a11:p11):Hd p0/\Hd p1/\Hd p2/\Hd p3/\Hd p4/\Hd p5/\Hd p6/\Hd p7/\Hd p8/\Hd p9/\Hd p10/\Hd p11:=⟨a0,a1,a2,a3,a4,a5,a6,a7,a8,a9,a10,a11⟩
def dK(w:World)(o:Obj):Below w w (w.alloc o)/\(w.alloc o).heap[w.heap.size]?=some o:=⟨(Below.refl _ _).alloc (Nat.le_refl _) o,by show(w.heap.push o)[w.heap.size]?=_;simp⟩
structure M.{u}{α:Sort u}(a:α):Type
instance {α:Type}{a:α}:CoeOut (M a) α:=⟨fun _=>a⟩
instance {a:Prop}:CoeOut (M a) Prop:=⟨fun _=>a⟩
instance {a:Prop}:CoeSort (M a) Prop:=⟨fun _=>a⟩
instance {a:Type}:CoeOut (M a) Type:=⟨fun _=>a⟩
instance {a:Type}:CoeSort (M a) Type:=⟨fun _=>a⟩
instance:Coe Int Value:=⟨fun x=>.int .i64 x⟩
instance:Coe Nat Value:=⟨fun x=>.int .i64 (x:Int)⟩
instance:CoeDep Unit () Value:=⟨.int .i64 0⟩
def fe:M (Value.slice none 0 0):=⟨⟩
def ai(w w':World):M (Below w w w'):=⟨⟩
def ah(w:World)(b o:Nat)(v:Value):M (w.cell? ⟨b,o,none⟩=some v):=⟨⟩
def aU(w:World)(b:Nat)(c:Array Value)(t:TypeId):M (w.heap[b]?=some (.cells c t)):=⟨⟩
def fC(w:World)(x:Bool):M (fun(e:Ending) (w':World)=>e=.returned (.bool x)/\Below w w w'):=⟨⟩
def aw(f:FuncId)(x:Array Value)(w:World)(R:Ending->World->Prop):M (Calls Tryz.prog f x w R):=⟨⟩
def aY(g:Nat):M (some (⟨g,0,none⟩:Addr)):=⟨⟩
def zI(x:Int):M (Value.int .i64 x):=⟨⟩
def aE:M (List (List Int)):=⟨⟩
def an:M (Option Addr):=⟨⟩
def aG:M (List Int):=⟨⟩
def bG:M (List Value):=⟨⟩
def bX:M (List Nat):=⟨⟩
def qx:M (List (Nat×Nat)):=⟨⟩
def vj:M (List (Nat×Int)):=⟨⟩
def gU:M (Exit->Act->World->Prop):=⟨⟩
def mK:M (Act->World->Prop):=⟨⟩
def iS:M (World->Prop):=⟨⟩
def aa:M (World):=⟨⟩
def au:M (Value):=⟨⟩
def gh:M (Array Value):=⟨⟩
def iq:M (Array Oper):=⟨⟩
def dG:M (TypeId):=⟨⟩
def js:M (Operand):=⟨⟩
def kR:M (Program):=⟨⟩
def dD:M (Addr):=⟨⟩
def gW:M (Nat×Nat):=⟨⟩
def gF:M (Nat->Nat):=⟨⟩
def po:M (Array Bool):=⟨⟩
def zcM:M (List Bool):=⟨⟩
def gI:M (Oper):=⟨⟩
def ae(x0 x1 x2 x3 x4):M (#[.int .i64 x0,.int .i64 x1,.slice x2 x3 x4]:Array Value):=⟨⟩
def aQ:M (#[.int .i64 0,.int .i64 0,.slice none 0 0]:Array Value):=⟨⟩
def bB(x0 x1 x2 x3 x4 x5 x6):M (#[.int .i64 x0,.int .i64 x1,.int .i64 x2,.int .i64 x3,.slice x4 x5 x6]:Array Value):=⟨⟩
def cw:M (#[.int .i64 0,.slice none 0 0,.slice none 0 0,.slice none 0 0]:Array Value):=⟨⟩
def df:M (#[.int .i64 0,.int .i64 0,.int .i64 0,.int .i64 0,.slice none 0 0]:Array Value):=⟨⟩
def bP(x0 x1):M (#[.int .i64 x0,.int .i64 x1]:Array Value):=⟨⟩
def dj(x0 x1 x2 x3 x4):M (#[.int .i64 x0,.int .i64 x1,.slice x2 x3 x4]:Array Value):=⟨⟩
def bL{α1:Type}(x0)(x1:List α1)(x2):M (#[.slice x0 x1 x2]:Array Value):=⟨⟩
def cG(x0):M (#[.int .i64 (x0:Nat)]:Array Value):=⟨⟩
def fJ(x0 x1 x2 x3 x4 x5 x6 x7 x8 x9):M (#[.int .i64 (x0:Nat),.slice x1 x2 x3,.slice x4 x5 x6,.slice x7 x8 x9]:Array Value):=⟨⟩
def bg(x0):M (#[.int .i64 x0]:Array Value):=⟨⟩
def dE(x0 x1 x2):M (#[.int .i64 x0,.int .i64 x1,x2]:Array Value):=⟨⟩
def iT(x0 x1 x2 x3 x4 x5):M (#[.int .i64 6,.int .i64 x0,.int .i64 x1,.int .i64 x2,.slice x3 x4 x5]:Array Value):=⟨⟩
def fB(x0 x1 x2):M (#[.int .i64 x0,.int .i64 x1,.int .i64 x2]:Array Value):=⟨⟩
def dy(x0):M (#[.agg x0,.bool false]:Array Value):=⟨⟩
def jt(x0 x1 x2 x3 x4 x5 x6):M (#[.int .i64 x0,.int .i64 x1,.int .i64 x2,.int .i64 x3,.slice x4 x5 x6]:Array Value):=⟨⟩
def ju{α3:Type}{α6:Type}(x0 x1 x2)(x3:List α3)(x4 x5)(x6:List α6)(x7):M (#[.int .i64 x0,.int .i64 x1,.slice x2 x3 x4,.slice x5 x6 x7]:Array Value):=⟨⟩
def eB(x0 x1 x2):M (#[.int .i64 x0,.agg x1,.agg x2]:Array Value):=⟨⟩
def j6(x0 x1 x2 x3 x4 x5):M (#[.int .i64 8,.int .i64 x0,.int .i64 x1,.int .i64 x2,.slice x3 x4 x5]:Array Value):=⟨⟩
def j7(x0 x1 x2 x3 x4 x5):M (#[.int .i64 3,.int .i64 x0,.int .i64 x1,.int .i64 x2,.slice x3 x4 x5]:Array Value):=⟨⟩
def j8(x0 x1 x2 x3 x4 x5):M (#[.int .i64 1,.int .i64 x0,.int .i64 x1,.int .i64 x2,.slice x3 x4 x5]:Array Value):=⟨⟩
def j9(x0 x1 x2 x3 x4 x5):M (#[.int .i64 4,.int .i64 x0,.int .i64 x1,.int .i64 x2,.slice x3 x4 x5]:Array Value):=⟨⟩
def j_(x0 x1 x2 x3 x4 x5):M (#[.int .i64 5,.int .i64 x0,.int .i64 x1,.int .i64 x2,.slice x3 x4 x5]:Array Value):=⟨⟩
def ka(x0 x1 x2 x3 x4 x5):M (#[.int .i64 7,.int .i64 x0,.int .i64 x1,.int .i64 x2,.slice x3 x4 x5]:Array Value):=⟨⟩
def kb(x0 x1 x2 x3 x4 x5):M (#[.int .i64 9,.int .i64 x0,.int .i64 x1,.int .i64 x2,.slice x3 x4 x5]:Array Value):=⟨⟩
def dR(x0 x1 x2):M (#[.int .i64 x0,.agg x1,.agg x2]:Array Value):=⟨⟩
def kd(x0 x1 x2 x3 x4 x5):M (#[.int .i64 2,.int .i64 x0,.int .i64 x1,.int .i64 x2,.slice x3 x4 x5]:Array Value):=⟨⟩
def fk:M (#[.nilIface,.bool false]:Array Value):=⟨⟩
def eQ(x0 x1 x2):M (#[.agg x0,.int .i64 x1,.agg x2]:Array Value):=⟨⟩
def dN(x0):M (#[.agg x0,.bool true]:Array Value):=⟨⟩
def kf(x0 x1 x2 x3 x4 x5 x6):M (#[.agg #[.slice x0 x1 x2,.slice x3 x1 x4,.slice x5 x1 x6],.bool false]:Array Value):=⟨⟩
def gY(x0 x1 x2):M (#[.int .i64 x0,.int .i64 x1,.string x2]:Array Value):=⟨⟩
def kF(x0 x1 x2 x3 x4):M (#[.int .i64 x0,.int .i64 x1,.int .i64 x2,.int .i64 x3,x4]:Array Value):=⟨⟩
def fm:M (#[.slice none 0 0]:Array Value):=⟨⟩
def eZ(x0 x1 x2):M (#[x0,.int .i64 x1,.agg x2]:Array Value):=⟨⟩
def jv{α3:Type}(x0 x1 x2)(x3:List α3)(x4):M (#[.int .i64 x0,.agg x1,.slice x2 x3 x4]:Array Value):=⟨⟩
def ow:M (#[.slice none 0 0,.slice none 0 0,.slice none 0 0]:Array Value):=⟨⟩
def mV(x0 x1 x2 x3):M (#[.int .i64 x0,.int .i64 x1,.int .i64 x2,.int .i64 x3]:Array Value):=⟨⟩
def vk(x0):M (#[.int .i64 (x0:Nat),.slice none 0 0,.slice none 0 0,.slice none 0 0]:Array Value):=⟨⟩
def lN:M (#[.slice none 0 0,.bool false]:Array Value):=⟨⟩
def jw{α3:Type}(x0 x1 x2)(x3:List α3)(x4):M (#[.int .i64 x0,x1,.slice x2 x3 x4]:Array Value):=⟨⟩
def ox(x0 x1):M (#[.int .i64 (x0:Nat),.int .i64 (x1:Nat)]:Array Value):=⟨⟩
def vl(x0 x1 x2 x3):M (#[.int .i64 x0,.int .i64 x1,.int .i64 x2,.int .i64 x3,.slice none 0 0]:Array Value):=⟨⟩
def vm:M (#[.int .i64 2,.int .i64 3,.int .i64 5,.int .i64 7]:Array Value):=⟨⟩
def iU(x0 x1):M (#[.agg x0,.int .i64 x1]:Array Value):=⟨⟩
def rS(x0 x1 x2):M (#[.int .i64 2,.int .i64 x0,.int .i64 x1,.int .i64 x2]:Array Value):=⟨⟩
def vn(x0 x1):M (#[.int .i64 (x0:Nat),.int .i64 (x1:Nat),.slice none 0 0]:Array Value):=⟨⟩
def oy:M (#[.int .i64 0,.int .i64 1]:Array Value):=⟨⟩
def pL:M (#[.int .i64 0,.slice none 0 0]:Array Value):=⟨⟩
def vo(x0 x1):M (#[.int .i64 0,.int .i64 x0,.int .i64 x1,.int .i64 0]:Array Value):=⟨⟩
def cJ(x0):M (#[.agg x0]:Array Value):=⟨⟩
def jx:M (#[.int .i64 0]:Array Value):=⟨⟩
def vp(x0 x1 x2):M (#[.int .i64 1,.int .i64 x0,.int .i64 x1,.int .i64 x2]:Array Value):=⟨⟩
def vq(x0 x1 x2):M (#[.int .i64 0,.int .i64 x0,.int .i64 x1,.int .i64 x2]:Array Value):=⟨⟩
def pM:M (#[.int .i64 1,.int .i64 0]:Array Value):=⟨⟩
def lO(x0 x1):M (#[.pointer x0,.int .i64 x1]:Array Value):=⟨⟩
def fK(x0 x1):M (#[.slice x0 1 x1]:Array Value):=⟨⟩
def rT(x0 x1 x2 x3):M (#[.agg x0,.pointer x1,.pointer x2,.pointer x3]:Array Value):=⟨⟩
def CM(x0 x1 x2):M (#[.int .i64 x0,.int .i64 (x1:Nat),.int .i64 (x2:Nat),.int .i64 0,.slice none 0 0]:Array Value):=⟨⟩
def xI(x0 x1 x2 x3):M (#[.int .i64 x0,.int .i64 (x1:Nat),.slice x2 2 2,.slice x3 2 2]:Array Value):=⟨⟩
def eG(x0 x1 x2):M (#[.slice x0 x1 x2]:Array Value):=⟨⟩
def rU(x0 x1 x2):M (#[.int .i64 (x0:Nat),.slice x1 x2 x2]:Array Value):=⟨⟩
def vr(x0 x1 x2):M (#[.slice x0 x1 x2,.int .i64 0,.int .u64 0]:Array Value):=⟨⟩
def xJ{α2:Type}{α5:Type}{α8:Type}(x0 x1)(x2:List α2)(x3 x4)(x5:List α5)(x6 x7)(x8:List α8)(x9):M (#[.int .i64 x0,.slice x1 x2 x3,.slice x4 x5 x6,.slice x7 x8 x9]:Array Value):=⟨⟩
def pN(x0 x1 x2 x3 x4):M (#[.agg x0,.int .i64 x1,.slice x2 x3 x4]:Array Value):=⟨⟩
def rV{α1:Type}{α4:Type}(x0)(x1:List α1)(x2 x3)(x4:List α4)(x5):M (#[.slice x0 x1 x2,.slice x3 x4 x5]:Array Value):=⟨⟩
def xK(x0 x1 x2 x3 x4):M (#[.int .i64 (x0:Nat),.int .i64 (x1:Nat),.slice x2 x3 x4]:Array Value):=⟨⟩
def xL(x0 x1 x2 x3):M (#[.pointer x0,.int .i64 x1,.int .i64 x2,.int .i64 x3]:Array Value):=⟨⟩
def kg(x0 x1):M (#[.agg x0,.agg x1]:Array Value):=⟨⟩
def pO(x0 x1 x2):M (#[.slice x0 x1 x2,.bool true]:Array Value):=⟨⟩
def lP(x0 x1):M (#[.agg x0,.bool x1]:Array Value):=⟨⟩
def pP:=@Nat.eq_zero_or_pos
def aF:=@Or.inl
def eS:=@List.eq_nil_of_length_eq_zero
def kG:=@World.ownsRow.form
def aM:=@Array.getElem?_eq_some_iff
def jy:=@Nat.le_of_lt
def ag:=@Nat.le_refl
def ax:=@bodyPost_ret
def gZ:=@Nat.lt_of_lt_of_le
def bc:=@Nat.le_trans
def iV:=@Nat.lt_succ_self
def bn:=@And.intro
def aZ:=@IntKind.wrap_i64
def bs:=@heap_setCell_same
def bC:=@Bool.and_eq_true
def cZ:=@List.getElem?_cons_succ
def xM:=@Nat.lt_or_eq_of_le
def dA:=@List.getElem?_eq_getElem
def fX:=@Int.eq_ofNat_of_zero_le
def fp:=@List.all_eq_true
def et:=@List.mem_range
def lQ:=@Bool.or_eq_true
def cK:=@decide_eq_true_eq
def bu:=@List.getD_eq_getElem?_getD
def oz:=@List.getElem_mem
def lR:=@List.length_drop
def fL:=@List.getElem?_drop
def vt:=@Nat.lt_trichotomy
def vu:=@List.getElem?_zipWith
def ir:=@Int.emod_nonneg
def iu:=@Int.emod_lt_of_pos
def dz:=@List.getElem?_set_ne
def gJ:=@Ne.symm
def eu:=@List.getElem?_set_self
def rW:=@Int.add_emod
def oA:=@Int.mul_emod
def rX:=@Int.emod_emod_of_dvd
def rY:=@Int.dvd_refl
def vw:=@Int.neg_mul
def oB:=@Int.mul_assoc
def kh:=@Int.mul_comm
def rZ:=@Int.mul_one
def pQ:=@Int.mul_zero
def pR:=@Int.add_zero
def oC:=@Int.emod_eq_of_lt
def e_:=@List.mem_iff_getElem?
def bA:=@List.getElem?_eq_some_iff
def ki:=@if_false
def jf:=@if_true
def ay:=@if_pos
def al:=@if_neg
def cp:=@List.getElem?_map
def lS:=@Int.zero_mul
def mW:=@List.length_eraseIdx_of_lt
def aj:=@Below.refl
def bQ:=@List.length_append
def mX:=@congrArg
def gp:=@List.mem_singleton
def fc:=@List.mem_append
def cf:=@List.mem_map
def CN:=@Bool.or_eq_false_iff
def CO:=@decide_eq_false_iff_not
def aA:=@Or.inr
def g_:=@List.length_range
def bt:=@List.length_map
def vx:=@List.mem_iff_getElem
def eH:=@Option.some.inj
def a_:=@List.mem_of_getElem?
def iw:=@Nat.zero_add
def vy:=@List.length_eq_one_iff
def jz:=@Nat.add_zero
def pS:=@Calls.mono
def bf:=@Nat.zero_le
def bw:=@Below.heap_setCell
def vz:=@List.mem_filter
def lT:=@List.any_eq_true
def pT:=@List.of_mem_zip
def r5:=@List.mem_append_left
def oD:=@List.mem_append_right
def mY:=@Bool.eq_iff_iff
def cg:=@World.size_alloc
def bZ:=@World.ownsRow.lt
def dt:=@List.getElem?_cons_zero
def kj:=@List.length_replicate
def fO:=@Value.slice.injEq
def cm:=@heap_setCell_other
def pU:=@Below.grown
def gK:=@List.take_add_one
def gq:=@List.take_of_length_le
def cU:=@info_parts
def dS:=@underlying27
def ix:=@List.length_nil
def pV:=@Option.map_eq_some_iff
def iM:=@Nat.min_eq_left
def oE:=@List.range_succ
def xN:=@Nat.min_eq_right
def lr:=@Nat.le_of_eq
def gu:=@List.map_append
def gv:=@List.getElem?_append_right
def mZ:=@List.setIfInBounds_toArray
def jA:=@List.set_cons_zero
def iy:=@decide_eq_true
def r7:=@Nat.zero_mul
def dx:=@List.getElem?_append_left
def vA:=@Nat.sub_self
def xO:=@List.length_singleton
def r_:=@List.nil_append
def dX:=@Option.some.injEq
def vB:=@List.length_eq_zero_iff
def lu:=@List.getElem?_range
def sd:=@Option.map_some
def jg:=@wpList_make_full
def hJ:=@World.ownsRow.kept
def iN:=@World.block_lt_of_cell?
def se:=@Bool.not_eq_true
def fY:=@List.getElem?_take
def xP:=@Option.getD_some
def dH:=@List.length_take
def pW:=@Nat.add_assoc
def sf:=@forall_congr'
def pX:=@World.ownsRow.cells
def m5:=@World.ownsRow.alloc
def vC:=@wpList_append_own
def gx:=@underlying24
def pY:=@heap_alloc_old
def lU:=@List.length_cons
def h_:=@List.map_set
def fP:=@List.length_set
def pZ:=@beq_iff_eq
def CP:=@List.getElem?_zipIdx
def vD:=@List.mem_or_eq_of_mem_set
def p_:=@List.mem_of_mem_take
def jh:=@List.mem_cons
def km:=@List.mem_of_mem_drop
def sh:=@List.mem_of_mem_eraseIdx
def m6:=@List.length_eraseIdx
def ic:=@Bool.false_and
def qc:=@Bool.true_and
def eT:=@Nat.mul_one
def m7:=@List.size_toArray
def xQ:=@List.eraseIdx_eq_take_drop_succ
def kH:=@List.take_take
def m8:=@ntmps37
def si:=@step_append_room
def vE:=@World.ownsRow.drew
def kn:=@Below.setCell
def m9:=@results37
def CQ:=@List.take_append_drop
def vF:=@List.take_append_of_le_length
def kI:=@List.append_assoc
def qd:=@wpList_plain
def xR:=@World.size_drew
def vG:=@wp_region_held_drew
def cq:=@wpAnyH_ready
def cv:=@AllReadyH.nil
def iz:=@Below.size
def jB:=@wpAnyH_done
def dF:=@wpQuiet_nil
def sj:=@List.map_take
def fq:=@func36
def ft:=@ntmps36
def xS:=@List.cons_append
def m_:=@World.ownsRow_nil
def qe:=@World.ownsRow_lit
def fu:=@List.ext_getElem?
def fQ:=@List.getElem?_eq_none
def ie:=@List.getElem?_replicate
def xT:=@Int.mul_nonneg
def CR:=@Int.mul_le_mul_of_nonneg_right
def CS:=@Int.mul_le_mul_of_nonneg_left
def lV:=@List.mem_cons_of_mem
def lW:=@List.mem_cons_self
def vH:=@List.all_cons
def oF:=@Nat.mul_le_mul_right
def ko:=@List.map_map
def kp:=@List.not_mem_nil
def xU:=@List.all_append
def sl:=@List.flatten_cons
def vI:=@Nat.succ_mul
def oG:=@run_copy_cells
def oH:=@Nat.min_def
def vJ:=@wpList_append_lies
def xV:=@wpList_append_own_at
def qf:=@List.mem_flatten
def kJ:=@or_false
def xW:=@World.grownBy.cell
def qg:=@List.take_length
def sm:=@step_append_lies
def xX:=@List.mem_replicate
def jD:=@List.map_congr_left
def gM:=@decide_eq_false
def so:=@Bool.and_false
def xY:=@List.take_succ_cons
def nc:=@List.drop_of_length_le
def nf:=@List.append_nil
def sq:=@List.set_append_right
def sr:=@List.drop_eq_getElem_cons
def ng:=@Nat.lt_of_succ_lt
def su:=@Addr.mk.injEq
def vK:=@List.mem_flatMap
def jE:=@Int.dvd_trans
def oI:=@Int.dvd_sub
def qh:=@Int.dvd_add
def qi:=@Nat.lt_or_ge
def vL:=@World.cell?_setCell_other
def xZ:=@World.cell?_of_block
def lX:=@func34
def lY:=@ntmps34
def eU:=@results34
def x_:=@List.getElem?_set
def sv:=@Int.sub_mul
def vM:=@List.map_drop
def ji:=@results185
def nh:=@ntmps90
def nj:=@results90
def oJ:=@List.count_le_length
def CT:=@Classical.byContradiction
def qj:=@Array.getElem?_toList
def CU:=@List.flatten_append
def vN:=@List.take_zero
def oK:=@Array.getElem?_eq_none
def ed:=@func67
def ee:=@ntmps67
def ef:=@results67
def qk:=@results155
def lZ:=@func173
def l0:=@ntmps173
def l5:=@results173
def CV:=@List.take_length_add_append
def sx:=@underlying44
def CW:=@World.news_of_block
def l6:=@func41
def l7:=@ntmps41
def l9:=@results41
def l_:=@func71
def me:=@ntmps71
def oL:=@func108
def oM:=@ntmps108
def oN:=@results108
def ya:=@run_underlying
variable{p q:Prop}
def Z_(h:p:=by
 go_wp2_with fail
 refine bJ (S:=fun W=>ah W w1 2 (.slice (aY g) rows ET)) 14 (by kernel_rfl) y2 (fun hHeld=>?_);refine aC 0 ?_;refine aC 1 ?_;refine aC 2 ?_;refine aC 3 ?_;refine aC 4 ?_;refine aC 5 ?_;refine aC 9 ?_;refine aC 10 ?_;refine aC 11 ?_;refine zbs (i:=6) (j:=7) (by kernel_rfl) rfl rfl (fun K hK=>?_) (fun K hK=>?_)
 .go_simp;refine(L1.o _ (aj _ _).drew).mono ?_;rintro e w2 ⟨u1,rfl,Gl,Gw⟩;obtain⟨A1,c1,rfl⟩:∃A1 c1,u1=.slice A1 0 c1:=by obtain⟨A1,c1,e,_⟩:=Gl.view;exact⟨A1,c1,by rw[e];congr 1<;>(simp<;>omega)⟩
  obtain⟨H2,Gj⟩:=bS ((aj wr wr).drew.trans Gw) Gl;clear Gl Gw;go_simp;refine hK.out _ _ (fun _=>av H2.o y2) (fun hHeld=>?_);clear hK K;try simp only[Act.put,zA]
  have hHeld:=hHeld (by decide);refine bM 7 fun K hK=>?_
  go_simp;refine hK.out _ _ (fun _=>av (H2.o.alloc H2.o.size _) y2) (fun hHeld=>?_);clear hK K;try simp only[Act.put,zA]
  have hHeld:=hHeld (by decide);have Gv:=H2.o.alloc H2.o.size (.cells jx 3);have Gm:ar (w2.alloc (.cells jx 3)) wr (.slice A1 0 c1) ((([]:aG)).take 0):=Gj.o.ext ((aj _ _).alloc (ag _) _);have Gn:=mu w2 0;obtain⟨Gf,HZ,HC⟩:=d_ Gm Gn Gv;clear Gm Gn Gv;refine bM 8 fun K hK=>?_
  refine cX rfl (.tmp 213) (.tmp 214) rfl wr _ (.slice A1 0 c1) ((([]:aG)).take 0) [0] (some ⟨_,0,none⟩) 1 1 rfl rfl rfl Gf.o HZ.o (by simp<;>omega) HC.o.size ?_;intro v2 w3 Gy Gz;obtain⟨A2,c2,rfl⟩:∃A2 c2,v2=.slice A2 (0+1) c2:=by obtain⟨A2,c2,e,_⟩:=Gy.view;exact⟨A2,c2,by rw[e];congr 1<;>(simp<;>omega)⟩
  obtain⟨Gt,Gs⟩:=bS (HC.o.trans Gz) Gy;clear Gy Gz;refine hK.out _ _ (fun _=>av Gt.o y2) (fun hHeld=>?_);clear hK K;try simp only[Act.put,zA]
  have hHeld:=hHeld (by decide);refine bM 12 fun K hK=>?_
  refine cX rfl (.tmp 215) (.tmp 218) rfl wr w3 (.slice A2 (0+1) c2) ((([]:aG)).take 0++[0]) ((([]:aG)).drop 0) (none) (0) (0) (by simp) rfl rfl Gs.o (ID.o.ext Gt.o) (by simp<;>omega) Gt.o.size ?_;intro v3 w4 Gp FJ;rw[show(([]:aG)).take 0++[0]++(([]:aG)).drop 0=bK (([]:aG)) 0 0 by simp[bK]]at Gp;obtain⟨A3,c3,rfl⟩:∃A3 c3,v3=.slice A3 ((([]:aG)).length+1) c3:=by obtain⟨A3,c3,e,_⟩:=Gp.view;exact⟨A3,c3,by rw[e,show(bK (([]:aG)) 0 (0:Int)).length=(([]:aG))+1 from jo _ _ _ (by omega)]⟩
  obtain⟨Gi,Gu⟩:=bS (Gt.o.trans FJ) Gp;clear Gp FJ;have GA:=av Gi.o z0;have Gh:=gO Gi.o f0 (jO z0);have Gk:=zH (av Gi.o y2);clear z0 f0;refine hK.out _ _ (fun _=>Gk.o) (fun hHeld=>?_);clear hK K y2;try simp only[Act.put,zA]
  have hHeld:=hHeld (by decide);refine bM 13 fun K hK=>?_
  go_simp;refine hK.out _ _ (fun _=>Gk.o) (fun hHeld=>?_);clear hK K;try simp only[Act.put,zA]
  have hHeld:=hHeld (by decide);refine bM 14 fun K hK=>?_
  go_simp;refine hK.out _ _ (fun h=>absurd h (by decide)) (fun _=>?_);clear hK K;try simp only[Act.put,zA]
  refine eC (by kernel_rfl) ?_ _;have Gg:=HW.o.size;have Fp:=HO.o.put (dW _ _ _ hk).symm Gq.o (fw Gi.o) (Gu.o.mono (B':=(w:Nat)+3) (by omega)) (fun b hb=>aA (Gu.o.lt b hb).1);rw[iG (fun r=>bK r 0 0) _ k (([]:aG)) Gx.o]at Fp;obtain⟨HN,E0,Er⟩:=d_ Fp ((cm w4 ⟨g,k,none⟩ w1 (.slice A3 ((([]:aG)).length+1) c3) (by simp<;>omega)).trans ((Gi.o.block w1 (by omega)).trans Fo.o)) (kn (HW.o.trans (Gi.o.mono (by omega))) (p:=⟨g,k,none⟩) (by simp<;>omega) (.slice A3 ((([]:aG)).length+1) c3));clear Fp;go_wp2;go_roundw
  case rel=>exact⟨k+1,by omega,by go_num,⟨_,HN.o⟩,E0.o,Er.o⟩
  case measure=>simp[intOf];omega
 .go_simp;refine hK.out _ _ (fun _=>av ((aj _ _).drew.alloc (ag _) _) y2) (fun hHeld=>?_);clear hK K;try simp only[Act.put,zA]
  have hHeld:=hHeld (by decide);refine bM 6 fun K hK=>?_
  go_simp;refine(L1.o _ ((aj _ _).drew.alloc (ag _) _)).mono ?_;rintro e w2 ⟨u1,rfl,Gl,Gw⟩;obtain⟨A1,c1,rfl⟩:∃A1 c1,u1=.slice A1 0 c1:=by obtain⟨A1,c1,e,_⟩:=Gl.view;exact⟨A1,c1,by rw[e];congr 1<;>(simp<;>omega)⟩
  have H2:=zH (((aj wr wr).drew.alloc (ag _) (.cells jx 3)).trans (Gw.mono (by simp)));have Gm:ar w2 wr (.slice A1 0 c1) ((([]:aG)).take 0):=Gl.mono (by simp);have Gn:=(mu wr.drew 0).ext Gw;clear Gl Gw;have Gv:=H2.o;go_simp;refine hK.out _ _ (fun _=>av H2.o y2) (fun hHeld=>?_);clear hK K;try simp only[Act.put,zA]
  have hHeld:=hHeld (by decide);obtain⟨Gf,HZ,HC⟩:=d_ Gm Gn Gv;clear Gm Gn Gv;refine bM 8 fun K hK=>?_
  refine cX rfl (.tmp 213) (.tmp 214) rfl wr _ (.slice A1 0 c1) ((([]:aG)).take 0) [0] (some ⟨_,0,none⟩) 1 1 rfl rfl rfl Gf.o HZ.o (by simp<;>omega) HC.o.size ?_;intro v2 w3 Gy Gz;obtain⟨A2,c2,rfl⟩:∃A2 c2,v2=.slice A2 (0+1) c2:=by obtain⟨A2,c2,e,_⟩:=Gy.view;exact⟨A2,c2,by rw[e];congr 1<;>(simp<;>omega)⟩
  obtain⟨Gt,Gs⟩:=bS (HC.o.trans Gz) Gy;clear Gy Gz;refine hK.out _ _ (fun _=>av Gt.o y2) (fun hHeld=>?_);clear hK K;try simp only[Act.put,zA]
  have hHeld:=hHeld (by decide);refine bM 12 fun K hK=>?_
  refine cX rfl (.tmp 215) (.tmp 218) rfl wr w3 (.slice A2 (0+1) c2) ((([]:aG)).take 0++[0]) ((([]:aG)).drop 0) (none) (0) (0) (by simp) rfl rfl Gs.o (ID.o.ext Gt.o) (by simp<;>omega) Gt.o.size ?_;intro v3 w4 Gp FJ;rw[show(([]:aG)).take 0++[0]++(([]:aG)).drop 0=bK (([]:aG)) 0 0 by simp[bK]]at Gp;obtain⟨A3,c3,rfl⟩:∃A3 c3,v3=.slice A3 ((([]:aG)).length+1) c3:=by obtain⟨A3,c3,e,_⟩:=Gp.view;exact⟨A3,c3,by rw[e,show(bK (([]:aG)) 0 (0:Int)).length=(([]:aG))+1 from jo _ _ _ (by omega)]⟩
  obtain⟨Gi,Gu⟩:=bS (Gt.o.trans FJ) Gp;clear Gp FJ;have GA:=av Gi.o z0;have Gh:=gO Gi.o f0 (jO z0);have Gk:=zH (av Gi.o y2);clear z0 f0;refine hK.out _ _ (fun _=>Gk.o) (fun hHeld=>?_);clear hK K y2;try simp only[Act.put,zA]
  have hHeld:=hHeld (by decide);refine bM 13 fun K hK=>?_
  go_simp;refine hK.out _ _ (fun _=>Gk.o) (fun hHeld=>?_);clear hK K;try simp only[Act.put,zA]
  have hHeld:=hHeld (by decide);refine bM 14 fun K hK=>?_
  go_simp;refine hK.out _ _ (fun h=>absurd h (by decide)) (fun _=>?_);clear hK K;try simp only[Act.put,zA]
  refine eC (by kernel_rfl) ?_ _;have Gg:=HW.o.size;have Fp:=HO.o.put (dW _ _ _ hk).symm Gq.o (fw Gi.o) (Gu.o.mono (B':=(w:Nat)+3) (by omega)) (fun b hb=>aA (Gu.o.lt b hb).1);rw[iG (fun r=>bK r 0 0) _ k (([]:aG)) Gx.o]at Fp;obtain⟨HN,E0,Er⟩:=d_ Fp ((cm w4 ⟨g,k,none⟩ w1 (.slice A3 ((([]:aG)).length+1) c3) (by simp<;>omega)).trans ((Gi.o.block w1 (by omega)).trans Fo.o)) (kn (HW.o.trans (Gi.o.mono (by omega))) (p:=⟨g,k,none⟩) (by simp<;>omega) (.slice A3 ((([]:aG)).length+1) c3));clear Fp;go_wp2;go_roundw
  case rel=>exact⟨k+1,by omega,by go_num,⟨_,HN.o⟩,E0.o,Er.o⟩
  case measure=>simp[intOf];omega):p:=h
def Z9(h:p:=by
 go_wp2_with fail
 refine bJ (S:=fun W=>ah W w1 2 (.slice (aY g) rows ET)) 14 (by kernel_rfl) y2 (fun hHeld=>?_);refine aC 0 ?_;refine aC 1 ?_;refine aC 2 ?_;refine aC 3 ?_;refine aC 4 ?_;refine aC 5 ?_;refine aC 9 ?_;refine aC 10 ?_;refine aC 11 ?_;refine zbs (i:=6) (j:=7) (by kernel_rfl) rfl rfl (fun K hK=>?_) (fun K hK=>?_)
 .go_simp;refine(L1.o _ (aj _ _).drew).mono ?_;rintro e w2 ⟨u1,rfl,Gl,Gw⟩;obtain⟨A1,c1,rfl⟩:∃A1 c1,u1=.slice A1 q c1:=by obtain⟨A1,c1,e,_⟩:=Gl.view;exact⟨A1,c1,by rw[e];congr 1<;>(simp<;>omega)⟩
  obtain⟨H2,Gj⟩:=bS ((aj wr wr).drew.trans Gw) Gl;clear Gl Gw;go_simp;refine hK.out _ _ (fun _=>av H2.o y2) (fun hHeld=>?_);clear hK K;try simp only[Act.put,zA]
  have hHeld:=hHeld (by decide);refine bM 7 fun K hK=>?_
  go_simp;refine hK.out _ _ (fun _=>av (H2.o.alloc H2.o.size _) y2) (fun hHeld=>?_);clear hK K;try simp only[Act.put,zA]
  have hHeld:=hHeld (by decide);have Gv:=H2.o.alloc H2.o.size (.cells jx 3);have Gm:ar (w2.alloc (.cells jx 3)) wr (.slice A1 q c1) ((r).take q):=Gj.o.ext ((aj _ _).alloc (ag _) _);have Gn:=mu w2 0;obtain⟨Gf,HZ,HC⟩:=d_ Gm Gn Gv;clear Gm Gn Gv;refine bM 8 fun K hK=>?_
  refine cX rfl (.tmp 213) (.tmp 214) rfl wr _ (.slice A1 q c1) ((r).take q) [0] (some ⟨_,0,none⟩) 1 1 rfl rfl rfl Gf.o HZ.o (by simp<;>omega) HC.o.size ?_;intro v2 w3 Gy Gz;obtain⟨A2,c2,rfl⟩:∃A2 c2,v2=.slice A2 (q+1) c2:=by obtain⟨A2,c2,e,_⟩:=Gy.view;exact⟨A2,c2,by rw[e];congr 1<;>(simp<;>omega)⟩
  obtain⟨Gt,Gs⟩:=bS (HC.o.trans Gz) Gy;clear Gy Gz;refine hK.out _ _ (fun _=>av Gt.o y2) (fun hHeld=>?_);clear hK K;try simp only[Act.put,zA]
  have hHeld:=hHeld (by decide);refine bM 12 fun K hK=>?_
  refine cX rfl (.tmp 215) (.tmp 218) rfl wr w3 (.slice A2 (q+1) c2) ((r).take q++[0]) ((r).drop q) (some A9) (r.length-q) (cr-q) (by simp) rfl rfl Gs.o (ID.o.ext Gt.o) (by simp<;>omega) Gt.o.size ?_;intro v3 w4 Gp FJ;rw[show(r).take q++[0]++(r).drop q=bK (r) q 0 by simp[bK]]at Gp;obtain⟨A3,c3,rfl⟩:∃A3 c3,v3=.slice A3 ((r).length+1) c3:=by obtain⟨A3,c3,e,_⟩:=Gp.view;exact⟨A3,c3,by rw[e,show(bK (r) q (0:Int)).length=(r)+1 from jo _ _ _ (by omega)]⟩
  obtain⟨Gi,Gu⟩:=bS (Gt.o.trans FJ) Gp;clear Gp FJ;have GA:=av Gi.o z0;have Gh:=gO Gi.o f0 (jO z0);have Gk:=zH (av Gi.o y2);clear z0 f0;refine hK.out _ _ (fun _=>Gk.o) (fun hHeld=>?_);clear hK K y2;try simp only[Act.put,zA]
  have hHeld:=hHeld (by decide);refine bM 13 fun K hK=>?_
  go_simp;refine hK.out _ _ (fun _=>Gk.o) (fun hHeld=>?_);clear hK K;try simp only[Act.put,zA]
  have hHeld:=hHeld (by decide);refine bM 14 fun K hK=>?_
  go_simp;refine hK.out _ _ (fun h=>absurd h (by decide)) (fun _=>?_);clear hK K;try simp only[Act.put,zA]
  refine eC (by kernel_rfl) ?_ _;have Gg:=HW.o.size;have Fp:=HO.o.put (dW _ _ _ hk).symm Gq.o (fw Gi.o) (Gu.o.mono (B':=(w:Nat)+3) (by omega)) (fun b hb=>aA (Gu.o.lt b hb).1);rw[iG (fun r=>bK r q 0) _ k (r) Gx.o]at Fp;obtain⟨HN,E0,Er⟩:=d_ Fp ((cm w4 ⟨g,k,none⟩ w1 (.slice A3 ((r).length+1) c3) (by simp<;>omega)).trans ((Gi.o.block w1 (by omega)).trans Fo.o)) (kn (HW.o.trans (Gi.o.mono (by omega))) (p:=⟨g,k,none⟩) (by simp<;>omega) (.slice A3 ((r).length+1) c3));clear Fp;go_wp2;go_roundw
  case rel=>exact⟨k+1,by omega,by go_num,⟨_,HN.o⟩,E0.o,Er.o⟩
  case measure=>simp[intOf];omega
 .go_simp;refine hK.out _ _ (fun _=>av ((aj _ _).drew.alloc (ag _) _) y2) (fun hHeld=>?_);clear hK K;try simp only[Act.put,zA]
  have hHeld:=hHeld (by decide);refine bM 6 fun K hK=>?_
  go_simp;refine(L1.o _ ((aj _ _).drew.alloc (ag _) _)).mono ?_;rintro e w2 ⟨u1,rfl,Gl,Gw⟩;obtain⟨A1,c1,rfl⟩:∃A1 c1,u1=.slice A1 q c1:=by obtain⟨A1,c1,e,_⟩:=Gl.view;exact⟨A1,c1,by rw[e];congr 1<;>(simp<;>omega)⟩
  have H2:=zH (((aj wr wr).drew.alloc (ag _) (.cells jx 3)).trans (Gw.mono (by simp)));have Gm:ar w2 wr (.slice A1 q c1) ((r).take q):=Gl.mono (by simp);have Gn:=(mu wr.drew 0).ext Gw;clear Gl Gw;have Gv:=H2.o;go_simp;refine hK.out _ _ (fun _=>av H2.o y2) (fun hHeld=>?_);clear hK K;try simp only[Act.put,zA]
  have hHeld:=hHeld (by decide);obtain⟨Gf,HZ,HC⟩:=d_ Gm Gn Gv;clear Gm Gn Gv;refine bM 8 fun K hK=>?_
  refine cX rfl (.tmp 213) (.tmp 214) rfl wr _ (.slice A1 q c1) ((r).take q) [0] (some ⟨_,0,none⟩) 1 1 rfl rfl rfl Gf.o HZ.o (by simp<;>omega) HC.o.size ?_;intro v2 w3 Gy Gz;obtain⟨A2,c2,rfl⟩:∃A2 c2,v2=.slice A2 (q+1) c2:=by obtain⟨A2,c2,e,_⟩:=Gy.view;exact⟨A2,c2,by rw[e];congr 1<;>(simp<;>omega)⟩
  obtain⟨Gt,Gs⟩:=bS (HC.o.trans Gz) Gy;clear Gy Gz;refine hK.out _ _ (fun _=>av Gt.o y2) (fun hHeld=>?_);clear hK K;try simp only[Act.put,zA]
  have hHeld:=hHeld (by decide);refine bM 12 fun K hK=>?_
  refine cX rfl (.tmp 215) (.tmp 218) rfl wr w3 (.slice A2 (q+1) c2) ((r).take q++[0]) ((r).drop q) (some A9) (r.length-q) (cr-q) (by simp) rfl rfl Gs.o (ID.o.ext Gt.o) (by simp<;>omega) Gt.o.size ?_;intro v3 w4 Gp FJ;rw[show(r).take q++[0]++(r).drop q=bK (r) q 0 by simp[bK]]at Gp;obtain⟨A3,c3,rfl⟩:∃A3 c3,v3=.slice A3 ((r).length+1) c3:=by obtain⟨A3,c3,e,_⟩:=Gp.view;exact⟨A3,c3,by rw[e,show(bK (r) q (0:Int)).length=(r)+1 from jo _ _ _ (by omega)]⟩
  obtain⟨Gi,Gu⟩:=bS (Gt.o.trans FJ) Gp;clear Gp FJ;have GA:=av Gi.o z0;have Gh:=gO Gi.o f0 (jO z0);have Gk:=zH (av Gi.o y2);clear z0 f0;refine hK.out _ _ (fun _=>Gk.o) (fun hHeld=>?_);clear hK K y2;try simp only[Act.put,zA]
  have hHeld:=hHeld (by decide);refine bM 13 fun K hK=>?_
  go_simp;refine hK.out _ _ (fun _=>Gk.o) (fun hHeld=>?_);clear hK K;try simp only[Act.put,zA]
  have hHeld:=hHeld (by decide);refine bM 14 fun K hK=>?_
  go_simp;refine hK.out _ _ (fun h=>absurd h (by decide)) (fun _=>?_);clear hK K;try simp only[Act.put,zA]
  refine eC (by kernel_rfl) ?_ _;have Gg:=HW.o.size;have Fp:=HO.o.put (dW _ _ _ hk).symm Gq.o (fw Gi.o) (Gu.o.mono (B':=(w:Nat)+3) (by omega)) (fun b hb=>aA (Gu.o.lt b hb).1);rw[iG (fun r=>bK r q 0) _ k (r) Gx.o]at Fp;obtain⟨HN,E0,Er⟩:=d_ Fp ((cm w4 ⟨g,k,none⟩ w1 (.slice A3 ((r).length+1) c3) (by simp<;>omega)).trans ((Gi.o.block w1 (by omega)).trans Fo.o)) (kn (HW.o.trans (Gi.o.mono (by omega))) (p:=⟨g,k,none⟩) (by simp<;>omega) (.slice A3 ((r).length+1) c3));clear Fp;go_wp2;go_roundw
  case rel=>exact⟨k+1,by omega,by go_num,⟨_,HN.o⟩,E0.o,Er.o⟩
  case measure=>simp[intOf];omega):p:=h
def Z8(h:p:=by
 go_simp;refine hK.out _ _ (fun _=>qH (by iterate 8 (first|done|exact aI _|exact aj _ _|refine mh ?_|refine mi ?_)) S0) (fun hHeld=>?_);clear hK K hHeld;try simp only[Act.put,zA]
 refine bM 17 fun K hK=>?_
 go_simp
 (with_reducible refine pS (Fq.o _ _ _ ?_ ?_) ?_)
 .iterate 8 (first|done|with_reducible refine nT ?_|(with_reducible refine az _ _ ?_;simp;done)|with_reducible refine nS ?_)
 .iterate 8 (first|done|with_reducible refine nT ?_|(with_reducible refine az _ _ ?_;simp;done)|with_reducible refine nS ?_)
 rintro e w7 ⟨g7,rfl,ha,hb⟩;have Hs:ai wr w7:=wH hb (by iterate 8 (first|done|exact aI _|exact aj _ _|refine mh ?_|refine mi ?_));obtain⟨GG,Hv⟩:=bS Hs (show ar w7 wr (.slice (aY g7) N N) row from ha.a.mono (by simp;omega));clear ha hb Hs;go_simp;refine hK.out _ _ (fun _=>qH GG.o S0) (fun hHeld=>?_);clear hK K hHeld;try simp only[Act.put,zA]
 refine bM 18 fun K hK=>?_
 go_simp;refine hK.out _ _ (fun _=>qH (GG.o.alloc GG.o.size _) S0) (fun hHeld=>?_);clear hK K hHeld;try simp only[Act.put,zA]
 refine bM 19 fun K hK=>?_
 refine lj rfl (.tmp 32) (.tmp 49) rfl w3 wr w7 (.slice C1 k m1) (.slice (aY g7) N N) _ row H7.o.own GG.o Hv.o (by rw[H7.o.len];omega) H7.o.le rfl rfl ?_;intro g5 GC w5 Hz GF Ht Hu;rw[H7.o.len]at Hz ⊢;obtain⟨FL,H5⟩:=SyB.stored H7.o Hz GF;obtain⟨z0,z1,z2⟩:=aq H5;obtain⟨f0,f1,f2⟩:=bU H5;obtain⟨GH,GD⟩:=bS FL GF;clear Hz GF Ht Hu FL H5;refine hK.out _ _ (fun h=>absurd h (by decide)) (fun _=>?_);clear hK K;try simp only[Act.put,zA]
 refine bM 20 fun K hK=>?_
 go_simp;refine hK.out _ _ (fun h=>absurd h (by decide)) (fun _=>?_);clear hK K;try simp only[Act.put,zA]
 refine bM 21 fun K hK=>?_
 go_simp;refine hK.out _ _ (fun h=>absurd h (by decide)) (fun _=>?_);clear hK K;try simp only[Act.put,zA]
 refine eC (by kernel_rfl) ?_ _;clear S0 z0 z1 z2 f0 f1 f2;go_wp2;go_roundw
 case rel=>
  have h:=GH.o;rw[<-Hw.o]at h;exact⟨k+1,_,_,by omega,by go_num,h,(E9.o.trans (GD.o.mono (jy GB.o))).setCell (p:=⟨w2,2,none⟩) (ag _) _⟩
 case measure=>simp[intOf];omega):p:=h
def Z7(h:p:=by
 intro g5 GC W5 Eo hg hb;rw[Iz.o]at Eo ⊢;obtain⟨Iv,It,Iu,Ij,Ii,GD,Ig⟩:=zH7 (cM hg Iy.o Ik.o (ag _)) (fR hb IA.o (by omega)) (cM hg Iy.o Iw.o Il.o) (Ix.o.ep (by decide) (by decide) Ip.o.outer hg) (Io.o.ep (by decide) (by decide) Ip.o.outer hg) (Ey.o.trans (hb.mono (by omega))) Eo;clear Eo hg hb;refine hK.out _ _ (HS.o _ Iv.o It.o) (fun hHeld=>?_);clear hK K;try simp only[Act.put,zA]
 refine cq (rs:=[9]) (by kernel_rfl) (by simp) ?_;refine di rfl (fun K hK=>?_) cv;go_simp;refine hK.out _ _ (HS.o _ Iv.o It.o) (fun hHeld=>?_);clear hK K;try simp only[Act.put,zA]
 refine cq (rs:=[10]) (by kernel_rfl) (by simp) ?_;refine di rfl (fun K hK=>?_) cv;go_simp;refine hK.out _ _ (HS.o _ Iv.o It.o) (fun hHeld=>?_);clear hK K;try simp only[Act.put,zA]
 refine jB (by kernel_rfl) ?_ _;clear hHeld;obtain⟨f0,f1,f2⟩:=aq Iu.o;obtain⟨d0,d1,d2,e0,e1,e2⟩:=cL It.o;go_wp2;have Ie:yx p s xs w (k+1) (0+1) (.slice (aY g4) (0+1) H_) (.slice (aY g5) (0+1) GC) (((W5.setCell ⟨w,0,none⟩ (zI sn.v)).setCell ⟨w,1,none⟩ (zI sn.h)).setCell ⟨w,2,none⟩ (.slice A6 sn.rows c6)):=by
  have Ih:∀j,(w:Nat)+1<=j->(((W5.setCell ⟨w,0,none⟩ (zI sn.v)).setCell ⟨w,1,none⟩ (zI sn.h)).setCell ⟨w,2,none⟩ (.slice A6 sn.rows c6)).heap[j]?=W5.heap[j]?:=fun j hj=>by rw[cm _ _ _ _ (by simp<;>omega),cm _ _ _ _ (by simp<;>omega),cm _ _ _ _ (by simp<;>omega)]
  refine⟨E_.o,by rw[Ib.o,bQ,<-HN.o];rfl,⟨_,H_,us++[.slice Ac x.row cc],rfl,?_⟩,⟨_,GC,vs++[.slice A1 sk.rows c1],rfl,?_⟩,⟨A6,c6,?_,aA ?_⟩,dJ GD.o (ag _) _ _ _⟩
  .rw[Ib.o,gu,<-If.o];exact Ij.o.same Ih
  .rw[Ib.o,gu,<-H8.o];exact Ig.o.same Ih
  .rw[dk Is.o,<-Fv.o,<-Iq.o];exact gQ It.o
  .rw[dk Is.o,<-Fv.o,<-Iq.o];exact Ii.o.same Ih
 have Ic:=zH Ie;clear Ie;go_roundw
 case rel=>exact⟨k+1,0+1,by omega,by go_num,Ic.o⟩
 case measure=>simp[intOf];omega):p:=h
def Z6(h:p:=by
 intro g5 GC W5 Eo hg hb;rw[Iz.o]at Eo ⊢;obtain⟨Iv,It,Iu,Ij,Ii,GD,Ig⟩:=zH7 (cM hg Iy.o Ik.o (ag _)) (fR hb IA.o (by omega)) (cM hg Iy.o Iw.o Il.o) (Ix.o.ep (by decide) (by decide) Ip.o.outer hg) (Io.o.ep (by decide) (by decide) Ip.o.outer hg) (Ey.o.trans (hb.mono (by omega))) Eo;clear Eo hg hb;refine hK.out _ _ (HS.o _ Iv.o It.o) (fun hHeld=>?_);clear hK K;try simp only[Act.put,zA]
 refine cq (rs:=[9]) (by kernel_rfl) (by simp) ?_;refine di rfl (fun K hK=>?_) cv;go_simp;refine hK.out _ _ (HS.o _ Iv.o It.o) (fun hHeld=>?_);clear hK K;try simp only[Act.put,zA]
 refine cq (rs:=[10]) (by kernel_rfl) (by simp) ?_;refine di rfl (fun K hK=>?_) cv;go_simp;refine hK.out _ _ (HS.o _ Iv.o It.o) (fun hHeld=>?_);clear hK K;try simp only[Act.put,zA]
 refine jB (by kernel_rfl) ?_ _;clear hHeld;obtain⟨f0,f1,f2⟩:=aq Iu.o;obtain⟨d0,d1,d2,e0,e1,e2⟩:=cL It.o;go_wp2;have Ie:yx p s xs w (k+1) (n+1) (.slice (aY g4) (n+1) H_) (.slice (aY g5) (n+1) GC) (((W5.setCell ⟨w,0,none⟩ (zI sn.v)).setCell ⟨w,1,none⟩ (zI sn.h)).setCell ⟨w,2,none⟩ (.slice A6 sn.rows c6)):=by
  have Ih:∀j,(w:Nat)+1<=j->(((W5.setCell ⟨w,0,none⟩ (zI sn.v)).setCell ⟨w,1,none⟩ (zI sn.h)).setCell ⟨w,2,none⟩ (.slice A6 sn.rows c6)).heap[j]?=W5.heap[j]?:=fun j hj=>by rw[cm _ _ _ _ (by simp<;>omega),cm _ _ _ _ (by simp<;>omega),cm _ _ _ _ (by simp<;>omega)]
  refine⟨E_.o,by rw[Ib.o,bQ,<-HN.o];rfl,⟨_,H_,us++[.slice Ac x.row cc],rfl,?_⟩,⟨_,GC,vs++[.slice A1 sk.rows c1],rfl,?_⟩,⟨A6,c6,?_,aA ?_⟩,dJ GD.o (ag _) _ _ _⟩
  .rw[Ib.o,gu,<-If.o];exact Ij.o.same Ih
  .rw[Ib.o,gu,<-H8.o];exact Ig.o.same Ih
  .rw[dk Is.o,<-Fv.o,<-Iq.o];exact gQ It.o
  .rw[dk Is.o,<-Fv.o,<-Iq.o];exact Ii.o.same Ih
 have Ic:=zH Ie;clear Ie;go_roundw
 case rel=>exact⟨k+1,n+1,by omega,by go_num,Ic.o⟩
 case measure=>simp[intOf];omega):p:=h
def Z5(h:p:=by
 refine di rfl (fun K hK=>?_) cv;go_simp;refine hK.out _ _ (by assumption) (fun hHeld=>?_);clear hK K;try simp only[Act.put,zA]
 refine cW 20 ?_;refine cq (rs:=[21]) (by kernel_rfl) (by simp) ?_;refine di rfl (fun K hK=>?_) cv;go_simp;refine hK.out _ _ (by refine⟨?_,?_,?_⟩<;>(refine(eF (by simp<;>omega)).trans ?_;assumption)) (fun hHeld=>?_);clear hK K;try simp only[Act.put,zA]
 refine cW 22 ?_;refine cq (rs:=[23]) (by kernel_rfl) (by simp) ?_;refine di rfl (fun K hK=>?_) cv;have z3:(W2.drew.setCell ⟨g,a.toNat,none⟩ (.slice Ab rb cb)).cell? ⟨g,b.toNat,none⟩=some (.slice Ab rb cb):=by rw[vL _ _ _ _ (by simp<;>omega)];simpa using z1
 go_simp;refine hK.out _ _ (by refine⟨?_,?_,?_⟩<;>(refine(c_ (by simp<;>omega)).trans ((eF (by simp<;>omega)).trans ?_);assumption)) (fun hHeld=>?_);clear hK K;refine jB (by kernel_rfl) ?_ _;clear hHeld;try dsimp only
 obtain⟨W5,GK⟩:=aO (((W2.setCell ⟨g,a.toNat,none⟩ (.slice Ab rb cb)).setCell ⟨g,b.toNat,none⟩ (.slice Aa ra ca)).drew);rw[<-GK];obtain⟨e0,e1,e2,e3,e4,e5,e6,e7,e8,e9,IB⟩:=IC W5 GK;obtain⟨HO,HE⟩:=bS e9 IB;clear IC e9 IB GK y0 y1 x2 r0 r1 r2 s0 s1 s2 z0 z1 f0 f1;go_wp2;refine ax (v:=.agg (ae v h (aY g) rows ET)) (by simp[results,results207,go_sem, *]) rfl ⟨_,rfl,?_,?_⟩
 .rw[HA.o,HB.o];exact(((HO.o.setCell (by simp<;>omega) _).setCell (by simp<;>omega) _).setCell (by simp<;>omega) _).mono (by omega)
 .exact((HE.o.setCell (by simp<;>omega) _).setCell (by simp<;>omega) _).setCell (by simp<;>omega) _):p:=h
def Z4(h:p:=by
 refine di rfl (fun K hK=>?_) cv;go_simp;refine hK.out _ _ (by assumption) (fun hHeld=>?_);clear hK K;try simp only[Act.put,zA]
 refine cW 12 ?_;refine cq (rs:=[13]) (by kernel_rfl) (by simp) ?_;refine di rfl (fun K hK=>?_) cv;go_simp;refine hK.out _ _ (by assumption) (fun hHeld=>?_);clear hK K a0 a1 a2 a3 a4 b0 b1 b2 b3 b4 f0 f1 f2 f3 f4;try simp only[Act.put,zA]
 obtain⟨W3,Fw⟩:=aO (lk W0 g (k*5) xj (.slice Aj xj.row cj));have IF:=Fw;unfold lk at IF;rw[<-IF];clear IF;rw[<-Fw]at GH EV IE;clear Fw;obtain⟨⟨b0,b1,b2,b3,b4⟩,⟨f0,f1,f2,f3,f4⟩⟩:=pJ GH.o IH (x:=xj) (u:=.slice Aj xj.row cj) (by rw[dz (by omega)];exact IG.o) (by rw[dz (by omega)];exact IJ.o);refine cW 14 ?_;refine cq (rs:=[15]) (by kernel_rfl) (by simp) ?_;refine di rfl (fun K hK=>?_) cv;go_simp;refine hK.out _ _ (by assumption) (fun hHeld=>?_);clear hK K b0 b1 b2 b3 b4 f0 f1 f2 f3 f4;refine jB (by kernel_rfl) ?_ _;clear hHeld;try dsimp only
 obtain⟨W5,GK⟩:=aO (lk W3 g (j*5) xi (.slice Ai xi.row ci));have II:=GK;unfold lk at II;rw[<-II];clear II;rw[<-GK]at EV IE;clear GK;go_wp2;go_roundw
 case rel=>
  refine⟨k+1,_,by go_num,rfl,zH (by have:=HQ.o;omega),by have:=HJ.o;omega,⟨(vs.set k (.slice Aj xj.row cj)).set j (.slice Ai xi.row ci),?_⟩,bx GL.o IE.o⟩;have e:=zy (xs:=xs) IK.o (by rw[<-HJ.o];exact IG.o);rw[e,<-HJ.o];exact EV.o
 case measure=>simp[intOf];omega):p:=h
def Z3(h:p:=by
 go_wp2;go_loopw [13] (fun i wr=>∃k:Nat,k<=xs.length/\i=.int .i64 k/\xs.take k=ys.take k/\ai w wr) (fun i _=>xs.length-(intOf i).toNat)
 case atStart=>exact⟨0,bf _,rfl,by simp,aj _ _⟩
 case round=>
  obtain⟨k,hk,rfl,GM,EO⟩:=hrel;have EP:=zH GM;clear GM;by_cases Ez:k<xs.length
  .have FN:k<ys.length:=by have:=Hn.o;omega
   obtain⟨x,hx⟩:=aB Ez;obtain⟨y,hy⟩:=aB FN;obtain⟨b,o,rfl,hc⟩:=h.here Ez;obtain⟨b2,o2,rfl,Fb⟩:=h2.here FN;have c1:∀W:Ext wr,ah W.W b (o+k) (zI x):=fun W=>W.cell (av EO (hc k x hx))
   have c2:∀W:Ext wr,ah W.W b2 (o2+k) (zI y):=fun W=>W.cell (av EO (Fb k y hy))
   obtain⟨Hx,Hy⟩:=bS hx hy;clear hx hy hc Fb h h2;by_cases hf:x=y
   .subst hf;go_wp2;refine bV (by kernel_rfl) (by kernel_rfl) ?_
    repeat (go_big_quiet_step (fail))
    refine dF ?_;rintro _ ⟨W,rfl⟩;go_wp2;go_roundw
    case rel=>exact⟨k+1,by omega,by go_num,pq EP.o Hx.o Hy.o,af EO W.ok⟩
    case measure=>simp[intOf];omega
   .have FM:(x !=y)=true:=by simp[hf]
    go_wp2;refine bV (by kernel_rfl) (by kernel_rfl) ?_
    repeat (go_big_quiet_step (fail))
    refine dF ?_;rintro _ ⟨W,rfl⟩;go_wp2;go_ret
    exact⟨aS (gM (zeG Hx.o Hy.o hf)).symm,af EO W.ok⟩
  .go_wp2;go_ret
   exact⟨aS (iy (tf EP.o (by omega) (by have:=Hn.o;omega))).symm,EO⟩):p:=h
def Z2(h:p:=by
 have GO:(x !=1)=true:=by simp[IU]
 obtain⟨I_,IN⟩:=bS (by rw[Jc.o,ay IU]:qb=push p qa ⟨2,r,0,fD p x,[]⟩) (nN w1 w3 bb p qa.1 qa.2 2 r 0 (fD p x) I7.o Jd.o.ok (I5.o IU) (by omega));clear IU;go_upto_region 21 with(first|(go_at_call 103;refine(Je.o _).mono ?_;rintro e w2 ⟨rfl,rfl⟩)|(go_at_call 101;refine IN.o.mono ?_;rintro e w4 ⟨rfl,IY,FJ⟩;have I2:=zH (by rw[I_.o];exact IY:jn 119 w1 w4 bb p qb.1 qb.2);have IX:=zH (IW.o.trans FJ);clear IY FJ z0 z1 z2 z3 z4 z5))
 have IS:=pk w1 w4 bb p qb.1 qb.2 r c I2.o IZ.o.ok I4.o IQ.o (by rw[Ja.o];decide) (by omega);have I3:tc p r c (fD p (gS qb.1 r c)) qb.1.rows (qb.1,qb.2)=mG p c r qb:=rfl;rw[I3]at IS;have IV:=zH IS;clear IS I3;go_wp2_with (go_at_call 102;refine IV.o.mono ?_;rintro e w5 ⟨rfl,IL,GF⟩;have IP:=zH IL;have I0:=zH (IX.o.trans GF);clear IL GF)
 go_roundw
 case rel=>exact⟨r+1,c+1,mG p c r qb,by go_num,by go_num,by omega,by omega,I9,zH (by rw[<-I6.o,show V-c=(V-(c+1))+1 by omega,FO.o]),zH (by have:=GN.o;have:=I8.o;omega),IP,I0.o⟩
 case measure=>simp[intOf] <;>omega):p:=h
def Z1(h:p:=by
 rw[<-Jg.o]at Jf;obtain⟨Jk,Jl⟩:=bS Jf hV;clear Jf hV;refine bM 11 fun K hK=>?_
 go_simp
 (with_reducible refine Jk.o.mono ?_)
 intro e w6 h;obtain⟨D1,d1,D2,d2,D3,d3,e6,hf,hb⟩:=mP.gr h;subst e6;clear h;have hz:=ak (ak Jm.o Jl.o) hb;obtain⟨r0,r1,r2,r3⟩:=aK hz;obtain⟨f0,f1,f2,f3⟩:=cP hz;have Jj:=zH (tj.store (G:=G6) (A1:=D1) (A2:=D2) (A3:=D3) (c1:=d1) (c2:=d2) (c3:=d3) Jh.o hz (ak (ak Ji.o Jl.o) hb) ER.o (hf.to (ag _) (ag _)) (aM.1 (ak Jm.o Jl.o)).1 ((GQ.o.ext Jl.o).ext hb) ((GP.o.trans (aN Jl.o)).trans (aN hb)));clear hz hf hb;go_simp;refine hK.out _ _ (fun h=>absurd h (by decide)) (fun hHeld=>?_);clear hK K;try simp only[Act.put,zA]
 refine bM 12 fun K hK=>?_
 go_simp;refine hK.out _ _ (fun h=>absurd h (by decide)) (fun hHeld=>?_);clear hK K;try simp only[Act.put,zA]
 refine eC (by kernel_rfl) ?_ _;clear S0;go_wp2;go_roundw
 case rel=>exact⟨kk-1,by omega,by omega,by first|rfl|go_num,zH (Jj.o.mono (by omega))⟩
 case measure=>simp[intOf];omega):p:=h
def Z0(h:p:=by
 clear Jn;go_wp2_with (first
  |(go_at_call 104;(with_reducible refine(kx C b (m+2) w1 p Jo.o (by omega)).mono ?_);rintro e w2 ⟨v,rfl,⟨x,rfl,hx,-⟩,Fb,Jr⟩;have HX:=zH (by omega:(x:Int)<p);have Jt:=zH Fb;have Jq:=zH (Jv.o.trans Jr);have Js:=zH (bR Ju.o Jr Ew.o);clear Fb Jr hx)
  |(go_at_call 184;(with_reducible refine(iW 13 (x:Int) w2).mono ?_);rintro e w3 ⟨A,c,rfl,hc,hA,hb⟩;obtain⟨z0,f0,y0⟩:=ec (.slice A 1 c) (ak Js.o hb);have HA:=zH hA;have HK:=zH hc;have Er:=zH hb;clear hc hA hb))
 have hG:=bW (Jq.o.trans (aN Er.o)) (a:=⟨w,0,none⟩) (ag _) (.slice A 1 c);refine ax (v:=.agg (fK A c)) (by simp[results,results180,go_sem, *]) rfl ⟨_,rfl,?_,(Jt.o.ext Er.o).iP (a:=⟨w,0,none⟩) Ew.o _,hG⟩;have hx:=HX.o;have hs:(w:Nat)<w2:=(aM.1 Js.o).1;exact⟨13,x,A,c,rfl,HK.o,by decide,by decide,zcB (by decide) (by omega) hx Jp,(At.setCell HA.o (a:=⟨w,0,none⟩) hs _).mono (by omega)⟩):p:=h
def ZZ(h:p:=by
 clear Jn;go_wp2_with (first
  |(go_at_call 104;(with_reducible refine(kx C b (m+2) w1 p Jo.o (by omega)).mono ?_);rintro e w2 ⟨v,rfl,⟨x,rfl,hx,-⟩,Fb,Jr⟩;have HX:=zH (by omega:(x:Int)<p);have Jt:=zH Fb;have Jq:=zH (Jv.o.trans Jr);have Js:=zH (bR Ju.o Jr Ew.o);clear Fb Jr hx)
  |(go_at_call 184;(with_reducible refine(iW 7 (x:Int) w2).mono ?_);rintro e w3 ⟨A,c,rfl,hc,hA,hb⟩;obtain⟨z0,f0,y0⟩:=ec (.slice A 1 c) (ak Js.o hb);have HA:=zH hA;have HK:=zH hc;have Er:=zH hb;clear hc hA hb))
 have hG:=bW (Jq.o.trans (aN Er.o)) (a:=⟨w,0,none⟩) (ag _) (.slice A 1 c);refine ax (v:=.agg (fK A c)) (by simp[results,results180,go_sem, *]) rfl ⟨_,rfl,?_,(Jt.o.ext Er.o).iP (a:=⟨w,0,none⟩) Ew.o _,hG⟩;have hx:=HX.o;have hs:(w:Nat)<w2:=(aM.1 Js.o).1;exact⟨7,x,A,c,rfl,HK.o,by decide,by decide,zcB (by decide) (by omega) hx Jp,(At.setCell HA.o (a:=⟨w,0,none⟩) hs _).mono (by omega)⟩):p:=h
def ZY(h:p:=by
 refine di rfl (fun K hK=>?_) cv;go_simp;refine hK.out _ _ (by assumption) (fun hHeld=>?_);clear hK K;try simp only[Act.put,zA]
 refine cW 16 ?_;refine cq (rs:=[17]) (by kernel_rfl) (by simp) ?_;refine di rfl (fun K hK=>?_) cv;go_simp;refine hK.out _ _ (by refine⟨?_,?_⟩<;>(refine(eF (by simp<;>omega)).trans ?_;assumption)) (fun hHeld=>?_);clear hK K;try simp only[Act.put,zA]
 refine cW 18 ?_;refine cq (rs:=[19]) (by kernel_rfl) (by simp) ?_;refine di rfl (fun K hK=>?_) cv;have z3:(W2.drew.setCell ⟨g,a,none⟩ (.slice Ab rb cb)).cell? ⟨g,b,none⟩=some (.slice Ab rb cb):=by rw[vL _ _ _ _ (by simp<;>omega)];simpa using Jw
 go_simp;refine hK.out _ _ (by refine⟨?_,?_⟩<;>(refine(c_ (by simp<;>omega)).trans ((eF (by simp<;>omega)).trans ?_);assumption)) (fun hHeld=>?_);clear hK K;refine jB (by kernel_rfl) ?_ _;clear hHeld;try dsimp only
 go_wp2;go_end0
 refine⟨rfl,⟨_,by rw[EV.o];exact HS.o.ext (aj _ _).drew⟩,HE.o.trans (dh.iL (aj _ _).drew)⟩):p:=h
def ZX(h:p:=by
 have JX:(fb:Int)<1:=by omega
 have JH:(2:Int)<=k:=by omega
 have Fe:=zH (JP h1);clear hn h2 h1 JP JQ FM JF GO JB Jz JI JM JA E4 JC t1 t2 t3 t4 JZ;subst hv;have JT:=(JU.o 1 (by omega)).trans HY.o;obtain⟨r0,r1,r2⟩:=aq JT;obtain⟨f0,f1,f2⟩:=bU JT;have JR:=f_ (v0:=.slice (some ⟨gf,JY,none⟩) k cF) (v1:=.slice (some ⟨gi,oi,none⟩) k cI) (v2:=.slice (some ⟨go,oo,none⟩) k cO) JT;obtain⟨u0,u1,u2⟩:=aq JR;clear JR JT;go_wp2;exact ax (v:=.tuple (kf (some ⟨gf,JY,none⟩) k cF (some ⟨gi,oi,none⟩) cI (some ⟨go,oo,none⟩) cO)) (by simp[results,ji,go_sem, *]) rfl ⟨_,_,_,_,_,_,_,_,_,by rw[Fe.o],(((Ew.o.setCell (p:=⟨(w:Nat)+1,0,none⟩) (by show(w:Nat)<=w+1;omega) _).setCell (p:=⟨(w:Nat)+1,1,none⟩) (by show(w:Nat)<=w+1;omega) _).setCell (p:=⟨(w:Nat)+1,2,none⟩) (by show(w:Nat)<=w+1;omega) _),fun h=>by rw[Fe.o]at h;cases h⟩):p:=h
def ZW(h:p:=by
 have JK:(ss.toList==[])=false:=by cases e:ss.toList <;>simp_all
 have JW:(!ss.toList==[])=true:=by rw[JK];rfl
 have Fe:=zH (HS.o.no JS.o (kA JG (fun h=>hn h.2.2.1)));clear hn;have JT:=(JU.o 1 (by omega)).trans HY.o;obtain⟨r0,r1,r2⟩:=aq JT;obtain⟨f0,f1,f2⟩:=bU JT;have JR:=f_ (v0:=.slice F k cF) (v1:=.slice I k cI) (v2:=.slice O k cO) JT;obtain⟨u0,u1,u2⟩:=aq JR;clear JR JT;go_wp2;exact ax (v:=.tuple (kf F k cF I cI O cO)) (by simp[results,ji,go_sem, *]) rfl ⟨_,_,_,_,_,_,_,_,_,by rw[Fe.o],(((Ew.o.setCell (p:=⟨(w:Nat)+1,0,none⟩) (by show(w:Nat)<=w+1;omega) _).setCell (p:=⟨(w:Nat)+1,1,none⟩) (by show(w:Nat)<=w+1;omega) _).setCell (p:=⟨(w:Nat)+1,2,none⟩) (by show(w:Nat)<=w+1;omega) _),fun h=>by rw[Fe.o]at h;cases h⟩):p:=h
def ZV(h:p:=by
 by_cases Ez:k<GU.length
 .obtain⟨i,hi'⟩:=aB Ez;obtain⟨hi1,hi2⟩:=HL.o i (a_ hi');obtain⟨j,hj⟩:∃j:Nat,(j:Int)=i:=⟨i.toNat,by omega⟩;subst hj;have GW:j<v.length:=by omega
  obtain⟨x,hx⟩:=aB GW;obtain⟨b,o,rfl,hc⟩:=(HV.o.ext EO).here GW;obtain⟨b2,o2,rfl,Fb⟩:=(HA.o.ext EO).here Ez;have GV:=hc _ _ hx;have GX:=Fb _ _ hi';obtain⟨HS,FT⟩:=bS (yE hi' (by simpa using hx)) (AU v GU k hk);have FU:=EO.size;clear hc Fb hx hi';go_wp2_with ((at_builtin;refine ny rfl _ _ rfl _ wr _ _ _ rfl rfl GS.o (by rw[FT.o];omega) (by omega) ?_;intro u' w1 Ff _ Fg))
  go_roundw
  case rel=>exact⟨k+1,by omega,by go_num,by rw[HS.o];exact Ff,EO.trans Fg⟩
  case measure=>simp[intOf];omega
 .go_wp2;go_ret
  exact⟨_,rfl,by have h:=GS.o;rwa[gq (by simp[ml];omega)]at h,EO⟩):p:=h
def ZU(h:p:=by
 have JH:(k:Int)<2:=by omega
 have Fe:=zH (HS.o.no JS.o (kA JG (fun h=>h2 (by have:=h.2.2.2.1;rw[HS.o.len]at this;exact this))));clear hn h2;subst hv;have JT:=(JU.o 1 (by omega)).trans HY.o;obtain⟨r0,r1,r2⟩:=aq JT;obtain⟨f0,f1,f2⟩:=bU JT;have JR:=f_ (v0:=.slice F k cF) (v1:=.slice I k cI) (v2:=.slice O k cO) JT;obtain⟨u0,u1,u2⟩:=aq JR;clear JR JT;go_wp2;exact ax (v:=.tuple (kf F k cF I cI O cO)) (by simp[results,ji,go_sem, *]) rfl ⟨_,_,_,_,_,_,_,_,_,by rw[Fe.o],(((Ew.o.setCell (p:=⟨(w:Nat)+1,0,none⟩) (by show(w:Nat)<=w+1;omega) _).setCell (p:=⟨(w:Nat)+1,1,none⟩) (by show(w:Nat)<=w+1;omega) _).setCell (p:=⟨(w:Nat)+1,2,none⟩) (by show(w:Nat)<=w+1;omega) _),fun h=>by rw[Fe.o]at h;cases h⟩):p:=h
def ZT(h:p:=by clear hq;have JT:=(JU.o 1 (by omega)).trans HY.o;obtain⟨r0,r1,r2⟩:=aq JT;obtain⟨f0,f1,f2⟩:=bU JT;have JR:=f_ (v0:=.slice (some ⟨gf,JY,none⟩) k cF) (v1:=.slice (some ⟨gi,oi,none⟩) k cI) (v2:=.slice (some ⟨go,oo,none⟩) k cO) JT;obtain⟨u0,u1,u2⟩:=aq JR;clear JR JT;go_wp2;exact ax (v:=.tuple (kf (some ⟨gf,JY,none⟩) k cF (some ⟨gi,oi,none⟩) cI (some ⟨go,oo,none⟩) cO)) (by simp[results,ji,go_sem, *]) rfl ⟨_,_,_,_,_,_,_,_,_,by rw[Fe.o],(((Ew.o.setCell (p:=⟨(w:Nat)+1,0,none⟩) (by show(w:Nat)<=w+1;omega) _).setCell (p:=⟨(w:Nat)+1,1,none⟩) (by show(w:Nat)<=w+1;omega) _).setCell (p:=⟨(w:Nat)+1,2,none⟩) (by show(w:Nat)<=w+1;omega) _),fun h=>by rw[Fe.o]at h;cases h⟩):p:=h
def ZS(h:p:=by
 have JE:(vv !=0)=true:=by simpa using hv
 have Fe:=zH (HS.o.no JS.o (kA JG (fun h=>hv h.2.1)));clear hn hv;have JT:=(JU.o 1 (by omega)).trans HY.o;obtain⟨r0,r1,r2⟩:=aq JT;obtain⟨f0,f1,f2⟩:=bU JT;have JR:=f_ (v0:=.slice F k cF) (v1:=.slice I k cI) (v2:=.slice O k cO) JT;obtain⟨u0,u1,u2⟩:=aq JR;clear JR JT;go_wp2;exact ax (v:=.tuple (kf F k cF I cI O cO)) (by simp[results,ji,go_sem, *]) rfl ⟨_,_,_,_,_,_,_,_,_,by rw[Fe.o],(((Ew.o.setCell (p:=⟨(w:Nat)+1,0,none⟩) (by show(w:Nat)<=w+1;omega) _).setCell (p:=⟨(w:Nat)+1,1,none⟩) (by show(w:Nat)<=w+1;omega) _).setCell (p:=⟨(w:Nat)+1,2,none⟩) (by show(w:Nat)<=w+1;omega) _),fun h=>by rw[Fe.o]at h;cases h⟩):p:=h
def ZR(h:p:=by
 go_enter func133,ntmps133
 go_wp2_with fail
 refine(H1.o _ HB.o).mono ?_;rintro e w1 ⟨rfl,Kb,J4⟩;have J1:=(J4.block w (by simp) (by omega)).trans HQ.o;obtain⟨y0,y1,y2,y3⟩:=tg J1;simp only[dt,cZ]at y0 y1 y2 y3;have J2:=J4.cell (av HB.o hp) (by simpa using J_);have J0:=J4.cell (av HB.o ha) (by simpa using J8);have FU:=J4.size;simp only[cg]at FU;obtain⟨Kc,J5,Ka⟩:=d_ Kb J4 ((J6.o.ext HB.o).within J4 (aA h12));clear Kb J4 J1 hp hr ha;go_wp2_with fail
 refine(H2.o _ (by omega) Ka.o).mono ?_;rintro e w2 ⟨rfl,Kd,J7⟩;obtain⟨J9,J3⟩:=bS Kd J7;clear Kd J7 y0 y1 y2 y3 J2 J0;go_wp2;go_end0
 exact⟨rfl,Kc.o.within J3.o (aF h12),J9.o,(((dh.iL HB.o).trans (J5.o.mono (ag _) (by omega))).trans (J3.o.mono (by omega) (ag _)))⟩):p:=h
def ZQ(h:p:=by
 have new:∀(i:Nat) (u':au) (b:Nat),i<us.length->us[i]?=some u'->u'.ownBlock=some b->u.ownBlock=some b->False:=fun i u' b _ h1 h2 h3=>by obtain⟨r',_,FW⟩:=Eo.kU h1;have a1:=(FW.lt b h2).2;have a2:=(hu.lt b h3).1;omega
 intro i j u1 u2 b h1 h2 h3 h4;have hi:=(bA.1 h1).1;have hj:=(bA.1 h2).1;simp only[bQ,lU,ix]at hi hj;by_cases ci:i<us.length <;>by_cases cj:j<us.length
 .rw[dx ci]at h1;rw[dx cj]at h2;exact Eo.apart i j u1 u2 b h1 h2 h3 h4
 .rw[dx ci]at h1;obtain rfl:j=us.length:=by omega
  simp at h2;subst h2;exact(new i u1 b ci h1 h3 h4).elim
 .rw[dx cj]at h2;obtain rfl:i=us.length:=by omega
  simp at h1;subst h1;exact(new j u2 b cj h2 h4 h3).elim
 .omega):p:=h
def ZP(h:p:=by
 rw[<-IM]at I2 ⊢;clear IM z0 z1 z2 z3 z4 z5;have IS:=pk w1 w4 bb p qb.1 qb.2 r c I2.o IZ.o.ok I4.o IQ.o (by rw[Ja.o];decide) (by omega);have I3:tc p r c (fD p (gS qb.1 r c)) qb.1.rows (qb.1,qb.2)=mG p c r qb:=rfl;rw[I3]at IS;have IV:=zH IS;clear IS I3;go_wp2_with (go_at_call 102;refine IV.o.mono ?_;rintro e w5 ⟨rfl,IL,GF⟩;have IP:=zH IL;have I0:=zH (IX.o.trans GF);clear IL GF)
 go_roundw
 case rel=>exact⟨r+1,c+1,mG p c r qb,by go_num,by go_num,by omega,by omega,I9,zH (by rw[<-I6.o,show V-c=(V-(c+1))+1 by omega,FO.o]),zH (by have:=GN.o;have:=I8.o;omega),IP,I0.o⟩
 case measure=>simp[intOf] <;>omega):p:=h
def ZO(h:p:=by
 obtain⟨y0,y1,y2,y3,y4⟩:=bH G4;obtain⟨s0,s1,s2⟩:=aq GY;clear GY G4;obtain⟨e0,e1,e2⟩:=bT GZ;obtain⟨e3,e4,e5⟩:=bT G0;obtain⟨e6,e7,e8⟩:=bU G0;simp only[dt,cZ]at e0 e1 e2 e3 e4 e5;clear GZ G0;go_wp2;refine ax (v:=.agg (ae v h (aY g) rows ET)) (by simp[results,m9,go_sem, *]) rfl ⟨_,rfl,?_,?_⟩
 .exact(((HO.o.setCell (by simp<;>omega) _).setCell (by simp<;>omega) _).setCell (by simp<;>omega) _).mono (by omega)
 .exact((HE.o.setCell (by simp<;>omega) _).setCell (by simp<;>omega) _).setCell (by simp<;>omega) _):p:=h
def ZM(h:p:=by
 go_enter fq,ft
 go_wp2;go_quiet ((go_at_call 69;exact bD (aL _ _ _ _)))
 go_wp2;go_quiet ((go_at_call 69;first|exact bD (aL _ _ _ _)|exact cx (aL _ _ _ _)))
 go_wp2_with (first|(go_at_call 69;refine(aL _ _ _ _).mono ?_;rintro e w' ⟨rfl,rfl⟩)|(go_at_call 71;refine(Calls.bl (dd _ _ _ _ _ _ _ _ EC.o) HE.o).mono ?_;rintro e w1 ⟨rfl,Ep⟩;obtain⟨EA,⟨c0,c1,c2⟩,⟨d0,d1,d2,d3,d4⟩⟩:=ew Ep;have EB:=zH EA;clear EA Ep))
 all_goals go_quiet (fail)
 all_goals go_wp2
 all_goals
  go_ret
  exact⟨aS (by simp[ja,HE.o,gN, *]),af EB.o (qD _ _)⟩):p:=h
def ZL(h:p:=by
 have HE:=zH he;clear he;go_enter fq,ft
 go_wp2;go_quiet ((go_at_call 69;exact bD (aL _ _ _ _)))
 go_wp2;go_quiet ((go_at_call 69;first|exact bD (aL _ _ _ _)|exact cx (aL _ _ _ _)))
 go_wp2_with (first|(go_at_call 69;refine(aL _ _ _ _).mono ?_;rintro e w' ⟨rfl,rfl⟩)|(go_at_call 71;refine(Calls.bl (dd _ _ _ _ _ _ _ _ EC.o) HE.o).mono ?_;rintro e w1 ⟨rfl,Ep⟩;obtain⟨EA,⟨c0,c1,c2⟩,⟨d0,d1,d2,d3,d4⟩⟩:=ew Ep;have EB:=zH EA;clear EA Ep))
 all_goals
  go_ret
  exact⟨aS (by simp[ja,HE.o,gN, *]),EB.o⟩):p:=h
def ZK(h:p:=by
 have HE:=zH he;clear he;go_enter fq,ft
 go_wp2;go_quiet ((go_at_call 69;exact bD (aL _ _ _ _)))
 go_wp2;go_quiet ((go_at_call 69;first|exact bD (aL _ _ _ _)|exact cx (aL _ _ _ _)))
 go_wp2_with (first|(go_at_call 69;refine(aL _ _ _ _).mono ?_;rintro e w' ⟨rfl,rfl⟩)|(go_at_call 71;refine(Calls.bl (dd _ _ _ _ _ _ _ _ EC.o) HE.o).mono ?_;rintro e w1 ⟨rfl,Ep⟩;obtain⟨EA,⟨c0,c1,c2⟩,⟨d0,d1,d2,d3,d4⟩⟩:=ew Ep;have EB:=zH EA;clear EA Ep))
 all_goals
  go_ret
  exact⟨aS (by rw[ja,HE.o];rfl),EB.o⟩):p:=h
def ZJ(h:p:=by
 obtain⟨HN,E0,Er⟩:=d_ Fp ((cm W5 ⟨g,k,none⟩ w1 (.slice (aY gr) (r.length-1) cr) (by simp<;>omega)).trans ((G9.block w1 (by have:=HW.o.size;simp;omega) (by simp;omega)).trans Fo.o)) (kn (pU HW.o G9 (by have:=HW.o.size;simp;omega) (fun b hb=>by cases hb;omega)) (p:=⟨g,k,none⟩) (by simp<;>omega) (.slice (aY gr) (r.length-1) cr));clear Fp G5 G9;go_wp2;go_roundw
 case rel=>exact⟨k+1,by omega,by go_num,⟨_,HN.o⟩,E0.o,Er.o⟩
 case measure=>simp[intOf];omega):p:=h
def ZI(h:p:=by
 go_enter ed,ee
 go_upto_region 2 with(go_at_call 108;refine(bY _ _).mono ?_;rintro e w1 ⟨rfl,Ep⟩)
 obtain⟨W,hW,hb,e0,e1,e2,e3,e4,f0,f1,f2,f3⟩:=fg _ _ _ _ _ _ Ep (.bool (eL k)) (.bool (eN k)) (.bool (eO k)) (.bool (eP k)) 127;rw[<-hW];clear hW Ep;simp only[show eL k=true by simp[eL, *],show eN k=false by simp[eN, *],show eO k=false by simp[eO, *],show eP k=false by simp[eP, *]]at f0 f1 f2 f3 ⊢;go_wp2
 all_goals exact ax (v:=.tuple fk) (by simp[results,ef,go_sem]) rfl ⟨rfl,hb⟩):p:=h
def ZH(h:p:=by
 go_enter fq,ft
 go_wp2;go_quiet ((go_at_call 69;exact bD (aL _ _ _ _)))
 go_wp2;go_quiet ((go_at_call 69;first|exact bD (aL _ _ _ _)|exact cx (aL _ _ _ _)))
 go_wp2_with (first|(go_at_call 69;refine(aL _ _ _ _).mono ?_;rintro e w' ⟨rfl,rfl⟩)|(go_at_call 71;refine(Calls.bl (dd _ _ _ _ _ _ _ _ EC.o) HE.o).mono ?_;rintro e w1 ⟨rfl,Ep⟩;obtain⟨EA,⟨c0,c1,c2⟩,⟨d0,d1,d2,d3,d4⟩⟩:=ew Ep;have EB:=zH EA;clear EA Ep))
 all_goals
  go_ret
  exact⟨aS (by simp[ja,HE.o,gN, *]),EB.o⟩):p:=h
def ZG(h:p:=by
 go_enter ed,ee
 go_upto_region 2 with(go_at_call 108;refine(bY _ _).mono ?_;rintro e w1 ⟨rfl,Ep⟩)
 obtain⟨W,hW,hb,e0,e1,e2,e3,e4,f0,f1,f2,f3⟩:=fg _ _ _ _ _ _ Ep (.bool (eL 4)) (.bool (eN 4)) (.bool (eO 4)) (.bool (eP 4)) 127;rw[<-hW];clear hW Ep;simp only[show eL 4=true from rfl,show eN 4=false from rfl,show eO 4=false from rfl,show eP 4=false from rfl]at f0 f1 f2 f3 ⊢;go_wp2
 all_goals exact ax (v:=.tuple fk) (by simp[results,ef,go_sem]) rfl ⟨by simp[*],hb⟩):p:=h
def ZF(h:p:=by
 go_enter ed,ee
 go_upto_region 2 with(go_at_call 108;refine(bY _ _).mono ?_;rintro e w1 ⟨rfl,Ep⟩)
 obtain⟨W,hW,hb,e0,e1,e2,e3,e4,f0,f1,f2,f3⟩:=fg _ _ _ _ _ _ Ep (.bool (eL 5)) (.bool (eN 5)) (.bool (eO 5)) (.bool (eP 5)) 127;rw[<-hW];clear hW Ep;simp only[show eL 5=true from rfl,show eN 5=false from rfl,show eO 5=false from rfl,show eP 5=false from rfl]at f0 f1 f2 f3 ⊢;go_wp2
 all_goals exact ax (v:=.tuple fk) (by simp[results,ef,go_sem]) rfl ⟨by simp[*],hb⟩):p:=h
def ZE(h:p:=by
 go_enter ed,ee
 go_upto_region 2 with(go_at_call 108;refine(bY _ _).mono ?_;rintro e w1 ⟨rfl,Ep⟩)
 obtain⟨W,hW,hb,e0,e1,e2,e3,e4,f0,f1,f2,f3⟩:=fg _ _ _ _ _ _ Ep (.bool (eL 8)) (.bool (eN 8)) (.bool (eO 8)) (.bool (eP 8)) 127;rw[<-hW];clear hW Ep;simp only[show eL 8=false from rfl,show eN 8=true from rfl,show eO 8=false from rfl,show eP 8=false from rfl]at f0 f1 f2 f3 ⊢;go_wp2
 all_goals exact ax (v:=.tuple fk) (by simp[results,ef,go_sem]) rfl ⟨by simp[*],hb⟩):p:=h
def ZD(h:p:=by
 go_enter ed,ee
 go_upto_region 2 with(go_at_call 108;refine(bY _ _).mono ?_;rintro e w1 ⟨rfl,Ep⟩)
 obtain⟨W,hW,hb,e0,e1,e2,e3,e4,f0,f1,f2,f3⟩:=fg _ _ _ _ _ _ Ep (.bool (eL 9)) (.bool (eN 9)) (.bool (eO 9)) (.bool (eP 9)) 127;rw[<-hW];clear hW Ep;simp only[show eL 9=false from rfl,show eN 9=true from rfl,show eO 9=false from rfl,show eP 9=false from rfl]at f0 f1 f2 f3 ⊢;go_wp2
 all_goals exact ax (v:=.tuple fk) (by simp[results,ef,go_sem]) rfl ⟨by simp[*],hb⟩):p:=h
def ZC(h:p:=by
 go_enter ed,ee
 go_upto_region 2 with(go_at_call 108;refine(bY _ _).mono ?_;rintro e w1 ⟨rfl,Ep⟩)
 obtain⟨W,hW,hb,e0,e1,e2,e3,e4,f0,f1,f2,f3⟩:=fg _ _ _ _ _ _ Ep (.bool (eL 1)) (.bool (eN 1)) (.bool (eO 1)) (.bool (eP 1)) 127;rw[<-hW];clear hW Ep;simp only[show eL 1=true from rfl,show eN 1=true from rfl,show eO 1=false from rfl,show eP 1=false from rfl]at f0 f1 f2 f3 ⊢;go_wp2
 all_goals exact ax (v:=.tuple fk) (by simp[results,ef,go_sem]) rfl ⟨by simp[*],hb⟩):p:=h
def ZB(h:p:=by
 go_enter ed,ee
 go_upto_region 2 with(go_at_call 108;refine(bY _ _).mono ?_;rintro e w1 ⟨rfl,Ep⟩)
 obtain⟨W,hW,hb,e0,e1,e2,e3,e4,f0,f1,f2,f3⟩:=fg _ _ _ _ _ _ Ep (.bool (eL 2)) (.bool (eN 2)) (.bool (eO 2)) (.bool (eP 2)) 127;rw[<-hW];clear hW Ep;simp only[show eL 2=true from rfl,show eN 2=false from rfl,show eO 2=true from rfl,show eP 2=false from rfl]at f0 f1 f2 f3 ⊢;go_wp2
 all_goals exact ax (v:=.tuple fk) (by simp[results,ef,go_sem]) rfl ⟨by simp[*],hb⟩):p:=h
def ZA(h:p:=by
 go_enter ed,ee
 go_upto_region 2 with(go_at_call 108;refine(bY _ _).mono ?_;rintro e w1 ⟨rfl,Ep⟩)
 obtain⟨W,hW,hb,e0,e1,e2,e3,e4,f0,f1,f2,f3⟩:=fg _ _ _ _ _ _ Ep (.bool (eL 6)) (.bool (eN 6)) (.bool (eO 6)) (.bool (eP 6)) 127;rw[<-hW];clear hW Ep;simp only[show eL 6=true from rfl,show eN 6=true from rfl,show eO 6=false from rfl,show eP 6=false from rfl]at f0 f1 f2 f3 ⊢;go_wp2
 all_goals exact ax (v:=.tuple fk) (by simp[results,ef,go_sem]) rfl ⟨by simp[*],hb⟩):p:=h
def Zz(h:p:=by
 intro k u' r' Eu FV;by_cases hk:k<us.length
 .rw[dx hk]at Eu;rw[dx (by rw[<-Eo.len];exact hk)]at FV;exact ar.kept (hW.each k u' r' Eu FV) hg (eV hW.outer (hW.each k u' r' Eu FV))
 .have FX:k=us.length:=by have:=(bA.1 Eu).1;simp at this;omega
  subst FX;simp at Eu;rw[Eo.len]at FV;simp at FV;subst Eu FV;have FY:=ar.kept hu hg (eV hW.outer hu);exact⟨FY.1,FY.2.imp id fun⟨g,cap,cur,a1,a2,a3⟩=>⟨g,cap,cur,a1,by omega,a3⟩⟩):p:=h
def Zy(h:p:=by
 refine ax (v:=.tuple (dN (ae v' h' A3 EG c3))) (by simp[results,eU,go_sem, *]) rfl (Made.yes (by rw[HS.o];rfl) rfl ?_ ?_)
 .exact((((HU.o.ext Ey.o).setCell (by simp<;>omega) _).setCell (by simp<;>omega) _).setCell (by simp<;>omega) _).mono (by omega)
 .exact(((EF.o.trans (Ey.o.mono (by have:=Er.o.size;omega))).setCell (by simp<;>omega) _).setCell (by simp<;>omega) _).setCell (by simp<;>omega) _):p:=h
def Zx(h:p:=by
 have h2:eX (b:Int) 0 (s.h-1)=true:=by rw[bk];omega
 have h3:eX (a:Int) 0 ((s.rows:Int)-1)=true:=by rw[bk];omega
 unfold eI ja;simp only[show((6:Int)=1)=False by decide,show((6:Int)=2)=False by decide,show((6:Int)=3)=False by decide,show((6:Int)=4)=False by decide,show((6:Int)=5)=False by decide,ki,jf,h1,h2,h3];simp[iY]):p:=h
def Zw(h:p:=by
 have h2:eX (b:Int) 0 (s.h-1)=true:=by rw[bk];omega
 unfold eI ja;simp only[show((8:Int)=1)=False by decide,show((8:Int)=2)=False by decide,show((8:Int)=3)=False by decide,show((8:Int)=4)=False by decide,show((8:Int)=5)=False by decide,show((8:Int)=6)=False by decide,show((8:Int)=7)=False by decide,ki,jf,h1,h2];simp[iY]):p:=h
def Zv(h:p:=by
 by_cases hc:ET=j+1
 .refine⟨⟨g,0,none⟩,by simp[hc],fun t u hu=>?_⟩;have h0:Fy.length=0:=by rw[Ev];omega
  rw[vB.1 h0]at hu;simp at hu
 .refine⟨⟨g,j+1,none⟩,by simp[hc],fun t u hu=>?_⟩;have ht:t<rows.length-(j+1):=by have:=(bA.1 hu).1;rwa[Ev]at this
  rw[dM]
  show W2.cell? _=_
  rw[aW G8,ES _ (by omega),<-hu,Fh,fL]):p:=h
def Zu(h:p:=by
 go_enter func230,ntmps230
 go_upto_region 1 with(fail)
 refine bV (by kernel_rfl) (by kernel_rfl) ?_
 repeat (go_big_quiet_step (first|(go_at_call_of 209 a;exact Calls.eJ (Calls.bl (dV _ _ _ _ _ _ _ hm) h1))|(go_at_call 233;exact Calls.eJ (Calls.bl (ky _ _ _ _ _ hh Ke) h2))))
 refine dF ?_;rintro _ ⟨W,rfl⟩;go_wp2;go_ret
 exact⟨aS (by simp),af HB.o W.ok⟩):p:=h
def Zt(h:p:=by
 go_upto_region 1 with(fail)
 generalize (w.alloc _).alloc _=W at hB q1 q2 ⊢;obtain⟨⟨a0,a1,a2⟩,-⟩:=fH q1;obtain⟨⟨b0,b1,b2⟩,-⟩:=fH q2;have HB:=zH hB;clear hB q1 q2;go_wp2_with (go_at_call 38;(with_reducible refine(HS.o W HB.o).mono ?_);rintro e w2 ⟨rfl,hb⟩;have Ex:=zH (cC HB.o hb);clear hb)
 go_ret
 exact⟨rfl,Ex.o⟩):p:=h
def Zs(h:p:=by
 intro v' w' Eo EE _ Fi;have hv:∀g',v'.ownBlock=some g'->v.ownBlock=some g'∨(W:Nat)<=g':=fun g' e=>by
  rcases Fi with h|h
  .rw[<-h];exact aF e
  .rw[h]at e;cases e;exact aA (ag _)
 exact h v' w' ⟨cs++ys.map ndC,hW.nt (bt ..) Ha Eo EE hv⟩ ((aj _ _).grown EE G_ fun k hk=>(bZ hW.outer k hk).1)):p:=h
def Zr(h:p:=by
 go_enter func213,ntmps213
 go_upto_region 1 with(fail)
 refine cV ?_
 repeat (go_big_quiet_step (first|(go_at_call_of 209 a;exact Calls.eJ (Calls.bl (dV _ _ _ _ _ _ _ hm) h1))|(go_at_call_of 209 b;exact Calls.eJ (Calls.bl (dV _ _ _ _ _ _ _ hm) h2))))
 refine dF ?_;rintro _ ⟨W,rfl⟩;go_wp2;go_ret
 exact⟨aS (by simp),af HB.o W.ok⟩):p:=h
def Zq(h:p:=by
 by_cases hc:cap=j
 .refine⟨⟨g,0,none⟩,by simp[hc],fun t u hu=>?_⟩;have h0:Fy.length=0:=by rw[Ev];omega
  rw[vB.1 h0]at hu;simp at hu
 .refine⟨⟨g,j,none⟩,by simp[hc],fun t u hu=>?_⟩;have ht:t<n-j:=by have:=(bA.1 hu).1;rwa[Ev]at this
  rw[dM,aW FB,ES _ (by omega),<-hu,Fh,fL]):p:=h
def Zp(h:p:=by
 intro j u' hj
 match j,hj with
 |0,hj=>simp[dq]at hj;subst hj;simp[Addr.add]
 |1,hj=>simp[dq]at hj;subst hj;simp[Addr.add]
 |2,hj=>simp[dq]at hj;subst hj;simp[Addr.add]
 |3,hj=>simp[dq]at hj;subst hj;simp[Addr.add]
 |4,hj=>simp[dq]at hj;subst hj;simp[Addr.add]
 |j+5,hj=>simp[dq]at hj):p:=h
def Zo(h:p:=by
 have Kh:IntKind.i64.wrap ((c:Int)+1)=(c:Int)+1:=by rw[aZ];omega
 obtain⟨HS,Kf⟩:=bS hs (EO.setCell (p:=⟨gb,x,none⟩) (by exact Kj.o) (zI ((c:Int)+1)));clear Ki hx Kg hs hc EO;go_wp2;go_roundw
 case rel=>exact⟨k+1,by omega,by go_num,HS.o,Kf.o⟩
 case measure=>simp[intOf];omega):p:=h
def Zn(h:p:=by intro g cap w' Fj EE _ _;have hg:W.grownBy w' v.ownBlock:=⟨EE.os,EE.tape,EE.output,by have:=EE.size;simp at this;omega,fun k hk ED=>(EE.block k (by simp;omega) ED).trans (pY W _ hk)⟩;exact h g cap w' (hW.snoc hu hd Fj hg) hg ((aj _ _).grown hg hB fun k hk=>(bZ hW.outer k hk).1)):p:=h
def Zm(h:p:=by
 obtain⟨hB,hq⟩:=dK w (.cells (gY k v s) 192);go_enter func188,ntmps188
 go_upto_region 1 with(fail)
 generalize w.alloc _=W at hB hq ⊢;obtain⟨c0,c1,c2⟩:=aq hq;have HB:=zH hB;clear hB hq;go_wp2_with (go_at_call 69;refine(Calls.dQ (aL _ _ _ _) hi).mono ?_;rintro e w' ⟨rfl,rfl⟩)
 go_ret
 exact⟨rfl,HB.o⟩):p:=h
def Zl(h:p:=by
 have hs:n*s<=m*s:=oF _ hn;refine⟨by rw[dH,h.1];omega,?_⟩;rcases h.2 with⟨e,h0⟩|⟨g,c,cur,e,h1,h2,h3,h4,h5,h6⟩
 .left;obtain rfl:n=0:=by omega
  cases e
  exact⟨rfl,rfl⟩
 .right;cases e
  refine⟨g,cap,cur,rfl,h1,h2,by omega,h4,h5,?_⟩;rw[<-h6,kH,iM hs]):p:=h
def Zk(h:p:=by
 by_cases e:cap=q
 .exact⟨_,ay e,aF (nc (by omega))⟩
 .refine⟨_,al e,?_⟩;rcases h with h|⟨b,o,h,hc⟩
  .exact aF (by rw[h];simp)
  .simp only[dX,su]at h;obtain⟨rfl,rfl,_⟩:=h;refine aA ⟨g,q,rfl,fun k x hk=>?_⟩;rw[fL]at hk;have:=hc _ x hk;rwa[iw]at this):p:=h
def Zj(h:p:=by refine ax (v:=.tuple (dy aQ)) (by simp[results,eU,go_sem, *]) rfl (Made.no (by rw[HS.o];rfl) rfl ?_);exact(((EF.o.trans (Ey.o.mono (by have:=Er.o.size;omega))).setCell (by simp<;>omega) _).setCell (by simp<;>omega) _).setCell (by simp<;>omega) _):p:=h
def Zi(h:p:=by
 go_enter func188,ntmps188
 go_upto_region 1 with(fail)
 generalize w.alloc _=W at hB hq ⊢;obtain⟨c0,c1,c2⟩:=aq hq;have HB:=zH hB;clear hB hq;go_wp2_with (go_at_call 69;refine(aL _ _ _ _).mono ?_;rintro e w' ⟨rfl,rfl⟩)
 go_ret
 exact⟨rfl,HB.o⟩):p:=h
def Zh(h:p:=by refine ax (v:=.tuple (dy aQ)) (by simp[results,eU,go_sem, *]) rfl (Made.no (ic _) rfl ?_);exact(((HB.o.trans (Ex.o.mono (by omega))).setCell (by simp<;>omega) _).setCell (by simp<;>omega) _).setCell (by simp<;>omega) _):p:=h
def Zg(h:p:=by
 go_upto_region 1 with(fail)
 refine cV ?_
 repeat (go_big_quiet_step ((go_at_call_of 209 a;exact Calls.eJ (Calls.bl (dV _ _ _ _ _ _ _ hm) h1))))
 refine dF ?_;rintro _ ⟨W,rfl⟩;go_wp2;go_ret
 exact⟨aS (by simp),af HB.o W.ok⟩):p:=h
def Zf(h:p:=by
 go_upto_region 1 with(fail)
 generalize (w.alloc _).alloc _=W at hB q1 q2 ⊢;obtain⟨⟨a0,a1,a2⟩,-⟩:=fH q1;obtain⟨⟨b0,b1,b2⟩,-⟩:=fH q2;have HB:=zH hB;clear hB q1 q2 h2;go_wp2;go_ret
 exact⟨rfl,HB.o⟩):p:=h
def Ze(h:p:=by
 go_upto_region 1 with(fail)
 generalize (w.alloc _).alloc _=W at hB q1 q2 ⊢;obtain⟨⟨a0,a1,a2⟩,-⟩:=fH q1;obtain⟨⟨b0,b1,b2⟩,-⟩:=fH q2;have HB:=zH hB;clear hB q1 q2 h1;go_wp2;go_ret
 exact⟨rfl,HB.o⟩):p:=h
def Zd(h:p:=by rw[HG.o];exact(((((HO.setCell (by simp<;>omega) _).setCell (by simp<;>omega) _).setCell (by simp<;>omega) _).setCell (by simp<;>omega) _).setCell (by simp<;>omega) _).mono (by omega)):p:=h
def Zc(h:p:=by
 go_wp2;go_round
 case rel=>exact⟨1,by omega,by go_num,fun j hj=>by
  by_cases Kk:j<0
  .exact EP.o j Kk
  .obtain rfl:j=0:=by omega
   exact HB.o⟩
 case measure=>simp[intOf]):p:=h
def Zb(h:p:=by
 go_wp2;go_round
 case rel=>exact⟨2,by omega,by go_num,fun j hj=>by
  by_cases Kk:j<1
  .exact EP.o j Kk
  .obtain rfl:j=1:=by omega
   exact HB.o⟩
 case measure=>simp[intOf]):p:=h
def Za(h:p:=by
 go_wp2;go_round
 case rel=>exact⟨3,by omega,by go_num,fun j hj=>by
  by_cases Kk:j<2
  .exact EP.o j Kk
  .obtain rfl:j=2:=by omega
   exact HB.o⟩
 case measure=>simp[intOf]):p:=h
def Y_(h:p:=by
 go_wp2;go_round
 case rel=>exact⟨4,by omega,by go_num,fun j hj=>by
  by_cases Kk:j<3
  .exact EP.o j Kk
  .obtain rfl:j=3:=by omega
   exact HB.o⟩
 case measure=>simp[intOf]):p:=h
def Y9(h:p:=by
 obtain⟨HN,H0⟩:=bS hn h0;clear hn h0;go_wp2;go_round
 case rel=>exact⟨k+1,by omega,by go_num,by rw[gk _ _ _ _ Hx.o,EP.o];simp[HN.o,H0.o]⟩
 case measure=>simp[intOf];omega):p:=h
def Y8(h:p:=by exact(((((HU.o.setCell (by simp<;>omega) _).setCell (by simp<;>omega) _).setCell (by simp<;>omega) _).setCell (by simp<;>omega) _).setCell (by simp<;>omega) _).mono (by omega)):p:=h
def Y7(h:p:=by intro u hu;obtain⟨c,hc,hu⟩:=qf.1 hu;obtain⟨k,hk⟩:=e_.1 hc;obtain⟨y,hy⟩:=aB (show k<ys.length by have:=(bA.1 hk).1;simpa using this);exact(Ha k y c hy hk).2.1 u hu):p:=h
def Y6(h:p:=by
 go_wp2;go_roundw
 case rel=>exact⟨u,j-1,by omega,rfl,by go_num,HU,zH (zT.wait HI.o ER.o (GQ.o.mono (by omega)) GP.o (by omega))⟩
 case measure=>simp[intOf];omega):p:=h
def Y5(h:p:=by refine ax (v:=.tuple (dN (bI S F1 l1 F2 l2 F3 l3))) (by simp[results,qk,go_sem, *]) rfl ?_;have e:=HS.o;subst e;exact aA ⟨Kn.o,F1,l1,F2,l2,F3,l3,rfl,HF.o,HE.o⟩):p:=h
def Y4(h:p:=by
 go_meet
 have h:=HE.o;unfold AnI at h ⊢;obtain⟨a1,a2,a3,a4,a5,a6,a7,a8,a9,Kp,Ko⟩:=h;exact⟨a1,a2,a3,a4,a5,a6,a7,a8,a9,Kp.mono (by omega),Ko⟩):p:=h
def Y3(h:p:=by
 apply fu;intro k;simp only[madeCells,Value.cells,eT,Array.toList_map,Array.toList_range,cp,ie];by_cases hk:k<n
 .simp[hk,Nat.mod_one]
 .simp[hk]):p:=h
def Y0(h:p:=by
 rcases h with h|⟨b,o,h,hc⟩
 .exact aF (by rw[h];simp)
 .refine aA ⟨b,o,h,fun k x hk=>hc k x ?_⟩;rw[fY]at hk;split at hk
  .exact hk
  .cases hk):p:=h
def YZ(h:p:=by
 rw[cp,hx]at hc;cases hc
 exact⟨rfl,fun u hu=>by simp[ndC]at hu;rcases hu with h|h|h<;>subst h<;>rfl,jS.flat ⟨cs,hW⟩ G_ fun W=>rfl⟩):p:=h
def YY(h:p:=by rw[show k+(n+1-k)=n+1 by omega,<-hG,<-Hi,<-Fu]at h;rw[show((n:Int)+1-(k:Int))=((n+1-k:Nat):Int) by omega];exact h):p:=h
def YX(h:p:=by exact⟨M,A,c,rfl,HK.o,HM.o,Kr.o,(At.setCell HA.o (a:=⟨(w:Nat)+2,0,none⟩) Ks.o _).mono (by have:=Kq.o;have:=Ks.o;omega)⟩):p:=h
def YW(h:p:=by
 rcases h.outer.2 with⟨rfl,-⟩|⟨g,cap,cur,rfl,-,hg,-⟩
 .intro e;cases e
 .intro e;have e:z=g:=eH e;subst e;rw[hz]at hg;simp at hg):p:=h
def YV(h:p:=by
 rw[F3.o k E4 Ez]at e2;go_wp2;go_roundw
 case rel=>exact⟨k+1,by omega,by omega,by go_num,by trivial⟩
 case measure=>simp[intOf];omega):p:=h
def YU(h:p:=by
 intro j u hj;rw[cp]at hj;obtain⟨y,hy,rfl⟩:=pV.1 hj;rcases Fi with h|⟨b,o,h,hc⟩
 .simp[h]at hy
 .cases h;rw[dM];exact hc j y hy):p:=h
def YT(h:p:=by
 intro k u r hu hr;rw[ie]at hu hr;by_cases hk:k<n
 .rw[ay hk]at hu hr;cases hu;cases hr
  exact ar.nil _ _
 .rw[al hk]at hu;cases hu):p:=h
def YS(h:p:=by rintro e w' ⟨G,rfl,a,b⟩;exact⟨w,G,rfl,a,⟨b.os,b.tape,b.output,b.size,fun k hk _=>b.block k hk (by simp)⟩,aA (ag _)⟩):p:=h
def YR(h:p:=by exact Calls.bl (vf a b XA Ku row p v h A cap rows W EH (hX.ext hW) (by unfold maxLen;omega) s.v0 s.v24 s.h0 s.h100) (EK.symm.trans hc)):p:=h
def YQ(h:p:=by
 go_roundw
 case rel=>exact⟨k+1,by omega,by go_num,by rw[HT.o];exact Ff,EO.trans Fg⟩
 case measure=>simp[intOf];omega):p:=h
def YP(h:p:=by
 go_wp2;go_ret
 exact⟨by rw[he.o];rfl,by rw[he.o];exact HR.o.st.h1,by rw[he.o];exact HR.o.st.h2,(dh.iL HB.o).trans HR.o.st.wi⟩):p:=h
def YO(h:p:=by
 conv=>rhs;rw[<-List.map_id s.rows]
 exact jD fun r hr=>by have:=Ev r hr;exact xH (x:=(0:Int)) (by omega:K<=r.length)):p:=h
def YN(h:p:=by
 go_round
 case rel=>exact⟨k+1,by omega,by go_num,by rw[gk _ _ _ _ Hx.o,EP.o,hf];rfl⟩
 case measure=>simp[intOf];omega):p:=h
def YM(h:p:=by clear hz hq hg hf hc hw y;go_wp2;exact ax (v:=.agg (bI G A1 c1 A2 c2 A3 c3)) (by simp[results,results116,go_sem, *]) rfl HD.o):p:=h
def YL(h:p:=by
 obtain⟨HN,H0⟩:=bS hn h0;clear hn h0;go_wp2;go_ret
 exact⟨aS (by rw[nB,all_false _ _ _ _ Hx.o (by simp[HN.o,H0.o])]),rfl⟩):p:=h
def YK(h:p:=by
 go_wp2;go_roundw
 case rel=>exact⟨i+1,by omega,by go_num,by rw[Kt.o];exact GB.o⟩
 case measure=>simp[intOf];omega):p:=h
def YJ(h:p:=by
 go_wp2;go_roundw
 case rel=>exact⟨m+1,by omega,by go_num,Kw.o,KA.o,Kv.o,Er.o⟩
 case measure=>simp[intOf];omega):p:=h
def YI(h:p:=by
 clear FL Eo;go_wp2;go_roundw
 case rel=>exact⟨k+1,by omega,by go_num,HS.o,E9.o⟩
 case measure=>simp[intOf];omega):p:=h
def YH(h:p:=by
 intro i j u u' b hu _ hb;rw[ie]at hu;by_cases hk:i<n
 .rw[ay hk]at hu;cases hu;cases hb
 .rw[al hk]at hu;cases hu):p:=h
def YG(h:p:=by intro t ht;rw[Ev]at ht;have G7:aU W2.drew g cur 27:=G8;refine⟨?_,aP G7 _⟩;rw[aW G7,dA (by simp;omega)];rfl):p:=h
def YF(h:p:=by
 go_enter lZ,l0
 go_wp2;exact ax (v:=.tuple #[.int .i64 1,.int .i64 2]) (by simp[results,l5,go_sem, *]) rfl ⟨rfl,rfl⟩):p:=h
def YE(h:p:=by
 go_enter lZ,l0
 go_wp2;exact ax (v:=.tuple #[.int .i64 2,.int .i64 1]) (by simp[results,l5,go_sem, *]) rfl ⟨rfl,rfl⟩):p:=h
def YD(h:p:=by exact(((HO.o.setCell (by simp<;>omega) _).setCell (by simp<;>omega) _).setCell (by simp<;>omega) _).mono (by omega)):p:=h
def YC(h:p:=by
 go_wp2;go_roundw
 case rel=>exact⟨k+1,by omega,by go_num,⟨_,HN.o⟩,E0.o,Er.o⟩
 case measure=>simp[intOf];omega):p:=h
def YB(h:p:=by exact(((HU.o.setCell (by simp<;>omega) _).setCell (by simp<;>omega) _).setCell (by simp<;>omega) _).mono (by omega)):p:=h
def YA(h:p:=by
 go_wp2;go_roundw
 case rel=>exact⟨k+1,by omega,by go_num,HS.o,bx HG.o (dP _ _)⟩
 case measure=>simp[intOf];omega):p:=h
def Yz(h:p:=by
 have:k<us.length:=by rw[h.len];exact(bA.1 hx).1
 obtain⟨u,hu⟩:=aB this;exact⟨u,hu,h.each k u x hu hx⟩):p:=h
def Yy(h:p:=by have:=yu (k:=(v+b).toNat) (G q hq) (by have:=(G q hq).1;omega);exact⟨by have:=this.1;omega,this.2⟩):p:=h
def Yx(h:p:=by have Hl:=(bA.1 hx).1;refine⟨?_,h.row.frozenAt x⟩;rw[h.row.cellAt x (by have:=h.len;omega),cp,hx];rfl):p:=h
def Yw(h:p:=by rw[Hi,Array.append_assoc,Array.toList_append,vF (by simp;omega),List.toList_toArray,kH,Nat.min_self]):p:=h
def Yv(h:p:=by
 rcases h.outer.2 with⟨e,h0⟩|⟨g,c,cur,e,h1,h2,h3,h4,_⟩
 .omega
 .cases e;exact⟨g,rfl,h3,h4,rfl⟩):p:=h
def Yu(h:p:=by exact Calls.bl (ve a b p v h A cap rows W EH (hR.ext hW) s.v0 s.v24 s.h0 s.h100 s.len) (EK.symm.trans hc)):p:=h
def Yt(h:p:=by
 intro j u' hj
 match j,hj with
 |0,hj=>simp at hj;subst hj;simp[Addr.add]
 |j+1,hj=>simp at hj):p:=h
def Ys(h:p:=by exact Calls.bl (s_ b p v h A cap rows W EH (hR.ext hW) s.v0 s.v24 s.h0 s.h100 s.len) (EK.symm.trans hc)):p:=h
def Yr(h:p:=by
 go_roundw
 case rel=>exact⟨t+1,by omega,by go_num,HP.o,Kx.o⟩
 case measure=>simp[intOf];omega):p:=h
def Yq(h:p:=by exact((HE.o.setCell (by simp<;>omega) _).setCell (by simp<;>omega) _).setCell (by simp<;>omega) _):p:=h
def Yp(h:p:=by
 go_wp2_with (go_at_call 69;(refine(KF.o _).mono ?_);rintro e w' ⟨rfl,rfl⟩)
 go_ret
 exact⟨rfl,HB.o⟩):p:=h
def Yo(h:p:=by
 go_wp2_with fail
 go_meet
 exact⟨v,h,rows,A,c,HZ.o,HQ.o,Fk.o,HO.o,HC.o.mono (by omega),HG.o⟩):p:=h
def Yn(h:p:=by go_wp2;exact ax (v:=.tuple (dy cw)) (by simp[results,qk,go_sem, *]) rfl (aF ⟨Kn.o,rfl,HE.o⟩)):p:=h
def Ym(h:p:=by rw[cm _ _ _ _ (by simp<;>omega),cm _ _ _ _ (by simp<;>omega),cm _ _ _ _ (by simp<;>omega)]):p:=h
def Yl(h:p:=by
 go_enter l_,me
 go_wp2
 all_goals
  go_ret
  exact⟨aS (by simp[iY,sZ, *]),(aj _ _).alloc (ag _) _⟩):p:=h
def Yk(h:p:=by obtain⟨_,_,A,c,A8,c8,us,hq,_⟩:=Jb.o;obtain⟨_,y1,_,y3,_⟩:=bH hq;exact⟨A,c,y3⟩):p:=h
def Yj(h:p:=by
 go_enter lZ,l0
 go_wp2;exact ax (v:=.tuple pM) (by simp[results,l5,go_sem, *]) rfl ⟨rfl,rfl⟩):p:=h
def Yi(h:p:=by
 go_enter lZ,l0
 go_wp2;exact ax (v:=.tuple oy) (by simp[results,l5,go_sem, *]) rfl ⟨rfl,rfl⟩):p:=h
def Yh(h:p:=by
 go_wp2
 all_goals exact ax (v:=.tuple fk) (by simp[results,ef,go_sem]) rfl ⟨by simp[*],hb⟩):p:=h
def Yg(h:p:=by rw[zcn _ (by rw[Ev q hq];exact KG) KG,lS,pR,dn (fun d _=>by rw[zi])];exact hy q hq):p:=h
def Yf(h:p:=by exact ax (v:=.tuple (dy cw)) (by simp[results,qk,go_sem, *]) rfl (aF ⟨Kn.o,rfl,HE.o⟩)):p:=h
def Ye(h:p:=by
 refine aA fun e=>?_
 simp only[Value.ownBlock,dX]at e;subst e;rw[hb]at hg;simp at hg):p:=h
def Yd(h:p:=by obtain⟨u,rfl,hu,hb⟩:=h;obtain⟨A,c,rfl,hr,-⟩:=hu.view;exact⟨A,c,rfl,hr,hb⟩):p:=h
def Yc(h:p:=by
 rcases fM Eo.outer EZ (by decide)with h1|h1
 .cases h1
 .exact h1 (by rw[<-e];rfl)):p:=h
def Yb(h:p:=by
 go_wp2_with fail
 go_meet
 exact⟨false,rfl,fun h=>(by cases h),HI.o.mono (by omega)⟩):p:=h
def Ya(h:p:=by obtain⟨lo,hi,h1,h2,h3,h4⟩:=h;exact⟨lo,hi,h1,bc h2 hb.size,h3,h4.ext hb h2⟩):p:=h
def X_(h:p:=by
 go_ret
 exact⟨g,cap,rfl,by rw[HI.o];exact Eo,Gc,Ho.imp id fun e=>by omega⟩):p:=h
def X9(h:p:=by
 by_cases h3:j<i/\j≠r
 .rw[ay h3,ay ⟨by omega,h3.2⟩]
 .rw[al h3,al (by omega)]):p:=h
def X8(h:p:=by have:=Dn (k:=(v+b).toNat) s.p2 (G q hq);exact⟨by have:=this.1;omega,this.2⟩):p:=h
def X7(h:p:=by intro t ht;rw[Ev]at ht;refine⟨?_,aP FB _⟩;rw[aW FB,dA (by simp;omega)];rfl):p:=h
def X6(h:p:=by intro u' Eu;simp[dq]at Eu;rcases Eu with rfl|rfl|rfl|rfl|rfl <;>rfl):p:=h
def X5(h:p:=by
 rcases fA Eo.outer F9 with h1|h1
 .cases h1
 .exact fun e=>h1 (by rw[e];rfl)):p:=h
def X4(h:p:=by
 rcases fM F9 EZ (by decide)with h1|h1
 .cases h1
 .exact h1 (by rw[<-e];rfl)):p:=h
def X1(h:p:=by
 by_cases h:d<k
 .rw[ay h,ay h]
 .rw[al h,al (by omega),al (by omega)];rfl):p:=h
def XZ(h:p:=by
 go_enter func64,ntmps64
 go_wp2;go_ret
 exact⟨aS (by simp[dr,eX];omega),rfl⟩):p:=h
def XY(h:p:=by have:=mX List.length hL;simp only[dY,Tm.flat,bt,bQ,xO]at this;exact this):p:=h
def XX(h:p:=by obtain⟨g,FQ,e,_⟩:=h.own.form (by omega);simp only[fO]at e;exact e.2.1):p:=h
def XW(h:p:=by exact Calls.bl (xb a p v h A cap rows W EH (hR.ext hW) KH) (EK.symm.trans hc)):p:=h
def XV(h:p:=by
 refine dF ?_;rintro _ ⟨W,rfl⟩;go_wp2;go_ret
 exact⟨aS (by simp),af HB.o W.ok⟩):p:=h
def XT(h:p:=by intro u' Eu;simp at Eu;subst Eu;obtain⟨A',c',rfl,_⟩:=hu.view;rfl):p:=h
def XS(h:p:=by rw[m7,eW _ _ _ (by have:=Fz;simp at this ⊢;omega)];simpa using Fz):p:=h
def XR(h:p:=by exact(hW.each _ x rx hx hr).kept Gc (eV hW.outer (hW.each _ x rx hx hr))):p:=h
def XQ(h:p:=by rw[m7,eW _ _ _ (by have:=He;simp at this ⊢;omega)];simpa using He):p:=h
def XP(h:p:=by rw[Eo.cellAt k (by omega),cp,nK _ _ _ (by rw[fG];exact Ez)];rfl):p:=h
def XO(h:p:=by intro u' Eu;simp[fW]at Eu;rcases Eu with rfl|rfl|rfl <;>rfl):p:=h
def XN(h:p:=by rw[dz ci]at h1;rw[dz cj]at h2;exact h.apart i j u1 u2 b h1 h2 h3 h4):p:=h
def XM(h:p:=by
 go_meet
 exact(KI.o.put ER.o (j:=3) (by decide) _).mono (by omega)):p:=h
def XL(h:p:=by
 go_meet
 exact(KI.o.put ER.o (j:=2) (by decide) _).mono (by omega)):p:=h
def XK(h:p:=by
 go_wp2;go_ret
 exact⟨aS (by rw[sM,jL _ _ _ EP.o (by omega)]),rfl⟩):p:=h
def XJ(h:p:=by rw[ld hi hj]at hu Eu;exact ze8 (h.apart _ _ u u' b hu Eu hb Gd)):p:=h
def XI(h:p:=by exact Calls.bl (zB a b c p v h A cap rows W EH) (EK.symm.trans hc)):p:=h
def XH(h:p:=by
 go_wp2;go_ret
 exact⟨aS (gM (fun e=>hn (by rw[e]))).symm,aj _ _⟩):p:=h
def XG(h:p:=by
 go_ret
 exact⟨mO (by first|exact HI.o|(simpa using HI.o)),rfl⟩):p:=h
def XF(h:p:=by
 rcases Fx.o with h|h
 .cases h
 .exact fun e=>h (by rw[e];rfl)):p:=h
def XE(h:p:=by rw[ay ⟨by omega,ED⟩,h0 ED,lS,Int.sub_zero,oC this.1 this.2]):p:=h
def XD(h:p:=by exact Calls.bl (xa a b p v h A cap rows W EH) (EK.symm.trans hc)):p:=h
def XB(h:p:=by exact Calls.bl (vd a c p v h A cap rows W EH) (EK.symm.trans hc)):p:=h
def Xz(h:p:=by exact h.imp (fun h=>cf.2 ⟨y,h,rfl⟩) fun h=>cf.2 ⟨y,h,rfl⟩):p:=h
def Xy(h:p:=by unfold gIn zaO nP qq;constructor <;> (repeat' split) <;>omega):p:=h
def Xx(h:p:=by
 go_wp2;go_end0
 exact⟨rfl,⟨_,by rw[Hk.o];exact HN.o⟩,HE.o⟩):p:=h
def Xw(h:p:=by exact Calls.bl (zC a p v h A cap rows W EH) (EK.symm.trans hc)):p:=h
def Xv(h:p:=by exact Calls.bl (s7 b p v h A cap rows W EH) (EK.symm.trans hc)):p:=h
def Xu(h:p:=by have:us=[]:=eS (by simpa using h);subst this;simp[fS]):p:=h
def Xt(h:p:=by
 clear hB KL hk;go_wp2;go_ret
 exact⟨by rw[HK.o];rfl,HB.o⟩):p:=h
def Xs(h:p:=by have:us=[]:=eS (by simpa using h);subst this;simp[mz]):p:=h
def Xr(h:p:=by exact⟨none,0,by rw[hn],aF (eS hn),by omega,by decide⟩):p:=h
def Xq(h:p:=by rw[m7,eW _ _ _ (by simp[Ev];omega)];simpa using Ga):p:=h
def Xp(h:p:=by rw[Eo.cellAt k (by omega),cp,vY _ _ _ _ Ez,hx];rfl):p:=h
def Xo(h:p:=by simp at h;rcases h with rfl|rfl|rfl|rfl <;>decide):p:=h
def Xn(h:p:=by rintro e w' ⟨rfl,a,b⟩;exact⟨g,cap,rfl,a,b,aF rfl⟩):p:=h
def Xm(h:p:=by unfold nP qq;constructor <;> (repeat' split) <;>omega):p:=h
def Xl(h:p:=by have h1:=(ho.lt b e).2;have h2:=(hu.lt b hb).1;omega):p:=h
def Xj(h:p:=by rw[show k+(n-j)=n-1 by have:=HX.o;omega];rfl):p:=h
def Xi(h:p:=by
 go_wp2_with fail
 go_meet
 exact HI.o.mono (by omega)):p:=h
def Xh(h:p:=by
 rcases Fi with h|⟨b,o,h,_⟩
 .exact h
 .cases h):p:=h
def Xg(h:p:=by
 rw[gv (by simp;omega),fL];congr 1
 simp;omega):p:=h
def Xf(h:p:=by
 rw[sr h1];congr 1
 rw[dA h1]at hx;exact eH hx):p:=h
def Xe(h:p:=by intro u hu;rw[Fh]at hu;exact h1 u (km hu)):p:=h
def Xd(h:p:=by have:=h.apart _ _ x y b hx hy hb Gd;omega):p:=h
def Xc(h:p:=by obtain⟨us,h⟩:=h;exact⟨us,h.ext hb⟩):p:=h
def Xb(h:p:=by have:=(bA.1 Eu).1;simp at this;omega):p:=h
def Xa(h:p:=by have:=EJ W;rw[he]at this;exact this):p:=h
def W_(h:p:=by exact⟨ir _ (by omega),iu _ (by omega)⟩):p:=h
def W9(h:p:=by simp only[bQ,dH,ix]at this ⊢;omega):p:=h
def W8(h:p:=by exact fun e=>h1 (by rw[e];rfl)):p:=h
def WZ(h:p:=by exact ff H4.o (by omega) _ _ _ _ _):p:=h
def WY(h:p:=by
 go_wp2;go_ret
 exact⟨rfl,rfl⟩):p:=h
def WX(h:p:=by simp[eI,ja,iY,bk];omega):p:=h
def WW(h:p:=by subst h;exact aF (by simp)):p:=h
def WV(h:p:=by rw[show((b:Int)-1+1).toNat=b by omega,<-Fq.o,<-I6.o,show((b:Int)+1).toNat=b+1 by omega]):p:=h
def WU(h:p:=by iterate 8 (first|done|exact aI _|exact GG.o|exact aj _ _|refine mh ?_|refine mi ?_)):p:=h
def WT(h:p:=by rw[Es,show k+(n+1-k)=n+1 by omega];exact growslice_fits (by omega) (by omega)):p:=h
def WS(h:p:=by iterate 8 (first|done|exact aI _|exact aj _ _|refine mh ?_|refine mi ?_)):p:=h
def WR(h:p:=by rw[dM,aW Hh,ES _ (by have:=(bA.1 hj).1;omega),<-hj,E7,fL]):p:=h
def WQ(h:p:=by rw[dM,aW FB,ES _ (by have:=(bA.1 hj).1;omega),<-hj,E7,fL]):p:=h
def WO(h:p:=by cases e;have:=KE.o _ e2;have:=KB.o;have:=KC.o;omega):p:=h
def WN(h:p:=by rw[aW b1,dA (by have:=Fz;simp at this hj ⊢;omega)];rfl):p:=h
def WM(h:p:=by rw[aW Hj,dA (by have:=He;simp at this hj ⊢;omega)];rfl):p:=h
def WK(h:p:=by have:=HR.o;have:=HD.o;have:=HU.o;have:=Kl.o;omega):p:=h
def WJ(h:p:=by rw[aW b1,dA (by have:=Fz;simp at this ⊢;omega)];rfl):p:=h
def WI(h:p:=by have:=h'.2.2.2.2;rw[HS.o.len,<-FM]at this;exact this):p:=h
def WH(h:p:=by rw[Fu];exact bx (dP w none) (World.grownBy_alloc _ _ _)):p:=h
def WG(h:p:=by have:=s.len r hr;have:=s.v24;have:=s.h100;omega):p:=h
def WE(h:p:=by rw[Hi];simp[Builtin.zeroCells,Value.cells];omega):p:=h
def WD(h:p:=by intro u hu;simp at hu;obtain⟨x,_,rfl⟩:=hu;rfl):p:=h
def WC(h:p:=by have:=h.le;have:=hb.size;simp at this ⊢;omega):p:=h
def WB(h:p:=by rw[FM,E4];exact JC _ _ (by rw[FR.o];omega)):p:=h
def WA(h:p:=by rw[JF,E4];exact JC _ _ (by rw[JD.o];omega)):p:=h
def Wz(h:p:=by rw[GO,E4];exact JC _ _ (by rw[JO.o];omega)):p:=h
def Wy(h:p:=by obtain⟨r,_,ho⟩:=hu.kU hx;exact(ho.lt b hb).2):p:=h
def Wx(h:p:=by have:=Fc.o;have:=Fq.o;have:=FO.o;omega):p:=h
def Ww(h:p:=by rw[eW _ _ _ (by simp[Ev];omega)];simp[FA]):p:=h
def Wv(h:p:=by rw[eW _ _ _ (by simp[FC];omega)];simp[FA]):p:=h
def Wu(h:p:=by have:=HR.o;have:=HD.o;have:=HU.o;omega):p:=h
def Wt(h:p:=by rw[Jx];exact JC _ _ (by rw[FR.o];omega)):p:=h
def Ws(h:p:=by rw[JL];exact JC _ _ (by rw[JD.o];omega)):p:=h
def Wr(h:p:=by rw[JJ];exact JC _ _ (by rw[JO.o];omega)):p:=h
def Wq(h:p:=by have:=Ew.o;show b < (w:Nat)+2;omega):p:=h
def Wp(h:p:=by rw[aW Ep,dA (by simp at hj ⊢;omega)];rfl):p:=h
def Wo(h:p:=by rw[h.outer.cellAt _ (by omega),pn h5 hy hu]):p:=h
def Wn(h:p:=by have:=Fq.o;have:=FO.o;rw[aZ];omega):p:=h
def Wm(h:p:=by have:=KN.o;show w.heap.size<_;omega):p:=h
def Wl(h:p:=by have:=KM.o;show w.heap.size<_;omega):p:=h
def Wk(h:p:=by have:=ER.o;show w.heap.size≠z;omega):p:=h
def Wj(h:p:=by have:=ER.o;show(w:Nat)<=z;omega):p:=h
def Wi(h:p:=by rw[eW _ _ _ (by simp;omega)];simp[Hf]):p:=h
def Wh(h:p:=by unfold kL;split<;>(try split)<;>omega):p:=h
def Wg(h:p:=by rw[FC];simp only[oH];split<;>omega):p:=h
def Wf(h:p:=by unfold gP;rw[Fe.o,iy (by omega)];rfl):p:=h
def We(h:p:=by simp only[oH];split<;>simp<;>omega):p:=h
def Wd(h:p:=by rw[E5.outer.cellAt _ (by omega),FZ]):p:=h
def Wc(h:p:=by rw[En];exact(aj _ _).alloc (ag _) _):p:=h
def V_(h:p:=by have:=EE.size;simp at this;omega):p:=h
def VZ(h:p:=by rw[GJ];exact(aj _ _).alloc (ag _) _):p:=h
def VY(h:p:=by rw[Fw];exact(aj _ _).alloc (ag _) _):p:=h
def VX(h:p:=by rw[Fu];exact(aj _ _).alloc (ag _) _):p:=h
def VW(h:p:=by rw[E5.outer.cellAt _ (by omega),E6]):p:=h
def VV(h:p:=by have:=Fz;simp at this hj ⊢;omega):p:=h
def VU(h:p:=by have:=EM r hr;unfold maxLen;omega):p:=h
def VT(h:p:=by subst e;exact(bZ hu.outer g' rfl).2):p:=h
def VS(h:p:=by simp[results,results163,go_sem, *]):p:=h
def VR(h:p:=by simp[results,results158,go_sem, *]):p:=h
def VQ(h:p:=by simp[results,results182,go_sem, *]):p:=h
def VP(h:p:=by rw[aW FB,dA (by simp;omega)];rfl):p:=h
def VO(h:p:=by have:=He;simp at this hj ⊢;omega):p:=h
def VN(h:p:=by have:=(Hm.o.lt _ e.symm).2;omega):p:=h
def VM(h:p:=by simp[results,results214,go_sem, *]):p:=h
def VL(h:p:=by simp[results,results165,go_sem, *]):p:=h
def VK(h:p:=by rw[JN.o,JV.o,GR.o];exact Jy.o):p:=h
def VJ(h:p:=by simp[results,results181,go_sem, *]):p:=h
def VI(h:p:=by simp[results,results183,go_sem, *]):p:=h
def VH(h:p:=by simp[results,results156,go_sem, *]):p:=h
def VG(h:p:=by dsimp only;have:=Sys.h100 h;omega):p:=h
def VF(h:p:=by simp[results,results15,go_sem, *]):p:=h
def VE(h:p:=by simp[results,results32,go_sem, *]):p:=h
def VD(h:p:=by have e:=eH e;have:=KP.o;omega):p:=h
def VC(h:p:=by rw[Jc.o,al (by simpa using IU)]):p:=h
def VB(h:p:=by simp[results,results16,go_sem, *]):p:=h
def VA(h:p:=by simp[results,results17,go_sem, *]):p:=h
def Vz(h:p:=by have:=hg.2.2;unfold maxLen;omega):p:=h
def Vy(h:p:=by have:=KB.o;have:=KD.o;omega):p:=h
def Vx(h:p:=by unfold Am;rw[ay (by omega)];omega):p:=h
def Vw(h:p:=by simp[results,results87,go_sem, *]):p:=h
def Vv(h:p:=by simp[results,results44,go_sem, *]):p:=h
def Vu(h:p:=by simp[results,results48,go_sem, *]):p:=h
def Vt(h:p:=by simp[results,results13,go_sem, *]):p:=h
def Vs(h:p:=by simp[results,results68,go_sem, *]):p:=h
def Vr(h:p:=by have:=E9.o;have:=Er.o;omega):p:=h
def Vq(h:p:=by have:=Km.o;have:=FT.o;omega):p:=h
def Vp(h:p:=by unfold maxLen;have:=KJ.o;omega):p:=h
def Vo(h:p:=by have:=Fz;simp at this ⊢;omega):p:=h
def Vn(h:p:=by have:=KB.o;have:=Gb.o;omega):p:=h
def Vm(h:p:=by have:=Ge.o;have:=ER.o;omega):p:=h
def Vl(h:p:=by simp[results,results8,go_sem, *]):p:=h
def Vk(h:p:=by simp[results,results7,go_sem, *]):p:=h
def Vj(h:p:=by have:=Ge.o;have:=Ew.o;omega):p:=h
def Vi(h:p:=by rw[EY.cellAt _ (by omega),EX]):p:=h
def Vh(h:p:=by have:=He;simp at this ⊢;omega):p:=h
def Vg(h:p:=by obtain⟨x,-,rfl⟩:=cf.1 hc;rfl):p:=h
def Vf(h:p:=by have:=HZ.o;have:=EV.o;omega):p:=h
def Ve(h:p:=by have:=HJ.o;have:=FP.o;omega):p:=h
def Vd(h:p:=by simp[results,results10,go_sem]):p:=h
def Vc(h:p:=by simp[results,results52,go_sem]):p:=h
def Vb(h:p:=by simp[results,results51,go_sem]):p:=h
def Va(h:p:=by simp[results,results21,go_sem]):p:=h
def U_(h:p:=by unfold gP;rw[gM (by omega),so]):p:=h
def U9(h:p:=by simp[results,results18,go_sem]):p:=h
def U8(h:p:=by simp[results,results19,go_sem]):p:=h
def U7(h:p:=by simp[results,results20,go_sem]):p:=h
def U6(h:p:=by simp[results,results9,go_sem]):p:=h
def U3(h:p:=by simp only[fO]at h1;exact h1.1):p:=h
def U2(h:p:=by have:=ER.o;show b<z;omega):p:=h
def U1(h:p:=by rw[<-hf];exact mj _ _ (HP.o _)):p:=h
def U0(h:p:=by rw[gp.1 hq];exact⟨HR.o,HS.o⟩):p:=h
def UZ(h:p:=by simp at hv;subst hv;exact FG):p:=h
def UY(h:p:=by first|exact ag _|simp[eh]):p:=h
def UX(h:p:=by have:=HW.o.size;simp;omega):p:=h
def UW(h:p:=by rw[Fl];exact bw _ _ _ _ hj):p:=h
def UU(h:p:=by simp[results,m9,go_sem, *]):p:=h
def UT(h:p:=by rw[GI];exact(aj _ _).drew):p:=h
def US(h:p:=by have:=s.el r hr x hx;omega):p:=h
def UR(h:p:=by rw[bj];unfold maxLen;omega):p:=h
def UQ(h:p:=by simp[results,ji,go_sem, *]):p:=h
def UP(h:p:=by simp[results,l9,go_sem, *]):p:=h
def UO(h:p:=by simp[dL,uK,uA,uB,uC,uR]):p:=h
def UM(h:p:=by rw[Fs];exact jG Ft.o E4):p:=h
def UL(h:p:=by simp[Value.ownBlock];omega):p:=h
def UK(h:p:=by have:=F0 _ e.symm;omega):p:=h
def UJ(h:p:=by have:=FH.len r hr;omega):p:=h
def UI(h:p:=by have:=ED _ e.symm;omega):p:=h
def UH(h:p:=by rw[<-hv];exact ez _ _ _ _):p:=h
def UG(h:p:=by rw[<-hh];exact ez _ _ _ _):p:=h
def UF(h:p:=by rw[En];exact az _ _ rfl):p:=h
def UE(h:p:=by rw[Fl];simpa using FI):p:=h
def UC(h:p:=by rw[GJ];exact az _ _ rfl):p:=h
def UB(h:p:=by rw[Fw];exact az _ _ rfl):p:=h
def UA(h:p:=by rw[Fu];exact az _ _ rfl):p:=h
def Uz(h:p:=by have:=(bA.1 hj).1;omega):p:=h
def Uy(h:p:=by have:=hs.len r hr;omega):p:=h
def Ux(h:p:=by simp[results,nj,go_sem]):p:=h
def Uw(h:p:=by simp[results,ef,go_sem]):p:=h
def Uv(h:p:=by simp[results,oN,go_sem]):p:=h
def Uu(h:p:=by cases v.ownBlock<;>simp):p:=h
def Ut(h:p:=by first|exact ag _|simp):p:=h
def Us(h:p:=by unfold gP;rw[Fe.o,ic]):p:=h
def Ur(h:p:=by have:=s.len r hr;omega):p:=h
def Uq(h:p:=by have:=HW.o.size;omega):p:=h
def Up(h:p:=by rw[<-F6,fY,ay ht]):p:=h
def Uo(h:p:=by have:=Ev r hr;omega):p:=h
def Un(h:p:=by rw[<-Fv.o];exact HO.o):p:=h
def Um(h:p:=by have:=fj p xs s;omega):p:=h
def Ul(h:p:=by simp[Act.eval,Act.put]):p:=h
def Uk(h:p:=by rw[gp.1 hx];exact HR.o):p:=h
def Uj(h:p:=by rw[gp.1 hx];exact HS.o):p:=h
def Ui(h:p:=by have:=F0 b hb;omega):p:=h
def Uh(h:p:=by rw[Fe.o]at h;cases h):p:=h
def Ug(h:p:=by rw[Fh];simp[F_]):p:=h
def Uf(h:p:=by have:=Et r hr;omega):p:=h
def Ue(h:p:=by rw[dW _ _ _ hk];omega):p:=h
def Ud(h:p:=by rw[<-EW,fY,ay ht]):p:=h
def Uc(h:p:=by rw[Kz.o];exact FN):p:=h
def Ub(h:p:=by rw[ha.len];exact FN):p:=h
def Ua(h:p:=by rw[h.hv,h.hh];omega):p:=h
def T_(h:p:=by rw[hs g a2];exact a3):p:=h
def T9(h:p:=by simp[m6,F_];omega):p:=h
def T8(h:p:=by rw[<-h.len];exact hk):p:=h
def T7(h:p:=by simpa[ar]using Fj):p:=h
def T6(h:p:=by simpa[ar]using FK):p:=h
def T5(h:p:=by have e:=eH e;omega):p:=h
def T4(h:p:=by simp[Value.oneCell']):p:=h
def T3(h:p:=by rw[E7];simp;omega):p:=h
def T2(h:p:=by simp[bK,FE];omega):p:=h
def T1(h:p:=by simp[List.getD,EU]):p:=h
def T0(h:p:=by simp[List.getD,Fa]):p:=h
def TZ(h:p:=by rw[S.s1.1];exact ha):p:=h
def TY(h:p:=by rw[S.s2.1];exact ha):p:=h
def TX(h:p:=by have:=FH.n;omega):p:=h
def TW(h:p:=by have:=E9.o;omega):p:=h
def TV(h:p:=by rw[<-h.1];exact hl):p:=h
def TU(h:p:=by have:=Hq.o;omega):p:=h
def TT(h:p:=by have:=FR.o;omega):p:=h
def TS(h:p:=by unfold maxLen;omega):p:=h
def TR(h:p:=by have:=Fc.o;omega):p:=h
def TQ(h:p:=by have:=FP.o;omega):p:=h
def TP(h:p:=by have:=Hc.o;omega):p:=h
def TO(h:p:=by have:=E_.o;omega):p:=h
def TN(h:p:=by have:=ER.o;omega):p:=h
def TM(h:p:=by have:=Ew.o;omega):p:=h
def TL(h:p:=by first|rfl|go_num):p:=h
def TK(h:p:=by have:=Hp.o;omega):p:=h
def TJ(h:p:=by have:=EV.o;omega):p:=h
def TI(h:p:=by rw[h.len];exact hk):p:=h
def TH(h:p:=by have:=Fk.o;omega):p:=h
def TG(h:p:=by rw[lI];exact Fm.o):p:=h
def TF(h:p:=by have:=Ir.o;omega):p:=h
def TE(h:p:=by have:=Im.o;omega):p:=h
def TD(h:p:=by simp[List.getD,hr]):p:=h
def TC(h:p:=by simp[List.getD,hx]):p:=h
def TB(h:p:=by rw[tk];exact F5.o):p:=h
def TA(h:p:=by rw[FF];simp[FD]):p:=h
def Tz(h:p:=by rw[<-E7];exact hv):p:=h
def Ty(h:p:=by have:=GN.o;omega):p:=h
def Tx(h:p:=by have:=Gb.o;omega):p:=h
def Tw(h:p:=by rw[fP];exact h.len):p:=h
def Tv(h:p:=by have:=KO.o;omega):p:=h
def Tu(h:p:=by rw[hs];exact h.hh):p:=h
def Tt(h:p:=by have:=hs.n;omega):p:=h
def Ts(h:p:=by rw[eT];exact Ev):p:=h
def Tr(h:p:=by simpa[eX]using hi):p:=h
def Tq(h:p:=by have:=HL.o;omega):p:=h
def Tp(h:p:=by rw[<-qj];exact ho):p:=h
def To(h:p:=by have:=HM.o;omega):p:=h
def Tn(h:p:=by simpa[eX]using h1):p:=h
def Tl(h:p:=by unfold Sy.n;omega):p:=h
def Tk(h:p:=by rw[dH,lR];omega):p:=h
def Tj(h:p:=by have:=h.w;omega):p:=h
def Ti(h:p:=by rw[Ky];exact hb):p:=h
def Th(h:p:=by simp[cE,bE,dO]):p:=h
def Tg(h:p:=by dsimp only;omega):p:=h
def Tf(h:p:=by rw[GR.o];omega):p:=h
def Te(h:p:=by rw[Ia.o];omega):p:=h
def Td(h:p:=by rw[Iz.o];omega):p:=h
def Tc(h:p:=by rw[FR.o];omega):p:=h
def Tb(h:p:=by rw[JD.o];omega):p:=h
def Ta(h:p:=by rw[JO.o];omega):p:=h
def S_(h:p:=by simp[qC.add,bF]):p:=h
def S9(h:p:=by rw[h1];exact h2):p:=h
def S8(h:p:=by rw[bu,hy];rfl):p:=h
def S7(h:p:=by simpa using Eo):p:=h
def SZ(h:p:=by rw[Ev];omega):p:=h
def SY(h:p:=by rw[HL.o];omega):p:=h
def SX(h:p:=by simpa using ED):p:=h
def SW(h:p:=by rw[Es];omega):p:=h
def SV(h:p:=by rw[GL.o];rfl):p:=h
def SU(h:p:=by cases hb;omega):p:=h
def SS(h:p:=by simp[k_,e,m]):p:=h
def SR(h:p:=by rw[EN];omega):p:=h
def SQ(h:p:=by rw[aZ];omega):p:=h
def SP(h:p:=by decide +kernel):p:=h
def SN(h:p:=by simpa using h1):p:=h
def SM(h:p:=by simpa using hx):p:=h
def SL(h:p:=by rw[bk];omega):p:=h
def SK(h:p:=by rw[HS.o];rfl):p:=h
def SJ(h:p:=by simp<;>omega):p:=h
def SI(h:p:=by rw[fG];omega):p:=h
def SH(h:p:=by rw[En];simp):p:=h
def SG(h:p:=by simpa using h2):p:=h
def SF(h:p:=by rw[bj];omega):p:=h
def SE(h:p:=by simpa using h3):p:=h
def SD(h:p:=by simpa using h4):p:=h
def SC(h:p:=by simpa using h5):p:=h
def SB(h:p:=by simpa using h7):p:=h
def SA(h:p:=by simpa using h8):p:=h
def Sz(h:p:=by simpa using h9):p:=h
def Sx(h:p:=by simpa using h0):p:=h
def Sw(h:p:=by rw[dH];omega):p:=h
def Sv(h:p:=by simpa using tL):p:=h
def Su(h:p:=by simpa using tC):p:=h
def St(h:p:=by simpa using tB):p:=h
def Ss(h:p:=by simpa using tA):p:=h
def Sr(h:p:=by simpa using hb):p:=h
def Sq(h:p:=by simpa using ha):p:=h
def Sp(h:p:=by simpa using e):p:=h
def So(h:p:=by simpa using h):p:=h
def Sn(h:p:=by simp[h.len]):p:=h
def Sm(h:p:=by simp[k_,e]):p:=h
def Sl(h:p:=by simp[k_,m]):p:=h
def Sk(h:p:=by simp;omega):p:=h
def Sj(h:p:=by rw[bj,bt]):p:=h
def Si(h:p:=by kernel_rfl):p:=h
def Sh(h:p:=by assumption):p:=h
def Sg(h:p:=by simp at hu):p:=h
def Sf(h:p:=by simp at h):p:=h
def Se(h:p:=by simp[bF]):p:=h
def Sd(h:p:=by simp[h0]):p:=h
def Sc(h:p:=by simp[hc]):p:=h
def Sb(h:p:=by simp[hk]):p:=h
def Sa(h:p:=by simp[dO]):p:=h
def R_(h:p:=by simp[hn]):p:=h
def R9(h:p:=by simp[iY]):p:=h
def R7(h:p:=by simp[kq]):p:=h
def R6(h:p:=by simp[bE]):p:=h
def R5(h:p:=by cases hr):p:=h
def R4(h:p:=by simp[*]):p:=h
def R3(h:p:=by simp[m]):p:=h
def R0(h:p:=by simp[e]):p:=h
def RZ(h:p:=by cases h):p:=h
def RY(h:p:=by trivial):p:=h
def RX(h:p:=by decide):p:=h
def RW(h:p:=by go_num):p:=h
def RV(h:p:=by rw[e]):p:=h
def RU(h:p:=by omega):p:=h
def RS(h:p:=by simp):p:=h
end Go.Proofs.YtdpgblncijojiaaGreatDoor
