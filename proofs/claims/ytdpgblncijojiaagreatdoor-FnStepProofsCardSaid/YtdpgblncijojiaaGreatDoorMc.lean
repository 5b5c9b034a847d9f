/- Steps that stand more than once. Conditions: none. -/
import Derived.BigQuiet
import Derived.ChangeVars
import Derived.Deep.AppendLies
import Derived.Deep.Cut
import Derived.Deep.CutBlock
import Derived.Deep.CutRange
import Derived.Deep.DeepHandedRow
import Derived.Deep.Matrix
import Derived.Deep.QuietTactic
import Derived.Deep.RegionHeld
import Derived.Deep.RegionHeld3
import Derived.Deep.RegionLaw
import Derived.Deep.RegionWith
import Derived.LaidLaws
import Derived.Laws.BitsAllLaws
import Derived.Laws.CopyOwn
import Derived.Laws.Externs
import Derived.Laws.IdiomCopy
import Derived.Lib.AppendZeros
import Derived.Lib.AppendZerosOnto
import Derived.Lib.Hide
import Derived.Lib.LaidTab
import Derived.Lib.Overlaps
import Derived.Lib.SliceRun
import Derived.Lib.SmallJoins
import Derived.Maps.AppendAt
import Derived.OpenShut
import Derived.ProofKit
import Derived.StillTail
import Derived.Test.YtdpgblncijojiaaGreatDoorProg
import Derived.WalkKit
import Derived.WalkLawsBesides
import Derived.WalkSmall
import Derived.WalkSpells
namespace Go.Proofs.YtdpgblncijojiaaGreatDoor
open Go.RowKit Tryz
set_option linter.all false
def zA.{u}:(∀{α:Type u} (l:List α) (i:Nat) (a:α),l.toArray.setIfInBounds i a=(l.set i a).toArray)/\(∀{α:Type u} {x:α} {l:List α} {a:α},(x::l).set 0 a=a::l)/\∀{α:Type u} {x:α} {l:List α} {n:Nat} {a:α},(x::l).set (n+1) a=x::l.set n a:=⟨fun _ _ _=>List.setIfInBounds_toArray ..,rfl,rfl⟩
instance:CoeOut World Nat:=⟨(·.heap.size)⟩
instance {α}:CoeOut (List α) Nat:=⟨(·.length)⟩
def Hd(p:Prop):Prop:=(fun _=>p) @wpAnyQ
def Hd.o{p:Prop}(h:Hd p):p:=h
def zH{p:Prop}(h:p):Hd p:=h
def aK{α:Sort _}(a:α):∃x,x=a:=⟨a,rfl⟩
def bQ{a b c:World}(h:Below a a b)(l:Below b b c):Below a a c:=h.trans (l.mono h.size)
def bL{p0 p1:Prop}(a0:p0)(a1:p1):Hd p0/\Hd p1:=⟨a0,a1⟩
def dD{p0 p1 p2:Prop}(a0:p0)(a1:p1)(a2:p2):Hd p0/\Hd p1/\Hd p2:=⟨a0,a1,a2⟩
def fS{p0 p1 p2 p3:Prop}(a0:p0)(a1:p1)(a2:p2)(a3:p3):Hd p0/\Hd p1/\Hd p2/\Hd p3:=⟨a0,a1,a2,a3⟩
def l_{p0 p1 p2 p3 p4:Prop}(a0:p0)(a1:p1)(a2:p2)(a3:p3)(a4:p4):Hd p0/\Hd p1/\Hd p2/\Hd p3/\Hd p4:=⟨a0,a1,a2,a3,a4⟩
def lq{p0 p1 p2 p3 p4 p5:Prop}(a0:p0)(a1:p1)(a2:p2)(a3:p3)(a4:p4)(a5:p5):Hd p0/\Hd p1/\Hd p2/\Hd p3/\Hd p4/\Hd p5:=⟨a0,a1,a2,a3,a4,a5⟩
def zH7{p0 p1 p2 p3 p4 p5 p6:Prop}(a0:p0)(a1:p1)(a2:p2)(a3:p3)(a4:p4)(a5:p5)(a6:p6):Hd p0/\Hd p1/\Hd p2/\Hd p3/\Hd p4/\Hd p5/\Hd p6:=⟨a0,a1,a2,a3,a4,a5,a6⟩
def zH8{p0 p1 p2 p3 p4 p5 p6 p7:Prop}(a0:p0)(a1:p1)(a2:p2)(a3:p3)(a4:p4)(a5:p5)(a6:p6)(a7:p7):Hd p0/\Hd p1/\Hd p2/\Hd p3/\Hd p4/\Hd p5/\Hd p6/\Hd p7:=⟨a0,a1,a2,a3,a4,a5,a6,a7⟩
def zH9{p0 p1 p2 p3 p4 p5 p6 p7 p8:Prop}(a0:p0)(a1:p1)(a2:p2)(a3:p3)(a4:p4)(a5:p5)(a6:p6)(a7:p7)(a8:p8):Hd p0/\Hd p1/\Hd p2/\Hd p3/\Hd p4/\Hd p5/\Hd p6/\Hd p7/\Hd p8:=⟨a0,a1,a2,a3,a4,a5,a6,a7,a8⟩
def zjl{p0 p1 p2 p3 p4 p5 p6 p7 p8 p9:Prop}(a0:p0)(a1:p1)(a2:p2)(a3:p3)(a4:p4)(a5:p5)(a6:p6)(a7:p7)(a8:p8)(a9:p9):Hd p0/\Hd p1/\Hd p2/\Hd p3/\Hd p4/\Hd p5/\Hd p6/\Hd p7/\Hd p8/\Hd p9:=⟨a0,a1,a2,a3,a4,a5,a6,a7,a8,a9⟩
def ziM{p0 p1 p2 p3 p4 p5 p6 p7 p8 p9 p10:Prop}(a0:p0)(a1:p1)(a2:p2)(a3:p3)(a4:p4)(a5:p5)(a6:p6)(a7:p7)(a8:p8)(a9:p9)(a10:p10):Hd p0/\Hd p1/\Hd p2/\Hd p3/\Hd p4/\Hd p5/\Hd p6/\Hd p7/\Hd p8/\Hd p9/\Hd p10:=⟨a0,a1,a2,a3,a4,a5,a6,a7,a8,a9,a10⟩
def zjS{p0 p1 p2 p3 p4 p5 p6 p7 p8 p9 p10 p11:Prop}(a0:p0)(a1:p1)(a2:p2)(a3:p3)(a4:p4)(a5:p5)(a6:p6)(a7:p7)(a8:p8)(a9:p9)(a10:p10)(a11:p11):Hd p0/\Hd p1/\Hd p2/\Hd p3/\Hd p4/\Hd p5/\Hd p6/\Hd p7/\Hd p8/\Hd p9/\Hd p10/\Hd p11:=⟨a0,a1,a2,a3,a4,a5,a6,a7,a8,a9,a10,a11⟩
def dC(w:World)(o:Obj):Below w w (w.alloc o)/\(w.alloc o).heap[w.heap.size]?=some o:=⟨(Below.refl _ _).alloc (Nat.le_refl _) o,by show(w.heap.push o)[w.heap.size]?=_;simp⟩
structure M.{u}{α:Sort u}(a:α):Type
instance {α:Type}{a:α}:CoeOut (M a) α:=⟨fun _=>a⟩
instance {a:Prop}:CoeOut (M a) Prop:=⟨fun _=>a⟩
instance {a:Prop}:CoeSort (M a) Prop:=⟨fun _=>a⟩
instance {a:Type}:CoeOut (M a) Type:=⟨fun _=>a⟩
instance {a:Type}:CoeSort (M a) Type:=⟨fun _=>a⟩
instance:Coe Int Value:=⟨fun x=>.int .i64 x⟩
instance:Coe Nat Value:=⟨fun x=>.int .i64 (x:Int)⟩
instance:CoeDep Unit () Value:=⟨.int .i64 0⟩
def fA:M (Value.slice none 0 0):=⟨⟩
def aj(w w':World):M (Below w w w'):=⟨⟩
def af(w:World)(b o:Nat)(v:Value):M (w.cell? ⟨b,o,none⟩=some v):=⟨⟩
def aW(w:World)(b:Nat)(c:Array Value)(t:TypeId):M (w.heap[b]?=some (.cells c t)):=⟨⟩
def fp(w:World)(x:Bool):M (fun(e:Ending) (w':World)=>e=.returned (.bool x)/\Below w w w'):=⟨⟩
def ax(f:FuncId)(x:Array Value)(w:World)(R:Ending->World->Prop):M (Calls Tryz.prog f x w R):=⟨⟩
def aX(g:Nat):M (some (⟨g,0,none⟩:Addr)):=⟨⟩
def zI(x:Int):M (Value.int .i64 x):=⟨⟩
def aC:M (List (List Int)):=⟨⟩
def aq:M (Option Addr):=⟨⟩
def aH:M (List Int):=⟨⟩
def bN:M (List Value):=⟨⟩
def bW:M (List Nat):=⟨⟩
def qX:M (List (Nat×Nat)):=⟨⟩
def wg:M (List (Nat×Int)):=⟨⟩
def ir:M (Exit->Act->World->Prop):=⟨⟩
def oS:M (Act->World->Prop):=⟨⟩
def iQ:M (World->Prop):=⟨⟩
def aa:M (World):=⟨⟩
def av:M (Value):=⟨⟩
def gq:M (Array Value):=⟨⟩
def iF:M (Array Oper):=⟨⟩
def dE:M (TypeId):=⟨⟩
def kE:M (Operand):=⟨⟩
def lk:M (Program):=⟨⟩
def dw:M (Addr):=⟨⟩
def gY:M (Nat×Nat):=⟨⟩
def gj:M (Nat->Nat):=⟨⟩
def pV:M (Array Bool):=⟨⟩
def zdo:M (List Bool):=⟨⟩
def ie:M (Oper):=⟨⟩
def ae(x0 x1 x2 x3 x4):M (#[.int .i64 x0,.int .i64 x1,.slice x2 x3 x4]:Array Value):=⟨⟩
def aQ:M (#[.int .i64 0,.int .i64 0,.slice none 0 0]:Array Value):=⟨⟩
def cf:M (#[.int .i64 0,.slice none 0 0,.slice none 0 0,.slice none 0 0]:Array Value):=⟨⟩
def dH:M (#[.int .i64 0,.int .i64 0,.int .i64 0,.int .i64 0,.slice none 0 0]:Array Value):=⟨⟩
def dk(x0 x1 x2 x3 x4 x5 x6):M (#[.int .i64 x0,.int .i64 x1,.int .i64 x2,.int .i64 x3,.slice x4 x5 x6]:Array Value):=⟨⟩
def bI(x0 x1):M (#[.int .i64 x0,.int .i64 x1]:Array Value):=⟨⟩
def dp(x0 x1 x2 x3 x4):M (#[.int .i64 x0,.int .i64 x1,.slice x2 x3 x4]:Array Value):=⟨⟩
def bJ{α1:Type}(x0)(x1:List α1)(x2):M (#[.slice x0 x1 x2]:Array Value):=⟨⟩
def cA(x0):M (#[.int .i64 (x0:Nat)]:Array Value):=⟨⟩
def fG(x0 x1 x2 x3 x4 x5 x6 x7 x8 x9):M (#[.int .i64 (x0:Nat),.slice x1 x2 x3,.slice x4 x5 x6,.slice x7 x8 x9]:Array Value):=⟨⟩
def bc(x0):M (#[.int .i64 x0]:Array Value):=⟨⟩
def iT(x0 x1 x2 x3 x4 x5):M (#[.int .i64 6,.int .i64 x0,.int .i64 x1,.int .i64 x2,.slice x3 x4 x5]:Array Value):=⟨⟩
def fe(x0 x1 x2):M (#[.int .i64 x0,.int .i64 x1,.int .i64 x2]:Array Value):=⟨⟩
def dz(x0 x1 x2):M (#[.int .i64 x0,.int .i64 x1,x2]:Array Value):=⟨⟩
def jF{α3:Type}{α6:Type}(x0 x1 x2)(x3:List α3)(x4 x5)(x6:List α6)(x7):M (#[.int .i64 x0,.int .i64 x1,.slice x2 x3 x4,.slice x5 x6 x7]:Array Value):=⟨⟩
def ki(x0 x1 x2 x3 x4 x5):M (#[.int .i64 8,.int .i64 x0,.int .i64 x1,.int .i64 x2,.slice x3 x4 x5]:Array Value):=⟨⟩
def ew(x0 x1 x2):M (#[.int .i64 x0,.agg x1,.agg x2]:Array Value):=⟨⟩
def kj(x0 x1 x2 x3 x4 x5):M (#[.int .i64 3,.int .i64 x0,.int .i64 x1,.int .i64 x2,.slice x3 x4 x5]:Array Value):=⟨⟩
def km(x0 x1 x2 x3 x4 x5):M (#[.int .i64 1,.int .i64 x0,.int .i64 x1,.int .i64 x2,.slice x3 x4 x5]:Array Value):=⟨⟩
def kn(x0 x1 x2 x3 x4 x5):M (#[.int .i64 4,.int .i64 x0,.int .i64 x1,.int .i64 x2,.slice x3 x4 x5]:Array Value):=⟨⟩
def ko(x0 x1 x2 x3 x4 x5):M (#[.int .i64 5,.int .i64 x0,.int .i64 x1,.int .i64 x2,.slice x3 x4 x5]:Array Value):=⟨⟩
def kp(x0 x1 x2 x3 x4 x5):M (#[.int .i64 7,.int .i64 x0,.int .i64 x1,.int .i64 x2,.slice x3 x4 x5]:Array Value):=⟨⟩
def kq(x0 x1 x2 x3 x4 x5):M (#[.int .i64 9,.int .i64 x0,.int .i64 x1,.int .i64 x2,.slice x3 x4 x5]:Array Value):=⟨⟩
def kr(x0 x1 x2 x3 x4 x5):M (#[.int .i64 2,.int .i64 x0,.int .i64 x1,.int .i64 x2,.slice x3 x4 x5]:Array Value):=⟨⟩
def dI(x0 x1 x2):M (#[.int .i64 x0,.agg x1,.agg x2]:Array Value):=⟨⟩
def ff:M (#[.nilIface,.bool false]:Array Value):=⟨⟩
def ks(x0 x1 x2 x3 x4 x5 x6):M (#[.int .i64 x0,.int .i64 x1,.int .i64 x2,.int .i64 x3,.slice x4 x5 x6]:Array Value):=⟨⟩
def eL(x0 x1 x2):M (#[.agg x0,.int .i64 x1,.agg x2]:Array Value):=⟨⟩
def dP(x0):M (#[.agg x0,.bool false]:Array Value):=⟨⟩
def kt(x0 x1 x2 x3 x4 x5 x6):M (#[.agg #[.slice x0 x1 x2,.slice x3 x1 x4,.slice x5 x1 x6],.bool false]:Array Value):=⟨⟩
def mf(x0 x1 x2 x3):M (#[.int .i64 x0,.int .i64 x1,.int .i64 x2,.int .i64 x3,.slice none 0 0]:Array Value):=⟨⟩
def g_(x0 x1 x2):M (#[.int .i64 x0,.int .i64 x1,.string x2]:Array Value):=⟨⟩
def iG:M (#[.slice none 0 0,.bool false]:Array Value):=⟨⟩
def eh(x0):M (#[.agg x0,.bool true]:Array Value):=⟨⟩
def kV(x0 x1 x2 x3 x4):M (#[.int .i64 x0,.int .i64 x1,.int .i64 x2,.int .i64 x3,x4]:Array Value):=⟨⟩
def fg:M (#[.slice none 0 0]:Array Value):=⟨⟩
def eY(x0 x1 x2):M (#[x0,.int .i64 x1,.agg x2]:Array Value):=⟨⟩
def oT:M (#[.slice none 0 0,.slice none 0 0,.slice none 0 0]:Array Value):=⟨⟩
def nh(x0 x1 x2 x3):M (#[.int .i64 x0,.int .i64 x1,.int .i64 x2,.int .i64 x3]:Array Value):=⟨⟩
def wh(x0):M (#[.int .i64 (x0:Nat),.slice none 0 0,.slice none 0 0,.slice none 0 0]:Array Value):=⟨⟩
def oU(x0 x1):M (#[.int .i64 (x0:Nat),.int .i64 (x1:Nat)]:Array Value):=⟨⟩
def iH(x0 x1):M (#[.int .i64 x0,.agg x1]:Array Value):=⟨⟩
def wj:M (#[.int .i64 2,.int .i64 3,.int .i64 5,.int .i64 7]:Array Value):=⟨⟩
def sW(x0 x1 x2):M (#[.int .i64 2,.int .i64 x0,.int .i64 x1,.int .i64 x2]:Array Value):=⟨⟩
def wk(x0 x1):M (#[.int .i64 (x0:Nat),.int .i64 (x1:Nat),.slice none 0 0]:Array Value):=⟨⟩
def nj{α1:Type}{α4:Type}(x0)(x1:List α1)(x2 x3)(x4:List α4)(x5):M (#[.slice x0 x1 x2,.slice x3 x4 x5]:Array Value):=⟨⟩
def oV:M (#[.int .i64 0,.int .i64 1]:Array Value):=⟨⟩
def qu:M (#[.int .i64 0,.slice none 0 0]:Array Value):=⟨⟩
def jG(x0 x1):M (#[.agg x0,.int .i64 x1]:Array Value):=⟨⟩
def lM(x0 x1):M (#[.pointer x0,.int .i64 x1]:Array Value):=⟨⟩
def wm(x0 x1):M (#[.int .i64 0,.int .i64 x0,.int .i64 x1,.int .i64 0]:Array Value):=⟨⟩
def oW:M (#[.bool true,.bool true]:Array Value):=⟨⟩
def jH:M (#[.int .i64 0]:Array Value):=⟨⟩
def cB(x0):M (#[.agg x0]:Array Value):=⟨⟩
def wo(x0 x1 x2):M (#[.int .i64 1,.int .i64 x0,.int .i64 x1,.int .i64 x2]:Array Value):=⟨⟩
def wu(x0 x1 x2):M (#[.int .i64 0,.int .i64 x0,.int .i64 x1,.int .i64 x2]:Array Value):=⟨⟩
def qv:M (#[.int .i64 1,.int .i64 0]:Array Value):=⟨⟩
def fH(x0 x1):M (#[.slice x0 1 x1]:Array Value):=⟨⟩
def sX(x0 x1 x2 x3):M (#[.agg x0,.pointer x1,.pointer x2,.pointer x3]:Array Value):=⟨⟩
def DB(x0 x1 x2):M (#[.int .i64 x0,.int .i64 (x1:Nat),.int .i64 (x2:Nat),.int .i64 0,.slice none 0 0]:Array Value):=⟨⟩
def yR(x0 x1 x2 x3):M (#[.int .i64 x0,.int .i64 (x1:Nat),.slice x2 2 2,.slice x3 2 2]:Array Value):=⟨⟩
def ey(x0 x1 x2):M (#[.slice x0 x1 x2]:Array Value):=⟨⟩
def sY(x0 x1 x2):M (#[.int .i64 (x0:Nat),.slice x1 x2 x2]:Array Value):=⟨⟩
def wv(x0 x1 x2):M (#[.slice x0 x1 x2,.int .i64 0,.int .u64 0]:Array Value):=⟨⟩
def yS{α2:Type}{α5:Type}{α8:Type}(x0 x1)(x2:List α2)(x3 x4)(x5:List α5)(x6 x7)(x8:List α8)(x9):M (#[.int .i64 x0,.slice x1 x2 x3,.slice x4 x5 x6,.slice x7 x8 x9]:Array Value):=⟨⟩
def jI(x0 x1):M (#[.agg x0,.agg x1]:Array Value):=⟨⟩
def qw(x0 x1 x2 x3 x4):M (#[.agg x0,.int .i64 x1,.slice x2 x3 x4]:Array Value):=⟨⟩
def yT(x0 x1 x2 x3 x4):M (#[.int .i64 (x0:Nat),.int .i64 (x1:Nat),.slice x2 x3 x4]:Array Value):=⟨⟩
def wy(x0 x1 x2):M (#[.pointer x0,.int .i64 x1,.int .i64 x2]:Array Value):=⟨⟩
def yU(x0 x1 x2 x3):M (#[.pointer x0,.int .i64 x1,.int .i64 x2,.int .i64 x3]:Array Value):=⟨⟩
def wA{α3:Type}(x0 x1 x2)(x3:List α3)(x4):M (#[.int .i64 x0,.agg x1,.slice x2 x3 x4]:Array Value):=⟨⟩
def wB(x0 x1 x2 x3 x4):M (#[.int .i64 x0,.slice x1 x2 x3,.int .i64 x4]:Array Value):=⟨⟩
def bn:=@Bool.and_eq_true
def cT:=@List.getElem?_cons_succ
def ah:=@Nat.le_refl
def yV:=@Nat.lt_or_eq_of_le
def dq:=@List.getElem?_eq_getElem
def fW:=@Int.eq_ofNat_of_zero_le
def eD:=@List.all_eq_true
def dQ:=@List.mem_range
def mg:=@Bool.or_eq_true
def cw:=@decide_eq_true_eq
def bg:=@List.getD_eq_getElem?_getD
def oX:=@List.getElem_mem
def mh:=@List.length_drop
def fI:=@List.getElem?_drop
def sZ:=@Nat.lt_trichotomy
def wC:=@List.getElem?_zipWith
def gI:=@Int.emod_nonneg
def gJ:=@Int.emod_lt_of_pos
def df:=@List.getElem?_set_ne
def fX:=@Ne.symm
def dJ:=@List.getElem?_set_self
def oY:=@Int.add_emod
def mi:=@Int.mul_emod
def qx:=@Int.emod_emod_of_dvd
def qy:=@Int.dvd_refl
def lN:=@Int.neg_mul
def nk:=@Int.mul_assoc
def iI:=@Int.mul_comm
def oZ:=@Int.mul_one
def o0:=@Int.mul_zero
def qz:=@Int.add_zero
def lO:=@Int.emod_eq_of_lt
def eN:=@List.mem_iff_getElem?
def bs:=@List.getElem?_eq_some_iff
def ku:=@if_false
def jo:=@if_true
def ar:=@if_pos
def ak:=@if_neg
def bR:=@List.getElem?_map
def lP:=@Int.zero_mul
def mj:=@List.length_eraseIdx_of_lt
def bS:=@List.length_append
def ml:=@congrArg
def gy:=@List.mem_singleton
def eO:=@List.mem_append
def cd:=@List.mem_map
def DC:=@Bool.or_eq_false_iff
def DD:=@decide_eq_false_iff_not
def aB:=@Or.inr
def aG:=@Or.inl
def yW:=@List.length_filter_le
def hJ:=@List.length_range
def bE:=@Nat.le_trans
def bl:=@List.length_map
def wD:=@List.mem_iff_getElem
def eE:=@Option.some.inj
def aR:=@List.mem_of_getElem?
def fY:=@Nat.zero_add
def aY:=@And.intro
def aZ:=@IntKind.wrap_i64
def wE:=@List.length_eq_one_iff
def ai:=@Below.refl
def jJ:=@Nat.add_zero
def qA:=@Calls.mono
def gz:=@Nat.lt_of_lt_of_le
def aP:=@Array.getElem?_eq_some_iff
def s9:=@List.mem_filter
def mn:=@List.any_eq_true
def qB:=@List.of_mem_zip
def s_:=@List.mem_append_left
def o5:=@List.mem_append_right
def nl:=@Bool.eq_iff_iff
def cx:=@World.size_alloc
def b_:=@World.ownsRow.lt
def dg:=@List.getElem?_cons_zero
def iU:=@List.length_replicate
def ez:=@Value.slice.injEq
def bw:=@heap_setCell_same
def dh:=@heap_setCell_other
def qC:=@Below.grown
def az:=@bodyPost_ret
def fh:=@decide_eq_false
def fJ:=@decide_eq_true
def wF:=@Bool.true_and
def fZ:=@List.take_add_one
def fO:=@List.take_of_length_le
def cM:=@info_parts
def dA:=@underlying27
def h_:=@List.length_nil
def o_:=@Option.map_eq_some_iff
def bx:=@Below.heap_setCell
def iV:=@Nat.min_eq_left
def mo:=@List.range_succ
def yX:=@Nat.min_eq_right
def lQ:=@Nat.le_of_eq
def aT:=@Nat.zero_le
def nm:=@List.setIfInBounds_toArray
def jK:=@List.set_cons_zero
def jL:=@Nat.lt_succ_self
def ta:=@Nat.zero_mul
def dr:=@List.getElem?_append_left
def gD:=@List.getElem?_append_right
def tb:=@Nat.sub_self
def yY:=@List.length_singleton
def tc:=@List.nil_append
def dt:=@Option.some.injEq
def wG:=@List.length_eq_zero_iff
def kx:=@List.getElem?_range
def pa:=@Option.map_some
def fw:=@List.eq_nil_of_length_eq_zero
def iJ:=@wpList_make_full
def ic:=@World.ownsRow.kept
def iK:=@World.block_lt_of_cell?
def td:=@Bool.not_eq_true
def pb:=@forall_congr'
def nn:=@Int.dvd_sub
def fP:=@List.getElem?_take
def yZ:=@Option.getD_some
def dX:=@List.length_take
def qD:=@Nat.add_assoc
def pc:=@World.ownsRow.cells
def mq:=@World.ownsRow.alloc
def wH:=@wpList_append_own
def gE:=@underlying24
def qE:=@heap_alloc_old
def mr:=@List.length_cons
def lR:=@World.ownsRow.form
def fQ:=@List.map_set
def fx:=@List.length_set
def qF:=@beq_iff_eq
def DE:=@List.getElem?_zipIdx
def wI:=@List.mem_or_eq_of_mem_set
def qG:=@List.mem_of_mem_take
def jq:=@List.mem_cons
def ky:=@List.mem_of_mem_drop
def te:=@List.mem_of_mem_eraseIdx
def np:=@List.length_eraseIdx
def kz:=@Bool.false_and
def eP:=@Nat.mul_one
def nq:=@List.size_toArray
def y5:=@List.eraseIdx_eq_take_drop_succ
def mu:=@List.take_take
def nr:=@ntmps37
def tf:=@step_append_room
def wJ:=@World.ownsRow.drew
def kA:=@Below.setCell
def ns:=@results37
def DF:=@List.take_append_drop
def wK:=@List.take_append_of_le_length
def kW:=@List.append_assoc
def qH:=@wpList_plain
def nt:=@List.length_reverse
def y9:=@Bool.and_false
def dm:=@wpQuiet_nil
def fi:=@func36
def fj:=@ntmps36
def y_:=@List.cons_append
def kX:=@World.ownsRow_nil
def tg:=@World.ownsRow_lit
def eQ:=@List.ext_getElem?
def fy:=@List.getElem?_eq_none
def fR:=@List.getElem?_replicate
def za:=@Int.mul_nonneg
def DG:=@Int.mul_le_mul_of_nonneg_right
def DH:=@Int.mul_le_mul_of_nonneg_left
def nv:=@List.mem_cons_of_mem
def nw:=@List.mem_cons_self
def th:=@List.set_set
def DI:=@Int.add_mul_emod_self_left
def wL:=@List.all_cons
def ti:=@Nat.mul_le_mul_right
def wM:=@List.map_append
def kB:=@List.map_map
def kC:=@List.not_mem_nil
def zc:=@List.all_append
def zd:=@List.flatten_cons
def pd:=@run_copy_cells
def pe:=@Nat.min_def
def wN:=@wpList_append_lies
def ze:=@wpList_append_own_at
def qI:=@List.mem_flatten
def kY:=@or_false
def zf:=@World.grownBy.cell
def pf:=@List.take_length
def zg:=@step_append_lies
def zh:=@List.mem_replicate
def zi:=@List.filter_append
def jr:=@List.map_congr_left
def nx:=@List.drop_of_length_le
def mv:=@List.append_nil
def tj:=@List.set_append_right
def tk:=@List.drop_eq_getElem_cons
def pg:=@Addr.mk.injEq
def ph:=@List.getElem?_set
def ny:=@Nat.lt_of_succ_lt
def js:=@Nat.le_of_lt
def zj:=@Nat.eq_zero_or_pos
def wO:=@List.mem_flatMap
def jt:=@Int.dvd_trans
def qJ:=@Int.dvd_add
def pj:=@Nat.lt_or_ge
def zk:=@wp_region_held_drew
def fK:=@wpAnyH_ready
def fL:=@AllReadyH.nil
def wP:=@World.cell?_setCell_other
def qK:=@wpAnyH_done
def zl:=@World.cell?_of_block
def mw:=@func34
def mx:=@ntmps34
def eS:=@results34
def tl:=@Int.sub_mul
def qL:=@Classical.byContradiction
def wQ:=@List.map_drop
def ju:=@results185
def nA:=@ntmps90
def nB:=@results90
def pk:=@List.count_le_length
def qM:=@Array.getElem?_toList
def DJ:=@List.flatten_append
def wR:=@List.take_zero
def pn:=@Array.getElem?_eq_none
def dY:=@func67
def dZ:=@ntmps67
def d_:=@results67
def qN:=@results155
def my:=@func173
def mz:=@ntmps173
def mA:=@results173
def wS:=@List.map_id
def mB:=@func41
def mC:=@ntmps41
def mD:=@results41
def mE:=@func71
def mF:=@ntmps71
def po:=@func108
def pq:=@ntmps108
def pr:=@results108
def zm:=@run_underlying
def wT:=@underlying44
variable{p q:Prop}
def Z_(h:p:=by
 go_wp2_with fail
 refine bk (S:=fun W=>af W w1 2 (.slice (aX g) rows EV)) 14 (by kernel_rfl) y2 (fun hHeld=>?_);refine ay 0 ?_;refine ay 1 ?_;refine ay 2 ?_;refine ay 3 ?_;refine ay 4 ?_;refine ay 5 ?_;refine ay 9 ?_;refine ay 10 ?_;refine ay 11 ?_;refine zb0 (i:=6) (j:=7) (by kernel_rfl) rfl rfl (fun K hK=>?_) (fun K hK=>?_)
 .go_simp;refine(L1.o _ (ai _ _).drew).mono ?_;rintro e w2 ⟨u1,rfl,GG,GP⟩;obtain⟨A1,c1,rfl⟩:∃A1 c1,u1=.slice A1 0 c1:=by obtain⟨A1,c1,e,_⟩:=GG.view;exact⟨A1,c1,by rw[e];congr 1<;>(simp<;>omega)⟩
  obtain⟨H2,GD⟩:=bL ((ai wr wr).drew.trans GP) GG;clear GG GP;go_simp;refine hK.out _ _ (fun _=>ag H2.o y2) (fun hHeld=>?_);clear hK K;try simp only[Act.put,zA]
  have hHeld:=hHeld (by decide);refine bu 7 fun K hK=>?_
  go_simp;refine hK.out _ _ (fun _=>ag (H2.o.alloc H2.o.size _) y2) (fun hHeld=>?_);clear hK K;try simp only[Act.put,zA]
  have hHeld:=hHeld (by decide);have GO:=H2.o.alloc H2.o.size (.cells jH 3);have GH:au (w2.alloc (.cells jH 3)) wr (.slice A1 0 c1) ((([]:aH)).take 0):=GD.o.ext ((ai _ _).alloc (ah _) _);have GI:=mN w2 0;obtain⟨Gz,HZ,HC⟩:=dD GH GI GO;clear GH GI GO;refine bu 8 fun K hK=>?_
  refine cQ rfl (.tmp 213) (.tmp 214) rfl wr _ (.slice A1 0 c1) ((([]:aH)).take 0) [0] (some ⟨_,0,none⟩) 1 1 rfl rfl rfl Gz.o HZ.o (by simp<;>omega) HC.o.size ?_;intro v2 w3 GR GS;obtain⟨A2,c2,rfl⟩:∃A2 c2,v2=.slice A2 (0+1) c2:=by obtain⟨A2,c2,e,_⟩:=GR.view;exact⟨A2,c2,by rw[e];congr 1<;>(simp<;>omega)⟩
  obtain⟨GM,GL⟩:=bL (HC.o.trans GS) GR;clear GR GS;refine hK.out _ _ (fun _=>ag GM.o y2) (fun hHeld=>?_);clear hK K;try simp only[Act.put,zA]
  have hHeld:=hHeld (by decide);refine bu 12 fun K hK=>?_
  refine cQ rfl (.tmp 215) (.tmp 218) rfl wr w3 (.slice A2 (0+1) c2) ((([]:aH)).take 0++[0]) ((([]:aH)).drop 0) (none) (0) (0) (by simp) rfl rfl GL.o (ID.o.ext GM.o) (by simp<;>omega) GM.o.size ?_;intro v3 w4 GJ Fz;rw[show(([]:aH)).take 0++[0]++(([]:aH)).drop 0=bK (([]:aH)) 0 0 by simp[bK]]at GJ;obtain⟨A3,c3,rfl⟩:∃A3 c3,v3=.slice A3 ((([]:aH)).length+1) c3:=by obtain⟨A3,c3,e,_⟩:=GJ.view;exact⟨A3,c3,by rw[e,show(bK (([]:aH)) 0 (0:Int)).length=(([]:aH))+1 from jA _ _ _ (by omega)]⟩
  obtain⟨GC,GN⟩:=bL (GM.o.trans Fz) GJ;clear GJ Fz;have GU:=ag GC.o z0;have GB:=gP GC.o f0 (iC z0);have GF:=zH (ag GC.o y2);clear z0 f0;refine hK.out _ _ (fun _=>GF.o) (fun hHeld=>?_);clear hK K y2;try simp only[Act.put,zA]
  have hHeld:=hHeld (by decide);refine bu 13 fun K hK=>?_
  go_simp;refine hK.out _ _ (fun _=>GF.o) (fun hHeld=>?_);clear hK K;try simp only[Act.put,zA]
  have hHeld:=hHeld (by decide);refine bu 14 fun K hK=>?_
  go_simp;refine hK.out _ _ (fun h=>absurd h (by decide)) (fun _=>?_);clear hK K;try simp only[Act.put,zA]
  refine dS (by kernel_rfl) ?_ _;have GA:=HW.o.size;have Fy:=HO.o.put (dO _ _ _ hk).symm GK.o (fm GC.o) (GN.o.mono (B':=(w:Nat)+3) (by omega)) (fun b hb=>aB (GN.o.lt b hb).1);rw[iy (fun r=>bK r 0 0) _ k (([]:aH)) GQ.o]at Fy;obtain⟨HN,E7,Eu⟩:=dD Fy ((dh w4 ⟨g,k,none⟩ w1 (.slice A3 ((([]:aH)).length+1) c3) (by simp<;>omega)).trans ((GC.o.block w1 (by omega)).trans Fx.o)) (kA (HW.o.trans (GC.o.mono (by omega))) (p:=⟨g,k,none⟩) (by simp<;>omega) (.slice A3 ((([]:aH)).length+1) c3));clear Fy;go_wp2;go_roundw
  case rel=>exact⟨k+1,by omega,by go_num,⟨_,HN.o⟩,E7.o,Eu.o⟩
  case measure=>simp[intOf];omega
 .go_simp;refine hK.out _ _ (fun _=>ag ((ai _ _).drew.alloc (ah _) _) y2) (fun hHeld=>?_);clear hK K;try simp only[Act.put,zA]
  have hHeld:=hHeld (by decide);refine bu 6 fun K hK=>?_
  go_simp;refine(L1.o _ ((ai _ _).drew.alloc (ah _) _)).mono ?_;rintro e w2 ⟨u1,rfl,GG,GP⟩;obtain⟨A1,c1,rfl⟩:∃A1 c1,u1=.slice A1 0 c1:=by obtain⟨A1,c1,e,_⟩:=GG.view;exact⟨A1,c1,by rw[e];congr 1<;>(simp<;>omega)⟩
  have H2:=zH (((ai wr wr).drew.alloc (ah _) (.cells jH 3)).trans (GP.mono (by simp)));have GH:au w2 wr (.slice A1 0 c1) ((([]:aH)).take 0):=GG.mono (by simp);have GI:=(mN wr.drew 0).ext GP;clear GG GP;have GO:=H2.o;go_simp;refine hK.out _ _ (fun _=>ag H2.o y2) (fun hHeld=>?_);clear hK K;try simp only[Act.put,zA]
  have hHeld:=hHeld (by decide);obtain⟨Gz,HZ,HC⟩:=dD GH GI GO;clear GH GI GO;refine bu 8 fun K hK=>?_
  refine cQ rfl (.tmp 213) (.tmp 214) rfl wr _ (.slice A1 0 c1) ((([]:aH)).take 0) [0] (some ⟨_,0,none⟩) 1 1 rfl rfl rfl Gz.o HZ.o (by simp<;>omega) HC.o.size ?_;intro v2 w3 GR GS;obtain⟨A2,c2,rfl⟩:∃A2 c2,v2=.slice A2 (0+1) c2:=by obtain⟨A2,c2,e,_⟩:=GR.view;exact⟨A2,c2,by rw[e];congr 1<;>(simp<;>omega)⟩
  obtain⟨GM,GL⟩:=bL (HC.o.trans GS) GR;clear GR GS;refine hK.out _ _ (fun _=>ag GM.o y2) (fun hHeld=>?_);clear hK K;try simp only[Act.put,zA]
  have hHeld:=hHeld (by decide);refine bu 12 fun K hK=>?_
  refine cQ rfl (.tmp 215) (.tmp 218) rfl wr w3 (.slice A2 (0+1) c2) ((([]:aH)).take 0++[0]) ((([]:aH)).drop 0) (none) (0) (0) (by simp) rfl rfl GL.o (ID.o.ext GM.o) (by simp<;>omega) GM.o.size ?_;intro v3 w4 GJ Fz;rw[show(([]:aH)).take 0++[0]++(([]:aH)).drop 0=bK (([]:aH)) 0 0 by simp[bK]]at GJ;obtain⟨A3,c3,rfl⟩:∃A3 c3,v3=.slice A3 ((([]:aH)).length+1) c3:=by obtain⟨A3,c3,e,_⟩:=GJ.view;exact⟨A3,c3,by rw[e,show(bK (([]:aH)) 0 (0:Int)).length=(([]:aH))+1 from jA _ _ _ (by omega)]⟩
  obtain⟨GC,GN⟩:=bL (GM.o.trans Fz) GJ;clear GJ Fz;have GU:=ag GC.o z0;have GB:=gP GC.o f0 (iC z0);have GF:=zH (ag GC.o y2);clear z0 f0;refine hK.out _ _ (fun _=>GF.o) (fun hHeld=>?_);clear hK K y2;try simp only[Act.put,zA]
  have hHeld:=hHeld (by decide);refine bu 13 fun K hK=>?_
  go_simp;refine hK.out _ _ (fun _=>GF.o) (fun hHeld=>?_);clear hK K;try simp only[Act.put,zA]
  have hHeld:=hHeld (by decide);refine bu 14 fun K hK=>?_
  go_simp;refine hK.out _ _ (fun h=>absurd h (by decide)) (fun _=>?_);clear hK K;try simp only[Act.put,zA]
  refine dS (by kernel_rfl) ?_ _;have GA:=HW.o.size;have Fy:=HO.o.put (dO _ _ _ hk).symm GK.o (fm GC.o) (GN.o.mono (B':=(w:Nat)+3) (by omega)) (fun b hb=>aB (GN.o.lt b hb).1);rw[iy (fun r=>bK r 0 0) _ k (([]:aH)) GQ.o]at Fy;obtain⟨HN,E7,Eu⟩:=dD Fy ((dh w4 ⟨g,k,none⟩ w1 (.slice A3 ((([]:aH)).length+1) c3) (by simp<;>omega)).trans ((GC.o.block w1 (by omega)).trans Fx.o)) (kA (HW.o.trans (GC.o.mono (by omega))) (p:=⟨g,k,none⟩) (by simp<;>omega) (.slice A3 ((([]:aH)).length+1) c3));clear Fy;go_wp2;go_roundw
  case rel=>exact⟨k+1,by omega,by go_num,⟨_,HN.o⟩,E7.o,Eu.o⟩
  case measure=>simp[intOf];omega):p:=h
def Z9(h:p:=by
 go_wp2_with fail
 refine bk (S:=fun W=>af W w1 2 (.slice (aX g) rows EV)) 14 (by kernel_rfl) y2 (fun hHeld=>?_);refine ay 0 ?_;refine ay 1 ?_;refine ay 2 ?_;refine ay 3 ?_;refine ay 4 ?_;refine ay 5 ?_;refine ay 9 ?_;refine ay 10 ?_;refine ay 11 ?_;refine zb0 (i:=6) (j:=7) (by kernel_rfl) rfl rfl (fun K hK=>?_) (fun K hK=>?_)
 .go_simp;refine(L1.o _ (ai _ _).drew).mono ?_;rintro e w2 ⟨u1,rfl,GG,GP⟩;obtain⟨A1,c1,rfl⟩:∃A1 c1,u1=.slice A1 q c1:=by obtain⟨A1,c1,e,_⟩:=GG.view;exact⟨A1,c1,by rw[e];congr 1<;>(simp<;>omega)⟩
  obtain⟨H2,GD⟩:=bL ((ai wr wr).drew.trans GP) GG;clear GG GP;go_simp;refine hK.out _ _ (fun _=>ag H2.o y2) (fun hHeld=>?_);clear hK K;try simp only[Act.put,zA]
  have hHeld:=hHeld (by decide);refine bu 7 fun K hK=>?_
  go_simp;refine hK.out _ _ (fun _=>ag (H2.o.alloc H2.o.size _) y2) (fun hHeld=>?_);clear hK K;try simp only[Act.put,zA]
  have hHeld:=hHeld (by decide);have GO:=H2.o.alloc H2.o.size (.cells jH 3);have GH:au (w2.alloc (.cells jH 3)) wr (.slice A1 q c1) ((r).take q):=GD.o.ext ((ai _ _).alloc (ah _) _);have GI:=mN w2 0;obtain⟨Gz,HZ,HC⟩:=dD GH GI GO;clear GH GI GO;refine bu 8 fun K hK=>?_
  refine cQ rfl (.tmp 213) (.tmp 214) rfl wr _ (.slice A1 q c1) ((r).take q) [0] (some ⟨_,0,none⟩) 1 1 rfl rfl rfl Gz.o HZ.o (by simp<;>omega) HC.o.size ?_;intro v2 w3 GR GS;obtain⟨A2,c2,rfl⟩:∃A2 c2,v2=.slice A2 (q+1) c2:=by obtain⟨A2,c2,e,_⟩:=GR.view;exact⟨A2,c2,by rw[e];congr 1<;>(simp<;>omega)⟩
  obtain⟨GM,GL⟩:=bL (HC.o.trans GS) GR;clear GR GS;refine hK.out _ _ (fun _=>ag GM.o y2) (fun hHeld=>?_);clear hK K;try simp only[Act.put,zA]
  have hHeld:=hHeld (by decide);refine bu 12 fun K hK=>?_
  refine cQ rfl (.tmp 215) (.tmp 218) rfl wr w3 (.slice A2 (q+1) c2) ((r).take q++[0]) ((r).drop q) (some A9) (r.length-q) (cr-q) (by simp) rfl rfl GL.o (ID.o.ext GM.o) (by simp<;>omega) GM.o.size ?_;intro v3 w4 GJ Fz;rw[show(r).take q++[0]++(r).drop q=bK (r) q 0 by simp[bK]]at GJ;obtain⟨A3,c3,rfl⟩:∃A3 c3,v3=.slice A3 ((r).length+1) c3:=by obtain⟨A3,c3,e,_⟩:=GJ.view;exact⟨A3,c3,by rw[e,show(bK (r) q (0:Int)).length=(r)+1 from jA _ _ _ (by omega)]⟩
  obtain⟨GC,GN⟩:=bL (GM.o.trans Fz) GJ;clear GJ Fz;have GU:=ag GC.o z0;have GB:=gP GC.o f0 (iC z0);have GF:=zH (ag GC.o y2);clear z0 f0;refine hK.out _ _ (fun _=>GF.o) (fun hHeld=>?_);clear hK K y2;try simp only[Act.put,zA]
  have hHeld:=hHeld (by decide);refine bu 13 fun K hK=>?_
  go_simp;refine hK.out _ _ (fun _=>GF.o) (fun hHeld=>?_);clear hK K;try simp only[Act.put,zA]
  have hHeld:=hHeld (by decide);refine bu 14 fun K hK=>?_
  go_simp;refine hK.out _ _ (fun h=>absurd h (by decide)) (fun _=>?_);clear hK K;try simp only[Act.put,zA]
  refine dS (by kernel_rfl) ?_ _;have GA:=HW.o.size;have Fy:=HO.o.put (dO _ _ _ hk).symm GK.o (fm GC.o) (GN.o.mono (B':=(w:Nat)+3) (by omega)) (fun b hb=>aB (GN.o.lt b hb).1);rw[iy (fun r=>bK r q 0) _ k (r) GQ.o]at Fy;obtain⟨HN,E7,Eu⟩:=dD Fy ((dh w4 ⟨g,k,none⟩ w1 (.slice A3 ((r).length+1) c3) (by simp<;>omega)).trans ((GC.o.block w1 (by omega)).trans Fx.o)) (kA (HW.o.trans (GC.o.mono (by omega))) (p:=⟨g,k,none⟩) (by simp<;>omega) (.slice A3 ((r).length+1) c3));clear Fy;go_wp2;go_roundw
  case rel=>exact⟨k+1,by omega,by go_num,⟨_,HN.o⟩,E7.o,Eu.o⟩
  case measure=>simp[intOf];omega
 .go_simp;refine hK.out _ _ (fun _=>ag ((ai _ _).drew.alloc (ah _) _) y2) (fun hHeld=>?_);clear hK K;try simp only[Act.put,zA]
  have hHeld:=hHeld (by decide);refine bu 6 fun K hK=>?_
  go_simp;refine(L1.o _ ((ai _ _).drew.alloc (ah _) _)).mono ?_;rintro e w2 ⟨u1,rfl,GG,GP⟩;obtain⟨A1,c1,rfl⟩:∃A1 c1,u1=.slice A1 q c1:=by obtain⟨A1,c1,e,_⟩:=GG.view;exact⟨A1,c1,by rw[e];congr 1<;>(simp<;>omega)⟩
  have H2:=zH (((ai wr wr).drew.alloc (ah _) (.cells jH 3)).trans (GP.mono (by simp)));have GH:au w2 wr (.slice A1 q c1) ((r).take q):=GG.mono (by simp);have GI:=(mN wr.drew 0).ext GP;clear GG GP;have GO:=H2.o;go_simp;refine hK.out _ _ (fun _=>ag H2.o y2) (fun hHeld=>?_);clear hK K;try simp only[Act.put,zA]
  have hHeld:=hHeld (by decide);obtain⟨Gz,HZ,HC⟩:=dD GH GI GO;clear GH GI GO;refine bu 8 fun K hK=>?_
  refine cQ rfl (.tmp 213) (.tmp 214) rfl wr _ (.slice A1 q c1) ((r).take q) [0] (some ⟨_,0,none⟩) 1 1 rfl rfl rfl Gz.o HZ.o (by simp<;>omega) HC.o.size ?_;intro v2 w3 GR GS;obtain⟨A2,c2,rfl⟩:∃A2 c2,v2=.slice A2 (q+1) c2:=by obtain⟨A2,c2,e,_⟩:=GR.view;exact⟨A2,c2,by rw[e];congr 1<;>(simp<;>omega)⟩
  obtain⟨GM,GL⟩:=bL (HC.o.trans GS) GR;clear GR GS;refine hK.out _ _ (fun _=>ag GM.o y2) (fun hHeld=>?_);clear hK K;try simp only[Act.put,zA]
  have hHeld:=hHeld (by decide);refine bu 12 fun K hK=>?_
  refine cQ rfl (.tmp 215) (.tmp 218) rfl wr w3 (.slice A2 (q+1) c2) ((r).take q++[0]) ((r).drop q) (some A9) (r.length-q) (cr-q) (by simp) rfl rfl GL.o (ID.o.ext GM.o) (by simp<;>omega) GM.o.size ?_;intro v3 w4 GJ Fz;rw[show(r).take q++[0]++(r).drop q=bK (r) q 0 by simp[bK]]at GJ;obtain⟨A3,c3,rfl⟩:∃A3 c3,v3=.slice A3 ((r).length+1) c3:=by obtain⟨A3,c3,e,_⟩:=GJ.view;exact⟨A3,c3,by rw[e,show(bK (r) q (0:Int)).length=(r)+1 from jA _ _ _ (by omega)]⟩
  obtain⟨GC,GN⟩:=bL (GM.o.trans Fz) GJ;clear GJ Fz;have GU:=ag GC.o z0;have GB:=gP GC.o f0 (iC z0);have GF:=zH (ag GC.o y2);clear z0 f0;refine hK.out _ _ (fun _=>GF.o) (fun hHeld=>?_);clear hK K y2;try simp only[Act.put,zA]
  have hHeld:=hHeld (by decide);refine bu 13 fun K hK=>?_
  go_simp;refine hK.out _ _ (fun _=>GF.o) (fun hHeld=>?_);clear hK K;try simp only[Act.put,zA]
  have hHeld:=hHeld (by decide);refine bu 14 fun K hK=>?_
  go_simp;refine hK.out _ _ (fun h=>absurd h (by decide)) (fun _=>?_);clear hK K;try simp only[Act.put,zA]
  refine dS (by kernel_rfl) ?_ _;have GA:=HW.o.size;have Fy:=HO.o.put (dO _ _ _ hk).symm GK.o (fm GC.o) (GN.o.mono (B':=(w:Nat)+3) (by omega)) (fun b hb=>aB (GN.o.lt b hb).1);rw[iy (fun r=>bK r q 0) _ k (r) GQ.o]at Fy;obtain⟨HN,E7,Eu⟩:=dD Fy ((dh w4 ⟨g,k,none⟩ w1 (.slice A3 ((r).length+1) c3) (by simp<;>omega)).trans ((GC.o.block w1 (by omega)).trans Fx.o)) (kA (HW.o.trans (GC.o.mono (by omega))) (p:=⟨g,k,none⟩) (by simp<;>omega) (.slice A3 ((r).length+1) c3));clear Fy;go_wp2;go_roundw
  case rel=>exact⟨k+1,by omega,by go_num,⟨_,HN.o⟩,E7.o,Eu.o⟩
  case measure=>simp[intOf];omega):p:=h
def Z8(h:p:=by
 go_simp;refine hK.out _ _ (fun _=>ru (by iterate 8 (first|done|exact aF _|exact ai _ _|refine mG ?_|refine mH ?_)) S0) (fun hHeld=>?_);clear hK K hHeld;try simp only[Act.put,zA]
 refine bu 17 fun K hK=>?_
 go_simp
 (with_reducible refine qA (Fi.o _ _ _ ?_ ?_) ?_)
 .iterate 8 (first|done|with_reducible refine oG ?_|(with_reducible refine aD _ _ ?_;simp;done)|with_reducible refine oF ?_)
 .iterate 8 (first|done|with_reducible refine oG ?_|(with_reducible refine aD _ _ ?_;simp;done)|with_reducible refine oF ?_)
 rintro e w7 ⟨g7,rfl,ha,hb⟩;have Jb:aj wr w7:=xR hb (by iterate 8 (first|done|exact aF _|exact ai _ _|refine mG ?_|refine mH ?_));obtain⟨GX,Je⟩:=bL Jb (show au w7 wr (.slice (aX g7) N N) row from ha.a.mono (by simp;omega));clear ha hb Jb;go_simp;refine hK.out _ _ (fun _=>ru GX.o S0) (fun hHeld=>?_);clear hK K hHeld;try simp only[Act.put,zA]
 refine bu 18 fun K hK=>?_
 go_simp;refine hK.out _ _ (fun _=>ru (GX.o.alloc GX.o.size _) S0) (fun hHeld=>?_);clear hK K hHeld;try simp only[Act.put,zA]
 refine bu 19 fun K hK=>?_
 refine lI rfl (.tmp 32) (.tmp 49) rfl w3 wr w7 (.slice C1 k m1) (.slice (aX g7) N N) _ row Jg.o.own GX.o Je.o (by rw[Jg.o.len];omega) Jg.o.le rfl rfl ?_;intro g5 FW w5 GW Fk Jc Jd;rw[Jg.o.len]at GW ⊢;obtain⟨Fj,Jf⟩:=SyB.stored Jg.o GW Fk;obtain⟨z0,z1,z2⟩:=al Jf;obtain⟨f0,f1,f2⟩:=bt Jf;obtain⟨GY,FX⟩:=bL Fj Fk;clear GW Fk Jc Jd Fj Jf;refine hK.out _ _ (fun h=>absurd h (by decide)) (fun _=>?_);clear hK K;try simp only[Act.put,zA]
 refine bu 20 fun K hK=>?_
 go_simp;refine hK.out _ _ (fun h=>absurd h (by decide)) (fun _=>?_);clear hK K;try simp only[Act.put,zA]
 refine bu 21 fun K hK=>?_
 go_simp;refine hK.out _ _ (fun h=>absurd h (by decide)) (fun _=>?_);clear hK K;try simp only[Act.put,zA]
 refine dS (by kernel_rfl) ?_ _;clear S0 z0 z1 z2 f0 f1 f2;go_wp2;go_roundw
 case rel=>
  have h:=GY.o;rw[<-GV.o]at h;exact⟨k+1,_,_,by omega,by go_num,h,(Fl.o.trans (FX.o.mono (js FA.o))).setCell (p:=⟨w2,2,none⟩) (ah _) _⟩
 case measure=>simp[intOf];omega):p:=h
def Z7(h:p:=by
 refine i_ rfl (fun K hK=>?_) fL;go_simp;refine hK.out _ _ (by assumption) (fun hHeld=>?_);clear hK K;try simp only[Act.put,zA]
 refine cE 20 ?_;refine fK (rs:=[21]) (by kernel_rfl) (by simp) ?_;refine i_ rfl (fun K hK=>?_) fL;go_simp;refine hK.out _ _ (by refine⟨?_,?_,?_⟩<;>(refine(eC (by simp<;>omega)).trans ?_;assumption)) (fun hHeld=>?_);clear hK K;try simp only[Act.put,zA]
 refine cE 22 ?_;refine fK (rs:=[23]) (by kernel_rfl) (by simp) ?_;refine i_ rfl (fun K hK=>?_) fL;have z3:(W2.drew.setCell ⟨g,a.toNat,none⟩ (.slice Ab rb cb)).cell? ⟨g,b.toNat,none⟩=some (.slice Ab rb cb):=by rw[wP _ _ _ _ (by simp<;>omega)];simpa using z1
 go_simp;refine hK.out _ _ (by refine⟨?_,?_,?_⟩<;>(refine(cD (by simp<;>omega)).trans ((eC (by simp<;>omega)).trans ?_);assumption)) (fun hHeld=>?_);clear hK K;refine qK (by kernel_rfl) ?_ _;clear hHeld;try dsimp only
 obtain⟨W5,GZ⟩:=aK (((W2.setCell ⟨g,a.toNat,none⟩ (.slice Ab rb cb)).setCell ⟨g,b.toNat,none⟩ (.slice Aa ra ca)).drew);rw[<-GZ];obtain⟨e0,e1,e2,e3,e4,e5,e6,e7,e8,e9,Jh⟩:=Ji W5 GZ;obtain⟨HO,HE⟩:=bL e9 Jh;clear Ji e9 Jh GZ y0 y1 x2 r0 r1 r2 s0 s1 s2 z0 z1 f0 f1;go_wp2;refine az (v:=.agg (ae v h (aX g) rows EV)) (by simp[results,results207,go_sem, *]) rfl ⟨_,rfl,?_,?_⟩
 .rw[HA.o,HB.o];exact(((HO.o.setCell (by simp<;>omega) _).setCell (by simp<;>omega) _).setCell (by simp<;>omega) _).mono (by omega)
 .exact((HE.o.setCell (by simp<;>omega) _).setCell (by simp<;>omega) _).setCell (by simp<;>omega) _):p:=h
def Z6(h:p:=by
 refine i_ rfl (fun K hK=>?_) fL;go_simp;refine hK.out _ _ (by assumption) (fun hHeld=>?_);clear hK K;try simp only[Act.put,zA]
 refine cE 12 ?_;refine fK (rs:=[13]) (by kernel_rfl) (by simp) ?_;refine i_ rfl (fun K hK=>?_) fL;go_simp;refine hK.out _ _ (by assumption) (fun hHeld=>?_);clear hK K a0 a1 a2 a3 a4 b0 b1 b2 b3 b4 f0 f1 f2 f3 f4;try simp only[Act.put,zA]
 obtain⟨W3,EY⟩:=aK (lJ W0 g (k*5) xj (.slice Aj xj.row cj));have Jk:=EY;unfold lJ at Jk;rw[<-Jk];clear Jk;rw[<-EY]at GY EX Jj;clear EY;obtain⟨⟨b0,b1,b2,b3,b4⟩,⟨f0,f1,f2,f3,f4⟩⟩:=qp GY.o Jm (x:=xj) (u:=.slice Aj xj.row cj) (by rw[df (by omega)];exact Jl.o) (by rw[df (by omega)];exact Jo.o);refine cE 14 ?_;refine fK (rs:=[15]) (by kernel_rfl) (by simp) ?_;refine i_ rfl (fun K hK=>?_) fL;go_simp;refine hK.out _ _ (by assumption) (fun hHeld=>?_);clear hK K b0 b1 b2 b3 b4 f0 f1 f2 f3 f4;refine qK (by kernel_rfl) ?_ _;clear hHeld;try dsimp only
 obtain⟨W5,GZ⟩:=aK (lJ W3 g (j*5) xi (.slice Ai xi.row ci));have Jn:=GZ;unfold lJ at Jn;rw[<-Jn];clear Jn;rw[<-GZ]at EX Jj;clear GZ;go_wp2;go_roundw
 case rel=>
  refine⟨k+1,_,by go_num,rfl,zH (by have:=HQ.o;omega),by have:=HJ.o;omega,⟨(vs.set k (.slice Aj xj.row cj)).set j (.slice Ai xi.row ci),?_⟩,bq G0.o Jj.o⟩;have e:=AQ (xs:=xs) Jp.o (by rw[<-HJ.o];exact Jl.o);rw[e,<-HJ.o];exact EX.o
 case measure=>simp[intOf];omega):p:=h
def Z5(h:p:=by
 go_wp2;go_loopw [13] (fun i wr=>∃k:Nat,k<=xs.length/\i=.int .i64 k/\xs.take k=ys.take k/\aj w wr) (fun i _=>xs.length-(intOf i).toNat)
 case atStart=>exact⟨0,aT _,rfl,by simp,ai _ _⟩
 case round=>
  obtain⟨k,hk,rfl,FY,Ey⟩:=hrel;have EB:=zH FY;clear FY;by_cases EC:k<xs.length
  .have FC:k<ys.length:=by have:=Hn.o;omega
   obtain⟨x,hx⟩:=aw EC;obtain⟨y,hy⟩:=aw FC;obtain⟨b,o,rfl,hc⟩:=h.here EC;obtain⟨b2,o2,rfl,Fa⟩:=h2.here FC;have c1:∀W:Ext wr,af W.W b (o+k) (zI x):=fun W=>W.cell (ag Ey (hc k x hx))
   have c2:∀W:Ext wr,af W.W b2 (o2+k) (zI y):=fun W=>W.cell (ag Ey (Fa k y hy))
   obtain⟨Hx,Hy⟩:=bL hx hy;clear hx hy hc Fa h h2;by_cases hf:x=y
   .subst hf;go_wp2;refine bM (by kernel_rfl) (by kernel_rfl) ?_
    repeat (go_big_quiet_step (fail))
    refine dm ?_;rintro _ ⟨W,rfl⟩;go_wp2;go_roundw
    case rel=>exact⟨k+1,by omega,by go_num,lu EB.o Hx.o Hy.o,an Ey W.ok⟩
    case measure=>simp[intOf];omega
   .have FB:(x !=y)=true:=by simp[hf]
    go_wp2;refine bM (by kernel_rfl) (by kernel_rfl) ?_
    repeat (go_big_quiet_step (fail))
    refine dm ?_;rintro _ ⟨W,rfl⟩;go_wp2;go_ret
    exact⟨aO (fh (DW Hx.o Hy.o hf)).symm,an Ey W.ok⟩
  .go_wp2;go_ret
   exact⟨aO (fJ (nU EB.o (by omega) (by have:=Hn.o;omega))).symm,Ey⟩):p:=h
def Z4(h:p:=by
 have F5:(x !=1)=true:=by simp[Hk]
 obtain⟨Ic,G_⟩:=bL (by rw[If.o,ar Hk]:qb=push p qa ⟨2,r,0,ec p x,[]⟩) (oz w w3 bb p qa.1 qa.2 2 r 0 (ec p x) hP H_.o Ig.o.ok (H7.o Hk) (by omega));clear Hk;go_upto_region 20 with(first|(go_at_call 129;refine(Ih.o _).mono ?_;rintro e w2 ⟨rfl,rfl⟩)|(go_at_call 127;refine G_.o.mono ?_;rintro e w4 ⟨rfl,Hq,Fz⟩;have Hv:=zH (by rw[Ic.o];exact Hq:fc 116 w w4 bb p qb.1 qb.2);have Hp:=zH (Hm.o.trans Fz);clear Hq Fz z0 z1 z2 z3 z4 z5))
 have Hj:=pS w w4 bb p qb.1 qb.2 r c hP Hv.o Ht.o.ok H5.o Hi.o (by rw[Ie.o];decide) (by omega);have Hz:mW p r c (ec p (fB qb.1 r c)) qb.1.rows (qb.1,qb.2)=iA p c r qb:=rfl;rw[Hz]at Hj;have Hl:=zH Hj;clear Hj Hz;go_wp2_with (go_at_call 128;refine Hl.o.mono ?_;rintro e w5 ⟨rfl,G8,Fk⟩;have Hf:=zH G8;have Hu:=zH (Hp.o.trans Fk);clear G8 Fk)
 go_roundw
 case rel=>exact⟨r+1,c+1,iA p c r qb,by go_num,by go_num,by omega,by omega,Ib,zH (by rw[<-F9.o,show V-c=(V-(c+1))+1 by omega,FF.o]),zH (by have:=FZ.o;have:=Ia.o;omega),Hf,Hu.o⟩
 case measure=>simp[intOf] <;>omega):p:=h
def Z3(h:p:=by
 have F5:(x !=1)=true:=by simp[Hk]
 obtain⟨Ic,G_⟩:=bL (by rw[If.o,ar Hk]:qb=push p qa ⟨2,r,0,ec p x,[]⟩) (oA w1 w3 bb p qa.1 qa.2 2 r 0 (ec p x) H_.o Ig.o.ok (H7.o Hk) (by omega));clear Hk;go_upto_region 21 with(first|(go_at_call 103;refine(Ih.o _).mono ?_;rintro e w2 ⟨rfl,rfl⟩)|(go_at_call 101;refine G_.o.mono ?_;rintro e w4 ⟨rfl,Hq,Fz⟩;have Hv:=zH (by rw[Ic.o];exact Hq:fc 119 w1 w4 bb p qb.1 qb.2);have Hp:=zH (Hm.o.trans Fz);clear Hq Fz z0 z1 z2 z3 z4 z5))
 have Hj:=pT w1 w4 bb p qb.1 qb.2 r c Hv.o Ht.o.ok H5.o Hi.o (by rw[Ie.o];decide) (by omega);have Hz:mW p r c (ec p (fB qb.1 r c)) qb.1.rows (qb.1,qb.2)=iA p c r qb:=rfl;rw[Hz]at Hj;have Hl:=zH Hj;clear Hj Hz;go_wp2_with (go_at_call 102;refine Hl.o.mono ?_;rintro e w5 ⟨rfl,G8,Fk⟩;have Hf:=zH G8;have Hu:=zH (Hp.o.trans Fk);clear G8 Fk)
 go_roundw
 case rel=>exact⟨r+1,c+1,iA p c r qb,by go_num,by go_num,by omega,by omega,Ib,zH (by rw[<-F9.o,show V-c=(V-(c+1))+1 by omega,FF.o]),zH (by have:=FZ.o;have:=Ia.o;omega),Hf,Hu.o⟩
 case measure=>simp[intOf] <;>omega):p:=h
def Z2(h:p:=by
 rw[<-Jr.o]at Jq;obtain⟨Ik,Jv⟩:=bL Jq hV;clear Jq hV;refine bu 11 fun K hK=>?_
 go_simp
 (with_reducible refine Ik.o.mono ?_)
 intro e w6 h;obtain⟨D1,d1,D2,d2,D3,d3,e6,hf,hb⟩:=m7.gr h;subst e6;clear h;have hz:=aA (aA Jw.o Jv.o) hb;obtain⟨r0,r1,r2,r3⟩:=aJ hz;obtain⟨f0,f1,f2,f3⟩:=cH hz;have Ju:=zH (ug.store (G:=G6) (A1:=D1) (A2:=D2) (A3:=D3) (c1:=d1) (c2:=d2) (c3:=d3) Js.o hz (aA (aA Jt.o Jv.o) hb) ET.o (hf.to (ah _) (ah _)) (aP.1 (aA Jw.o Jv.o)).1 ((Il.o.ext Jv.o).ext hb) ((Ij.o.trans (aN Jv.o)).trans (aN hb)));clear hz hf hb;go_simp;refine hK.out _ _ (fun h=>absurd h (by decide)) (fun hHeld=>?_);clear hK K;try simp only[Act.put,zA]
 refine bu 12 fun K hK=>?_
 go_simp;refine hK.out _ _ (fun h=>absurd h (by decide)) (fun hHeld=>?_);clear hK K;try simp only[Act.put,zA]
 refine dS (by kernel_rfl) ?_ _;clear S0;go_wp2;go_roundw
 case rel=>exact⟨kk-1,by omega,by omega,by first|rfl|go_num,zH (Ju.o.mono (by omega))⟩
 case measure=>simp[intOf];omega):p:=h
def Z1(h:p:=by
 clear Jx;go_wp2_with (first
  |(go_at_call 104;(with_reducible refine(kJ C b (m+2) w1 p Jy.o (by omega)).mono ?_);rintro e w2 ⟨v,rfl,⟨x,rfl,hx,-⟩,Fa,JB⟩;have HX:=zH (by omega:(x:Int)<p);have JD:=zH Fa;have JA:=zH (JF.o.trans JB);have JC:=zH (bD JE.o JB Ez.o);clear Fa JB hx)
  |(go_at_call 184;(with_reducible refine(iZ 13 (x:Int) w2).mono ?_);rintro e w3 ⟨A,c,rfl,hc,hA,hb⟩;obtain⟨z0,f0,y0⟩:=dW (.slice A 1 c) (aA JC.o hb);have HA:=zH hA;have HK:=zH hc;have Eu:=zH hb;clear hc hA hb))
 have hG:=bV (JA.o.trans (aN Eu.o)) (a:=⟨w,0,none⟩) (ah _) (.slice A 1 c);refine az (v:=.agg (fH A c)) (by simp[results,results180,go_sem, *]) rfl ⟨_,rfl,?_,(JD.o.ext Eu.o).iM (a:=⟨w,0,none⟩) Ez.o _,hG⟩;have hx:=HX.o;have hs:(w:Nat)<w2:=(aP.1 JC.o).1;exact⟨13,x,A,c,rfl,HK.o,by decide,by decide,zdb (by decide) (by omega) hx Jz,(At.setCell HA.o (a:=⟨w,0,none⟩) hs _).mono (by omega)⟩):p:=h
def Z0(h:p:=by
 clear Jx;go_wp2_with (first
  |(go_at_call 104;(with_reducible refine(kJ C b (m+2) w1 p Jy.o (by omega)).mono ?_);rintro e w2 ⟨v,rfl,⟨x,rfl,hx,-⟩,Fa,JB⟩;have HX:=zH (by omega:(x:Int)<p);have JD:=zH Fa;have JA:=zH (JF.o.trans JB);have JC:=zH (bD JE.o JB Ez.o);clear Fa JB hx)
  |(go_at_call 184;(with_reducible refine(iZ 7 (x:Int) w2).mono ?_);rintro e w3 ⟨A,c,rfl,hc,hA,hb⟩;obtain⟨z0,f0,y0⟩:=dW (.slice A 1 c) (aA JC.o hb);have HA:=zH hA;have HK:=zH hc;have Eu:=zH hb;clear hc hA hb))
 have hG:=bV (JA.o.trans (aN Eu.o)) (a:=⟨w,0,none⟩) (ah _) (.slice A 1 c);refine az (v:=.agg (fH A c)) (by simp[results,results180,go_sem, *]) rfl ⟨_,rfl,?_,(JD.o.ext Eu.o).iM (a:=⟨w,0,none⟩) Ez.o _,hG⟩;have hx:=HX.o;have hs:(w:Nat)<w2:=(aP.1 JC.o).1;exact⟨7,x,A,c,rfl,HK.o,by decide,by decide,zdb (by decide) (by omega) hx Jz,(At.setCell HA.o (a:=⟨w,0,none⟩) hs _).mono (by omega)⟩):p:=h
def ZZ(h:p:=by
 refine i_ rfl (fun K hK=>?_) fL;go_simp;refine hK.out _ _ (by assumption) (fun hHeld=>?_);clear hK K;try simp only[Act.put,zA]
 refine cE 16 ?_;refine fK (rs:=[17]) (by kernel_rfl) (by simp) ?_;refine i_ rfl (fun K hK=>?_) fL;go_simp;refine hK.out _ _ (by refine⟨?_,?_⟩<;>(refine(eC (by simp<;>omega)).trans ?_;assumption)) (fun hHeld=>?_);clear hK K;try simp only[Act.put,zA]
 refine cE 18 ?_;refine fK (rs:=[19]) (by kernel_rfl) (by simp) ?_;refine i_ rfl (fun K hK=>?_) fL;have z3:(W2.drew.setCell ⟨g,a,none⟩ (.slice Ab rb cb)).cell? ⟨g,b,none⟩=some (.slice Ab rb cb):=by rw[wP _ _ _ _ (by simp<;>omega)];simpa using JG
 go_simp;refine hK.out _ _ (by refine⟨?_,?_⟩<;>(refine(cD (by simp<;>omega)).trans ((eC (by simp<;>omega)).trans ?_);assumption)) (fun hHeld=>?_);clear hK K;refine qK (by kernel_rfl) ?_ _;clear hHeld;try dsimp only
 go_wp2;go_end0
 refine⟨rfl,⟨_,by rw[EX.o];exact HS.o.ext (ai _ _).drew⟩,HE.o.trans (dd.iD (ai _ _).drew)⟩):p:=h
def ZY(h:p:=by
 have J6:(fb:Int)<1:=by omega
 have JQ:(2:Int)<=k:=by omega
 have JV:=zH (JY h1);clear hn h2 h1 JY JZ FB JO F5 JK JI JR JW JJ Fp JL t1 t2 t3 t4 J8;subst hv;have J2:=(J3.o 1 (by omega)).trans HY.o;obtain⟨r0,r1,r2⟩:=al J2;obtain⟨f0,f1,f2⟩:=bt J2;have J0:=gh (v0:=.slice (some ⟨gf,J7,none⟩) k cF) (v1:=.slice (some ⟨gi,oi,none⟩) k cI) (v2:=.slice (some ⟨go,oo,none⟩) k cO) J2;obtain⟨u0,u1,u2⟩:=al J0;clear J0 J2;go_wp2;exact az (v:=.tuple (kt (some ⟨gf,J7,none⟩) k cF (some ⟨gi,oi,none⟩) cI (some ⟨go,oo,none⟩) cO)) (by simp[results,ju,go_sem, *]) rfl ⟨_,_,_,_,_,_,_,_,_,by rw[JV.o],(((Ez.o.setCell (p:=⟨(w:Nat)+1,0,none⟩) (by show(w:Nat)<=w+1;omega) _).setCell (p:=⟨(w:Nat)+1,1,none⟩) (by show(w:Nat)<=w+1;omega) _).setCell (p:=⟨(w:Nat)+1,2,none⟩) (by show(w:Nat)<=w+1;omega) _),fun h=>by rw[JV.o]at h;cases h⟩):p:=h
def ZX(h:p:=by
 have JT:(ss.toList==[])=false:=by cases e:ss.toList <;>simp_all
 have J5:(!ss.toList==[])=true:=by rw[JT];rfl
 have JV:=zH (HS.o.no J1.o (kR JP (fun h=>hn h.2.2.1)));clear hn;have J2:=(J3.o 1 (by omega)).trans HY.o;obtain⟨r0,r1,r2⟩:=al J2;obtain⟨f0,f1,f2⟩:=bt J2;have J0:=gh (v0:=.slice F k cF) (v1:=.slice I k cI) (v2:=.slice O k cO) J2;obtain⟨u0,u1,u2⟩:=al J0;clear J0 J2;go_wp2;exact az (v:=.tuple (kt F k cF I cI O cO)) (by simp[results,ju,go_sem, *]) rfl ⟨_,_,_,_,_,_,_,_,_,by rw[JV.o],(((Ez.o.setCell (p:=⟨(w:Nat)+1,0,none⟩) (by show(w:Nat)<=w+1;omega) _).setCell (p:=⟨(w:Nat)+1,1,none⟩) (by show(w:Nat)<=w+1;omega) _).setCell (p:=⟨(w:Nat)+1,2,none⟩) (by show(w:Nat)<=w+1;omega) _),fun h=>by rw[JV.o]at h;cases h⟩):p:=h
def ZW(h:p:=by
 by_cases EC:k<Iq.length
 .obtain⟨i,hi'⟩:=aw EC;obtain⟨hi1,hi2⟩:=HL.o i (aR hi');obtain⟨j,hj⟩:∃j:Nat,(j:Int)=i:=⟨i.toNat,by omega⟩;subst hj;have Is:j<v.length:=by omega
  obtain⟨x,hx⟩:=aw Is;obtain⟨b,o,rfl,hc⟩:=(HV.o.ext Ey).here Is;obtain⟨b2,o2,rfl,Fa⟩:=(HA.o.ext Ey).here EC;have Ir:=hc _ _ hx;have It:=Fa _ _ hi';obtain⟨HS,Gd⟩:=bL (zP hi' (by simpa using hx)) (BJ v Iq k hk);have Ge:=Ey.size;clear hc Fa hx hi';go_wp2_with ((at_builtin;refine nZ rfl _ _ rfl _ wr _ _ _ rfl rfl Ip.o (by rw[Gd.o];omega) (by omega) ?_;intro u' w1 Fe _ Ff))
  go_roundw
  case rel=>exact⟨k+1,by omega,by go_num,by rw[HS.o];exact Fe,Ey.trans Ff⟩
  case measure=>simp[intOf];omega
 .go_wp2;go_ret
  exact⟨_,rfl,by have h:=Ip.o;rwa[fO (by simp[mJ];omega)]at h,Ey⟩):p:=h
def ZV(h:p:=by
 have JQ:(k:Int)<2:=by omega
 have JV:=zH (HS.o.no J1.o (kR JP (fun h=>h2 (by have:=h.2.2.2.1;rw[HS.o.len]at this;exact this))));clear hn h2;subst hv;have J2:=(J3.o 1 (by omega)).trans HY.o;obtain⟨r0,r1,r2⟩:=al J2;obtain⟨f0,f1,f2⟩:=bt J2;have J0:=gh (v0:=.slice F k cF) (v1:=.slice I k cI) (v2:=.slice O k cO) J2;obtain⟨u0,u1,u2⟩:=al J0;clear J0 J2;go_wp2;exact az (v:=.tuple (kt F k cF I cI O cO)) (by simp[results,ju,go_sem, *]) rfl ⟨_,_,_,_,_,_,_,_,_,by rw[JV.o],(((Ez.o.setCell (p:=⟨(w:Nat)+1,0,none⟩) (by show(w:Nat)<=w+1;omega) _).setCell (p:=⟨(w:Nat)+1,1,none⟩) (by show(w:Nat)<=w+1;omega) _).setCell (p:=⟨(w:Nat)+1,2,none⟩) (by show(w:Nat)<=w+1;omega) _),fun h=>by rw[JV.o]at h;cases h⟩):p:=h
def ZU(h:p:=by clear hq;have J2:=(J3.o 1 (by omega)).trans HY.o;obtain⟨r0,r1,r2⟩:=al J2;obtain⟨f0,f1,f2⟩:=bt J2;have J0:=gh (v0:=.slice (some ⟨gf,J7,none⟩) k cF) (v1:=.slice (some ⟨gi,oi,none⟩) k cI) (v2:=.slice (some ⟨go,oo,none⟩) k cO) J2;obtain⟨u0,u1,u2⟩:=al J0;clear J0 J2;go_wp2;exact az (v:=.tuple (kt (some ⟨gf,J7,none⟩) k cF (some ⟨gi,oi,none⟩) cI (some ⟨go,oo,none⟩) cO)) (by simp[results,ju,go_sem, *]) rfl ⟨_,_,_,_,_,_,_,_,_,by rw[JV.o],(((Ez.o.setCell (p:=⟨(w:Nat)+1,0,none⟩) (by show(w:Nat)<=w+1;omega) _).setCell (p:=⟨(w:Nat)+1,1,none⟩) (by show(w:Nat)<=w+1;omega) _).setCell (p:=⟨(w:Nat)+1,2,none⟩) (by show(w:Nat)<=w+1;omega) _),fun h=>by rw[JV.o]at h;cases h⟩):p:=h
def ZT(h:p:=by
 have JN:(vv !=0)=true:=by simpa using hv
 have JV:=zH (HS.o.no J1.o (kR JP (fun h=>hv h.2.1)));clear hn hv;have J2:=(J3.o 1 (by omega)).trans HY.o;obtain⟨r0,r1,r2⟩:=al J2;obtain⟨f0,f1,f2⟩:=bt J2;have J0:=gh (v0:=.slice F k cF) (v1:=.slice I k cI) (v2:=.slice O k cO) J2;obtain⟨u0,u1,u2⟩:=al J0;clear J0 J2;go_wp2;exact az (v:=.tuple (kt F k cF I cI O cO)) (by simp[results,ju,go_sem, *]) rfl ⟨_,_,_,_,_,_,_,_,_,by rw[JV.o],(((Ez.o.setCell (p:=⟨(w:Nat)+1,0,none⟩) (by show(w:Nat)<=w+1;omega) _).setCell (p:=⟨(w:Nat)+1,1,none⟩) (by show(w:Nat)<=w+1;omega) _).setCell (p:=⟨(w:Nat)+1,2,none⟩) (by show(w:Nat)<=w+1;omega) _),fun h=>by rw[JV.o]at h;cases h⟩):p:=h
def ZS(h:p:=by
 go_enter func133,ntmps133
 go_wp2_with fail
 refine(H1.o _ HB.o).mono ?_;rintro e w1 ⟨rfl,Kh,Kc⟩;have J_:=(Kc.block w (by simp) (by omega)).trans HQ.o;obtain⟨y0,y1,y2,y3⟩:=uc J_;simp only[dg,cT]at y0 y1 y2 y3;have Ka:=Kc.cell (ag HB.o hp) (by simpa using Kg);have J9:=Kc.cell (ag HB.o ha) (by simpa using Ke);have Ge:=Kc.size;simp only[cx]at Ge;obtain⟨Ki,Iu,F6⟩:=dD Kh Kc ((F0.o.ext HB.o).within Kc (aB h12));clear Kh Kc J_ hp hr ha;go_wp2_with fail
 refine(H2.o _ (by omega) F6.o).mono ?_;rintro e w2 ⟨rfl,Kj,Kd⟩;obtain⟨Kf,Kb⟩:=bL Kj Kd;clear Kj Kd y0 y1 y2 y3 Ka J9;go_wp2;go_end0
 exact⟨rfl,Ki.o.within Kb.o (aG h12),Kf.o,(((dd.iD HB.o).trans (Iu.o.mono (ah _) (by omega))).trans (Kb.o.mono (by omega) (ah _)))⟩):p:=h
def ZR(h:p:=by
 have new:∀(i:Nat) (u':av) (b:Nat),i<us.length->us[i]?=some u'->u'.ownBlock=some b->u.ownBlock=some b->False:=fun i u' b _ h1 h2 h3=>by obtain⟨r',_,Gg⟩:=Es.lp h1;have a1:=(Gg.lt b h2).2;have a2:=(hu.lt b h3).1;omega
 intro i j u1 u2 b h1 h2 h3 h4;have hi:=(bs.1 h1).1;have hj:=(bs.1 h2).1;simp only[bS,mr,h_]at hi hj;by_cases ci:i<us.length <;>by_cases cj:j<us.length
 .rw[dr ci]at h1;rw[dr cj]at h2;exact Es.apart i j u1 u2 b h1 h2 h3 h4
 .rw[dr ci]at h1;obtain rfl:j=us.length:=by omega
  simp at h2;subst h2;exact(new i u1 b ci h1 h3 h4).elim
 .rw[dr cj]at h2;obtain rfl:i=us.length:=by omega
  simp at h1;subst h1;exact(new j u2 b cj h2 h4 h3).elim
 .omega):p:=h
def ZQ(h:p:=by
 have Fk:Below bb wr w5:=Ix.o.trans ((show Below bb W3 W3.drew from⟨rfl,rfl,rfl,ah _,fun _ _=>rfl⟩).trans (FX.o.mono (by omega)));have Iw:=Fk.setCell (p:=⟨bb,4,none⟩) (ah _) (.slice (aX g5) (X.length+1) FW);have IA:∀j,bb+1<=j->(w5.setCell ⟨bb,4,none⟩ (.slice (aX g5) (X.length+1) FW)).heap[j]?=w5.heap[j]?:=fun j hj=>dh _ _ _ _ (by simp<;>omega)
 refine⟨⟨IB,Fb.o.trans (Iw.mono IB),A2,c2,some ⟨g5,0,none⟩,FW,us++[.slice none 0 0],?_,aB ?_,?_⟩,Iw⟩
 .have:=zdl (v4:=.slice (aX g5) (X.length+1) FW) Iy.o;simpa using this
 .exact((Gk.o.ext (ai _ _).drew).qO (by decide) (by decide) Iz.o.outer Iv.o).same IA
 .have:=IC.o.same IA;simpa using this):p:=h
def ZP(h:p:=by
 rw[<-G9]at Hv ⊢;clear G9 z0 z1 z2 z3 z4 z5;have Hj:=pS w w4 bb p qb.1 qb.2 r c hP Hv.o Ht.o.ok H5.o Hi.o (by rw[Ie.o];decide) (by omega);have Hz:mW p r c (ec p (fB qb.1 r c)) qb.1.rows (qb.1,qb.2)=iA p c r qb:=rfl;rw[Hz]at Hj;have Hl:=zH Hj;clear Hj Hz;go_wp2_with (go_at_call 128;refine Hl.o.mono ?_;rintro e w5 ⟨rfl,G8,Fk⟩;have Hf:=zH G8;have Hu:=zH (Hp.o.trans Fk);clear G8 Fk)
 go_roundw
 case rel=>exact⟨r+1,c+1,iA p c r qb,by go_num,by go_num,by omega,by omega,Ib,zH (by rw[<-F9.o,show V-c=(V-(c+1))+1 by omega,FF.o]),zH (by have:=FZ.o;have:=Ia.o;omega),Hf,Hu.o⟩
 case measure=>simp[intOf] <;>omega):p:=h
def ZO(h:p:=by
 rw[<-G9]at Hv ⊢;clear G9 z0 z1 z2 z3 z4 z5;have Hj:=pT w1 w4 bb p qb.1 qb.2 r c Hv.o Ht.o.ok H5.o Hi.o (by rw[Ie.o];decide) (by omega);have Hz:mW p r c (ec p (fB qb.1 r c)) qb.1.rows (qb.1,qb.2)=iA p c r qb:=rfl;rw[Hz]at Hj;have Hl:=zH Hj;clear Hj Hz;go_wp2_with (go_at_call 102;refine Hl.o.mono ?_;rintro e w5 ⟨rfl,G8,Fk⟩;have Hf:=zH G8;have Hu:=zH (Hp.o.trans Fk);clear G8 Fk)
 go_roundw
 case rel=>exact⟨r+1,c+1,iA p c r qb,by go_num,by go_num,by omega,by omega,Ib,zH (by rw[<-F9.o,show V-c=(V-(c+1))+1 by omega,FF.o]),zH (by have:=FZ.o;have:=Ia.o;omega),Hf,Hu.o⟩
 case measure=>simp[intOf] <;>omega):p:=h
def ZM(h:p:=by
 have hz:=HZ.o.trans he.o;obtain rfl:Z=(r,z1,z2):=hz;obtain⟨F9,Kl,Kp,Ks⟩:=fS (show er wr w A (z1.take r) from by obtain⟨us,ho⟩:=HP.o.own;exact(aI.from ⟨us,ho⟩).take _) HP.o.be (show(jM p n M).length=r from IF.o) (show jM p n M=z1.take r from Ku.o);rcases Ko.o with⟨rfl,h0,rfl,Km⟩|⟨g,rfl,-,Kq,Kt⟩
 .have Kn:r=0:=by omega
  subst Kn;clear Km;go_wp2;go_ret
  exact⟨none,0,by rw[Kp.o];rfl,by rw[Ks.o];exact F9.o,Kl.o⟩
 .go_wp2;go_ret
  exact⟨some ⟨g,0,none⟩,cap,by rw[Kp.o];rfl,by rw[Ks.o];exact F9.o,Kl.o⟩):p:=h
def ZL(h:p:=by
 obtain⟨y0,y1,y2,y3,y4⟩:=bO IJ;obtain⟨s0,s1,s2⟩:=al IG;clear IG IJ;obtain⟨e0,e1,e2⟩:=bU IH;obtain⟨e3,e4,e5⟩:=bU II;obtain⟨e6,e7,e8⟩:=bt II;simp only[dg,cT]at e0 e1 e2 e3 e4 e5;clear IH II;go_wp2;refine az (v:=.agg (ae v h (aX g) rows EV)) (by simp[results,ns,go_sem, *]) rfl ⟨_,rfl,?_,?_⟩
 .exact(((HO.o.setCell (by simp<;>omega) _).setCell (by simp<;>omega) _).setCell (by simp<;>omega) _).mono (by omega)
 .exact((HE.o.setCell (by simp<;>omega) _).setCell (by simp<;>omega) _).setCell (by simp<;>omega) _):p:=h
def ZK(h:p:=by
 go_enter fi,fj
 go_wp2;go_quiet ((go_at_call 69;exact bA (aM _ _ _ _)))
 go_wp2;go_quiet ((go_at_call 69;first|exact bA (aM _ _ _ _)|exact cg (aM _ _ _ _)))
 go_wp2_with (first|(go_at_call 69;refine(aM _ _ _ _).mono ?_;rintro e w' ⟨rfl,rfl⟩)|(go_at_call 71;refine(Calls.bj (cW _ _ _ _ _ _ _ _ EG.o) HE.o).mono ?_;rintro e w1 ⟨rfl,Et⟩;obtain⟨EF,⟨c0,c1,c2⟩,⟨d0,d1,d2,d3,d4⟩⟩:=ep Et;have EA:=zH EF;clear EF Et))
 all_goals go_quiet (fail)
 all_goals go_wp2
 all_goals
  go_ret
  exact⟨aO (by simp[jO,HE.o,gO, *]),an EA.o (re _ _)⟩):p:=h
def ZJ(h:p:=by
 have HE:=zH he;clear he;go_enter fi,fj
 go_wp2;go_quiet ((go_at_call 69;exact bA (aM _ _ _ _)))
 go_wp2;go_quiet ((go_at_call 69;first|exact bA (aM _ _ _ _)|exact cg (aM _ _ _ _)))
 go_wp2_with (first|(go_at_call 69;refine(aM _ _ _ _).mono ?_;rintro e w' ⟨rfl,rfl⟩)|(go_at_call 71;refine(Calls.bj (cW _ _ _ _ _ _ _ _ EG.o) HE.o).mono ?_;rintro e w1 ⟨rfl,Et⟩;obtain⟨EF,⟨c0,c1,c2⟩,⟨d0,d1,d2,d3,d4⟩⟩:=ep Et;have EA:=zH EF;clear EF Et))
 all_goals
  go_ret
  exact⟨aO (by simp[jO,HE.o,gO, *]),EA.o⟩):p:=h
def ZI(h:p:=by
 have HE:=zH he;clear he;go_enter fi,fj
 go_wp2;go_quiet ((go_at_call 69;exact bA (aM _ _ _ _)))
 go_wp2;go_quiet ((go_at_call 69;first|exact bA (aM _ _ _ _)|exact cg (aM _ _ _ _)))
 go_wp2_with (first|(go_at_call 69;refine(aM _ _ _ _).mono ?_;rintro e w' ⟨rfl,rfl⟩)|(go_at_call 71;refine(Calls.bj (cW _ _ _ _ _ _ _ _ EG.o) HE.o).mono ?_;rintro e w1 ⟨rfl,Et⟩;obtain⟨EF,⟨c0,c1,c2⟩,⟨d0,d1,d2,d3,d4⟩⟩:=ep Et;have EA:=zH EF;clear EF Et))
 all_goals
  go_ret
  exact⟨aO (by rw[jO,HE.o];rfl),EA.o⟩):p:=h
def ZH(h:p:=by
 obtain⟨HN,E7,Eu⟩:=dD Fy ((dh W5 ⟨g,k,none⟩ w1 (.slice (aX gr) (r.length-1) cr) (by simp<;>omega)).trans ((IN.block w1 (by have:=HW.o.size;simp;omega) (by simp;omega)).trans Fx.o)) (kA (qC HW.o IN (by have:=HW.o.size;simp;omega) (fun b hb=>by cases hb;omega)) (p:=⟨g,k,none⟩) (by simp<;>omega) (.slice (aX gr) (r.length-1) cr));clear Fy IK IN;go_wp2;go_roundw
 case rel=>exact⟨k+1,by omega,by go_num,⟨_,HN.o⟩,E7.o,Eu.o⟩
 case measure=>simp[intOf];omega):p:=h
def ZG(h:p:=by
 go_enter dY,dZ
 go_upto_region 2 with(go_at_call 108;refine(bY _ _).mono ?_;rintro e w1 ⟨rfl,Et⟩)
 obtain⟨W,hW,hb,e0,e1,e2,e3,e4,f0,f1,f2,f3⟩:=e_ _ _ _ _ _ _ Et (.bool (eH k)) (.bool (eI k)) (.bool (eJ k)) (.bool (eK k)) 127;rw[<-hW];clear hW Et;simp only[show eH k=true by simp[eH, *],show eI k=false by simp[eI, *],show eJ k=false by simp[eJ, *],show eK k=false by simp[eK, *]]at f0 f1 f2 f3 ⊢;go_wp2
 all_goals exact az (v:=.tuple ff) (by simp[results,d_,go_sem]) rfl ⟨rfl,hb⟩):p:=h
def ZF(h:p:=by
 go_enter fi,fj
 go_wp2;go_quiet ((go_at_call 69;exact bA (aM _ _ _ _)))
 go_wp2;go_quiet ((go_at_call 69;first|exact bA (aM _ _ _ _)|exact cg (aM _ _ _ _)))
 go_wp2_with (first|(go_at_call 69;refine(aM _ _ _ _).mono ?_;rintro e w' ⟨rfl,rfl⟩)|(go_at_call 71;refine(Calls.bj (cW _ _ _ _ _ _ _ _ EG.o) HE.o).mono ?_;rintro e w1 ⟨rfl,Et⟩;obtain⟨EF,⟨c0,c1,c2⟩,⟨d0,d1,d2,d3,d4⟩⟩:=ep Et;have EA:=zH EF;clear EF Et))
 all_goals
  go_ret
  exact⟨aO (by simp[jO,HE.o,gO, *]),EA.o⟩):p:=h
def ZE(h:p:=by
 go_enter dY,dZ
 go_upto_region 2 with(go_at_call 108;refine(bY _ _).mono ?_;rintro e w1 ⟨rfl,Et⟩)
 obtain⟨W,hW,hb,e0,e1,e2,e3,e4,f0,f1,f2,f3⟩:=e_ _ _ _ _ _ _ Et (.bool (eH 4)) (.bool (eI 4)) (.bool (eJ 4)) (.bool (eK 4)) 127;rw[<-hW];clear hW Et;simp only[show eH 4=true from rfl,show eI 4=false from rfl,show eJ 4=false from rfl,show eK 4=false from rfl]at f0 f1 f2 f3 ⊢;go_wp2
 all_goals exact az (v:=.tuple ff) (by simp[results,d_,go_sem]) rfl ⟨by simp[*],hb⟩):p:=h
def ZD(h:p:=by
 go_enter dY,dZ
 go_upto_region 2 with(go_at_call 108;refine(bY _ _).mono ?_;rintro e w1 ⟨rfl,Et⟩)
 obtain⟨W,hW,hb,e0,e1,e2,e3,e4,f0,f1,f2,f3⟩:=e_ _ _ _ _ _ _ Et (.bool (eH 5)) (.bool (eI 5)) (.bool (eJ 5)) (.bool (eK 5)) 127;rw[<-hW];clear hW Et;simp only[show eH 5=true from rfl,show eI 5=false from rfl,show eJ 5=false from rfl,show eK 5=false from rfl]at f0 f1 f2 f3 ⊢;go_wp2
 all_goals exact az (v:=.tuple ff) (by simp[results,d_,go_sem]) rfl ⟨by simp[*],hb⟩):p:=h
def ZC(h:p:=by
 go_enter dY,dZ
 go_upto_region 2 with(go_at_call 108;refine(bY _ _).mono ?_;rintro e w1 ⟨rfl,Et⟩)
 obtain⟨W,hW,hb,e0,e1,e2,e3,e4,f0,f1,f2,f3⟩:=e_ _ _ _ _ _ _ Et (.bool (eH 8)) (.bool (eI 8)) (.bool (eJ 8)) (.bool (eK 8)) 127;rw[<-hW];clear hW Et;simp only[show eH 8=false from rfl,show eI 8=true from rfl,show eJ 8=false from rfl,show eK 8=false from rfl]at f0 f1 f2 f3 ⊢;go_wp2
 all_goals exact az (v:=.tuple ff) (by simp[results,d_,go_sem]) rfl ⟨by simp[*],hb⟩):p:=h
def ZB(h:p:=by
 go_enter dY,dZ
 go_upto_region 2 with(go_at_call 108;refine(bY _ _).mono ?_;rintro e w1 ⟨rfl,Et⟩)
 obtain⟨W,hW,hb,e0,e1,e2,e3,e4,f0,f1,f2,f3⟩:=e_ _ _ _ _ _ _ Et (.bool (eH 9)) (.bool (eI 9)) (.bool (eJ 9)) (.bool (eK 9)) 127;rw[<-hW];clear hW Et;simp only[show eH 9=false from rfl,show eI 9=true from rfl,show eJ 9=false from rfl,show eK 9=false from rfl]at f0 f1 f2 f3 ⊢;go_wp2
 all_goals exact az (v:=.tuple ff) (by simp[results,d_,go_sem]) rfl ⟨by simp[*],hb⟩):p:=h
def ZA(h:p:=by
 go_enter dY,dZ
 go_upto_region 2 with(go_at_call 108;refine(bY _ _).mono ?_;rintro e w1 ⟨rfl,Et⟩)
 obtain⟨W,hW,hb,e0,e1,e2,e3,e4,f0,f1,f2,f3⟩:=e_ _ _ _ _ _ _ Et (.bool (eH 1)) (.bool (eI 1)) (.bool (eJ 1)) (.bool (eK 1)) 127;rw[<-hW];clear hW Et;simp only[show eH 1=true from rfl,show eI 1=true from rfl,show eJ 1=false from rfl,show eK 1=false from rfl]at f0 f1 f2 f3 ⊢;go_wp2
 all_goals exact az (v:=.tuple ff) (by simp[results,d_,go_sem]) rfl ⟨by simp[*],hb⟩):p:=h
def Zz(h:p:=by
 go_enter dY,dZ
 go_upto_region 2 with(go_at_call 108;refine(bY _ _).mono ?_;rintro e w1 ⟨rfl,Et⟩)
 obtain⟨W,hW,hb,e0,e1,e2,e3,e4,f0,f1,f2,f3⟩:=e_ _ _ _ _ _ _ Et (.bool (eH 2)) (.bool (eI 2)) (.bool (eJ 2)) (.bool (eK 2)) 127;rw[<-hW];clear hW Et;simp only[show eH 2=true from rfl,show eI 2=false from rfl,show eJ 2=true from rfl,show eK 2=false from rfl]at f0 f1 f2 f3 ⊢;go_wp2
 all_goals exact az (v:=.tuple ff) (by simp[results,d_,go_sem]) rfl ⟨by simp[*],hb⟩):p:=h
def Zy(h:p:=by
 go_enter dY,dZ
 go_upto_region 2 with(go_at_call 108;refine(bY _ _).mono ?_;rintro e w1 ⟨rfl,Et⟩)
 obtain⟨W,hW,hb,e0,e1,e2,e3,e4,f0,f1,f2,f3⟩:=e_ _ _ _ _ _ _ Et (.bool (eH 6)) (.bool (eI 6)) (.bool (eJ 6)) (.bool (eK 6)) 127;rw[<-hW];clear hW Et;simp only[show eH 6=true from rfl,show eI 6=true from rfl,show eJ 6=false from rfl,show eK 6=false from rfl]at f0 f1 f2 f3 ⊢;go_wp2
 all_goals exact az (v:=.tuple ff) (by simp[results,d_,go_sem]) rfl ⟨by simp[*],hb⟩):p:=h
def Zx(h:p:=by
 intro k u' r' EZ Gf;by_cases hk:k<us.length
 .rw[dr hk]at EZ;rw[dr (by rw[<-Es.len];exact hk)]at Gf;exact au.kept (hW.each k u' r' EZ Gf) hg (eT hW.outer (hW.each k u' r' EZ Gf))
 .have Gh:k=us.length:=by have:=(bs.1 EZ).1;simp at this;omega
  subst Gh;simp at EZ;rw[Es.len]at Gf;simp at Gf;subst EZ Gf;have Gi:=au.kept hu hg (eT hW.outer hu);exact⟨Gi.1,Gi.2.imp id fun⟨g,cap,cur,a1,a2,a3⟩=>⟨g,cap,cur,a1,by omega,a3⟩⟩):p:=h
def Zw(h:p:=by
 refine az (v:=.tuple (eh (ae v' h' A3 EM c3))) (by simp[results,eS,go_sem, *]) rfl (Made.yes (by rw[HS.o];rfl) rfl ?_ ?_)
 .exact((((HU.o.ext ED.o).setCell (by simp<;>omega) _).setCell (by simp<;>omega) _).setCell (by simp<;>omega) _).mono (by omega)
 .exact(((EK.o.trans (ED.o.mono (by have:=Eu.o.size;omega))).setCell (by simp<;>omega) _).setCell (by simp<;>omega) _).setCell (by simp<;>omega) _):p:=h
def Zv(h:p:=by
 go_roundw
 case rel=>exact⟨_,push p q ⟨4,i,0,0,[]⟩,rfl,by omega,by omega,by omega,zH (by show((cq p q.1 ⟨4,i,0,0,[]⟩).rows:Int)=_;rw[F6.o];omega),F0,zH (by rw[<-F9.o,show((i:Int)-1+1).toNat=i by omega,show((i:Int)+1).toNat=i+1 by omega,Hh.o]),zH (by have:=FZ.o;simp[push];omega),FD,Fb.o.trans Eu.o⟩
 case measure=>simp[intOf] <;>omega):p:=h
def Zu(h:p:=by
 go_roundw
 case rel=>exact⟨_,r1S p b q,rfl,by omega,by omega,zH (by rw[G7.o];omega),zH (FA.o.trans HV.o),zH FE.o,zH (by rw[show((b:Int)-1+1).toNat=b by omega,<-Fi.o,<-F9.o,show((b:Int)+1).toNat=b+1 by omega]),zH (by have:=FZ.o;have:=H8.o;omega),zH (by rw[Hs.o];exact Ho.o),(Fb.o.trans Eu.o).trans ED.o⟩
 case measure=>simp[intOf] <;>omega):p:=h
def Zt(h:p:=by
 have h2:eW (b:Int) 0 (s.h-1)=true:=by rw[bh];omega
 have h3:eW (a:Int) 0 ((s.rows:Int)-1)=true:=by rw[bh];omega
 unfold eZ jO;simp only[show((6:Int)=1)=False by decide,show((6:Int)=2)=False by decide,show((6:Int)=3)=False by decide,show((6:Int)=4)=False by decide,show((6:Int)=5)=False by decide,ku,jo,h1,h2,h3];simp[jb]):p:=h
def Zs(h:p:=by
 have h2:eW (b:Int) 0 (s.h-1)=true:=by rw[bh];omega
 unfold eZ jO;simp only[show((8:Int)=1)=False by decide,show((8:Int)=2)=False by decide,show((8:Int)=3)=False by decide,show((8:Int)=4)=False by decide,show((8:Int)=5)=False by decide,show((8:Int)=6)=False by decide,show((8:Int)=7)=False by decide,ku,jo,h1,h2];simp[jb]):p:=h
def Zr(h:p:=by
 by_cases hc:EV=j+1
 .refine⟨⟨g,0,none⟩,by simp[hc],fun t u hu=>?_⟩;have h0:FK.length=0:=by rw[Ex];omega
  rw[wG.1 h0]at hu;simp at hu
 .refine⟨⟨g,j+1,none⟩,by simp[hc],fun t u hu=>?_⟩;have ht:t<rows.length-(j+1):=by have:=(bs.1 hu).1;rwa[Ex]at this
  rw[dy]
  show W2.cell? _=_
  rw[aV IM,EU _ (by omega),<-hu,Fq,fI]):p:=h
def Zq(h:p:=by
 go_roundw
 case rel=>exact⟨_,r1N p b q,rfl,by omega,by omega,zH (by rw[G7.o];omega),zH (FA.o.trans HV.o),zH FE.o,zH (by rw[show((b:Int)-1+1).toNat=b by omega,<-Fi.o,<-F9.o,show((b:Int)+1).toNat=b+1 by omega]),zH (by have:=FZ.o;have:=Fo.o;omega),zH FD.o,Fb.o.trans Eu.o⟩
 case measure=>simp[intOf] <;>omega):p:=h
def Zp(h:p:=by
 go_enter func230,ntmps230
 go_upto_region 1 with(fail)
 refine bM (by kernel_rfl) (by kernel_rfl) ?_
 repeat (go_big_quiet_step (first|(go_at_call_of 209 a;exact Calls.eF (Calls.bj (dL _ _ _ _ _ _ _ hm) h1))|(go_at_call 233;exact Calls.eF (Calls.bj (kK _ _ _ _ _ hh Kw) h2))))
 refine dm ?_;rintro _ ⟨W,rfl⟩;go_wp2;go_ret
 exact⟨aO (by simp),an HB.o W.ok⟩):p:=h
def Zo(h:p:=by
 intro v' w' Es EJ _ Fs;have hv:∀g',v'.ownBlock=some g'->v.ownBlock=some g'∨(W:Nat)<=g':=fun g' e=>by
  rcases Fs with h|h
  .rw[<-h];exact aG e
  .rw[h]at e;cases e;exact aB (ah _)
 exact h v' w' ⟨cs++ys.map ndC,hW.nQ (bl ..) IQ Es EJ hv⟩ ((ai _ _).grown EJ IP fun k hk=>(b_ hW.outer k hk).1)):p:=h
def Zn(h:p:=by
 go_enter func213,ntmps213
 go_upto_region 1 with(fail)
 refine cL ?_
 repeat (go_big_quiet_step (first|(go_at_call_of 209 a;exact Calls.eF (Calls.bj (dL _ _ _ _ _ _ _ hm) h1))|(go_at_call_of 209 b;exact Calls.eF (Calls.bj (dL _ _ _ _ _ _ _ hm) h2))))
 refine dm ?_;rintro _ ⟨W,rfl⟩;go_wp2;go_ret
 exact⟨aO (by simp),an HB.o W.ok⟩):p:=h
def Zm(h:p:=by
 by_cases hc:cap=j
 .refine⟨⟨g,0,none⟩,by simp[hc],fun t u hu=>?_⟩;have h0:FK.length=0:=by rw[Ex];omega
  rw[wG.1 h0]at hu;simp at hu
 .refine⟨⟨g,j,none⟩,by simp[hc],fun t u hu=>?_⟩;have ht:t<n-j:=by have:=(bs.1 hu).1;rwa[Ex]at this
  rw[dy,aV FN,EU _ (by omega),<-hu,Fq,fI]):p:=h
def Zl(h:p:=by
 intro j u' hj
 match j,hj with
 |0,hj=>simp[dx]at hj;subst hj;simp[Addr.add]
 |1,hj=>simp[dx]at hj;subst hj;simp[Addr.add]
 |2,hj=>simp[dx]at hj;subst hj;simp[Addr.add]
 |3,hj=>simp[dx]at hj;subst hj;simp[Addr.add]
 |4,hj=>simp[dx]at hj;subst hj;simp[Addr.add]
 |j+5,hj=>simp[dx]at hj):p:=h
def Zk(h:p:=by
 have Kz:IntKind.i64.wrap ((c:Int)+1)=(c:Int)+1:=by rw[aZ];omega
 obtain⟨HS,Kx⟩:=bL hs (Ey.setCell (p:=⟨gb,x,none⟩) (by exact KB.o) (zI ((c:Int)+1)));clear KA hx Ky hs hc Ey;go_wp2;go_roundw
 case rel=>exact⟨k+1,by omega,by go_num,HS.o,Kx.o⟩
 case measure=>simp[intOf];omega):p:=h
def Zj(h:p:=by intro g cap w' Ft EJ _ _;have hg:W.grownBy w' v.ownBlock:=⟨EJ.os,EJ.tape,EJ.output,by have:=EJ.size;simp at this;omega,fun k hk EH=>(EJ.block k (by simp;omega) EH).trans (qE W _ hk)⟩;exact h g cap w' (hW.snoc hu hd Ft hg) hg ((ai _ _).grown hg hB fun k hk=>(b_ hW.outer k hk).1)):p:=h
def Zi(h:p:=by
 obtain⟨hB,hq⟩:=dC w (.cells (g_ k v s) 192);go_enter func188,ntmps188
 go_upto_region 1 with(fail)
 generalize w.alloc _=W at hB hq ⊢;obtain⟨c0,c1,c2⟩:=al hq;have HB:=zH hB;clear hB hq;go_wp2_with (go_at_call 69;refine(Calls.dN (aM _ _ _ _) hi).mono ?_;rintro e w' ⟨rfl,rfl⟩)
 go_ret
 exact⟨rfl,HB.o⟩):p:=h
def Zh(h:p:=by refine dS (by kernel_rfl) ?_ _;clear m0 m1 m2 e0 e1 e2 n0 n1 n2 h0 h1 h2;go_wp2;refine az (v:=.tuple (jI (ae S.v S.h A1 S.rows c1) (ae T.v T.h B T.rows d))) (by simp[results,results53,go_sem, *]) rfl ⟨_,rfl,?_,HE.o.1,HE.o.2⟩;exact⟨S,A1,c1,T,B,d,rfl,FO.o,GV.o,IS.o,KE.o⟩):p:=h
def Zg(h:p:=by
 by_cases e:cap=q
 .exact⟨_,ar e,aG (nx (by omega))⟩
 .refine⟨_,ak e,?_⟩;rcases h with h|⟨b,o,h,hc⟩
  .exact aG (by rw[h];simp)
  .simp only[dt,pg]at h;obtain⟨rfl,rfl,_⟩:=h;refine aB ⟨g,q,rfl,fun k x hk=>?_⟩;rw[fI]at hk;have:=hc _ x hk;rwa[fY]at this):p:=h
def Zf(h:p:=by
 go_simp;refine hK.out _ _ (fun h=>absurd h (by decide)) (fun _=>?_);clear hK K;try simp only[Act.put,zA]
 refine dS (by kernel_rfl) ?_ _;go_wp2;go_roundw
 case rel=>exact⟨j+1,by omega,by go_num,⟨_,S1.o.ext (ai _ _).drew⟩,S2.o.drew⟩
 case measure=>simp[intOf];omega):p:=h
def Ze(h:p:=by refine az (v:=.tuple (dP aQ)) (by simp[results,eS,go_sem, *]) rfl (Made.no (by rw[HS.o];rfl) rfl ?_);exact(((EK.o.trans (ED.o.mono (by have:=Eu.o.size;omega))).setCell (by simp<;>omega) _).setCell (by simp<;>omega) _).setCell (by simp<;>omega) _):p:=h
def Zd(h:p:=by
 go_enter func188,ntmps188
 go_upto_region 1 with(fail)
 generalize w.alloc _=W at hB hq ⊢;obtain⟨c0,c1,c2⟩:=al hq;have HB:=zH hB;clear hB hq;go_wp2_with (go_at_call 69;refine(aM _ _ _ _).mono ?_;rintro e w' ⟨rfl,rfl⟩)
 go_ret
 exact⟨rfl,HB.o⟩):p:=h
def Zc(h:p:=by
 have Et:((k:Int)!=(a:Int))=false:=by simp[IW]
 have IV:=zH IW;clear IW;go_wp2;go_roundw
 case rel=>exact⟨k+1,by omega,by go_num,by rw[IU.o,ak (by simp[IV.o])];exact FG.o,Fb.o⟩
 case measure=>simp[intOf];omega):p:=h
def Zb(h:p:=by
 go_roundw
 case rel=>exact⟨r,c+1,q,rfl,by go_num,by omega,Hw,Hc,zH (by rw[<-F9.o,show V-c=(V-(c+1))+1 by omega,FF.o]),zH (by have:=FZ.o;omega),FG,Fb.o⟩
 case measure=>simp[intOf] <;>omega):p:=h
def Za(h:p:=by refine az (v:=.tuple (dP aQ)) (by simp[results,eS,go_sem, *]) rfl (Made.no (kz _) rfl ?_);exact(((HB.o.trans (EE.o.mono (by omega))).setCell (by simp<;>omega) _).setCell (by simp<;>omega) _).setCell (by simp<;>omega) _):p:=h
def Y_(h:p:=by
 have Fg:(x !=0)=false:=by simp[hz]
 have HZ:=zH hz;clear hz;go_wp2;go_roundw
 case rel=>exact⟨k+1,by omega,by go_num,by rw[IU.o,ak (by simp[HZ.o])];exact FG.o,Fb.o⟩
 case measure=>simp[intOf];omega):p:=h
def Y9(h:p:=by
 subst hz;go_wp2;go_round
 case rel=>exact⟨j+1,by omega,by omega,by go_num,zH (fun k h1 h2=>by
  rcases pj k j with h|h
  .exact HZ.o k h1 h
  .rw[show k=j by omega];exact HE.o)⟩
 case measure=>simp[intOf];omega):p:=h
def Y8(h:p:=by
 go_upto_region 1 with(fail)
 refine cL ?_
 repeat (go_big_quiet_step ((go_at_call_of 209 a;exact Calls.eF (Calls.bj (dL _ _ _ _ _ _ _ hm) h1))))
 refine dm ?_;rintro _ ⟨W,rfl⟩;go_wp2;go_ret
 exact⟨aO (by simp),an HB.o W.ok⟩):p:=h
def Y7(h:p:=by rw[HG.o];exact(((((HO.setCell (by simp<;>omega) _).setCell (by simp<;>omega) _).setCell (by simp<;>omega) _).setCell (by simp<;>omega) _).setCell (by simp<;>omega) _).mono (by omega)):p:=h
def Y6(h:p:=by
 go_wp2;go_round
 case rel=>exact⟨1,by omega,by go_num,fun j hj=>by
  by_cases KF:j<0
  .exact EB.o j KF
  .obtain rfl:j=0:=by omega
   exact HB.o⟩
 case measure=>simp[intOf]):p:=h
def Y5(h:p:=by
 go_wp2;go_round
 case rel=>exact⟨2,by omega,by go_num,fun j hj=>by
  by_cases KF:j<1
  .exact EB.o j KF
  .obtain rfl:j=1:=by omega
   exact HB.o⟩
 case measure=>simp[intOf]):p:=h
def Y4(h:p:=by
 go_wp2;go_round
 case rel=>exact⟨3,by omega,by go_num,fun j hj=>by
  by_cases KF:j<2
  .exact EB.o j KF
  .obtain rfl:j=2:=by omega
   exact HB.o⟩
 case measure=>simp[intOf]):p:=h
def Y3(h:p:=by
 go_wp2;go_round
 case rel=>exact⟨4,by omega,by go_num,fun j hj=>by
  by_cases KF:j<3
  .exact EB.o j KF
  .obtain rfl:j=3:=by omega
   exact HB.o⟩
 case measure=>simp[intOf]):p:=h
def Y0(h:p:=by
 obtain⟨HN,H0⟩:=bL hn h0;clear hn h0;go_wp2;go_round
 case rel=>exact⟨k+1,by omega,by go_num,by rw[gv _ _ _ _ Hx.o,EB.o];simp[HN.o,H0.o]⟩
 case measure=>simp[intOf];omega):p:=h
def YZ(h:p:=by exact(((((HU.o.setCell (by simp<;>omega) _).setCell (by simp<;>omega) _).setCell (by simp<;>omega) _).setCell (by simp<;>omega) _).setCell (by simp<;>omega) _).mono (by omega)):p:=h
def YY(h:p:=by intro u hu;obtain⟨c,hc,hu⟩:=qI.1 hu;obtain⟨k,hk⟩:=eN.1 hc;obtain⟨y,hy⟩:=aw (show k<ys.length by have:=(bs.1 hk).1;simpa using this);exact(IQ k y c hy hk).2.1 u hu):p:=h
def YX(h:p:=by
 go_wp2;go_roundw
 case rel=>exact⟨u,j-1,by omega,rfl,by go_num,HU,zH (Bf.wait HI.o ET.o (Il.o.mono (by omega)) Ij.o (by omega))⟩
 case measure=>simp[intOf];omega):p:=h
def YW(h:p:=by refine az (v:=.tuple (eh (bF S F1 l1 F2 l2 F3 l3))) (by simp[results,qN,go_sem, *]) rfl ?_;have e:=HS.o;subst e;exact aB ⟨KI.o,F1,l1,F2,l2,F3,l3,rfl,HF.o,HE.o⟩):p:=h
def YV(h:p:=by
 go_meet
 have h:=HE.o;unfold AnI at h ⊢;obtain⟨a1,a2,a3,a4,a5,a6,a7,a8,a9,KL,KJ⟩:=h;exact⟨a1,a2,a3,a4,a5,a6,a7,a8,a9,KL.mono (by omega),KJ⟩):p:=h
def YU(h:p:=by refine az (v:=.tuple (iH p (ae S.v S.h A1 S.rows c1))) (by simp[results,results28,go_sem, *]) rfl ?_;exact⟨p,S,A1,c1,rfl,KM.o,IS.o,HE.o⟩):p:=h
def YT(h:p:=by
 go_roundw
 case rel=>exact⟨k+1,by omega,by go_num,by rw[IU.o,ar ⟨IV.o,HZ.o⟩];exact FD.o,Fb.o.trans Eu.o⟩
 case measure=>simp[intOf];omega):p:=h
def YS(h:p:=by
 apply eQ;intro k;simp only[madeCells,Value.cells,eP,Array.toList_map,Array.toList_range,bR,fR];by_cases hk:k<n
 .simp[hk,Nat.mod_one]
 .simp[hk]):p:=h
def YR(h:p:=by
 rcases h with h|⟨b,o,h,hc⟩
 .exact aG (by rw[h];simp)
 .refine aB ⟨b,o,h,fun k x hk=>hc k x ?_⟩;rw[fP]at hk;split at hk
  .exact hk
  .cases hk):p:=h
def YQ(h:p:=by
 rw[bR,hx]at hc;cases hc
 exact⟨rfl,fun u hu=>by simp[ndC]at hu;rcases hu with h|h|h<;>subst h<;>rfl,j2.flat ⟨cs,hW⟩ IP fun W=>rfl⟩):p:=h
def YP(h:p:=by rw[show k+(n+1-k)=n+1 by omega,<-hG,<-I5,<-FI]at h;rw[show((n:Int)+1-(k:Int))=((n+1-k:Nat):Int) by omega];exact h):p:=h
def YO(h:p:=by exact⟨M,A,c,rfl,HK.o,HM.o,KO.o,(At.setCell HA.o (a:=⟨(w:Nat)+2,0,none⟩) KP.o _).mono (by have:=KN.o;have:=KP.o;omega)⟩):p:=h
def YN(h:p:=by
 rcases h.outer.2 with⟨rfl,-⟩|⟨g,cap,cur,rfl,-,hg,-⟩
 .intro e;cases e
 .intro e;have e:z=g:=eE e;subst e;rw[hz]at hg;simp at hg):p:=h
def YM(h:p:=by
 rw[F3.o k Fp EC]at e2;go_wp2;go_roundw
 case rel=>exact⟨k+1,by omega,by omega,by go_num,by trivial⟩
 case measure=>simp[intOf];omega):p:=h
def YL(h:p:=by
 intro j u hj;rw[bR]at hj;obtain⟨y,hy,rfl⟩:=o_.1 hj;rcases Fs with h|⟨b,o,h,hc⟩
 .simp[h]at hy
 .cases h;rw[dy];exact hc j y hy):p:=h
def YK(h:p:=by
 intro k u r hu hr;rw[fR]at hu hr;by_cases hk:k<n
 .rw[ar hk]at hu hr;cases hu;cases hr
  exact au.nil _ _
 .rw[ak hk]at hu;cases hu):p:=h
def YJ(h:p:=by rintro e w' ⟨G,rfl,a,b⟩;exact⟨w,G,rfl,a,⟨b.os,b.tape,b.output,b.size,fun k hk _=>b.block k hk (by simp)⟩,aB (ah _)⟩):p:=h
def YI(h:p:=by
 go_wp2;go_roundw
 case rel=>exact⟨i+1,by omega,by go_num,⟨_,by rw[IE.o];exact Kv.o⟩,Kr.o⟩
 case measure=>simp[intOf];omega):p:=h
def YH(h:p:=by exact Calls.bj (vZ a b XA KQ row p v h A cap rows W EN (hX.ext hW) (by unfold maxLen;omega) s.v0 s.v24 s.h0 s.h100) (ER.symm.trans hc)):p:=h
def YG(h:p:=by
 go_roundw
 case rel=>exact⟨k+1,by omega,by go_num,by rw[HT.o];exact Fe,Ey.trans Ff⟩
 case measure=>simp[intOf];omega):p:=h
def YF(h:p:=by
 go_wp2;go_ret
 exact⟨by rw[he.o];rfl,by rw[he.o];exact HR.o.st.h1,by rw[he.o];exact HR.o.st.h2,(dd.iD HB.o).trans HR.o.st.wi⟩):p:=h
def YE(h:p:=by
 go_round
 case rel=>exact⟨k+1,by omega,by go_num,by rw[gv _ _ _ _ Hx.o,EB.o,hf];rfl⟩
 case measure=>simp[intOf];omega):p:=h
def YD(h:p:=by clear hz hq hg hf hc hw y;go_wp2;exact az (v:=.agg (bF G A1 c1 A2 c2 A3 c3)) (by simp[results,results116,go_sem, *]) rfl HD.o):p:=h
def YC(h:p:=by
 obtain⟨HN,H0⟩:=bL hn h0;clear hn h0;go_wp2;go_ret
 exact⟨aO (by rw[oc,all_false _ _ _ _ Hx.o (by simp[HN.o,H0.o])]),rfl⟩):p:=h
def YB(h:p:=by
 go_wp2;go_roundw
 case rel=>exact⟨i+1,by omega,by go_num,by rw[IE.o];exact FA.o⟩
 case measure=>simp[intOf];omega):p:=h
def YA(h:p:=by
 go_wp2;go_roundw
 case rel=>exact⟨m+1,by omega,by go_num,KS.o,Gk.o,KR.o,Eu.o⟩
 case measure=>simp[intOf];omega):p:=h
def Yz(h:p:=by
 have IZ:=zH (by omega:k=s.rows.length);go_wp2;go_end0
 exact⟨rfl,by rw[<-IZ.o,<-HT.o,<-IY.o];exact FG.o,Fb.o⟩):p:=h
def Yy(h:p:=by
 clear Fj Es;go_wp2;go_roundw
 case rel=>exact⟨k+1,by omega,by go_num,HS.o,Fl.o⟩
 case measure=>simp[intOf];omega):p:=h
def Yx(h:p:=by
 conv=>rhs;rw[<-wS s.rows]
 exact jr fun r hr=>by have:=Ex r hr;exact yQ (x:=(0:Int)) (by omega:K<=r.length)):p:=h
def Yw(h:p:=by
 intro i j u u' b hu _ hb;rw[fR]at hu;by_cases hk:i<n
 .rw[ar hk]at hu;cases hu;cases hb
 .rw[ak hk]at hu;cases hu):p:=h
def Yv(h:p:=by
 clear Fj Es;go_wp2;go_roundw
 case rel=>exact⟨k+1,by omega,by go_num,HS.o,HB.o⟩
 case measure=>simp[intOf];omega):p:=h
def Yu(h:p:=by intro t ht;rw[Ex]at ht;have IL:aW W2.drew g cur 27:=IM;refine⟨?_,aS IL _⟩;rw[aV IL,dq (by simp;omega)];rfl):p:=h
def Yt(h:p:=by
 go_enter my,mz
 go_wp2;exact az (v:=.tuple #[.int .i64 1,.int .i64 2]) (by simp[results,mA,go_sem, *]) rfl ⟨rfl,rfl⟩):p:=h
def Ys(h:p:=by
 go_enter my,mz
 go_wp2;exact az (v:=.tuple #[.int .i64 2,.int .i64 1]) (by simp[results,mA,go_sem, *]) rfl ⟨rfl,rfl⟩):p:=h
def Yr(h:p:=by exact(((HO.o.setCell (by simp<;>omega) _).setCell (by simp<;>omega) _).setCell (by simp<;>omega) _).mono (by omega)):p:=h
def Yq(h:p:=by
 go_wp2;go_roundw
 case rel=>exact⟨k+1,by omega,by go_num,⟨_,HN.o⟩,E7.o,Eu.o⟩
 case measure=>simp[intOf];omega):p:=h
def Yp(h:p:=by
 go_wp2;go_roundw
 case rel=>exact⟨k+1,by omega,by omega,by go_num,by trivial⟩
 case measure=>simp[intOf];omega):p:=h
def Yo(h:p:=by
 go_wp2;go_roundw
 case rel=>exact⟨k+1,by omega,by go_num,HS.o,bq HG.o (dG _ _)⟩
 case measure=>simp[intOf];omega):p:=h
def Yn(h:p:=by
 have:k<us.length:=by rw[h.len];exact(bs.1 hx).1
 obtain⟨u,hu⟩:=aw this;exact⟨u,hu,h.each k u x hu hx⟩):p:=h
def Ym(h:p:=by have:=zG (k:=(v+b).toNat) (G q hq) (by have:=(G q hq).1;omega);exact⟨by have:=this.1;omega,this.2⟩):p:=h
def Yl(h:p:=by have I8:=(bs.1 hx).1;refine⟨?_,h.row.frozenAt x⟩;rw[h.row.cellAt x (by have:=h.len;omega),bR,hx];rfl):p:=h
def Yk(h:p:=by rw[I5,Array.append_assoc,Array.toList_append,wK (by simp;omega),List.toList_toArray,mu,Nat.min_self]):p:=h
def Yj(h:p:=by exact Calls.bj (vY a b p v h A cap rows W EN (hR.ext hW) s.v0 s.v24 s.h0 s.h100 s.len) (ER.symm.trans hc)):p:=h
def Yi(h:p:=by
 intro j u' hj
 match j,hj with
 |0,hj=>simp at hj;subst hj;simp[Addr.add]
 |j+1,hj=>simp at hj):p:=h
def Yh(h:p:=by exact Calls.bj (tV b p v h A cap rows W EN (hR.ext hW) s.v0 s.v24 s.h0 s.h100 s.len) (ER.symm.trans hc)):p:=h
def Yg(h:p:=by
 go_roundw
 case rel=>exact⟨t+1,by omega,by go_num,HP.o,KT.o⟩
 case measure=>simp[intOf];omega):p:=h
def Yf(h:p:=by exact((HE.o.setCell (by simp<;>omega) _).setCell (by simp<;>omega) _).setCell (by simp<;>omega) _):p:=h
def Ye(h:p:=by
 go_wp2_with (go_at_call 69;(refine(KZ.o _).mono ?_);rintro e w' ⟨rfl,rfl⟩)
 go_ret
 exact⟨rfl,HB.o⟩):p:=h
def Yd(h:p:=by rw[EY,dh _ _ _ _ (by simp<;>omega),dh _ _ _ _ (by simp<;>omega),dh _ _ _ _ (by simp<;>omega)]):p:=h
def Yc(h:p:=by obtain⟨_,_,A,c,A8,c8,us,hq,_⟩:=FG.o;obtain⟨_,y1,_,y3,_⟩:=bO hq;exact⟨A,c,y1,y3⟩):p:=h
def Yb(h:p:=by
 go_wp2_with fail
 go_meet
 exact⟨v,h,rows,A,c,HZ.o,HQ.o,Fu.o,HO.o,HC.o.mono (by omega),HG.o⟩):p:=h
def Ya(h:p:=by go_wp2;exact az (v:=.tuple (dP cf)) (by simp[results,qN,go_sem, *]) rfl (aG ⟨KI.o,rfl,HE.o⟩)):p:=h
def X_(h:p:=by
 go_enter mE,mF
 go_wp2
 all_goals
  go_ret
  exact⟨aO (by simp[jb,tT, *]),(ai _ _).alloc (ah _) _⟩):p:=h
def X9(h:p:=by obtain⟨_,_,A,c,A8,c8,us,hq,_⟩:=FG.o;obtain⟨_,y1,_,y3,_⟩:=bO hq;exact⟨A,c,y3⟩):p:=h
def X8(h:p:=by
 go_enter my,mz
 go_wp2;exact az (v:=.tuple qv) (by simp[results,mA,go_sem, *]) rfl ⟨rfl,rfl⟩):p:=h
def X7(h:p:=by
 go_enter my,mz
 go_wp2;exact az (v:=.tuple oV) (by simp[results,mA,go_sem, *]) rfl ⟨rfl,rfl⟩):p:=h
def X6(h:p:=by
 go_wp2
 all_goals exact az (v:=.tuple ff) (by simp[results,d_,go_sem]) rfl ⟨by simp[*],hb⟩):p:=h
def X5(h:p:=by obtain⟨_,_,A,c,A8,c8,us,hq,_⟩:=FG.o;obtain⟨_,y1,_⟩:=bO hq;rw[G5.o];exact y1):p:=h
def X4(h:p:=by rw[zc0 _ (by rw[Ex q hq];exact K3) K3,lP,qz,cG (fun d _=>by rw[Ay])];exact hy q hq):p:=h
def XZ(h:p:=by exact az (v:=.tuple (dP cf)) (by simp[results,qN,go_sem, *]) rfl (aG ⟨KI.o,rfl,HE.o⟩)):p:=h
def XY(h:p:=by
 refine aB fun e=>?_
 simp only[Value.ownBlock,dt]at e;subst e;rw[hb]at hg;simp at hg):p:=h
def XX(h:p:=by obtain⟨u,rfl,hu,hb⟩:=h;obtain⟨A,c,rfl,hr,-⟩:=hu.view;exact⟨A,c,rfl,hr,hb⟩):p:=h
def XW(h:p:=by
 rcases fM Es.outer E6 (by decide)with h1|h1
 .cases h1
 .exact h1 (by rw[<-e];rfl)):p:=h
def XV(h:p:=by
 go_wp2_with fail
 go_meet
 exact⟨false,rfl,fun h=>(by cases h),HI.o.mono (by omega)⟩):p:=h
def XU(h:p:=by obtain⟨lo,hi,h1,h2,h3,h4⟩:=h;exact⟨lo,hi,h1,bE h2 hb.size,h3,h4.ext hb h2⟩):p:=h
def XT(h:p:=by
 go_wp2;go_ret
 exact⟨aO (fJ (nU EB.o (by omega) (by have:=Hn.o;omega))).symm,Ey⟩):p:=h
def XS(h:p:=by
 go_ret
 exact⟨g,cap,rfl,by rw[HI.o];exact Es,Gv,I9.imp id fun e=>by omega⟩):p:=h
def XR(h:p:=by
 by_cases h3:j<i/\j≠r
 .rw[ar h3,ar ⟨by omega,h3.2⟩]
 .rw[ak h3,ak (by omega)]):p:=h
def XQ(h:p:=by have:=D7 (k:=(v+b).toNat) s.p2 (G q hq);exact⟨by have:=this.1;omega,this.2⟩):p:=h
def XP(h:p:=by intro t ht;rw[Ex]at ht;refine⟨?_,aS FN _⟩;rw[aV FN,dq (by simp;omega)];rfl):p:=h
def XO(h:p:=by intro u' EZ;simp[dx]at EZ;rcases EZ with rfl|rfl|rfl|rfl|rfl <;>rfl):p:=h
def XN(h:p:=by
 rcases fv Es.outer Gq with h1|h1
 .cases h1
 .exact fun e=>h1 (by rw[e];rfl)):p:=h
def XM(h:p:=by
 rcases fM Gq E6 (by decide)with h1|h1
 .cases h1
 .exact h1 (by rw[<-e];rfl)):p:=h
def XL(h:p:=by
 by_cases h:d<k
 .rw[ar h,ar h]
 .rw[ak h,ak (by omega),ak (by omega)];rfl):p:=h
def XK(h:p:=by
 go_enter func64,ntmps64
 go_wp2;go_ret
 exact⟨aO (by simp[cP,eW];omega),rfl⟩):p:=h
def XJ(h:p:=by have:=ml List.length hL;simp only[dR,Tm.flat,bl,bS,yY]at this;exact this):p:=h
def XI(h:p:=by obtain⟨g,Ga,e,_⟩:=h.own.form (by omega);simp only[ez]at e;exact e.2.1):p:=h
def XH(h:p:=by exact Calls.bj (yk a p v h A cap rows W EN (hR.ext hW) K4) (ER.symm.trans hc)):p:=h
def XG(h:p:=by have:=(bQ EA.o H2.o).mono (B':=bb) (by omega);rw[EY];exact yl this _ _ _):p:=h
def XF(h:p:=by
 refine dm ?_;rintro _ ⟨W,rfl⟩;go_wp2;go_ret
 exact⟨aO (by simp),an HB.o W.ok⟩):p:=h
def XE(h:p:=by intro u' EZ;simp at EZ;subst EZ;obtain⟨A',c',rfl,_⟩:=hu.view;rfl):p:=h
def XD(h:p:=by rw[nq,eU _ _ _ (by have:=FL;simp at this ⊢;omega)];simpa using FL):p:=h
def XC(h:p:=by exact(hW.each _ x rx hx hr).kept Gv (eT hW.outer (hW.each _ x rx hx hr))):p:=h
def XB(h:p:=by rw[nq,eU _ _ _ (by have:=I2;simp at this ⊢;omega)];simpa using I2):p:=h
def Xz(h:p:=by rwa[show ∀a b:Int,a-(a-b)=b from fun a b=>by omega]at this):p:=h
def Xy(h:p:=by rw[Es.cellAt k (by omega),bR,l7 _ _ _ (by rw[fE];exact EC)];rfl):p:=h
def Xx(h:p:=by rw[df ci]at h1;rw[df cj]at h2;exact h.apart i j u1 u2 b h1 h2 h3 h4):p:=h
def Xw(h:p:=by
 go_meet
 exact(K5.o.put ET.o (j:=3) (by decide) _).mono (by omega)):p:=h
def Xv(h:p:=by
 go_meet
 exact(K5.o.put ET.o (j:=2) (by decide) _).mono (by omega)):p:=h
def Xu(h:p:=by
 go_wp2;go_ret
 exact⟨aO (by rw[tI,jT _ _ _ EB.o (by omega)]),rfl⟩):p:=h
def Xt(h:p:=by rw[lD hi hj]at hu EZ;exact zfB (h.apart _ _ u u' b hu EZ hb Gw)):p:=h
def Xs(h:p:=by exact Calls.bj (AW a b c p v h A cap rows W EN) (ER.symm.trans hc)):p:=h
def Xr(h:p:=by
 go_wp2;go_ret
 exact⟨aO (fh (fun e=>hn (by rw[e]))).symm,ai _ _⟩):p:=h
def Xq(h:p:=by
 go_ret
 exact⟨lC (by first|exact HI.o|(simpa using HI.o)),rfl⟩):p:=h
def Xp(h:p:=by
 rcases FJ.o with h|h
 .cases h
 .exact fun e=>h (by rw[e];rfl)):p:=h
def Xo(h:p:=by rw[ar ⟨by omega,EH⟩,h0 EH,lP,Int.sub_zero,lO this.1 this.2]):p:=h
def Xn(h:p:=by exact Calls.bj (yj a b p v h A cap rows W EN) (ER.symm.trans hc)):p:=h
def Xm(h:p:=by exact Calls.bj (vX a c p v h A cap rows W EN) (ER.symm.trans hc)):p:=h
def Xl(h:p:=by exact h.imp (fun h=>cd.2 ⟨y,h,rfl⟩) fun h=>cd.2 ⟨y,h,rfl⟩):p:=h
def Xj(h:p:=by unfold gIn zbk oB qT;constructor <;> (repeat' split) <;>omega):p:=h
def Xi(h:p:=by
 go_wp2;go_end0
 exact⟨rfl,⟨_,by rw[I7.o];exact HN.o⟩,HE.o⟩):p:=h
def Xh(h:p:=by exact Calls.bj (AX a p v h A cap rows W EN) (ER.symm.trans hc)):p:=h
def Xg(h:p:=by exact Calls.bj (tU b p v h A cap rows W EN) (ER.symm.trans hc)):p:=h
def Xf(h:p:=by
 go_ret
 exact⟨aO (by rw[jm,HV.o,HH.o,<-HQ.o];rfl),EE.o⟩):p:=h
def Xe(h:p:=by have:us=[]:=fw (by simpa using h);subst this;simp[gU]):p:=h
def Xd(h:p:=by
 clear hB K7 hk;go_wp2;go_ret
 exact⟨by rw[HK.o];rfl,HB.o⟩):p:=h
def Xc(h:p:=by exact⟨none,0,by rw[hn],aG (fw hn),by omega,by decide⟩):p:=h
def Xb(h:p:=by
 go_wp2;go_ret
 exact⟨aO (by rw[jm,HV.o,HH.o];rfl),HB.o⟩):p:=h
def Xa(h:p:=by rw[nq,eU _ _ _ (by simp[Ex];omega)];simpa using Gt):p:=h
def W_(h:p:=by rw[Es.cellAt k (by omega),bR,sC _ _ _ _ EC,hx];rfl):p:=h
def W9(h:p:=by simp at h;rcases h with rfl|rfl|rfl|rfl <;>decide):p:=h
def W8(h:p:=by rintro e w' ⟨rfl,a,b⟩;exact⟨g,cap,rfl,a,b,aG rfl⟩):p:=h
def WZ(h:p:=by unfold oB qT;constructor <;> (repeat' split) <;>omega):p:=h
def WY(h:p:=by have h1:=(ho.lt b e).2;have h2:=(hu.lt b hb).1;omega):p:=h
def WX(h:p:=by rw[show k+(n-j)=n-1 by have:=HX.o;omega];rfl):p:=h
def WW(h:p:=by subst He;exact(dF q.1 d r G4).2.2.1 j hj (by omega)):p:=h
def WV(h:p:=by
 go_wp2;go_ret
 exact⟨aO (by rw[jm,HV.o];rfl),HB.o⟩):p:=h
def WU(h:p:=by
 go_wp2_with fail
 go_meet
 exact HI.o.mono (by omega)):p:=h
def WT(h:p:=by
 rcases Fs with h|⟨b,o,h,_⟩
 .exact h
 .cases h):p:=h
def WS(h:p:=by
 rw[gD (by simp;omega),fI];congr 1
 simp;omega):p:=h
def WR(h:p:=by
 rw[tk h1];congr 1
 rw[dq h1]at hx;exact eE hx):p:=h
def WQ(h:p:=by intro u hu;rw[Fq]at hu;exact h1 u (ky hu)):p:=h
def WO(h:p:=by have:=h.apart _ _ x y b hx hy hb Gw;omega):p:=h
def WN(h:p:=by exact⟨gI _ (by omega),gJ _ (by omega)⟩):p:=h
def WM(h:p:=by obtain⟨us,h⟩:=h;exact⟨us,h.ext hb⟩):p:=h
def WK(h:p:=by have:=EO W;rw[he]at this;exact this):p:=h
def WJ(h:p:=by simp only[bS,dX,h_]at this ⊢;omega):p:=h
def WI(h:p:=by exact fun e=>h1 (by rw[e];rfl)):p:=h
def WH(h:p:=by exact gN H4.o (by omega) _ _ _ _ _):p:=h
def WG(h:p:=by
 go_wp2;go_ret
 exact⟨rfl,HB.o⟩):p:=h
def WE(h:p:=by
 go_wp2;go_ret
 exact⟨rfl,rfl⟩):p:=h
def WD(h:p:=by simp[eZ,jO,jb,bh];omega):p:=h
def WC(h:p:=by subst h;exact aG (by simp)):p:=h
def WB(h:p:=by iterate 8 (first|done|exact aF _|exact GX.o|exact ai _ _|refine mG ?_|refine mH ?_)):p:=h
def WA(h:p:=by rw[Ev,show k+(n+1-k)=n+1 by omega];exact growslice_fits (by omega) (by omega)):p:=h
def Wz(h:p:=by iterate 8 (first|done|exact aF _|exact ai _ _|refine mG ?_|refine mH ?_)):p:=h
def Wy(h:p:=by rw[dy,aV I4,EU _ (by have:=(bs.1 hj).1;omega),<-hj,Fh,fI]):p:=h
def Wx(h:p:=by rw[dy,aV FN,EU _ (by have:=(bs.1 hj).1;omega),<-hj,Fh,fI]):p:=h
def Ww(h:p:=by cases e;have:=KY.o _ e2;have:=KV.o;have:=KW.o;omega):p:=h
def Wv(h:p:=by rw[aV b1,dq (by have:=FL;simp at this hj ⊢;omega)];rfl):p:=h
def Wu(h:p:=by rw[aV I6,dq (by have:=I2;simp at this hj ⊢;omega)];rfl):p:=h
def Wt(h:p:=by have:=HR.o;have:=HD.o;have:=HU.o;have:=KG.o;omega):p:=h
def Ws(h:p:=by rw[aV b1,dq (by have:=FL;simp at this ⊢;omega)];rfl):p:=h
def Wr(h:p:=by have:=h'.2.2.2.2;rw[HS.o.len,<-FB]at this;exact this):p:=h
def Wq(h:p:=by rw[FI];exact bq (dG w none) (World.grownBy_alloc _ _ _)):p:=h
def Wp(h:p:=by have:=s.len r hr;have:=s.v24;have:=s.h100;omega):p:=h
def Wo(h:p:=by rw[I5];simp[Builtin.zeroCells,Value.cells];omega):p:=h
def Wn(h:p:=by intro u hu;simp at hu;obtain⟨x,_,rfl⟩:=hu;rfl):p:=h
def Wm(h:p:=by have:=h.le;have:=hb.size;simp at this ⊢;omega):p:=h
def Wl(h:p:=by rw[FB,Fp];exact JL _ _ (by rw[Gc.o];omega)):p:=h
def Wk(h:p:=by rw[JO,Fp];exact JL _ _ (by rw[JM.o];omega)):p:=h
def Wj(h:p:=by rw[F5,Fp];exact JL _ _ (by rw[Io.o];omega)):p:=h
def Wi(h:p:=by obtain⟨r,_,ho⟩:=hu.lp hx;exact(ho.lt b hb).2):p:=h
def Wh(h:p:=by have:=Ik.o;have:=KD.o;have:=Iu.o;omega):p:=h
def Wg(h:p:=by have:=Fc.o;have:=Fi.o;have:=FF.o;omega):p:=h
def Wf(h:p:=by rw[eU _ _ _ (by simp[Ex];omega)];simp[FM]):p:=h
def We(h:p:=by rw[eU _ _ _ (by simp[FP];omega)];simp[FM]):p:=h
def Wd(h:p:=by rw[show((N:Int)-1+1).toNat=N by omega]):p:=h
def Wc(h:p:=by have:=HR.o;have:=HD.o;have:=HU.o;omega):p:=h
def V_(h:p:=by rw[JH];exact JL _ _ (by rw[Gc.o];omega)):p:=h
def VZ(h:p:=by rw[JU];exact JL _ _ (by rw[JM.o];omega)):p:=h
def VY(h:p:=by rw[JS];exact JL _ _ (by rw[Io.o];omega)):p:=h
def VX(h:p:=by have:=Ez.o;show b < (w:Nat)+2;omega):p:=h
def VW(h:p:=by have:=Iu.o;have:=KC.o;simp[fu];omega):p:=h
def VV(h:p:=by rw[aV Et,dq (by simp at hj ⊢;omega)];rfl):p:=h
def VU(h:p:=by have:=Fi.o;have:=FF.o;rw[aZ];omega):p:=h
def VT(h:p:=by have:=K9.o;show w.heap.size<_;omega):p:=h
def VS(h:p:=by have:=K8.o;show w.heap.size<_;omega):p:=h
def VR(h:p:=by have:=ET.o;show w.heap.size≠z;omega):p:=h
def VQ(h:p:=by have:=ET.o;show(w:Nat)<=z;omega):p:=h
def VP(h:p:=by unfold eM;rw[getD_some hr,getD_some hx]):p:=h
def VO(h:p:=by rw[eU _ _ _ (by simp;omega)];simp[I3]):p:=h
def VN(h:p:=by unfold k7;split<;>(try split)<;>omega):p:=h
def VM(h:p:=by rw[FP];simp only[pe];split<;>omega):p:=h
def VL(h:p:=by rw[GW.cellAt _ (by omega),bR,hd];rfl):p:=h
def VK(h:p:=by simp only[pe];split<;>simp<;>omega):p:=h
def VJ(h:p:=by rw[E9.outer.cellAt _ (by omega),Gl]):p:=h
def VI(h:p:=by have:=Sys.h100 I_;unfold Sy.n;omega):p:=h
def VH(h:p:=by rw[Er];exact(ai _ _).alloc (ah _) _):p:=h
def VG(h:p:=by rw[EY];exact(ai _ _).alloc (ah _) _):p:=h
def VF(h:p:=by have:=EJ.size;simp at this;omega):p:=h
def VE(h:p:=by rw[Ii];exact(ai _ _).alloc (ah _) _):p:=h
def VD(h:p:=by rw[E9.outer.cellAt _ (by omega),E_]):p:=h
def VC(h:p:=by rw[FI];exact(ai _ _).alloc (ah _) _):p:=h
def VB(h:p:=by have:=FL;simp at this hj ⊢;omega):p:=h
def VA(h:p:=by have:=EP r hr;unfold maxLen;omega):p:=h
def Vz(h:p:=by unfold oE;rw[hs,<-hY,fJ Ex];rfl):p:=h
def Vy(h:p:=by subst e;exact(b_ hu.outer g' rfl).2):p:=h
def Vx(h:p:=by simp[results,results163,go_sem, *]):p:=h
def Vw(h:p:=by simp[results,results158,go_sem, *]):p:=h
def Vv(h:p:=by simp[results,results182,go_sem, *]):p:=h
def Vu(h:p:=by rw[aV FN,dq (by simp;omega)];rfl):p:=h
def Vt(h:p:=by have:=I2;simp at this hj ⊢;omega):p:=h
def Vs(h:p:=by have:=(Gj.o.lt _ e.symm).2;omega):p:=h
def Vr(h:p:=by simp[results,results214,go_sem, *]):p:=h
def Vq(h:p:=by simp[results,results165,go_sem, *]):p:=h
def Vp(h:p:=by rw[JX.o,J4.o,Im.o];exact Gb.o):p:=h
def Vo(h:p:=by simp[results,results181,go_sem, *]):p:=h
def Vn(h:p:=by simp[results,results183,go_sem, *]):p:=h
def Vm(h:p:=by simp[results,results156,go_sem, *]):p:=h
def Vl(h:p:=by dsimp only;have:=Sys.h100 h;omega):p:=h
def Vk(h:p:=by have e:=eE e;have:=Lc.o;omega):p:=h
def Vj(h:p:=by rw[show s.h-1+1=s.h by omega]):p:=h
def Vi(h:p:=by rw[If.o,ak (by simpa using Hk)]):p:=h
def Vh(h:p:=by have:=hg.2.2;unfold maxLen;omega):p:=h
def Vg(h:p:=by have:=KV.o;have:=KX.o;omega):p:=h
def Vf(h:p:=by unfold Bp;rw[ar (by omega)];omega):p:=h
def Ve(h:p:=by simp[results,results22,go_sem, *]):p:=h
def Vd(h:p:=by simp[results,results87,go_sem, *]):p:=h
def Vc(h:p:=by simp[results,results44,go_sem, *]):p:=h
def Vb(h:p:=by simp[results,results48,go_sem, *]):p:=h
def Va(h:p:=by simp[results,results68,go_sem, *]):p:=h
def U_(h:p:=by have:=KH.o;have:=Gd.o;omega):p:=h
def U9(h:p:=by unfold maxLen;have:=K6.o;omega):p:=h
def U8(h:p:=by have:=FL;simp at this ⊢;omega):p:=h
def U7(h:p:=by have:=Iu.o;have:=Ez.o;omega):p:=h
def U6(h:p:=by have:=KV.o;have:=Gu.o;omega):p:=h
def U5(h:p:=by have:=Ld.o;have:=Io.o;omega):p:=h
def U4(h:p:=by have:=Fo.o;have:=ET.o;omega):p:=h
def U1(h:p:=by have:=Fo.o;have:=Ez.o;omega):p:=h
def U0(h:p:=by rw[E5.cellAt _ (by omega),E4]):p:=h
def UZ(h:p:=by have:=I2;simp at this ⊢;omega):p:=h
def UY(h:p:=by obtain⟨x,-,rfl⟩:=cd.1 hc;rfl):p:=h
def UX(h:p:=by have:=HZ.o;have:=EX.o;omega):p:=h
def UW(h:p:=by have:=HJ.o;have:=F_.o;omega):p:=h
def UU(h:p:=by have:=(aP.1 Gb.o).1;exact this):p:=h
def UT(h:p:=by unfold Be;rw[h1,ak (by decide)]):p:=h
def US(h:p:=by simp[results,results27,go_sem]):p:=h
def UR(h:p:=by simp[results,results56,go_sem]):p:=h
def UQ(h:p:=by simp[results,results51,go_sem]):p:=h
def UP(h:p:=by simp[results,results23,go_sem]):p:=h
def UO(h:p:=by simp[results,results24,go_sem]):p:=h
def UM(h:p:=by simp[results,results55,go_sem]):p:=h
def UL(h:p:=by simp[results,results20,go_sem]):p:=h
def UK(h:p:=by simp[results,results29,go_sem]):p:=h
def UJ(h:p:=by simp[results,results30,go_sem]):p:=h
def UI(h:p:=by simp only[ez]at h1;exact h1.1):p:=h
def UH(h:p:=by have:=ET.o;show b<z;omega):p:=h
def UG(h:p:=by rw[<-hf];exact mI _ _ (HP.o _)):p:=h
def UF(h:p:=by rw[gy.1 hq];exact⟨HR.o,HS.o⟩):p:=h
def UE(h:p:=by have:=h1.len;simpa using this):p:=h
def UC(h:p:=by simp at hv;subst hv;exact FT):p:=h
def UB(h:p:=by first|exact ah _|simp[ed]):p:=h
def UA(h:p:=by have:=HW.o.size;simp;omega):p:=h
def Uz(h:p:=by rw[Fv];exact bx _ _ _ _ hj):p:=h
def Uy(h:p:=by simp[results,ns,go_sem, *]):p:=h
def Ux(h:p:=by have:=s.el r hr x hx;omega):p:=h
def Uw(h:p:=by rw[bf];unfold maxLen;omega):p:=h
def Uv(h:p:=by simp[results,ju,go_sem, *]):p:=h
def Uu(h:p:=by simp[results,mD,go_sem, *]):p:=h
def Ut(h:p:=by simp[dU,uK,uA,uB,uC,uR]):p:=h
def Us(h:p:=by simp[Value.ownBlock];omega):p:=h
def Ur(h:p:=by rw[Gx];exact jP FO.o Fp):p:=h
def Uq(h:p:=by have:=Gm _ e.symm;omega):p:=h
def Up(h:p:=by have:=EH _ e.symm;omega):p:=h
def Uo(h:p:=by rw[<-hv];exact eB _ _ _ _):p:=h
def Un(h:p:=by rw[<-hh];exact eB _ _ _ _):p:=h
def Um(h:p:=by rw[Er];exact aD _ _ rfl):p:=h
def Ul(h:p:=by rw[Fv];simpa using FU):p:=h
def Uk(h:p:=by have:=(bs.1 hj).1;omega):p:=h
def Uj(h:p:=by rw[FI];exact aD _ _ rfl):p:=h
def Ui(h:p:=by have:=hs.len r hr;omega):p:=h
def Uh(h:p:=by simp[results,nB,go_sem]):p:=h
def Ug(h:p:=by simp[results,d_,go_sem]):p:=h
def Uf(h:p:=by simp[results,pr,go_sem]):p:=h
def Ue(h:p:=by rw[s.row r hr];exact hn):p:=h
def Ud(h:p:=by cases v.ownBlock<;>simp):p:=h
def Uc(h:p:=by first|exact ah _|simp):p:=h
def Ub(h:p:=by have:=s.len r hr;omega):p:=h
def Ua(h:p:=by have:=HW.o.size;omega):p:=h
def T_(h:p:=by rw[<-Gp,fP,ar ht]):p:=h
def T9(h:p:=by have:=Ex r hr;omega):p:=h
def T8(h:p:=by simp[Act.eval,Act.put]):p:=h
def T7(h:p:=by rw[gy.1 hx];exact HR.o):p:=h
def T6(h:p:=by rw[gy.1 hx];exact HS.o):p:=h
def T5(h:p:=by rw[Ic.o];exact H_.o):p:=h
def T4(h:p:=by rw[<-Gy.o];exact HO.o):p:=h
def T3(h:p:=by have:=Gm b hb;omega):p:=h
def T2(h:p:=by rw[JV.o]at h;cases h):p:=h
def T1(h:p:=by rw[<-HE.o];exact IX.o):p:=h
def T0(h:p:=by rw[Fq];simp[Gs]):p:=h
def TZ(h:p:=by have:=Ew r hr;omega):p:=h
def TY(h:p:=by rw[dO _ _ _ hk];omega):p:=h
def TX(h:p:=by rw[<-E0,fP,ar ht]):p:=h
def TW(h:p:=by rw[IF.o];exact FC):p:=h
def TV(h:p:=by rw[ha.len];exact FC):p:=h
def TU(h:p:=by rw[h.hv,h.hh];omega):p:=h
def TT(h:p:=by rw[hs g a2];exact a3):p:=h
def TS(h:p:=by simp[np,Gs];omega):p:=h
def TR(h:p:=by have:=s2 r hr;omega):p:=h
def TQ(h:p:=by rw[<-h.len];exact hk):p:=h
def TP(h:p:=by simpa[au]using Ft):p:=h
def TO(h:p:=by simpa[au]using FV):p:=h
def TN(h:p:=by have e:=eE e;omega):p:=h
def TM(h:p:=by simp[Value.oneCell']):p:=h
def TL(h:p:=by rw[Fh];simp;omega):p:=h
def TK(h:p:=by simp[bK,FQ];omega):p:=h
def TJ(h:p:=by rw[G9];exact Hm.o):p:=h
def TI(h:p:=by simp[List.getD,EW]):p:=h
def TH(h:p:=by simp[List.getD,Fm]):p:=h
def TG(h:p:=by rw[S.s1.1];exact ha):p:=h
def TF(h:p:=by rw[S.s2.1];exact ha):p:=h
def TE(h:p:=by simp[Value.ownBlock]):p:=h
def TD(h:p:=by rw[<-h.1];exact hl):p:=h
def TC(h:p:=by have:=Gc.o;omega):p:=h
def TB(h:p:=by unfold maxLen;omega):p:=h
def TA(h:p:=by have:=F_.o;omega):p:=h
def Tz(h:p:=by have:=I0.o;omega):p:=h
def Ty(h:p:=by have:=FH.o;omega):p:=h
def Tx(h:p:=by have:=ET.o;omega):p:=h
def Tw(h:p:=by have:=Ez.o;omega):p:=h
def Tv(h:p:=by first|rfl|go_num):p:=h
def Tu(h:p:=by have:=FE.o;omega):p:=h
def Tt(h:p:=by have:=EX.o;omega):p:=h
def Ts(h:p:=by rw[h.len];exact hk):p:=h
def Tr(h:p:=by have:=Fc.o;omega):p:=h
def Tq(h:p:=by have:=Fu.o;omega):p:=h
def Tp(h:p:=by rw[l6];exact Fw.o):p:=h
def To(h:p:=by simp[List.getD,hr]):p:=h
def Tn(h:p:=by simp[List.getD,hx]):p:=h
def Tl(h:p:=by rw[qd];exact Gn.o):p:=h
def Tk(h:p:=by rw[FR];simp[Fg]):p:=h
def Tj(h:p:=by rw[<-Fh];exact hv):p:=h
def Ti(h:p:=by have:=Ha.o;omega):p:=h
def Th(h:p:=by have:=FZ.o;omega):p:=h
def Tg(h:p:=by have:=Ja.o;omega):p:=h
def Tf(h:p:=by have:=Gu.o;omega):p:=h
def Te(h:p:=by have:=Fl.o;omega):p:=h
def Td(h:p:=by have:=Le.o;omega):p:=h
def Tc(h:p:=by rw[fx];exact h.len):p:=h
def Tb(h:p:=by have:=K_.o;omega):p:=h
def Ta(h:p:=by rw[hs];exact h.hh):p:=h
def S_(h:p:=by have:=hs.n;omega):p:=h
def S9(h:p:=by rw[eP];exact Ex):p:=h
def S8(h:p:=by simpa[eW]using hi):p:=h
def S7(h:p:=by have:=HL.o;omega):p:=h
def S6(h:p:=by rw[<-qM];exact ho):p:=h
def SZ(h:p:=by have:=HM.o;omega):p:=h
def SY(h:p:=by have:=HQ.o;omega):p:=h
def SX(h:p:=by simpa[eW]using h1):p:=h
def SW(h:p:=by unfold Sy.n;omega):p:=h
def SV(h:p:=by rw[nt,im];omega):p:=h
def SU(h:p:=by rw[dX,mh];omega):p:=h
def SS(h:p:=by have:=h.w;omega):p:=h
def SR(h:p:=by rw[KU];exact hb):p:=h
def SQ(h:p:=by simp[cq,bH,dK]):p:=h
def SP(h:p:=by dsimp only;omega):p:=h
def SN(h:p:=by rw[Im.o];omega):p:=h
def SM(h:p:=by rw[Gc.o];omega):p:=h
def SL(h:p:=by rw[JM.o];omega):p:=h
def SK(h:p:=by rw[Io.o];omega):p:=h
def SJ(h:p:=by simp[q8.add,bC]):p:=h
def SI(h:p:=by rw[h1];exact h2):p:=h
def SH(h:p:=by rw[bg,hy];rfl):p:=h
def SG(h:p:=by simpa using Es):p:=h
def SF(h:p:=by rw[Ex];omega):p:=h
def SE(h:p:=by rw[HL.o];omega):p:=h
def SD(h:p:=by simpa using Hk):p:=h
def SC(h:p:=by simpa using EH):p:=h
def SB(h:p:=by rw[Ev];omega):p:=h
def SA(h:p:=by rw[G0.o];rfl):p:=h
def Sz(h:p:=by cases hb;omega):p:=h
def Sx(h:p:=by simp[lB,e,m]):p:=h
def Sw(h:p:=by rw[ES];omega):p:=h
def Sv(h:p:=by simpa using Kk):p:=h
def Su(h:p:=by decide +kernel):p:=h
def St(h:p:=by simpa using h1):p:=h
def Ss(h:p:=by simpa using hx):p:=h
def Sr(h:p:=by rw[bh];omega):p:=h
def Sq(h:p:=by rw[aZ];omega):p:=h
def Sp(h:p:=by rw[fE];omega):p:=h
def So(h:p:=by rw[Er];simp):p:=h
def Sn(h:p:=by simp<;>omega):p:=h
def Sm(h:p:=by simpa using h2):p:=h
def Sl(h:p:=by rw[bf];omega):p:=h
def Sk(h:p:=by simpa using h3):p:=h
def Sj(h:p:=by simpa using h4):p:=h
def Si(h:p:=by simpa using h5):p:=h
def Sh(h:p:=by simpa using h7):p:=h
def Sg(h:p:=by simpa using h8):p:=h
def Sf(h:p:=by simpa using h9):p:=h
def Se(h:p:=by simpa using h0):p:=h
def Sd(h:p:=by rw[dX];omega):p:=h
def Sc(h:p:=by rw[EY];simp):p:=h
def Sb(h:p:=by simpa using tL):p:=h
def Sa(h:p:=by simpa using tC):p:=h
def R_(h:p:=by simpa using tB):p:=h
def R9(h:p:=by simpa using tA):p:=h
def R7(h:p:=by simpa using hb):p:=h
def R6(h:p:=by rw[lN];omega):p:=h
def R5(h:p:=by simpa using ha):p:=h
def R4(h:p:=by simpa using e):p:=h
def R3(h:p:=by simpa using h):p:=h
def R0(h:p:=by simp[h.len]):p:=h
def RZ(h:p:=by simp[lB,e]):p:=h
def RY(h:p:=by simp[lB,m]):p:=h
def RX(h:p:=by simp;omega):p:=h
def RW(h:p:=by rw[bf,bl]):p:=h
def RV(h:p:=by assumption):p:=h
def RU(h:p:=by kernel_rfl):p:=h
def RS(h:p:=by simp at hu):p:=h
def RR(h:p:=by simp at h):p:=h
def RQ(h:p:=by simp[bC]):p:=h
def RP(h:p:=by simp[h0]):p:=h
def RO(h:p:=by simp[dK]):p:=h
def RN(h:p:=by simp[hn]):p:=h
def RM(h:p:=by simp[jb]):p:=h
def RL(h:p:=by simp[kF]):p:=h
def RK(h:p:=by simp[bH]):p:=h
def RJ(h:p:=by simp[hz]):p:=h
def RI(h:p:=by simp[*]):p:=h
def RH(h:p:=by simp[m]):p:=h
def RG(h:p:=by simp[e]):p:=h
def RF(h:p:=by cases hr):p:=h
def RE(h:p:=by cases h):p:=h
def RD(h:p:=by trivial):p:=h
def RC(h:p:=by decide):p:=h
def RB(h:p:=by go_num):p:=h
def Rz(h:p:=by rw[e]):p:=h
def Ry(h:p:=by omega):p:=h
def Rx(h:p:=by simp):p:=h
end Go.Proofs.YtdpgblncijojiaaGreatDoor
