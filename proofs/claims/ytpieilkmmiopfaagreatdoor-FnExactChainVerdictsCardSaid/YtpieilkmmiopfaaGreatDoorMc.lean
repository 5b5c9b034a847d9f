/- Steps that stand more than once. Conditions: none. -/
import Derived.BigQuiet
import Derived.ChangeVars
import Derived.Deep.AppendLies
import Derived.Deep.Cut
import Derived.Deep.CutBlock
import Derived.Deep.CutRange
import Derived.Deep.DeepHandedRow
import Derived.Deep.Matrix
import Derived.Deep.QuietTactic
import Derived.Deep.RegionHeld
import Derived.Deep.RegionHeld3
import Derived.Deep.RegionLaw
import Derived.Deep.RegionWith
import Derived.Deep.Slices
import Derived.Great.BuildSlice
import Derived.LaidLaws
import Derived.Laws.BytesString
import Derived.Laws.Concat
import Derived.Laws.CopyOwn
import Derived.Laws.Externs
import Derived.Laws.IdiomCopy
import Derived.Laws.IdiomStrings
import Derived.Lib.AppendZeros
import Derived.Lib.AppendZerosOnto
import Derived.Lib.Hide
import Derived.Lib.LaidTab
import Derived.Lib.Overlaps
import Derived.Lib.SliceRun
import Derived.Lib.SmallJoins
import Derived.Maps.AppendAt
import Derived.Maps.OwnOps
import Derived.Maps.RangeWalk
import Derived.OpenShut
import Derived.ProofKit
import Derived.StillTail
import Derived.Test.YtpieilkmmiopfaaGreatDoorProg
import Derived.WalkKit
import Derived.WalkLawsBesides
import Derived.WalkSmall
import Derived.WalkSpells
namespace Go.Proofs.YtpieilkmmiopfaaGreatDoor
open Go.RowKit Tryz
set_option linter.all false
theorem zA.{u}:(∀{α:Type u} (l:List α) (i:Nat) (a:α),l.toArray.setIfInBounds i a=(l.set i a).toArray)/\(∀{α:Type u} {x:α} {l:List α} {a:α},(x::l).set 0 a=a::l)/\∀{α:Type u} {x:α} {l:List α} {n:Nat} {a:α},(x::l).set (n+1) a=x::l.set n a:=⟨fun _ _ _=>List.setIfInBounds_toArray ..,rfl,rfl⟩
def Hd(p:Prop):Prop:=p
theorem Hd.o{p:Prop}(h:Hd p):p:=h
theorem zH{p:Prop}(h:p):Hd p:=h
theorem aM{α:Sort _}(a:α):∃x,x=a:=⟨a,rfl⟩
theorem bD{p0 p1:Prop}(a0:p0)(a1:p1):Hd p0/\Hd p1:=⟨a0,a1⟩
theorem dO{p0 p1 p2:Prop}(a0:p0)(a1:p1)(a2:p2):Hd p0/\Hd p1/\Hd p2:=⟨a0,a1,a2⟩
theorem fU{p0 p1 p2 p3:Prop}(a0:p0)(a1:p1)(a2:p2)(a3:p3):Hd p0/\Hd p1/\Hd p2/\Hd p3:=⟨a0,a1,a2,a3⟩
theorem mD{p0 p1 p2 p3 p4:Prop}(a0:p0)(a1:p1)(a2:p2)(a3:p3)(a4:p4):Hd p0/\Hd p1/\Hd p2/\Hd p3/\Hd p4:=⟨a0,a1,a2,a3,a4⟩
theorem kE{p0 p1 p2 p3 p4 p5:Prop}(a0:p0)(a1:p1)(a2:p2)(a3:p3)(a4:p4)(a5:p5):Hd p0/\Hd p1/\Hd p2/\Hd p3/\Hd p4/\Hd p5:=⟨a0,a1,a2,a3,a4,a5⟩
theorem zH7{p0 p1 p2 p3 p4 p5 p6:Prop}(a0:p0)(a1:p1)(a2:p2)(a3:p3)(a4:p4)(a5:p5)(a6:p6):Hd p0/\Hd p1/\Hd p2/\Hd p3/\Hd p4/\Hd p5/\Hd p6:=⟨a0,a1,a2,a3,a4,a5,a6⟩
theorem zH8{p0 p1 p2 p3 p4 p5 p6 p7:Prop}(a0:p0)(a1:p1)(a2:p2)(a3:p3)(a4:p4)(a5:p5)(a6:p6)(a7:p7):Hd p0/\Hd p1/\Hd p2/\Hd p3/\Hd p4/\Hd p5/\Hd p6/\Hd p7:=⟨a0,a1,a2,a3,a4,a5,a6,a7⟩
theorem zH9{p0 p1 p2 p3 p4 p5 p6 p7 p8:Prop}(a0:p0)(a1:p1)(a2:p2)(a3:p3)(a4:p4)(a5:p5)(a6:p6)(a7:p7)(a8:p8):Hd p0/\Hd p1/\Hd p2/\Hd p3/\Hd p4/\Hd p5/\Hd p6/\Hd p7/\Hd p8:=⟨a0,a1,a2,a3,a4,a5,a6,a7,a8⟩
theorem zhJ{p0 p1 p2 p3 p4 p5 p6 p7 p8 p9:Prop}(a0:p0)(a1:p1)(a2:p2)(a3:p3)(a4:p4)(a5:p5)(a6:p6)(a7:p7)(a8:p8)(a9:p9):Hd p0/\Hd p1/\Hd p2/\Hd p3/\Hd p4/\Hd p5/\Hd p6/\Hd p7/\Hd p8/\Hd p9:=⟨a0,a1,a2,a3,a4,a5,a6,a7,a8,a9⟩
theorem ziQ{p0 p1 p2 p3 p4 p5 p6 p7 p8 p9 p10:Prop}(a0:p0)(a1:p1)(a2:p2)(a3:p3)(a4:p4)(a5:p5)(a6:p6)(a7:p7)(a8:p8)(a9:p9)(a10:p10):Hd p0/\Hd p1/\Hd p2/\Hd p3/\Hd p4/\Hd p5/\Hd p6/\Hd p7/\Hd p8/\Hd p9/\Hd p10:=⟨a0,a1,a2,a3,a4,a5,a6,a7,a8,a9,a10⟩
theorem zgw{p0 p1 p2 p3 p4 p5 p6 p7 p8 p9 p10 p11:Prop}(a0:p0)(a1:p1)(a2:p2)(a3:p3)(a4:p4)(a5:p5)(a6:p6)(a7:p7)(a8:p8)(a9:p9)(a10:p10)(a11:p11):Hd p0/\Hd p1/\Hd p2/\Hd p3/\Hd p4/\Hd p5/\Hd p6/\Hd p7/\Hd p8/\Hd p9/\Hd p10/\Hd p11:=⟨a0,a1,a2,a3,a4,a5,a6,a7,a8,a9,a10,a11⟩
theorem bA(w:World)(o:Obj):Below w.heap.size w (w.alloc o)/\(w.alloc o).heap[w.heap.size]?=some o:=⟨(Below.refl _ _).alloc (Nat.le_refl _) o,by show(w.heap.push o)[w.heap.size]?=_;simp⟩
structure M.{u}{α:Sort u}(a:α):Type
instance {α:Type}{a:α}:CoeOut (M a) α:=⟨fun _=>a⟩
instance {a:Prop}:CoeOut (M a) Prop:=⟨fun _=>a⟩
instance {a:Prop}:CoeSort (M a) Prop:=⟨fun _=>a⟩
instance {a:Type}:CoeOut (M a) Type:=⟨fun _=>a⟩
instance {a:Type}:CoeSort (M a) Type:=⟨fun _=>a⟩
instance:Coe Int Value:=⟨fun x=>.int .i64 x⟩
instance:Coe Nat Value:=⟨fun x=>.int .i64 (x:Int)⟩
instance:CoeDep Unit () Value:=⟨.int .i64 0⟩
def bW:M (Value.slice none 0 0):=⟨⟩
def ag(w w':World):M (Below w.heap.size w w'):=⟨⟩
def ae(w:World)(b o:Nat)(v:Value):M (w.cell? ⟨b,o,none⟩=some v):=⟨⟩
def aW(w:World)(b:Nat)(c:Array Value)(t:TypeId):M (w.heap[b]?=some (.cells c t)):=⟨⟩
def dM(w:World)(x:Bool):M (fun(e:Ending) (w':World)=>e=.returned (.bool x)/\Below w.heap.size w w'):=⟨⟩
def aw(f:FuncId)(x:Array Value)(w:World)(R:Ending->World->Prop):M (Calls Tryz.prog f x w R):=⟨⟩
def aN:M (List (List Int)):=⟨⟩
def aq:M (Option Addr):=⟨⟩
def aH:M (List Int):=⟨⟩
def bU:M (List Value):=⟨⟩
def bO:M (List Nat):=⟨⟩
def nU:M (List (Nat×Nat)):=⟨⟩
def gX:M (List (Nat×Int)):=⟨⟩
def gj:M (Exit->Act->World->Prop):=⟨⟩
def mE:M (Act->World->Prop):=⟨⟩
def iT:M (World->Prop):=⟨⟩
def aa:M (World):=⟨⟩
def ax:M (Value):=⟨⟩
def eU:M (Array Value):=⟨⟩
def gP:M (Array Oper):=⟨⟩
def du:M (TypeId):=⟨⟩
def jk:M (Operand):=⟨⟩
def iU:M (Program):=⟨⟩
def dk:M (Addr):=⟨⟩
def fQ:M (Nat×Nat):=⟨⟩
def ir:M (Nat->Nat):=⟨⟩
def ml:M (Array Bool):=⟨⟩
def Bg:M (List Bool):=⟨⟩
def fR:M (Oper):=⟨⟩
def ar{α3:Type}(x0 x1 x2)(x3:List α3)(x4):M (#[.int .i64 x0,.int .i64 x1,.slice x2 x3.length x4]:Array Value):=⟨⟩
def bj:M (#[.int .i64 0,.int .i64 0,.slice none 0 0]:Array Value):=⟨⟩
def bQ:M (#[.int .i64 0,.slice none 0 0,.slice none 0 0,.slice none 0 0]:Array Value):=⟨⟩
def dy:M (#[.bool false,.slice none 0 0,.int .i64 0,.slice none 0 0,.slice none 0 0,.slice none 0 0]:Array Value):=⟨⟩
def bf(x0 x1):M (#[.int .i64 x0,.int .i64 x1]:Array Value):=⟨⟩
def aO{α1:Type}(x0)(x1:List α1)(x2):M (#[.slice x0 x1.length x2]:Array Value):=⟨⟩
def dF(x0 x1 x2 x3 x4):M (#[.int .i64 (x0:Nat),.int .i64 (x1:Nat),.slice x2 x3 x4]:Array Value):=⟨⟩
def sq:M (#[.int .i64 0,.int .i64 0,.slice none 0 0,.slice none 0 0,.slice none 0 0,.int .i64 0,.int .i64 0,.slice none 0 0,.int .i64 0,.int .i64 0,.slice none 0 0,.int .i64 0,.slice none 0 0,.slice none 0 0,.slice none 0 0,.int .i64 0,.int .i64 0,.slice none 0 0,.int .i64 0,.int .i64 0,.slice none 0 0]:Array Value):=⟨⟩
def eD{α3:Type}{α6:Type}(x0 x1 x2)(x3:List α3)(x4 x5)(x6:List α6)(x7):M (#[.int .i64 x0,.int .i64 x1,.slice x2 x3.length x4,.slice x5 x6.length x7]:Array Value):=⟨⟩
def p_:M (#[.int .i64 0,.slice none 0 0,.slice none 0 0,.slice none 0 0,.int .i64 0,.slice none 0 0,.slice none 0 0,.slice none 0 0,.int .i64 0,.int .i64 0,.slice none 0 0,.int .i64 0,.int .i64 0,.slice none 0 0]:Array Value):=⟨⟩
def dG(x0 x1 x2):M (#[.int .i64 x0,.int .i64 x1,.string x2]:Array Value):=⟨⟩
def fO(x0 x1 x2 x3 x4 x5 x6):M (#[.int .i64 x0,.int .i64 x1,.int .i64 x2,.int .i64 x3,.slice x4 x5 x6]:Array Value):=⟨⟩
def fw(x0 x1 x2 x3 x4 x5 x6 x7 x8 x9):M (#[.int .i64 (x0:Nat),.slice x1 x2 x3,.slice x4 x5 x6,.slice x7 x8 x9]:Array Value):=⟨⟩
def cJ(x0):M (#[.agg x0,.bool false]:Array Value):=⟨⟩
def bs(x0):M (#[.int .i64 x0]:Array Value):=⟨⟩
def dK(x0 x1 x2):M (#[.int .i64 x0,.int .i64 x1,x2]:Array Value):=⟨⟩
def gl(x0 x1):M (#[.int .i64 (x0:Nat),.int .i64 (x1:Nat)]:Array Value):=⟨⟩
def eW:M (#[.int .i64 0,.int .i64 0]:Array Value):=⟨⟩
def fP(x0 x1 x2):M (#[.int .i64 x0,.int .i64 x1,.int .i64 x2]:Array Value):=⟨⟩
def fy(x0 x1 x2 x3 x4):M (#[.int .i64 x0,.int .i64 x1,.slice x2 x3 x4]:Array Value):=⟨⟩
def iJ(x0 x1 x2 x3 x4):M (#[.int .i64 (x0:Nat),.int .i64 (x1:Nat),.slice x2 x3 x4]:Array Value):=⟨⟩
def vN:M (#[.int .i64 0,.slice none 0 0,.slice none 0 0,.slice none 0 0,.int .i64 0,.int .i64 0,.slice none 0 0,.int .i64 0,.int .i64 0,.slice none 0 0]:Array Value):=⟨⟩
def fg:M (#[.nilIface,.bool false]:Array Value):=⟨⟩
def jW(x0 x1 x2 x3 x4 x5 x6):M (#[.agg #[.slice x0 x1 x2,.slice x3 x1 x4,.slice x5 x1 x6],.bool false]:Array Value):=⟨⟩
def eE(x0):M (#[.int .i64 (x0:Nat)]:Array Value):=⟨⟩
def mQ(x0 x1 x2 x3 x4 x5 x6 x7 x8 x9):M (#[.bool true,.slice x0 x1 x2,.int .i64 x3,.slice x4 0 x5,.slice x6 0 x7,.slice x8 0 x9]:Array Value):=⟨⟩
def fA(x0):M (#[.agg x0,.bool true]:Array Value):=⟨⟩
def oD:M (#[.slice none 0 0,.slice none 0 0,.slice none 0 0]:Array Value):=⟨⟩
def oE{α1:Type}(x0)(x1:List α1)(x2 x3 x4 x5 x6 x7 x8 x9 x10 x11 x12):M (#[.bool true,.slice x0 x1.length x2,.int .i64 x3,.slice x4 x5 x6,.slice x7 x8 x9,.slice x10 x11 x12]:Array Value):=⟨⟩
def gQ(x0 x1 x2):M (#[.agg x0,.int .i64 x1,.agg x2]:Array Value):=⟨⟩
def jx:M (#[.int .i64 0,.int .i64 1]:Array Value):=⟨⟩
def oF{α2:Type}{α5:Type}{α8:Type}(x0 x1)(x2:List α2)(x3 x4)(x5:List α5)(x6 x7)(x8:List α8)(x9):M (#[.int .i64 x0,.slice x1 x2.length x3,.slice x4 x5.length x6,.slice x7 x8.length x9]:Array Value):=⟨⟩
def DL:M (#[.int .i64 1,.int .i64 2,.int .i64 1,.int .i64 0,.int .i64 2,.int .i64 1,.int .i64 0,.int .i64 1,.int .i64 1,.int .i64 1,.int .i64 1,.int .i64 1]:Array Value):=⟨⟩
def oG(x0 x1 x2 x3 x4 x5 x6):M (#[.int .i64 x0,.int .i64 x1,.int .i64 x2,.int .i64 x3,.slice x4 x5 x6]:Array Value):=⟨⟩
def mR(x0 x1 x2 x3):M (#[.int .i64 x0,.int .i64 x1,.int .i64 x2,.int .i64 x3]:Array Value):=⟨⟩
def cg(x0 x1 x2):M (#[.slice x0 x1 x2]:Array Value):=⟨⟩
def ki:M (#[.int .i64 1,.int .i64 0]:Array Value):=⟨⟩
def qc(x0 x1 x2 x3 x4 x5):M (#[.int .i64 3,.int .i64 x0,.int .i64 x1,.int .i64 x2,.slice x3 x4 x5]:Array Value):=⟨⟩
def iK(x0 x1 x2):M (#[.int .i64 x0,.agg x1,.agg x2]:Array Value):=⟨⟩
def qd(x0 x1 x2 x3 x4 x5):M (#[.int .i64 6,.int .i64 x0,.int .i64 x1,.int .i64 x2,.slice x3 x4 x5]:Array Value):=⟨⟩
def qe(x0 x1 x2 x3 x4 x5):M (#[.int .i64 8,.int .i64 x0,.int .i64 x1,.int .i64 x2,.slice x3 x4 x5]:Array Value):=⟨⟩
def qf(x0 x1 x2 x3 x4 x5):M (#[.int .i64 1,.int .i64 x0,.int .i64 x1,.int .i64 x2,.slice x3 x4 x5]:Array Value):=⟨⟩
def qg(x0 x1 x2 x3 x4 x5):M (#[.int .i64 2,.int .i64 x0,.int .i64 x1,.int .i64 x2,.slice x3 x4 x5]:Array Value):=⟨⟩
def qh(x0 x1 x2 x3 x4 x5):M (#[.int .i64 4,.int .i64 x0,.int .i64 x1,.int .i64 x2,.slice x3 x4 x5]:Array Value):=⟨⟩
def qi(x0 x1 x2 x3 x4 x5):M (#[.int .i64 5,.int .i64 x0,.int .i64 x1,.int .i64 x2,.slice x3 x4 x5]:Array Value):=⟨⟩
def qj(x0 x1 x2 x3 x4 x5):M (#[.int .i64 7,.int .i64 x0,.int .i64 x1,.int .i64 x2,.slice x3 x4 x5]:Array Value):=⟨⟩
def qk(x0 x1 x2 x3 x4 x5):M (#[.int .i64 9,.int .i64 x0,.int .i64 x1,.int .i64 x2,.slice x3 x4 x5]:Array Value):=⟨⟩
def iL(x0 x1 x2):M (#[.int .i64 x0,.agg x1,.agg x2]:Array Value):=⟨⟩
def kW(x0 x1 x2 x3 x4 x5 x6 x7 x8 x9):M (#[.int .i64 x0,.slice x1 x2 x3,.slice x4 x5 x6,.slice x7 x8 x9]:Array Value):=⟨⟩
def vO(x0):M (#[.int .i64 (x0:Nat),.slice none 0 0,.slice none 0 0,.slice none 0 0]:Array Value):=⟨⟩
def oH(x0 x1 x2 x3 x4 x5 x6 x7 x8 x9 x10 x11 x12 x13):M (#[.bool x0,.slice x1 x2 x3,.int .i64 x4,.slice x5 x6 x7,.slice x8 x9 x10,.slice x11 x12 x13]:Array Value):=⟨⟩
def gD(x0 x1):M (#[.agg x0,.int .i64 x1]:Array Value):=⟨⟩
def ie(x0 x1 x2):M (#[x0,.int .i64 x1,.agg x2]:Array Value):=⟨⟩
def ig(x0 x1):M (#[.int .i64 x0,.agg x1]:Array Value):=⟨⟩
def lH{α1:Type}{α4:Type}(x0)(x1:List α1)(x2 x3)(x4:List α4)(x5):M (#[.slice x0 x1.length x2,.slice x3 x4.length x5]:Array Value):=⟨⟩
def ij:M (#[.int .i64 0]:Array Value):=⟨⟩
def vP:M (#[.int .i64 2,.int .i64 3,.int .i64 5,.int .i64 7]:Array Value):=⟨⟩
def yU:M (#[.int .i64 0,.int .i64 0,.int .i64 0,.int .i64 0,.slice none 0 0]:Array Value):=⟨⟩
def su(x0 x1 x2):M (#[.int .i64 2,.int .i64 x0,.int .i64 x1,.int .i64 x2]:Array Value):=⟨⟩
def ql(x0 x1 x2 x3 x4 x5):M (#[.int .i64 x0,.agg x1,.agg x2,.agg x3,.agg x4,.agg x5]:Array Value):=⟨⟩
def qm(x0 x1 x2 x3 x4 x5 x6 x7 x8 x9):M (#[.int .i64 (x0:Nat),.slice x1 x2 x3,.slice x4 x5 x6,.slice x7 x8 x9]:Array Value):=⟨⟩
def vQ(x0 x1 x2 x3 x4 x5):M (#[.int .i64 x0,.int .i64 (x1:Nat),.int .i64 (x2:Nat),.slice x3 x4 x5]:Array Value):=⟨⟩
def vR{α2:Type}(x0 x1)(x2:List α2)(x3 x4 x5 x6 x7 x8 x9 x10):M (#[.bool x0,.slice x1 x2.length x3,.int .i64 x4,.slice x5 0 x6,.slice x7 0 x8,.slice x9 0 x10]:Array Value):=⟨⟩
def cy(x0):M (#[.agg x0]:Array Value):=⟨⟩
def kj:M (#[.slice none 0 0]:Array Value):=⟨⟩
def vS(x0 x1):M (#[.int .i64 0,.int .i64 x0,.int .i64 x1,.int .i64 0]:Array Value):=⟨⟩
def DM:M (#[.int .i64 0,.slice none 0 0,.slice none 0 0,.slice none 0 0,.slice none 0 0]:Array Value):=⟨⟩
def vT(x0 x1 x2):M (#[.int .i64 1,.int .i64 x0,.int .i64 x1,.int .i64 x2]:Array Value):=⟨⟩
def vU(x0 x1 x2):M (#[.int .i64 0,.int .i64 x0,.int .i64 x1,.int .i64 x2]:Array Value):=⟨⟩
def sv(x0 x1 x2 x3):M (#[.agg x0,.pointer x1,.pointer x2,.pointer x3]:Array Value):=⟨⟩
def oI{α1:Type}(x0)(x1:List α1)(x2 x3):M (#[.slice x0 x1.length x2,.int .i64 x3]:Array Value):=⟨⟩
def DN(x0 x1 x2 x3 x4 x5 x6 x7 x8 x9 x10 x11 x12 x13 x14 x15 x16 x17 x18 x19 x20 x21 x22 x23 x24 x25 x26 x27 x28 x29):M (#[.int .i64 (x0:Nat),.slice x1 x2 x3,.slice x4 x5 x6,.slice x7 x8 x9,.int .i64 (x10:Nat),.slice x11 x12 x13,.slice x14 x15 x16,.slice x17 x18 x19,.int .i64 x20,.int .i64 x21,.slice x22 x23 x24,.int .i64 x25,.int .i64 x26,.slice x27 x28 x29]:Array Value):=⟨⟩
def sx(x0 x1 x2 x3 x4 x5 x6 x7):M (#[.int .i64 x0,.int .i64 x1,.slice x2 x3 x4,.slice x5 x6 x7]:Array Value):=⟨⟩
def iD(x0 x1):M (#[.agg x0,.agg x1]:Array Value):=⟨⟩
def yV(x0 x1 x2 x3):M (#[.int .i64 x0,.int .i64 (x1:Nat),.slice x2 2 2,.slice x3 2 2]:Array Value):=⟨⟩
def yW(x0 x1 x2 x3):M (#[.int .i64 x0,.slice x1 x2 x3,.slice none 0 0,.slice none 0 0]:Array Value):=⟨⟩
def oJ(x0 x1 x2 x3 x4):M (#[.agg x0,.int .i64 x1,.slice x2 x3 x4]:Array Value):=⟨⟩
def mS(x0):M (#[.agg x0,.bool false]:Array Value):=⟨⟩
def qn(x0):M (#[.int .i64 1,.int .i64 x0]:Array Value):=⟨⟩
def jy(x0 x1):M (#[.agg x0,.bool x1]:Array Value):=⟨⟩
def DP:M (#[.int .i64 1,.int .i64 0,.int .i64 0,.int .i64 1]:Array Value):=⟨⟩
def DQ:M (#[.int .i64 0,.int .i64 1,.int .i64 1,.int .i64 0]:Array Value):=⟨⟩
def kX(x0 x1 x2 x3 x4 x5):M (#[.slice x0 x1 x2,.slice x3 x4 x5]:Array Value):=⟨⟩
def DR:M (#[.int .i64 1,.int .i64 1,.int .i64 1]:Array Value):=⟨⟩
def bG:=@List.getElem?_eq_some_iff
def cC:=@List.getElem?_map
def fh:=@List.map_set
def iE:=@List.length_set
def ef:=@List.getElem?_append_right
def eX:=@List.getElem?_drop
def bh:=@List.length_map
def cG:=@List.length_take
def gR:=@Nat.min_eq_left
def oK:=@Nat.sub_self
def iM:=@Nat.add_zero
def mT:=@List.drop_eq_getElem_cons
def dH:=@List.take_add_one
def kY:=@List.map_append
def lI:=@List.set_append_right
def fV:=@Nat.le_of_lt
def gS:=@List.ext_getElem?
def fB:=@List.getElem?_set_self
def eF:=@List.getElem?_set_ne
def vV:=@List.of_mem_zip
def ik:=@World.ownsRow.kept
def an:=@Or.inr
def fH:=@List.getElem?_replicate
def lJ:=@List.getElem?_range
def ay:=@if_pos
def gT:=@List.getElem?_eq_none
def av:=@if_neg
def oL:=@List.range_succ
def yX:=@List.any_append
def kZ:=@List.map_congr_left
def fW:=@decide_eq_false
def jz:=@Bool.eq_iff_iff
def k7:=@List.any_eq_true
def bE:=@Bool.and_eq_true
def bX:=@decide_eq_true_eq
def fi:=@List.mem_range
def vW:=@Bool.not_eq_true
def eh:=@List.mem_append
def au:=@Or.inl
def qp:=@List.mem_flatten
def cM:=@List.mem_map
def df:=@List.getElem?_append_left
def gm:=@List.getElem?_take
def fj:=@List.append_assoc
def oM:=@List.set_cons_zero
def sy:=@List.cons_append
def qs:=@List.nil_append
def cY:=@List.take_of_length_le
def iN:=@List.drop_of_length_le
def k9:=@List.append_nil
def bx:=@List.length_append
def gp:=@List.length_drop
def de:=@info_parts
def aR:=@Nat.le_trans
def vX:=@Nat.mul_le_mul_right
def aj:=@Below.refl
def af:=@Nat.le_refl
def jb:=@wpList_make_full
def dY:=@underlying26
def aX:=@Nat.zero_le
def fX:=@List.length_range
def aY:=@List.mem_of_getElem?
def bP:=@List.getD_eq_getElem?_getD
def aF:=@And.intro
def mU:=@beq_iff_eq
def bL:=@World.ownsRow.lt
def oN:=@List.count_le_length
def bM:=@IntKind.wrap_i64
def iF:=@List.length_replicate
def aT:=@Array.getElem?_eq_some_iff
def aE:=@bodyPost_ret
def mV:=@Nat.lt_of_succ_lt
def fC:=@List.eq_nil_of_length_eq_zero
def dt:=@World.size_alloc
def cZ:=@List.getElem?_cons_zero
def cP:=@List.getElem?_cons_succ
def fk:=@List.mem_iff_getElem?
def km:=@World.ownsRow.alloc
def jA:=@World.block_lt_of_cell?
def yY:=@DataW.trod_struct
def yZ:=@List.drop_zero
def DS:=@List.drop_succ_cons
def qt:=@List.take_succ_cons
def mW:=@List.take_zero
def qu:=@DataW.trod_int
def gE:=@underlying3
def oO:=@Nat.add_assoc
def vY:=@List.getElem?_set
def lK:=@Ne.symm
def dW:=@Value.slice.injEq
def mX:=@congrArg
def fY:=@Int.eq_ofNat_of_zero_le
def fZ:=@List.all_eq_true
def iG:=@Bool.or_eq_true
def y_:=@Int.mul_nonneg
def DT:=@Int.mul_le_mul_of_nonneg_right
def gU:=@Int.emod_nonneg
def gV:=@Int.emod_lt_of_pos
def zc:=@step_append_lies
def gF:=@underlying55
def sC:=@heap_alloc_old
def jc:=@List.length_cons
def il:=@List.length_nil
def bm:=@heap_setCell_same
def en:=@heap_setCell_other
def k_:=@List.take_length
def aZ:=@Below.heap_setCell
def kn:=@World.ownsRow.form
def gq:=@Nat.lt_succ_self
def ld:=@List.mem_flatMap
def eG:=@Nat.mul_one
def lL:=@World.ownsRow.cells
def qv:=@World.ownsRow_nil
def zd:=@wpList_append_own
def vZ:=@List.length_eq_zero_iff
def ko:=@List.mem_of_mem_drop
def dL:=@List.getElem?_eq_getElem
def mY:=@List.length_eraseIdx
def mZ:=@List.size_toArray
def iO:=@Nat.zero_add
def sD:=@step_append_room
def dZ:=@Option.some.injEq
def oP:=@List.map_map
def jd:=@World.grownBy.cell
def v_:=@World.cell?_of_block
def je:=@Option.some.inj
def fD:=@Nat.le_of_eq
def gG:=@Calls.mono
def wg:=@DataW.trod_lt
def sE:=@trodAll_cons_mk
def sF:=@of_decide_eq_true
def DU:=@List.flatten_append
def DV:=@List.take_append_drop
def oQ:=@List.map_nil
def m6:=@ntmps96
def sG:=@Addr.mk.injEq
def m7:=@results96
def sH:=@List.set_cons_succ
def lg:=@List.mem_cons_of_mem
def lh:=@List.mem_cons_self
def m8:=@if_true
def DW:=@Int.tmod_eq_emod_of_nonneg
def lj:=@wpList_plain
def qw:=@Bool.or_eq_false_iff
def qx:=@decide_eq_false_iff_not
def dQ:=@List.mem_cons
def jB:=@Below.setCell
def ze:=@wp_region_held_drew
def jD:=@wpAnyH_ready
def jE:=@AllReadyH.nil
def wj:=@World.cell?_setCell_other
def wk:=@Bool.not_eq_true'
def wm:=@Option.isSome_iff_exists
def wo:=@Bool.eq_false_iff
def wu:=@Nat.min_eq_right
def wv:=@List.mem_filter
def kp:=@List.mem_singleton
def gu:=@List.not_mem_nil
def m9:=@List.mem_append_left
def jF:=@List.mem_append_right
def wy:=@List.all_cons
def zf:=@List.all_append
def dn:=@wpQuiet_nil
def DX:=@List.getElem?_append
def wB:=@Nat.min_self
def wC:=@List.length_eraseIdx_of_lt
def zg:=@List.eraseIdx_eq_take_drop_succ
def lk:=@List.take_take
def wD:=@List.mem_of_mem_eraseIdx
def wE:=@World.ownsRow.drew
def oT:=@Below.grown
def zh:=@run_underlying
def DY:=@Option.map_eq_some_iff
def wF:=@World.ownsRow_lit
def wG:=@List.mem_of_mem_take
def lM:=@List.take_append_of_le_length
def gH:=@decide_eq_true
def m_:=@List.map_cons
def qy:=@List.flatten_cons
def wH:=@Nat.succ_mul
def oU:=@results16
def nf:=@setRow_other
def dI:=@Nat.lt_of_lt_of_le
def zi:=@List.getElem_mem
def jf:=@results149
def wI:=@Sem.run_bind
def wJ:=@Sem.run_pure
def wK:=@Result.andThen_ok
def zj:=@List.map_toArray
def wL:=@Nat.eq_zero_or_pos
def zk:=@List.length_singleton
def zl:=@wpList_append_own_at
def lN:=@List.length_eq_one_iff
def gI:=@or_false
def oV:=@Array.getElem?_toList
def wM:=@decide_eq_decide
def ng:=@underlying71
def DZ:=@List.pairwise_append
def wN:=@Nat.le_succ
def qz:=@Bool.true_eq_false
def jG:=@if_false
def qA:=@results219
def oW:=@results17
def wO:=@Bool.true_and
def wP:=@underlying37
def qB:=@Int.emod_eq_of_lt
def d_:=@func146
def ec:=@ntmps146
def ed:=@results146
def lO:=@func101
def lP:=@ntmps101
def eP:=@results101
def kq:=@Bool.false_and
def lQ:=@func136
def lR:=@ntmps136
def D0:=@List.getElem?_zipWith
def D6:=@List.getElem?_zipIdx
def D9:=@List.flatMap_append
def lS:=@func151
def lT:=@ntmps151
def lU:=@results151
def oX:=@run_copy_cells
def oY:=@Nat.min_def
def zm:=@wpList_append_lies
def fm:=@func95
def fp:=@ntmps95
def qC:=@results75
def oZ:=@func192
def o_:=@ntmps192
def pa:=@results192
def wQ:=@Array.getElem?_eq_none
variable{p:Prop}
theorem Z_(h:p:=by
 go_wp2_with fail
 refine cR (S:=fun W=>ae W w1.heap.size 2 (.slice (some ⟨g,0,none⟩) rows.length Ff)) 14 (by kernel_rfl) y2 (fun hHeld=>?_);refine aP 0 ?_;simp only[Act.put,zA];refine aP 1 ?_;simp only[Act.put,zA];refine aP 2 ?_;simp only[Act.put,zA];refine aP 3 ?_;simp only[Act.put,zA];refine aP 4 ?_;simp only[Act.put,zA];refine aP 5 ?_;simp only[Act.put,zA];refine aP 9 ?_;simp only[Act.put,zA];refine aP 10 ?_;simp only[Act.put,zA];refine aP 11 ?_;simp only[Act.put,zA];refine zfn (i:=6) (j:=7) (by kernel_rfl) rfl rfl (fun K hK=>?_) (fun K hK=>?_)
 .go_simp;refine(L1.o _ (aj _ _).drew).mono ?_;rintro e w2 ⟨u1,rfl,FJ,E9⟩;obtain⟨A1,c1,rfl⟩:∃A1 c1,u1=.slice A1 0 c1:=by obtain⟨A1,c1,e,_⟩:=FJ.view;exact⟨A1,c1,by rw[e];congr 1<;>(simp<;>omega)⟩
  obtain⟨H2,FI⟩:=bD ((aj wr.heap.size wr).drew.trans E9) FJ;clear FJ E9;go_simp;refine hK.out _ _ (fun _=>al H2.o y2) (fun hHeld=>?_);clear hK K;try simp only[Act.put,zA]
  have hHeld:=hHeld (by decide);refine cw 7 fun K hK=>?_
  go_simp;refine hK.out _ _ (fun _=>al (H2.o.alloc H2.o.size _) y2) (fun hHeld=>?_);clear hK K;try simp only[Act.put,zA]
  have hHeld:=hHeld (by decide);have Ha:=H2.o.alloc H2.o.size (.cells ij 3);have G8:aD (w2.alloc (.cells ij 3)) wr.heap.size (.slice A1 0 c1) ((([]:aH)).take 0):=FI.o.ext ((aj _ _).alloc (af _) _);have G4:=mf w2 0;obtain⟨FK,HZ,HC⟩:=dO G8 G4 Ha;clear G8 G4 Ha;refine cw 8 fun K hK=>?_
  refine cV rfl (.tmp 213) (.tmp 214) rfl wr.heap.size _ (.slice A1 0 c1) ((([]:aH)).take 0) [0] (some ⟨_,0,none⟩) 1 1 rfl rfl rfl FK.o HZ.o (by simp<;>omega) HC.o.size ?_;intro v2 w3 Hj G5;obtain⟨A2,c2,rfl⟩:∃A2 c2,v2=.slice A2 (0+1) c2:=by obtain⟨A2,c2,e,_⟩:=Hj.view;exact⟨A2,c2,by rw[e];congr 1<;>(simp<;>omega)⟩
  obtain⟨G_,Hm⟩:=bD (HC.o.trans G5) Hj;clear Hj G5;refine hK.out _ _ (fun _=>al G_.o y2) (fun hHeld=>?_);clear hK K;try simp only[Act.put,zA]
  have hHeld:=hHeld (by decide);refine cw 12 fun K hK=>?_
  refine cV rfl (.tmp 215) (.tmp 218) rfl wr.heap.size w3 (.slice A2 (0+1) c2) ((([]:aH)).take 0++[0]) ((([]:aH)).drop 0) (none) (0) (0) (by simp) rfl rfl Hm.o (ID.o.ext G_.o) (by simp<;>omega) G_.o.size ?_;intro v3 w4 Hh Hl;rw[show(([]:aH)).take 0++[0]++(([]:aH)).drop 0=cf (([]:aH)) 0 0 by simp[cf]]at Hh;obtain⟨A3,c3,rfl⟩:∃A3 c3,v3=.slice A3 ((([]:aH)).length+1) c3:=by obtain⟨A3,c3,e,_⟩:=Hh.view;exact⟨A3,c3,by rw[e,show(cf (([]:aH)) 0 (0:Int)).length=(([]:aH)).length+1 from jr _ _ _ (by omega)]⟩
  obtain⟨G6,Hi⟩:=bD (G_.o.trans Hl) Hh;clear Hh Hl;have G9:=al G6.o z0;have Hk:=gJ G6.o f0 (iC z0);have He:=zH (al G6.o y2);clear z0 f0;refine hK.out _ _ (fun _=>He.o) (fun hHeld=>?_);clear hK K y2;try simp only[Act.put,zA]
  have hHeld:=hHeld (by decide);refine cw 13 fun K hK=>?_
  go_simp;refine hK.out _ _ (fun _=>He.o) (fun hHeld=>?_);clear hK K;try simp only[Act.put,zA]
  have hHeld:=hHeld (by decide);refine cw 14 fun K hK=>?_
  go_simp;refine hK.out _ _ (fun h=>absurd h (by decide)) (fun _=>?_);clear hK K;try simp only[Act.put,zA]
  refine gN (by kernel_rfl) ?_ _;have Hf:=HW.o.size;have FM:=HO.o.put (dU _ _ _ hk).symm Hc.o (fu G6.o) (Hi.o.mono (B':=w.heap.size+3) (by omega)) (fun b hb=>an (Hi.o.lt b hb).1);rw[ix (fun r=>cf r 0 0) _ k (([]:aH)) Gj.o]at FM;obtain⟨HN,Fw,EN⟩:=dO FM ((en w4 ⟨g,k,none⟩ w1.heap.size (.slice A3 ((([]:aH)).length+1) c3) (by simp<;>omega)).trans ((G6.o.block w1.heap.size (by omega)).trans Fv.o)) (jB (HW.o.trans (G6.o.mono (by omega))) (p:=⟨g,k,none⟩) (by simp<;>omega) (.slice A3 ((([]:aH)).length+1) c3));clear FM;go_wp2;go_roundw
  case rel=>exact⟨k+1,by omega,by go_num,⟨_,HN.o⟩,Fw.o,EN.o⟩
  case measure=>simp[intOf];omega
 .go_simp;refine hK.out _ _ (fun _=>al ((aj _ _).drew.alloc (af _) _) y2) (fun hHeld=>?_);clear hK K;try simp only[Act.put,zA]
  have hHeld:=hHeld (by decide);refine cw 6 fun K hK=>?_
  go_simp;refine(L1.o _ ((aj _ _).drew.alloc (af _) _)).mono ?_;rintro e w2 ⟨u1,rfl,FJ,E9⟩;obtain⟨A1,c1,rfl⟩:∃A1 c1,u1=.slice A1 0 c1:=by obtain⟨A1,c1,e,_⟩:=FJ.view;exact⟨A1,c1,by rw[e];congr 1<;>(simp<;>omega)⟩
  have H2:=zH (((aj wr.heap.size wr).drew.alloc (af _) (.cells ij 3)).trans (E9.mono (by simp)));have G8:aD w2 wr.heap.size (.slice A1 0 c1) ((([]:aH)).take 0):=FJ.mono (by simp);have G4:=(mf wr.drew 0).ext E9;clear FJ E9;have Ha:=H2.o;go_simp;refine hK.out _ _ (fun _=>al H2.o y2) (fun hHeld=>?_);clear hK K;try simp only[Act.put,zA]
  have hHeld:=hHeld (by decide);obtain⟨FK,HZ,HC⟩:=dO G8 G4 Ha;clear G8 G4 Ha;refine cw 8 fun K hK=>?_
  refine cV rfl (.tmp 213) (.tmp 214) rfl wr.heap.size _ (.slice A1 0 c1) ((([]:aH)).take 0) [0] (some ⟨_,0,none⟩) 1 1 rfl rfl rfl FK.o HZ.o (by simp<;>omega) HC.o.size ?_;intro v2 w3 Hj G5;obtain⟨A2,c2,rfl⟩:∃A2 c2,v2=.slice A2 (0+1) c2:=by obtain⟨A2,c2,e,_⟩:=Hj.view;exact⟨A2,c2,by rw[e];congr 1<;>(simp<;>omega)⟩
  obtain⟨G_,Hm⟩:=bD (HC.o.trans G5) Hj;clear Hj G5;refine hK.out _ _ (fun _=>al G_.o y2) (fun hHeld=>?_);clear hK K;try simp only[Act.put,zA]
  have hHeld:=hHeld (by decide);refine cw 12 fun K hK=>?_
  refine cV rfl (.tmp 215) (.tmp 218) rfl wr.heap.size w3 (.slice A2 (0+1) c2) ((([]:aH)).take 0++[0]) ((([]:aH)).drop 0) (none) (0) (0) (by simp) rfl rfl Hm.o (ID.o.ext G_.o) (by simp<;>omega) G_.o.size ?_;intro v3 w4 Hh Hl;rw[show(([]:aH)).take 0++[0]++(([]:aH)).drop 0=cf (([]:aH)) 0 0 by simp[cf]]at Hh;obtain⟨A3,c3,rfl⟩:∃A3 c3,v3=.slice A3 ((([]:aH)).length+1) c3:=by obtain⟨A3,c3,e,_⟩:=Hh.view;exact⟨A3,c3,by rw[e,show(cf (([]:aH)) 0 (0:Int)).length=(([]:aH)).length+1 from jr _ _ _ (by omega)]⟩
  obtain⟨G6,Hi⟩:=bD (G_.o.trans Hl) Hh;clear Hh Hl;have G9:=al G6.o z0;have Hk:=gJ G6.o f0 (iC z0);have He:=zH (al G6.o y2);clear z0 f0;refine hK.out _ _ (fun _=>He.o) (fun hHeld=>?_);clear hK K y2;try simp only[Act.put,zA]
  have hHeld:=hHeld (by decide);refine cw 13 fun K hK=>?_
  go_simp;refine hK.out _ _ (fun _=>He.o) (fun hHeld=>?_);clear hK K;try simp only[Act.put,zA]
  have hHeld:=hHeld (by decide);refine cw 14 fun K hK=>?_
  go_simp;refine hK.out _ _ (fun h=>absurd h (by decide)) (fun _=>?_);clear hK K;try simp only[Act.put,zA]
  refine gN (by kernel_rfl) ?_ _;have Hf:=HW.o.size;have FM:=HO.o.put (dU _ _ _ hk).symm Hc.o (fu G6.o) (Hi.o.mono (B':=w.heap.size+3) (by omega)) (fun b hb=>an (Hi.o.lt b hb).1);rw[ix (fun r=>cf r 0 0) _ k (([]:aH)) Gj.o]at FM;obtain⟨HN,Fw,EN⟩:=dO FM ((en w4 ⟨g,k,none⟩ w1.heap.size (.slice A3 ((([]:aH)).length+1) c3) (by simp<;>omega)).trans ((G6.o.block w1.heap.size (by omega)).trans Fv.o)) (jB (HW.o.trans (G6.o.mono (by omega))) (p:=⟨g,k,none⟩) (by simp<;>omega) (.slice A3 ((([]:aH)).length+1) c3));clear FM;go_wp2;go_roundw
  case rel=>exact⟨k+1,by omega,by go_num,⟨_,HN.o⟩,Fw.o,EN.o⟩
  case measure=>simp[intOf];omega):p:=h
theorem Z9(h:p:=by
 go_wp2_with fail
 refine cR (S:=fun W=>ae W w1.heap.size 2 (.slice (some ⟨g,0,none⟩) rows.length Ff)) 14 (by kernel_rfl) y2 (fun hHeld=>?_);refine aP 0 ?_;simp only[Act.put,zA];refine aP 1 ?_;simp only[Act.put,zA];refine aP 2 ?_;simp only[Act.put,zA];refine aP 3 ?_;simp only[Act.put,zA];refine aP 4 ?_;simp only[Act.put,zA];refine aP 5 ?_;simp only[Act.put,zA];refine aP 9 ?_;simp only[Act.put,zA];refine aP 10 ?_;simp only[Act.put,zA];refine aP 11 ?_;simp only[Act.put,zA];refine zfn (i:=6) (j:=7) (by kernel_rfl) rfl rfl (fun K hK=>?_) (fun K hK=>?_)
 .go_simp;refine(L1.o _ (aj _ _).drew).mono ?_;rintro e w2 ⟨u1,rfl,FJ,E9⟩;obtain⟨A1,c1,rfl⟩:∃A1 c1,u1=.slice A1 q c1:=by obtain⟨A1,c1,e,_⟩:=FJ.view;exact⟨A1,c1,by rw[e];congr 1<;>(simp<;>omega)⟩
  obtain⟨H2,FI⟩:=bD ((aj wr.heap.size wr).drew.trans E9) FJ;clear FJ E9;go_simp;refine hK.out _ _ (fun _=>al H2.o y2) (fun hHeld=>?_);clear hK K;try simp only[Act.put,zA]
  have hHeld:=hHeld (by decide);refine cw 7 fun K hK=>?_
  go_simp;refine hK.out _ _ (fun _=>al (H2.o.alloc H2.o.size _) y2) (fun hHeld=>?_);clear hK K;try simp only[Act.put,zA]
  have hHeld:=hHeld (by decide);have Ha:=H2.o.alloc H2.o.size (.cells ij 3);have G8:aD (w2.alloc (.cells ij 3)) wr.heap.size (.slice A1 q c1) ((r).take q):=FI.o.ext ((aj _ _).alloc (af _) _);have G4:=mf w2 0;obtain⟨FK,HZ,HC⟩:=dO G8 G4 Ha;clear G8 G4 Ha;refine cw 8 fun K hK=>?_
  refine cV rfl (.tmp 213) (.tmp 214) rfl wr.heap.size _ (.slice A1 q c1) ((r).take q) [0] (some ⟨_,0,none⟩) 1 1 rfl rfl rfl FK.o HZ.o (by simp<;>omega) HC.o.size ?_;intro v2 w3 Hj G5;obtain⟨A2,c2,rfl⟩:∃A2 c2,v2=.slice A2 (q+1) c2:=by obtain⟨A2,c2,e,_⟩:=Hj.view;exact⟨A2,c2,by rw[e];congr 1<;>(simp<;>omega)⟩
  obtain⟨G_,Hm⟩:=bD (HC.o.trans G5) Hj;clear Hj G5;refine hK.out _ _ (fun _=>al G_.o y2) (fun hHeld=>?_);clear hK K;try simp only[Act.put,zA]
  have hHeld:=hHeld (by decide);refine cw 12 fun K hK=>?_
  refine cV rfl (.tmp 215) (.tmp 218) rfl wr.heap.size w3 (.slice A2 (q+1) c2) ((r).take q++[0]) ((r).drop q) (some A9) (r.length-q) (cr-q) (by simp) rfl rfl Hm.o (ID.o.ext G_.o) (by simp<;>omega) G_.o.size ?_;intro v3 w4 Hh Hl;rw[show(r).take q++[0]++(r).drop q=cf (r) q 0 by simp[cf]]at Hh;obtain⟨A3,c3,rfl⟩:∃A3 c3,v3=.slice A3 ((r).length+1) c3:=by obtain⟨A3,c3,e,_⟩:=Hh.view;exact⟨A3,c3,by rw[e,show(cf (r) q (0:Int)).length=(r).length+1 from jr _ _ _ (by omega)]⟩
  obtain⟨G6,Hi⟩:=bD (G_.o.trans Hl) Hh;clear Hh Hl;have G9:=al G6.o z0;have Hk:=gJ G6.o f0 (iC z0);have He:=zH (al G6.o y2);clear z0 f0;refine hK.out _ _ (fun _=>He.o) (fun hHeld=>?_);clear hK K y2;try simp only[Act.put,zA]
  have hHeld:=hHeld (by decide);refine cw 13 fun K hK=>?_
  go_simp;refine hK.out _ _ (fun _=>He.o) (fun hHeld=>?_);clear hK K;try simp only[Act.put,zA]
  have hHeld:=hHeld (by decide);refine cw 14 fun K hK=>?_
  go_simp;refine hK.out _ _ (fun h=>absurd h (by decide)) (fun _=>?_);clear hK K;try simp only[Act.put,zA]
  refine gN (by kernel_rfl) ?_ _;have Hf:=HW.o.size;have FM:=HO.o.put (dU _ _ _ hk).symm Hc.o (fu G6.o) (Hi.o.mono (B':=w.heap.size+3) (by omega)) (fun b hb=>an (Hi.o.lt b hb).1);rw[ix (fun r=>cf r q 0) _ k (r) Gj.o]at FM;obtain⟨HN,Fw,EN⟩:=dO FM ((en w4 ⟨g,k,none⟩ w1.heap.size (.slice A3 ((r).length+1) c3) (by simp<;>omega)).trans ((G6.o.block w1.heap.size (by omega)).trans Fv.o)) (jB (HW.o.trans (G6.o.mono (by omega))) (p:=⟨g,k,none⟩) (by simp<;>omega) (.slice A3 ((r).length+1) c3));clear FM;go_wp2;go_roundw
  case rel=>exact⟨k+1,by omega,by go_num,⟨_,HN.o⟩,Fw.o,EN.o⟩
  case measure=>simp[intOf];omega
 .go_simp;refine hK.out _ _ (fun _=>al ((aj _ _).drew.alloc (af _) _) y2) (fun hHeld=>?_);clear hK K;try simp only[Act.put,zA]
  have hHeld:=hHeld (by decide);refine cw 6 fun K hK=>?_
  go_simp;refine(L1.o _ ((aj _ _).drew.alloc (af _) _)).mono ?_;rintro e w2 ⟨u1,rfl,FJ,E9⟩;obtain⟨A1,c1,rfl⟩:∃A1 c1,u1=.slice A1 q c1:=by obtain⟨A1,c1,e,_⟩:=FJ.view;exact⟨A1,c1,by rw[e];congr 1<;>(simp<;>omega)⟩
  have H2:=zH (((aj wr.heap.size wr).drew.alloc (af _) (.cells ij 3)).trans (E9.mono (by simp)));have G8:aD w2 wr.heap.size (.slice A1 q c1) ((r).take q):=FJ.mono (by simp);have G4:=(mf wr.drew 0).ext E9;clear FJ E9;have Ha:=H2.o;go_simp;refine hK.out _ _ (fun _=>al H2.o y2) (fun hHeld=>?_);clear hK K;try simp only[Act.put,zA]
  have hHeld:=hHeld (by decide);obtain⟨FK,HZ,HC⟩:=dO G8 G4 Ha;clear G8 G4 Ha;refine cw 8 fun K hK=>?_
  refine cV rfl (.tmp 213) (.tmp 214) rfl wr.heap.size _ (.slice A1 q c1) ((r).take q) [0] (some ⟨_,0,none⟩) 1 1 rfl rfl rfl FK.o HZ.o (by simp<;>omega) HC.o.size ?_;intro v2 w3 Hj G5;obtain⟨A2,c2,rfl⟩:∃A2 c2,v2=.slice A2 (q+1) c2:=by obtain⟨A2,c2,e,_⟩:=Hj.view;exact⟨A2,c2,by rw[e];congr 1<;>(simp<;>omega)⟩
  obtain⟨G_,Hm⟩:=bD (HC.o.trans G5) Hj;clear Hj G5;refine hK.out _ _ (fun _=>al G_.o y2) (fun hHeld=>?_);clear hK K;try simp only[Act.put,zA]
  have hHeld:=hHeld (by decide);refine cw 12 fun K hK=>?_
  refine cV rfl (.tmp 215) (.tmp 218) rfl wr.heap.size w3 (.slice A2 (q+1) c2) ((r).take q++[0]) ((r).drop q) (some A9) (r.length-q) (cr-q) (by simp) rfl rfl Hm.o (ID.o.ext G_.o) (by simp<;>omega) G_.o.size ?_;intro v3 w4 Hh Hl;rw[show(r).take q++[0]++(r).drop q=cf (r) q 0 by simp[cf]]at Hh;obtain⟨A3,c3,rfl⟩:∃A3 c3,v3=.slice A3 ((r).length+1) c3:=by obtain⟨A3,c3,e,_⟩:=Hh.view;exact⟨A3,c3,by rw[e,show(cf (r) q (0:Int)).length=(r).length+1 from jr _ _ _ (by omega)]⟩
  obtain⟨G6,Hi⟩:=bD (G_.o.trans Hl) Hh;clear Hh Hl;have G9:=al G6.o z0;have Hk:=gJ G6.o f0 (iC z0);have He:=zH (al G6.o y2);clear z0 f0;refine hK.out _ _ (fun _=>He.o) (fun hHeld=>?_);clear hK K y2;try simp only[Act.put,zA]
  have hHeld:=hHeld (by decide);refine cw 13 fun K hK=>?_
  go_simp;refine hK.out _ _ (fun _=>He.o) (fun hHeld=>?_);clear hK K;try simp only[Act.put,zA]
  have hHeld:=hHeld (by decide);refine cw 14 fun K hK=>?_
  go_simp;refine hK.out _ _ (fun h=>absurd h (by decide)) (fun _=>?_);clear hK K;try simp only[Act.put,zA]
  refine gN (by kernel_rfl) ?_ _;have Hf:=HW.o.size;have FM:=HO.o.put (dU _ _ _ hk).symm Hc.o (fu G6.o) (Hi.o.mono (B':=w.heap.size+3) (by omega)) (fun b hb=>an (Hi.o.lt b hb).1);rw[ix (fun r=>cf r q 0) _ k (r) Gj.o]at FM;obtain⟨HN,Fw,EN⟩:=dO FM ((en w4 ⟨g,k,none⟩ w1.heap.size (.slice A3 ((r).length+1) c3) (by simp<;>omega)).trans ((G6.o.block w1.heap.size (by omega)).trans Fv.o)) (jB (HW.o.trans (G6.o.mono (by omega))) (p:=⟨g,k,none⟩) (by simp<;>omega) (.slice A3 ((r).length+1) c3));clear FM;go_wp2;go_roundw
  case rel=>exact⟨k+1,by omega,by go_num,⟨_,HN.o⟩,Fw.o,EN.o⟩
  case measure=>simp[intOf];omega):p:=h
theorem Z8(h:p:=by
 obtain⟨n0,n1,n2,n3⟩:=aA FT;have EK:=ah Ho.o FC;have Hz:=zH EK;obtain⟨-,q1,-,-⟩:=aA EK;have S0:=aF q1 (aF n0 (aF n1 (aF n2 n3)));clear x0 x1 x2 x3 hi1 hi2 L1 L2 N1 N2 FC FT n0 n1 n2 n3 EK q1;refine cR (S:=fun V=>ae V Z 1 (.slice C1 k m1)/\ae V wr.heap.size 0 (.int .i64 ek)/\ae V wr.heap.size 1 (.int .i64 ev)/\ae V wr.heap.size 2 (.slice D1 ei.length d1)/\ae V wr.heap.size 3 (.slice D2 FR.length d2)) 18 (by kernel_rfl) S0 (fun hHeld=>?_);refine aP 0 ?_;simp only[Act.put,zA];refine aP 1 ?_;simp only[Act.put,zA];refine aP 2 ?_;simp only[Act.put,zA];refine aP 3 ?_;simp only[Act.put,zA];refine aP 4 ?_;simp only[Act.put,zA];refine aP 5 ?_;simp only[Act.put,zA];refine aP 6 ?_;simp only[Act.put,zA];refine aP 7 ?_;simp only[Act.put,zA];refine aP 8 ?_;simp only[Act.put,zA];refine aP 10 ?_;simp only[Act.put,zA];refine aP 11 ?_;simp only[Act.put,zA];refine aP 12 ?_;simp only[Act.put,zA];refine cw 9 fun K hK=>?_
 go_simp;refine(H7.o _ (Gq.o.drew)).mono ?_;rintro e w7 ⟨F1,g1,rfl,FJ,EG⟩;obtain⟨Fh,Ie,FI⟩:=dO (Gq.o.drew.trans (EG.mono Gq.o.size)) ((az w2).trans EG) (FJ.to (lo':=wr.heap.size) Gq.o.size (af _));clear FJ EG;go_simp;have S1:=iS Ie.o S0;refine hK.out _ _ (fun _=>S1) (fun hHeld=>?_);clear hK K hHeld;try simp only[Act.put,zA]
 refine cw 13 fun K hK=>?_
 go_simp;refine(Fv.o _ Fh.o).mono ?_;rintro e w8 ⟨F2,g2,rfl,Fa,E9⟩;obtain⟨Hp,Hs,FK,Ht⟩:=fU (Fh.o.trans (E9.mono Fh.o.size)) E9 (Fa.to (lo':=wr.heap.size) Fh.o.size (af _)) (ah (ah Hz.o Ie.o) E9);clear Fa E9;go_simp;have S2:=iS Hs.o S1;refine hK.out _ _ (fun _=>S2) (fun hHeld=>?_);clear hK K hHeld;try simp only[Act.put,zA]
 refine cw 14 fun K hK=>?_
 go_simp;refine hK.out _ _ (fun _=>S2) (fun hHeld=>?_);clear hK K hHeld;try simp only[Act.put,zA]
 refine cw 15 fun K hK=>?_
 go_simp;have S3:=iS (ak w8 (.cells (eD ek ev F1 ei g1 F2 FR g2) 155)) S2;refine hK.out _ _ (fun _=>S3) (fun hHeld=>?_);clear hK K hHeld;try simp only[Act.put,zA]
 obtain⟨H_,Hv⟩:=bD (aC w8 (.cells (eD ek ev F1 ei g1 F2 FR g2) 155) rfl) (ak w8 (.cells (eD ek ev F1 ei g1 F2 FR g2) 155));have Ii:=zH ((H8.o.ext Hp.o).ext Hv.o);have Ih:=zH (show iV yp (w8.alloc (.cells (eD ek ev F1 ei g1 F2 FR g2) 155)) wc.heap.size (.slice C1 k m1) (Ed.map f ⟨ek,ev,ei,FR⟩) [.int .i64 ek,.int .i64 ev,.slice F1 ei.length g1,.slice F2 FR.length g2] from by
  obtain⟨cs,ho⟩:=H8.o;refine⟨wr.heap.size,w8.heap.size,FO,Hv.o.size,fun g e=>au ((bL ho.outer g e).2),?_⟩;refine Fr.imp (((FI.o.ext Hs.o (af _)).to (af _) Hs.o.size |>.and FK.o).ext Hv.o (af _)) fun V hV=>⟨F1,g1,F2,g2,?_,hV.1,hV.2⟩
  simp[Ed.map])
 obtain⟨Ig,If⟩:=bD (show wc.heap.size<=(w8.alloc (.cells (eD ek ev F1 ei g1 F2 FR g2) 155)).heap.size from aR FO (aR Hp.o.size Hv.o.size)) (ah Ht.o Hv.o);generalize w8.alloc _=w9 at H_ Hv Ii Ih Ig If S3 ⊢;have H4:=zH (zbe Ii.o If.o (by decide));refine cw 16 fun K hK=>?_
 refine fN zf0 rfl (.tmp 28) (.tmp 42) rfl wc.heap.size w9 (.slice C1 k m1) ((es.map (Ed.map f)).take k) (Ed.map f ⟨ek,ev,ei,FR⟩) [.int .i64 ek,.int .i64 ev,.slice F1 ei.length g1,.slice F2 FR.length g2] w8.heap.size Ii.o rfl (by simp[Value.oneCell']) Ih.o (by rw[Hw.o];omega) Ig.o rfl rfl H_.o ?_;intro g5 Gp w5 Ic H5 Ia Gm;rw[Hw.o]at Ic ⊢;obtain⟨Hq,FB,Gn,Ij⟩:=fU Ic Gm ((H5.block Z (aT.1 If.o).1 (fun e=>H4.o e.symm)).trans If.o) (show bn Z (Z+1) wc w5 from(Gs.o.trans (bn.eu (Hp.o.trans (Hv.o.mono Hp.o.size)))).low Gm);obtain⟨z0,z1,z2,z3⟩:=aA Gn.o;obtain⟨y0,y1,y2,y3⟩:=bZ Gn.o;have Gl:some wr.heap.size≠(Value.slice C1 k m1).ownBlock:=fun e=>by obtain⟨cs,ho⟩:=H8.o;have:=(bL ho.outer _ e.symm).2;omega
 have S4:=aF z1 (aF (jd H5 S3.2.1 Gl) (aF (jd H5 S3.2.2.1 Gl) (aF (jd H5 S3.2.2.2.1 Gl) (jd H5 S3.2.2.2.2 Gl))));clear Ic H5 Ia Gm Gl;refine hK.out _ _ (fun _=>S4) (fun hHeld=>?_);clear hK K hHeld;try simp only[Act.put,zA]
 refine cw 17 fun K hK=>?_
 go_simp;refine hK.out _ _ (fun _=>S4) (fun hHeld=>?_);clear hK K hHeld;try simp only[Act.put,zA]
 refine cw 18 fun K hK=>?_
 go_simp;refine hK.out _ _ (fun h=>absurd h (by decide)) (fun _=>?_);clear hK K;try simp only[Act.put,zA]
 refine gN (by kernel_rfl) ?_ _;have Fg:=bm w5 Z 1 _ _ (.slice (some ⟨g5,0,none⟩) (k+1) Gp) Gn.o;simp only[zA]at Fg;obtain⟨FQ,Ib,FP⟩:=dO Fg (Hq.o.setCell (a:=⟨Z,1,none⟩) (by have:=Hu.o;exact this) (.slice (some ⟨g5,0,none⟩) (k+1) Gp)) (Ij.o.nC (p:=⟨Z,1,none⟩) (v:=.slice (some ⟨g5,0,none⟩) (k+1) Gp) (af _) (gq _));clear Fg S0 S1 S2 S3 S4 z0 z1 z2 z3 y0 y1 y2 y3;go_wp2;go_roundw
 case rel=>exact⟨k+1,by omega,by go_num,⟨_,_,FQ.o,by rw[E_.o];exact Ib.o⟩,FP.o⟩
 case measure=>simp[intOf];omega):p:=h
theorem Z5(h:p:=by
 go_upto_region 15 with(fail)
 clear S0 S1;rw[<-JZ.o];obtain⟨Ka,IE,IC,JW,Gn⟩:=mD Gv J0 (bI (Gq.o.trans (ET.o.mono Gq.o.size)) (b:=w2.heap.size) (af _) (.int .i64 (G.w:Nat)) (.slice D1 G.es.length d1) (.slice D2 G.i.length d2) (.slice D3 G.o.length d3)) (HF.o.dC (v0:=.int .i64 (G.w:Nat)) (v1:=.slice D1 G.es.length d1) (v2:=.slice D2 G.i.length d2) (v3:=.slice D3 G.o.length d3) (b:=w2.heap.size) Gt.o) (cd (v0:=.int .i64 (G.w:Nat)) (v1:=.slice D1 G.es.length d1) (v2:=.slice D2 G.i.length d2) (v3:=.slice D3 G.o.length d3) HZ.o);have J8:(dC w4 w2.heap.size (.int .i64 (G.w:Nat)) (.slice D1 G.es.length d1) (.slice D2 G.i.length d2) (.slice D3 G.o.length d3)).heap.size=w4.heap.size:=dV;have Kc:=zH J8;clear J8 Gv J0 r0 r1 r2 r3 f0 f1 f2 f3;unfold dC at IC JW Gn Kc;generalize (((w4.setCell ⟨w2.heap.size,0,none⟩ _).setCell ⟨w2.heap.size,1,none⟩ _).setCell ⟨w2.heap.size,2,none⟩ _).setCell ⟨w2.heap.size,3,none⟩ _=w5 at IC JW Gn Kc ⊢;obtain⟨z0,z1,z2,z3⟩:=aA Gn.o;have J1:=zH (qZ G D1 D2 D3 d1 d2 d3 w5 JW.o.now Ka.o IE.o.w IE.o.es IE.o.i IE.o.o);have J2:=zH (show W.heap.size<=w3.heap.size from aR (show W.heap.size<=w2.heap.size by have:=Fb.o;omega) (fV Gt.o))
 have JX:=zH (show ∀g,(Value.slice A6 m c6).ownBlock=some g->g<w3.heap.size from fun g e=>by obtain⟨cs,h⟩:=JU.o;have:=(bL h.outer g e).2;have:=Gt.o;omega)
 cases Gl:gM G
 .have J6:=zH (show t.np=false by
   have h1:=Iw.o Gl;rw[J7.o]at h1;by_cases h:t.np=true
   .rw[ay h]at h1;cases h1
   .simpa using h)
  rw[Gl]at J1;clear Gl;go_wp2_with (go_at_call 124;refine J1.o.mono ?_;rintro e w6 ⟨rfl,hb⟩;have hz:=ah (ah IA.o IC.o) hb;obtain⟨r0,r1,r2,r3⟩:=aA hz;obtain⟨f0,f1,f2,f3⟩:=bZ hz;have J4:=zH hz;have Gw:=zH ((EP.o.trans (IC.o.mono EP.o.size)).trans (hb.mono (EP.o.trans (IC.o.mono EP.o.size)).size));clear hz hb)
  have y:=cd (v0:=()) (v1:=bW) (v2:=bW) (v3:=bW) J4.o;obtain⟨y0,y1,y2,y3⟩:=aA y;unfold dC at y0 y1 y2 y3;exact aE (v:=.tuple (cJ bQ)) (by simp[results,results85,go_sem, *]) rfl (au ⟨J6.o,rfl,bI Gw.o (b:=w.heap.size+1) (by omega) _ _ _ _⟩)
 .have J_:=zH (Io.o Gl);rw[Gl]at J1;clear Gl;go_upto_region 17 with(go_at_call 124;refine J1.o.mono ?_;rintro e w6 ⟨rfl,hb⟩;have J4:=zH (ah Gn.o hb);have JV:=zH hb;clear hb)
  have FC:=ak w6 (.cells (bl G D1 d1 D2 d2 D3 d3) 54);obtain⟨JY,J5⟩:=bD ((IC.o.trans (JV.o.mono IC.o.size)).trans (FC.mono (IC.o.trans (JV.o.mono IC.o.size)).size)) (JV.o.trans (FC.mono JV.o.size));clear z0 z1 z2 z3 FC;obtain⟨z0,z1,z2,z3⟩:=aA J4.o;go_upto_region 18 with((at_builtin;refine cL zg4 rfl (.tmp 60) (.tmp 62) rfl W.heap.size (w6.alloc (.cells (bl G D1 d1 D2 d2 D3 d3) 54)) (.slice A6 m c6) (qE T0) G [.int .i64 (G.w:Nat),.slice D1 G.es.length d1,.slice D2 G.i.length d2,.slice D3 G.o.length d3] w6.heap.size (JU.o.ext JY.o) rfl (by simp[Value.oneCell']) ⟨w3.heap.size,w4.heap.size,J2.o,aR (fD Kc.o.symm) J5.o.size,fun g e=>au (JX.o g e),(JW.o.ext J5.o (fD Kc.o.symm)).imp fun V hV=>⟨D1,d1,D2,d2,D3,d3,rfl,hV⟩⟩ (by rw[Gx.o];omega) (by have:=J2.o;have:=Gt.o;have:=Fb.o;have:=JY.o.size;omega) rfl rfl (aC w6 _ rfl) ?_;intro g8 Im w8 IF IG Ix Ip;rw[Gx.o]at IF ⊢;have Fi:=zH IF;have Fj:=zH Ip;clear IF IG Ix Ip))
  obtain⟨Iz,IB⟩:=bD ((Fj.o.block (w.heap.size+1) (by have:=FD.o;omega)).trans (ah IA.o JY.o)) ((EP.o.trans (JY.o.mono EP.o.size)).trans (Fj.o.mono (by have:=FD.o;omega)));go_wp2;go_roundw
  case rel=>exact⟨k+1,U::T0,by go_num,J_.o,by rw[Iy.o];exact Fi.o,Iz.o,IB.o,by have:=Fb.o;have:=JY.o.size;have:=Fj.o.size;omega⟩
  case measure=>simp[intOf];omega):p:=h
theorem Z4(h:p:=by
 go_simp;refine hK.out _ _ (fun _=>kf (by iterate 8 (first|done|exact az _|exact aj _ _|refine l6 ?_|refine l9 ?_)) S0) (fun hHeld=>?_);clear hK K hHeld;try simp only[Act.put,zA]
 refine cw 17 fun K hK=>?_
 go_simp
 (with_reducible refine gG (FU.o _ _ _ ?_ ?_) ?_)
 .iterate 8 (first|done|with_reducible refine ow ?_|(with_reducible refine aC _ _ ?_;simp;done)|with_reducible refine ou ?_)
 .iterate 8 (first|done|with_reducible refine ow ?_|(with_reducible refine aC _ _ ?_;simp;done)|with_reducible refine ou ?_)
 rintro e w7 ⟨g7,rfl,ha,hb⟩;have Kd:ag wr w7:=xY hb (by iterate 8 (first|done|exact az _|exact aj _ _|refine l6 ?_|refine l9 ?_));obtain⟨Fh,Kh⟩:=bD Kd (show aD w7 wr.heap.size (.slice (some ⟨g7,0,none⟩) N N) row from ha.a.mono (by simp;omega));clear ha hb Kd;go_simp;refine hK.out _ _ (fun _=>kf Fh.o S0) (fun hHeld=>?_);clear hK K hHeld;try simp only[Act.put,zA]
 refine cw 18 fun K hK=>?_
 go_simp;refine hK.out _ _ (fun _=>kf (Fh.o.alloc Fh.o.size _) S0) (fun hHeld=>?_);clear hK K hHeld;try simp only[Act.put,zA]
 refine cw 19 fun K hK=>?_
 refine ns rfl (.tmp 32) (.tmp 49) rfl w3.heap.size wr w7 (.slice C1 k m1) (.slice (some ⟨g7,0,none⟩) N N) _ row IL.o.own Fh.o Kh.o (by rw[IL.o.len];omega) IL.o.le rfl rfl ?_;intro g5 Gp w5 Kg Gm Kf Ke;rw[IL.o.len]at Kg ⊢;obtain⟨Fg,Ki⟩:=Du.stored IL.o Kg Gm;obtain⟨z0,z1,z2⟩:=aG Ki;obtain⟨f0,f1,f2⟩:=bR Ki;obtain⟨FQ,FB⟩:=bD Fg Gm;clear Kg Gm Kf Ke Fg Ki;refine hK.out _ _ (fun h=>absurd h (by decide)) (fun _=>?_);clear hK K;try simp only[Act.put,zA]
 refine cw 20 fun K hK=>?_
 go_simp;refine hK.out _ _ (fun h=>absurd h (by decide)) (fun _=>?_);clear hK K;try simp only[Act.put,zA]
 refine cw 21 fun K hK=>?_
 go_simp;refine hK.out _ _ (fun h=>absurd h (by decide)) (fun _=>?_);clear hK K;try simp only[Act.put,zA]
 refine gN (by kernel_rfl) ?_ _;clear S0 z0 z1 z2 f0 f1 f2;go_wp2;go_roundw
 case rel=>
  have h:=FQ.o;rw[<-E_.o]at h;exact⟨k+1,_,_,by omega,by go_num,h,(Fc.o.trans (FB.o.mono (fV Gt.o))).setCell (p:=⟨w2.heap.size,2,none⟩) (af _) _⟩
 case measure=>simp[intOf];omega):p:=h
theorem Z3(h:p:=by
 refine mA rfl (fun K hK=>?_) jE;go_simp;refine hK.out _ _ (by assumption) (fun hHeld=>?_);clear hK K;try simp only[Act.put,zA]
 refine ep 20 ?_;simp only[Act.put,zA];refine jD (rs:=[21]) (by kernel_rfl) (by simp) ?_;refine mA rfl (fun K hK=>?_) jE;go_simp;refine hK.out _ _ (by refine⟨?_,?_,?_⟩<;>(refine(eV (by simp<;>omega)).trans ?_;assumption)) (fun hHeld=>?_);clear hK K;try simp only[Act.put,zA]
 refine ep 22 ?_;simp only[Act.put,zA];refine jD (rs:=[23]) (by kernel_rfl) (by simp) ?_;refine mA rfl (fun K hK=>?_) jE;have z3:(W2.drew.setCell ⟨g,a.toNat,none⟩ (.slice Ab rb.length cb)).cell? ⟨g,b.toNat,none⟩=some (.slice Ab rb.length cb):=by rw[wj _ _ _ _ (by simp<;>omega)];simpa using z1
 have z4:(W2.drew.setCell ⟨g,a.toNat,none⟩ (.slice Ab rb.length cb)).frozen? ⟨g,b.toNat,none⟩=false:=by simpa using f1
 go_simp;refine hK.out _ _ (by refine⟨?_,?_,?_⟩<;>(refine(bV (by simp<;>omega)).trans ((eV (by simp<;>omega)).trans ?_);assumption)) (fun hHeld=>?_);clear hK K;refine wpAnyH_done (by kernel_rfl) ?_ _;clear hHeld;try dsimp only
 obtain⟨W5,Kj⟩:=aM (((W2.setCell ⟨g,a.toNat,none⟩ (.slice Ab rb.length cb)).setCell ⟨g,b.toNat,none⟩ (.slice Aa ra.length ca)).drew);rw[<-Kj];obtain⟨e0,e1,e2,e3,e4,e5,e6,e7,e8,e9,Kl⟩:=Kk W5 Kj;obtain⟨HO,HE⟩:=bD e9 Kl;clear Kk e9 Kl Kj z3 z4 y0 y1 x2 r0 r1 r2 s0 s1 s2 z0 z1 f0 f1;go_wp2;refine aE (v:=.agg (ar v h (some ⟨g,0,none⟩) rows Ff)) (by simp[results,results245,go_sem, *]) rfl ⟨_,rfl,?_,?_⟩
 .rw[HA.o,HB.o];exact(((HO.o.setCell (by simp<;>omega) _).setCell (by simp<;>omega) _).setCell (by simp<;>omega) _).mono (by omega)
 .exact((HE.o.setCell (by simp<;>omega) _).setCell (by simp<;>omega) _).setCell (by simp<;>omega) _):p:=h
theorem Z1(h:p:=by
 obtain⟨k,hk,rfl,hi,Jc⟩:=hrel;clear z0 z1 z2 z3;by_cases EH:k<es.length
 .obtain⟨e,he⟩:=aB EH;obtain⟨eb,eo,D1,d1,D2,d2,rfl,u0,u1,u2,u3,hi1,hi2⟩:=gZ Jb.o.es he;have ER:=Gy.o wr Jc;have x0:=al ER u0;have x1:=al ER u1;have x2:=al ER u2;have x3:=al ER u3;obtain⟨L1,L2⟩:=LE.o e (aY he);obtain⟨M1,M2⟩:=I9.o e (aY he);have HF:=zH (I8.o k e he);obtain⟨ek,ev,ei,FR⟩:=e;dsimp only at x0 x1 x2 x3 hi1 hi2 L1 L2 M1 M2 HF;obtain⟨FC,FT⟩:=bA wr (.cells (eD ek ev D1 ei d1 D2 FR d2) 155);have FO:=Jc.size;obtain⟨Ja,I0,Gz,Jd⟩:=fU (HI.o _ _ _ hi FC) (Jc.trans (bn.eu FC)) hi1 hi2;clear he hi Jc hi1 hi2 ER u0 u1 u2 u3;go_upto_region 6 with(fail)
  generalize wr.alloc _=w5 at FC FT Ja I0 ⊢;obtain⟨n0,n1,n2,n3⟩:=aA FT;obtain⟨I5,FW⟩:=bD FT (HH.o _ ei D1 d1 w5 Ja.o Gz.o (Gy.o _ I0.o) L1 M1);clear x0 x1 x2 x3 FT FC;go_wp2_with fail
  refine FW.o.mono ?_;rintro e w6 ⟨rfl,I4,I3⟩;have I7:=iY I5.o I3 (an (aR I2 FO));obtain⟨m0,m1,m2,m3⟩:=aA I7;have FP:=zH (I0.o.trans I3);have FV:=zH (HH.o _ FR D2 d2 w6 I4 Jd.o (Gy.o _ FP.o) L2 M2);clear I7 I4 I3 n0 n1 n2 n3 FW;go_wp2_with fail
  refine FV.o.mono ?_;rintro e w7 ⟨rfl,I_,Je⟩;obtain⟨Jf,I6⟩:=bD I_ (FP.o.trans Je);clear I_ Je m0 m1 m2 m3 FV;go_wp2;go_roundw
  case rel=>exact⟨k+1,by omega,by go_num,by rw[HF.o,<-fj,<-fj];exact Jf.o,I6.o⟩
  case measure=>simp[intOf];omega
 .obtain rfl:k=es.length:=by omega
  rw[cY (af _)]at hi;obtain⟨Jg,FX⟩:=bD hi Jc;clear hi Jc;go_wp2;go_end0
  exact⟨rfl,Jg.o,FX.o⟩):p:=h
theorem Z0(h:p:=by
 go_wp2;go_loopw [13] (fun i wr=>∃k:Nat,k<=xs.length/\i=.int .i64 k/\xs.take k=ys.take k/\ag w wr) (fun i _=>xs.length-(intOf i).toNat)
 case atStart=>exact⟨0,aX _,rfl,by simp,aj _ _⟩
 case round=>
  obtain⟨k,hk,rfl,Fl,EL⟩:=hrel;have EX:=zH Fl;clear Fl;by_cases EH:k<xs.length
  .have GA:k<ys.length:=by have:=Hn.o;omega
   obtain⟨x,hx⟩:=aB EH;obtain⟨y,hy⟩:=aB GA;obtain⟨b,o,rfl,hc⟩:=h.here EH;obtain⟨b2,o2,rfl,FZ⟩:=h2.here GA;have c1:∀W:Ext wr,ae W.W b (o+k) (.int .i64 x):=fun W=>W.cell (al EL (hc k x hx))
   have c2:∀W:Ext wr,ae W.W b2 (o2+k) (.int .i64 y):=fun W=>W.cell (al EL (FZ k y hy))
   obtain⟨Hx,Hy⟩:=bD hx hy;clear hx hy hc FZ h h2;by_cases hf:x=y
   .subst hf;go_wp2;refine bK (by kernel_rfl) (by kernel_rfl) ?_
    repeat (go_big_quiet_step (fail))
    refine dn ?_;rintro _ ⟨W,rfl⟩;go_wp2;go_roundw
    case rel=>exact⟨k+1,by omega,by go_num,kT EX.o Hx.o Hy.o,ai EL W.ok⟩
    case measure=>simp[intOf];omega
   .have FY:(x !=y)=true:=by simp[hf]
    go_wp2;refine bK (by kernel_rfl) (by kernel_rfl) ?_
    repeat (go_big_quiet_step (fail))
    refine dn ?_;rintro _ ⟨W,rfl⟩;go_wp2;go_ret
    exact⟨aL (fW (za4 Hx.o Hy.o hf)).symm,ai EL W.ok⟩
  .go_wp2;go_ret
   exact⟨aL (gH (nS EX.o (by omega) (by have:=Hn.o;omega))).symm,EL⟩):p:=h
theorem ZZ(h:p:=by
 refine mA rfl (fun K hK=>?_) jE;go_simp;refine hK.out _ _ (by assumption) (fun hHeld=>?_);clear hK K;try simp only[Act.put,zA]
 refine ep 16 ?_;simp only[Act.put,zA];refine jD (rs:=[17]) (by kernel_rfl) (by simp) ?_;refine mA rfl (fun K hK=>?_) jE;go_simp;refine hK.out _ _ (by refine⟨?_,?_⟩<;>(refine(eV (by simp<;>omega)).trans ?_;assumption)) (fun hHeld=>?_);clear hK K;try simp only[Act.put,zA]
 refine ep 18 ?_;simp only[Act.put,zA];refine jD (rs:=[19]) (by kernel_rfl) (by simp) ?_;refine mA rfl (fun K hK=>?_) jE;have z3:(W2.drew.setCell ⟨g,a,none⟩ (.slice Ab rb.length cb)).cell? ⟨g,b,none⟩=some (.slice Ab rb.length cb):=by rw[wj _ _ _ _ (by simp<;>omega)];simpa using Km
 have z4:(W2.drew.setCell ⟨g,a,none⟩ (.slice Ab rb.length cb)).frozen? ⟨g,b,none⟩=false:=by simpa using FY
 go_simp;refine hK.out _ _ (by refine⟨?_,?_⟩<;>(refine(bV (by simp<;>omega)).trans ((eV (by simp<;>omega)).trans ?_);assumption)) (fun hHeld=>?_);clear hK K;refine wpAnyH_done (by kernel_rfl) ?_ _;clear hHeld;try dsimp only
 go_wp2;go_end0
 refine⟨rfl,⟨_,by rw[Fb.o];exact HS.o.ext (aj _ _).drew⟩,HE.o.trans (bn.eu (aj _ _).drew)⟩):p:=h
theorem ZY(h:p:=by
 go_wp2_with (first|(refine iI (by rfl) 71 (.tmp 14) rfl _ rfl _ _ _ _ QA.o ng rfl (by kernel_rfl) ?_)|(go_at_call 30;(with_reducible refine(FW.o V4 (aj _ _)).mono ?_);rintro e w5 ⟨rfl,hb⟩;have FB:=zH hb;obtain⟨⟨d0,d1,d2,d3,d4,d5⟩,-⟩:=bB (ah QY.o hb);clear hb;go_wp2_with (first|(refine iI (by rfl) 71 (.tmp 16) rfl _ rfl _ _ _ _ (ah QB.o FB.o) ng rfl (by kernel_rfl) ?_)|(go_at_call 30;(with_reducible refine(FV.o w5 FB.o).mono ?_);rintro e w6 ⟨rfl,hb⟩;have Gw:=zH (FB.o.trans (hb.mono FB.o.size));have e1:=aI (ah QV.o Gw.o) 1 rfl;have e2:=aI (ah QY.o Gw.o) 1 rfl;have F0:=zH (ah QR.o Gw.o);have Fc:=zH (GC.o.trans (Gw.o.mono GC.o.size));obtain⟨⟨r0,r1,r2,r3,r4,r5⟩,f0,f1,f2,f3,f4,f5⟩:=bB F0.o;clear hb;go_wp2))))
 obtain⟨⟨u0,u1,u2,u3,u4,u5⟩,-⟩:=bB (dR (v0:=.bool false) (v1:=bW) (v2:=()) (v3:=bW) (v4:=bW) (v5:=bW) F0.o);clear r0 r1 r2 r3 r4 r5;exact aE (v:=.tuple (cJ dy)) (by simp[results,oW,go_sem, *]) rfl (chF HT.o Ji.o (dp Fc.o (b:=w.heap.size+1+1+1+1+1) (by omega) ..))):p:=h
theorem ZX(h:p:=by
 have Ku:(fb:Int)<1:=by omega
 have KH:(2:Int)<=k:=by omega
 have KQ:=zH (Ks h1);clear hn h2 h1 Ks Kp FY Ky KJ KD KB Kx KL KO Jj Kr t1 t2 t3 t4 KA;subst hv;have KM:=(Kt.o 1 (by omega)).trans HY.o;obtain⟨r0,r1,r2⟩:=aG KM;obtain⟨f0,f1,f2⟩:=bR KM;have Kn:=fM (v0:=.slice (some ⟨gf,KF,none⟩) k cF) (v1:=.slice (some ⟨gi,oi,none⟩) k cI) (v2:=.slice (some ⟨go,oo,none⟩) k cO) KM;obtain⟨u0,u1,u2⟩:=aG Kn;clear Kn KM;go_wp2;exact aE (v:=.tuple (jW (some ⟨gf,KF,none⟩) k cF (some ⟨gi,oi,none⟩) cI (some ⟨go,oo,none⟩) cO)) (by simp[results,jf,go_sem, *]) rfl ⟨_,_,_,_,_,_,_,_,_,by rw[KQ.o],(((EP.o.setCell (p:=⟨w.heap.size+1,0,none⟩) (by show w.heap.size<=w.heap.size+1;omega) _).setCell (p:=⟨w.heap.size+1,1,none⟩) (by show w.heap.size<=w.heap.size+1;omega) _).setCell (p:=⟨w.heap.size+1,2,none⟩) (by show w.heap.size<=w.heap.size+1;omega) _),fun h=>by rw[KQ.o]at h;cases h⟩):p:=h
theorem ZW(h:p:=by
 go_wp2_with (first|(go_at_call 25;(with_reducible refine(FV.o w5 FB.o).mono ?_);rintro e w6 ⟨rfl,hb⟩;have Gw:=zH (FB.o.trans (hb.mono FB.o.size));have e1:=aI (ah QV.o Gw.o) 1 rfl;have e2:=aI (ah QY.o Gw.o) 1 rfl;have F0:=zH (ah QR.o Gw.o);have Fc:=zH (GC.o.trans (Gw.o.mono GC.o.size));obtain⟨⟨r0,r1,r2,r3,r4,r5⟩,f0,f1,f2,f3,f4,f5⟩:=bB F0.o;clear hb)|(go_at_call 25;(with_reducible refine(FW.o V4 (aj _ _)).mono ?_);rintro e w5 ⟨rfl,hb⟩;have FB:=zH hb;obtain⟨⟨c0,c1,c2,c3,c4,c5,c6,c7,c8,c9,KT,KR,KU,KS⟩,-⟩:=jP (ah QB.o hb);obtain⟨⟨d0,d1,d2,d3,d4,d5⟩,-⟩:=bB (ah QY.o hb);clear hb))
 obtain⟨⟨u0,u1,u2,u3,u4,u5⟩,-⟩:=bB (dR (v0:=.bool false) (v1:=bW) (v2:=()) (v3:=bW) (v4:=bW) (v5:=bW) F0.o);clear r0 r1 r2 r3 r4 r5;exact aE (v:=.tuple (cJ dy)) (by simp[results,oU,go_sem, *]) rfl (chF HT.o Ji.o (dp Fc.o (b:=w.heap.size+1+1+1+1+1) (by omega) ..))):p:=h
theorem ZV(h:p:=by
 have KI:(ss.toList==[])=false:=by cases e:ss.toList <;>simp_all
 have KE:(!ss.toList==[])=true:=by rw[KI];rfl
 have KQ:=zH (HS.o.no KP.o (j8 Kw (fun h=>hn h.2.2.1)));clear hn;have KM:=(Kt.o 1 (by omega)).trans HY.o;obtain⟨r0,r1,r2⟩:=aG KM;obtain⟨f0,f1,f2⟩:=bR KM;have Kn:=fM (v0:=.slice F k cF) (v1:=.slice I k cI) (v2:=.slice O k cO) KM;obtain⟨u0,u1,u2⟩:=aG Kn;clear Kn KM;go_wp2;exact aE (v:=.tuple (jW F k cF I cI O cO)) (by simp[results,jf,go_sem, *]) rfl ⟨_,_,_,_,_,_,_,_,_,by rw[KQ.o],(((EP.o.setCell (p:=⟨w.heap.size+1,0,none⟩) (by show w.heap.size<=w.heap.size+1;omega) _).setCell (p:=⟨w.heap.size+1,1,none⟩) (by show w.heap.size<=w.heap.size+1;omega) _).setCell (p:=⟨w.heap.size+1,2,none⟩) (by show w.heap.size<=w.heap.size+1;omega) _),fun h=>by rw[KQ.o]at h;cases h⟩):p:=h
theorem ZU(h:p:=by
 by_cases EH:k<Jo.length
 .obtain⟨i,hi'⟩:=aB EH;obtain⟨hi1,hi2⟩:=HL.o i (aY hi');obtain⟨j,hj⟩:∃j:Nat,(j:Int)=i:=⟨i.toNat,by omega⟩;subst hj;have Jn:j<v.length:=by omega
  obtain⟨x,hx⟩:=aB Jn;obtain⟨b,o,rfl,hc⟩:=(HV.o.ext EL).here Jn;obtain⟨b2,o2,rfl,FZ⟩:=(HA.o.ext EL).here EH;have Jm:=hc _ _ hx;have Jp:=FZ _ _ hi';obtain⟨HS,Jl⟩:=bD (zP hi' (by simpa using hx)) (Cf v Jo k hk);have GJ:=EL.size;clear hc FZ hx hi';go_wp2_with ((at_builtin;refine tt rfl _ _ rfl _ wr _ _ _ rfl rfl F9.o (by rw[Jl.o];omega) (by omega) ?_;intro u' w1 F_ _ F6))
  go_roundw
  case rel=>exact⟨k+1,by omega,by go_num,by rw[HS.o];exact F_,EL.trans F6⟩
  case measure=>simp[intOf];omega
 .go_wp2;go_ret
  exact⟨_,rfl,by have h:=F9.o;rwa[cY (by simp[og];omega)]at h,EL⟩):p:=h
theorem ZT(h:p:=by
 have KH:(k:Int)<2:=by omega
 have KQ:=zH (HS.o.no KP.o (j8 Kw (fun h=>h2 (by have:=h.2.2.2.1;rw[HS.o.len]at this;exact this))));clear hn h2;subst hv;have KM:=(Kt.o 1 (by omega)).trans HY.o;obtain⟨r0,r1,r2⟩:=aG KM;obtain⟨f0,f1,f2⟩:=bR KM;have Kn:=fM (v0:=.slice F k cF) (v1:=.slice I k cI) (v2:=.slice O k cO) KM;obtain⟨u0,u1,u2⟩:=aG Kn;clear Kn KM;go_wp2;exact aE (v:=.tuple (jW F k cF I cI O cO)) (by simp[results,jf,go_sem, *]) rfl ⟨_,_,_,_,_,_,_,_,_,by rw[KQ.o],(((EP.o.setCell (p:=⟨w.heap.size+1,0,none⟩) (by show w.heap.size<=w.heap.size+1;omega) _).setCell (p:=⟨w.heap.size+1,1,none⟩) (by show w.heap.size<=w.heap.size+1;omega) _).setCell (p:=⟨w.heap.size+1,2,none⟩) (by show w.heap.size<=w.heap.size+1;omega) _),fun h=>by rw[KQ.o]at h;cases h⟩):p:=h
theorem ZS(h:p:=by clear ha hb;go_wp2;have y:=mi (v0:=()) (v1:=bW) (v2:=bW) (v3:=bW) (v4:=()) (v5:=bW) (v6:=bW) (v7:=bW) (v8:=()) (v9:=()) (v10:=bW) (v11:=()) (v12:=()) (v13:=bW) KV.o;obtain⟨⟨u0,u1,u2,u3,u4,u5,u6,u7,u8,u9,u10,u11,u12,u13⟩,-⟩:=jP y;unfold vJ at u0 u1 u2 u3 u4 u5 u6 u7 u8 u9 u10 u11 u12 u13;clear y r0 r1 r2 r3 r4 r5 r6 r7 r8 r9 KW r11 r12 KX a0 a1 a2 a3 b0 b1 b2 b3 c0 c1 c2 e0 e1 e2;exact aE (v:=.tuple (cJ p_)) (by simp[results,results24,go_sem, *]) rfl ⟨_,by rw[HT.o],mj GC.o (b:=w.heap.size+1+1) (by omega) (.int .i64 0) (.slice none 0 0) (.slice none 0 0) (.slice none 0 0) (.int .i64 0) (.slice none 0 0) (.slice none 0 0) (.slice none 0 0) (.int .i64 0) (.int .i64 0) (.slice none 0 0) (.int .i64 0) (.int .i64 0) (.slice none 0 0),fun h=>(by rw[HT.o]at h;cases h),fun _=>rfl⟩):p:=h
theorem ZR(h:p:=by go_wp2;have y:=mi (v0:=()) (v1:=bW) (v2:=bW) (v3:=bW) (v4:=()) (v5:=bW) (v6:=bW) (v7:=bW) (v8:=()) (v9:=()) (v10:=bW) (v11:=()) (v12:=()) (v13:=bW) KV.o;obtain⟨⟨u0,u1,u2,u3,u4,u5,u6,u7,u8,u9,u10,u11,u12,u13⟩,-⟩:=jP y;unfold vJ at u0 u1 u2 u3 u4 u5 u6 u7 u8 u9 u10 u11 u12 u13;clear y r0 r1 r2 r3 r4 r5 r6 r7 r8 r9 KW r11 r12 KX a0 a1 a2 a3 b0 b1 b2 b3 c0 c1 c2 e0 e1 e2;exact aE (v:=.tuple (cJ p_)) (by simp[results,results24,go_sem, *]) rfl ⟨_,by rw[HT.o],mj GC.o (b:=w.heap.size+1+1) (by omega) (.int .i64 0) (.slice none 0 0) (.slice none 0 0) (.slice none 0 0) (.int .i64 0) (.slice none 0 0) (.slice none 0 0) (.slice none 0 0) (.int .i64 0) (.int .i64 0) (.slice none 0 0) (.int .i64 0) (.int .i64 0) (.slice none 0 0),fun h=>(by rw[HT.o]at h;cases h),fun _=>rfl⟩):p:=h
theorem ZQ(h:p:=by clear hq;have KM:=(Kt.o 1 (by omega)).trans HY.o;obtain⟨r0,r1,r2⟩:=aG KM;obtain⟨f0,f1,f2⟩:=bR KM;have Kn:=fM (v0:=.slice (some ⟨gf,KF,none⟩) k cF) (v1:=.slice (some ⟨gi,oi,none⟩) k cI) (v2:=.slice (some ⟨go,oo,none⟩) k cO) KM;obtain⟨u0,u1,u2⟩:=aG Kn;clear Kn KM;go_wp2;exact aE (v:=.tuple (jW (some ⟨gf,KF,none⟩) k cF (some ⟨gi,oi,none⟩) cI (some ⟨go,oo,none⟩) cO)) (by simp[results,jf,go_sem, *]) rfl ⟨_,_,_,_,_,_,_,_,_,by rw[KQ.o],(((EP.o.setCell (p:=⟨w.heap.size+1,0,none⟩) (by show w.heap.size<=w.heap.size+1;omega) _).setCell (p:=⟨w.heap.size+1,1,none⟩) (by show w.heap.size<=w.heap.size+1;omega) _).setCell (p:=⟨w.heap.size+1,2,none⟩) (by show w.heap.size<=w.heap.size+1;omega) _),fun h=>by rw[KQ.o]at h;cases h⟩):p:=h
theorem ZP(h:p:=by obtain⟨⟨r0,r1,r2,r3,r4,r5,r6,r7,r8,r9⟩,f0,f1,f2,f3,f4,f5,f6,f7,f8,f9⟩:=pe HZ.o;go_wp2;have y:=q7 (v0:=()) (v1:=bW) (v2:=bW) (v3:=bW) (v4:=()) (v5:=()) (v6:=bW) (v7:=()) (v8:=()) (v9:=bW) HZ.o;obtain⟨⟨u0,u1,u2,u3,u4,u5,u6,u7,u8,u9⟩,-⟩:=pe y;unfold sV at u0 u1 u2 u3 u4 u5 u6 u7 u8 u9;clear y r0 r1 r2 r3 r4 r5 r6 r7 r8 r9;exact aE (v:=.tuple (mS vN)) (by simp[results,results53,go_sem, *]) rfl ⟨0,0,0,0,none,none,none,0,0,0,⟨0,0,[]⟩,none,0,0,0,none,0,0,by rw[HT.o];rfl,(fun h=>by rw[HT.o]at h;cases h),fun _ _=>au rfl,q_ EO.o (b:=w.heap.size+1) (by omega) (.int .i64 0) (.slice none 0 0) (.slice none 0 0) (.slice none 0 0) (.int .i64 0) (.int .i64 0) (.slice none 0 0) (.int .i64 0) (.int .i64 0) (.slice none 0 0)⟩):p:=h
theorem ZO(h:p:=by
 have KN:(vv !=0)=true:=by simpa using hv
 have KQ:=zH (HS.o.no KP.o (j8 Kw (fun h=>hv h.2.1)));clear hn hv;have KM:=(Kt.o 1 (by omega)).trans HY.o;obtain⟨r0,r1,r2⟩:=aG KM;obtain⟨f0,f1,f2⟩:=bR KM;have Kn:=fM (v0:=.slice F k cF) (v1:=.slice I k cI) (v2:=.slice O k cO) KM;obtain⟨u0,u1,u2⟩:=aG Kn;clear Kn KM;go_wp2;exact aE (v:=.tuple (jW F k cF I cI O cO)) (by simp[results,jf,go_sem, *]) rfl ⟨_,_,_,_,_,_,_,_,_,by rw[KQ.o],(((EP.o.setCell (p:=⟨w.heap.size+1,0,none⟩) (by show w.heap.size<=w.heap.size+1;omega) _).setCell (p:=⟨w.heap.size+1,1,none⟩) (by show w.heap.size<=w.heap.size+1;omega) _).setCell (p:=⟨w.heap.size+1,2,none⟩) (by show w.heap.size<=w.heap.size+1;omega) _),fun h=>by rw[KQ.o]at h;cases h⟩):p:=h
theorem ZM(h:p:=by
 go_enter func221,ntmps221
 go_wp2_with fail
 refine(H1.o _ HB.o).mono ?_;rintro e w1 ⟨rfl,K6,K9⟩;have K_:=(K9.block w.heap.size (by simp) (by omega)).trans HQ.o;obtain⟨y0,y1,y2,y3⟩:=tI K_;simp only[cZ,cP]at y0 y1 y2 y3;have KZ:=K9.cell (al HB.o hp) (by simpa using Ld);have K8:=K9.cell (al HB.o ha) (by simpa using Lg);have GJ:=K9.size;simp only[dt]at GJ;obtain⟨Lj,Lf,Le⟩:=dO K6 K9 ((K7.o.ext HB.o).within K9 (an h12));clear K6 K9 K_ hp hr ha;go_wp2_with fail
 refine(H2.o _ (by omega) Le.o).mono ?_;rintro e w2 ⟨rfl,Lh,Li⟩;obtain⟨KY,GK⟩:=bD Lh Li;clear Lh Li y0 y1 y2 y3 KZ K8;go_wp2;go_end0
 exact⟨rfl,Lj.o.within GK.o (au h12),KY.o,(((bn.eu HB.o).trans (Lf.o.mono (af _) (by omega))).trans (GK.o.mono (by omega) (af _)))⟩):p:=h
theorem ZL(h:p:=by
 intro g8 Im w8 IF IG Ix Ip;rw[Gx.o]at IF ⊢;obtain⟨Fi,Fj⟩:=bD IF ((Lk.o.alloc Lk.o.size (.cells (dF G.l G.r D G.b.length d) 67)).mono Fb.o |>.trans Ip);clear IF IG Ix Ip;refine hK.out _ _ (fun h=>absurd h (by decide)) (fun _=>?_);clear hK K;try simp only[Act.put,zA]
 refine cw 17 fun K hK=>?_
 go_simp;refine hK.out _ _ (fun h=>absurd h (by decide)) (fun _=>?_);clear hK K;try simp only[Act.put,zA]
 refine gN (by kernel_rfl) ?_ _;clear S0 S1;obtain⟨Iz,IB⟩:=bD ((Fj.o.block (w.heap.size+1) FD.o).trans IA.o) (EP.o.trans (Fj.o.mono (by have:=FD.o;omega)));go_wp2;go_roundw
 case rel=>exact⟨k+1,U::T0,by go_num,Io.o,by rw[Iy.o];exact Fi.o,Iz.o,IB.o,aR Fb.o Fj.o.size⟩
 case measure=>simp[intOf];omega):p:=h
theorem ZK(h:p:=by
 have new:∀(i:Nat) (u':ax) (b:Nat),i<us.length->us[i]?=some u'->u'.ownBlock=some b->u.ownBlock=some b->False:=fun i u' b _ h1 h2 h3=>by obtain⟨r',_,GO⟩:=EF.kC h1;have a1:=(GO.lt b h2).2;have a2:=(hu.lt b h3).1;omega
 intro i j u1 u2 b h1 h2 h3 h4;have hi:=(bG.1 h1).1;have hj:=(bG.1 h2).1;simp only[bx,jc,il]at hi hj;by_cases ci:i<us.length <;>by_cases cj:j<us.length
 .rw[df ci]at h1;rw[df cj]at h2;exact EF.apart i j u1 u2 b h1 h2 h3 h4
 .rw[df ci]at h1;obtain rfl:j=us.length:=by omega
  simp at h2;subst h2;exact(new i u1 b ci h1 h3 h4).elim
 .rw[df cj]at h2;obtain rfl:i=us.length:=by omega
  simp at h1;subst h1;exact(new j u2 b cj h2 h4 h3).elim
 .omega):p:=h
theorem ZJ(h:p:=by
 go_upto_region 1 with(fail)
 generalize w.alloc _=W at hB hq ⊢;have x2:=aI hq 2 rfl;have x3:=aI hq 3 rfl;have x4:=aI hq 4 rfl;have x5:=aI hq 5 rfl;have HB:=zH hB;clear hB hq;by_cases h2:sd=0
 rotate_left
 .have e2:(sd==0)=false:=by simpa using h2
  go_wp2;go_ret
  exact⟨aL (by simp[h2]),HB.o⟩
 subst h2;by_cases h3:n3=0
 rotate_left
 .have e3:=int_ne h3;go_wp2;go_ret
  exact⟨aL (by simp[h3]),HB.o⟩
 subst h3;by_cases h4:n4=0
 rotate_left
 .have e4:=int_ne h4;go_wp2;go_ret
  exact⟨aL (by simp[h4]),HB.o⟩
 subst h4;by_cases h5:n5=0
 rotate_left
 .have e5:=int_ne h5;go_wp2;go_ret
  exact⟨aL (by simp[h5]),HB.o⟩
 subst h5;go_wp2;go_ret
 exact⟨aL (by simp),HB.o⟩):p:=h
theorem ZI(h:p:=by obtain⟨y1,y2,-⟩:=om (v0:=()) (v1:=bW) (v2:=bW) (v3:=bW) (u0:=()) (u1:=()) (u2:=bW) HZ.o HY.o;obtain⟨u0,u1,u2,u3⟩:=aA y1;obtain⟨t0,t1,t2⟩:=aG y2;unfold xV dC at u0 u1 u2 u3 t0 t1 t2;clear y1 y2 r0 r1 r2 r3 f0 f1 f2 f3 s0 s1 s2 g0 g1 g2;exact aE (v:=.tuple #[.agg bQ,.agg bj,.bool false]) (by simp[results,results49,go_sem, *]) rfl ⟨0,0,0,0,none,none,none,0,0,0,⟨0,0,[]⟩,none,0,by rw[HT.o];rfl,(fun h=>by rw[HT.o]at h;cases h),fun _ _=>au rfl,oq EO.o (b:=w.heap.size+1) (by omega) (.int .i64 0) (.slice none 0 0) (.slice none 0 0) (.slice none 0 0) (.int .i64 0) (.int .i64 0) (.slice none 0 0)⟩):p:=h
theorem ZH(h:p:=by
 obtain⟨y0,y1,y2,y3,y4⟩:=ez Jq;obtain⟨s0,s1,s2⟩:=aG Js;clear Js Jq;obtain⟨e0,e1,e2⟩:=bS Jt;obtain⟨e3,e4,e5⟩:=bS Jr;obtain⟨e6,e7,e8⟩:=bR Jr;simp only[cZ,cP]at e0 e1 e2 e3 e4 e5;clear Jt Jr;go_wp2;refine aE (v:=.agg (ar v h (some ⟨g,0,none⟩) rows Ff)) (by simp[results,m7,go_sem, *]) rfl ⟨_,rfl,?_,?_⟩
 .exact(((HO.o.setCell (by simp<;>omega) _).setCell (by simp<;>omega) _).setCell (by simp<;>omega) _).mono (by omega)
 .exact((HE.o.setCell (by simp<;>omega) _).setCell (by simp<;>omega) _).setCell (by simp<;>omega) _):p:=h
theorem ZG(h:p:=by
 go_enter fm,fp
 go_wp2;go_quiet ((go_at_call 92;exact bH (aS _ _ _ _)))
 go_wp2;go_quiet ((go_at_call 92;first|exact bH (aS _ _ _ _)|exact cv (aS _ _ _ _)))
 go_wp2_with (first|(go_at_call 92;refine(aS _ _ _ _).mono ?_;rintro e w' ⟨rfl,rfl⟩)|(go_at_call 136;refine(Calls.be (c_ _ _ _ _ _ _ _ _ EU.o) HE.o).mono ?_;rintro e w1 ⟨rfl,EG⟩;obtain⟨ER,⟨c0,c1,c2⟩,⟨d0,d1,d2,d3,d4⟩⟩:=ew EG;have EV:=zH ER;clear ER EG))
 all_goals go_quiet (fail)
 all_goals go_wp2
 all_goals
  go_ret
  exact⟨aL (by simp[lC,HE.o,gK, *]),ai EV.o (rW _ _)⟩):p:=h
theorem ZF(h:p:=by
 obtain⟨HN,Fw,EN⟩:=dO FM ((en W5 ⟨g,k,none⟩ w1.heap.size (.slice (some ⟨gr,0,none⟩) (r.length-1) cr) (by simp<;>omega)).trans ((Ju.block w1.heap.size (by have:=HW.o.size;simp;omega) (by simp;omega)).trans Fv.o)) (jB (oT HW.o Ju (by have:=HW.o.size;simp;omega) (fun b hb=>by cases hb;omega)) (p:=⟨g,k,none⟩) (by simp<;>omega) (.slice (some ⟨gr,0,none⟩) (r.length-1) cr));clear FM Jw Ju;go_wp2;go_roundw
 case rel=>exact⟨k+1,by omega,by go_num,⟨_,HN.o⟩,Fw.o,EN.o⟩
 case measure=>simp[intOf];omega):p:=h
theorem ZE(h:p:=by
 have HE:=zH he;clear he;go_enter fm,fp
 go_wp2;go_quiet ((go_at_call 92;exact bH (aS _ _ _ _)))
 go_wp2;go_quiet ((go_at_call 92;first|exact bH (aS _ _ _ _)|exact cv (aS _ _ _ _)))
 go_wp2_with (first|(go_at_call 92;refine(aS _ _ _ _).mono ?_;rintro e w' ⟨rfl,rfl⟩)|(go_at_call 136;refine(Calls.be (c_ _ _ _ _ _ _ _ _ EU.o) HE.o).mono ?_;rintro e w1 ⟨rfl,EG⟩;obtain⟨ER,⟨c0,c1,c2⟩,⟨d0,d1,d2,d3,d4⟩⟩:=ew EG;have EV:=zH ER;clear ER EG))
 all_goals
  go_ret
  exact⟨aL (by simp[lC,HE.o,gK, *]),EV.o⟩):p:=h
theorem ZD(h:p:=by
 have HE:=zH he;clear he;go_enter fm,fp
 go_wp2;go_quiet ((go_at_call 92;exact bH (aS _ _ _ _)))
 go_wp2;go_quiet ((go_at_call 92;first|exact bH (aS _ _ _ _)|exact cv (aS _ _ _ _)))
 go_wp2_with (first|(go_at_call 92;refine(aS _ _ _ _).mono ?_;rintro e w' ⟨rfl,rfl⟩)|(go_at_call 136;refine(Calls.be (c_ _ _ _ _ _ _ _ _ EU.o) HE.o).mono ?_;rintro e w1 ⟨rfl,EG⟩;obtain⟨ER,⟨c0,c1,c2⟩,⟨d0,d1,d2,d3,d4⟩⟩:=ew EG;have EV:=zH ER;clear ER EG))
 all_goals
  go_ret
  exact⟨aL (by rw[lC,HE.o];rfl),EV.o⟩):p:=h
theorem ZC(h:p:=by
 go_enter d_,ec
 go_upto_region 2 with(go_at_call 192;refine(bY _ _).mono ?_;rintro e w1 ⟨rfl,EG⟩)
 obtain⟨W,hW,hb,e0,e1,e2,e3,e4,f0,f1,f2,f3⟩:=e_ _ _ _ _ _ _ EG (.bool (eJ k)) (.bool (eK k)) (.bool (eL k)) (.bool (eN k)) 226;rw[<-hW];clear hW EG;simp only[show eJ k=true by simp[eJ, *],show eK k=false by simp[eK, *],show eL k=false by simp[eL, *],show eN k=false by simp[eN, *]]at f0 f1 f2 f3 ⊢;go_wp2
 all_goals exact aE (v:=.tuple fg) (by simp[results,ed,go_sem]) rfl ⟨rfl,hb⟩):p:=h
theorem ZB(h:p:=by
 go_enter fm,fp
 go_wp2;go_quiet ((go_at_call 92;exact bH (aS _ _ _ _)))
 go_wp2;go_quiet ((go_at_call 92;first|exact bH (aS _ _ _ _)|exact cv (aS _ _ _ _)))
 go_wp2_with (first|(go_at_call 92;refine(aS _ _ _ _).mono ?_;rintro e w' ⟨rfl,rfl⟩)|(go_at_call 136;refine(Calls.be (c_ _ _ _ _ _ _ _ _ EU.o) HE.o).mono ?_;rintro e w1 ⟨rfl,EG⟩;obtain⟨ER,⟨c0,c1,c2⟩,⟨d0,d1,d2,d3,d4⟩⟩:=ew EG;have EV:=zH ER;clear ER EG))
 all_goals
  go_ret
  exact⟨aL (by simp[lC,HE.o,gK, *]),EV.o⟩):p:=h
theorem ZA(h:p:=by
 go_enter d_,ec
 go_upto_region 2 with(go_at_call 192;refine(bY _ _).mono ?_;rintro e w1 ⟨rfl,EG⟩)
 obtain⟨W,hW,hb,e0,e1,e2,e3,e4,f0,f1,f2,f3⟩:=e_ _ _ _ _ _ _ EG (.bool (eJ 4)) (.bool (eK 4)) (.bool (eL 4)) (.bool (eN 4)) 226;rw[<-hW];clear hW EG;simp only[show eJ 4=true from rfl,show eK 4=false from rfl,show eL 4=false from rfl,show eN 4=false from rfl]at f0 f1 f2 f3 ⊢;go_wp2
 all_goals exact aE (v:=.tuple fg) (by simp[results,ed,go_sem]) rfl ⟨by simp[*],hb⟩):p:=h
theorem Zz(h:p:=by
 go_enter d_,ec
 go_upto_region 2 with(go_at_call 192;refine(bY _ _).mono ?_;rintro e w1 ⟨rfl,EG⟩)
 obtain⟨W,hW,hb,e0,e1,e2,e3,e4,f0,f1,f2,f3⟩:=e_ _ _ _ _ _ _ EG (.bool (eJ 5)) (.bool (eK 5)) (.bool (eL 5)) (.bool (eN 5)) 226;rw[<-hW];clear hW EG;simp only[show eJ 5=true from rfl,show eK 5=false from rfl,show eL 5=false from rfl,show eN 5=false from rfl]at f0 f1 f2 f3 ⊢;go_wp2
 all_goals exact aE (v:=.tuple fg) (by simp[results,ed,go_sem]) rfl ⟨by simp[*],hb⟩):p:=h
theorem Zy(h:p:=by
 go_enter d_,ec
 go_upto_region 2 with(go_at_call 192;refine(bY _ _).mono ?_;rintro e w1 ⟨rfl,EG⟩)
 obtain⟨W,hW,hb,e0,e1,e2,e3,e4,f0,f1,f2,f3⟩:=e_ _ _ _ _ _ _ EG (.bool (eJ 8)) (.bool (eK 8)) (.bool (eL 8)) (.bool (eN 8)) 226;rw[<-hW];clear hW EG;simp only[show eJ 8=false from rfl,show eK 8=true from rfl,show eL 8=false from rfl,show eN 8=false from rfl]at f0 f1 f2 f3 ⊢;go_wp2
 all_goals exact aE (v:=.tuple fg) (by simp[results,ed,go_sem]) rfl ⟨by simp[*],hb⟩):p:=h
theorem Zx(h:p:=by
 go_enter d_,ec
 go_upto_region 2 with(go_at_call 192;refine(bY _ _).mono ?_;rintro e w1 ⟨rfl,EG⟩)
 obtain⟨W,hW,hb,e0,e1,e2,e3,e4,f0,f1,f2,f3⟩:=e_ _ _ _ _ _ _ EG (.bool (eJ 9)) (.bool (eK 9)) (.bool (eL 9)) (.bool (eN 9)) 226;rw[<-hW];clear hW EG;simp only[show eJ 9=false from rfl,show eK 9=true from rfl,show eL 9=false from rfl,show eN 9=false from rfl]at f0 f1 f2 f3 ⊢;go_wp2
 all_goals exact aE (v:=.tuple fg) (by simp[results,ed,go_sem]) rfl ⟨by simp[*],hb⟩):p:=h
theorem Zw(h:p:=by
 go_enter d_,ec
 go_upto_region 2 with(go_at_call 192;refine(bY _ _).mono ?_;rintro e w1 ⟨rfl,EG⟩)
 obtain⟨W,hW,hb,e0,e1,e2,e3,e4,f0,f1,f2,f3⟩:=e_ _ _ _ _ _ _ EG (.bool (eJ 1)) (.bool (eK 1)) (.bool (eL 1)) (.bool (eN 1)) 226;rw[<-hW];clear hW EG;simp only[show eJ 1=true from rfl,show eK 1=true from rfl,show eL 1=false from rfl,show eN 1=false from rfl]at f0 f1 f2 f3 ⊢;go_wp2
 all_goals exact aE (v:=.tuple fg) (by simp[results,ed,go_sem]) rfl ⟨by simp[*],hb⟩):p:=h
theorem Zv(h:p:=by
 go_enter d_,ec
 go_upto_region 2 with(go_at_call 192;refine(bY _ _).mono ?_;rintro e w1 ⟨rfl,EG⟩)
 obtain⟨W,hW,hb,e0,e1,e2,e3,e4,f0,f1,f2,f3⟩:=e_ _ _ _ _ _ _ EG (.bool (eJ 2)) (.bool (eK 2)) (.bool (eL 2)) (.bool (eN 2)) 226;rw[<-hW];clear hW EG;simp only[show eJ 2=true from rfl,show eK 2=false from rfl,show eL 2=true from rfl,show eN 2=false from rfl]at f0 f1 f2 f3 ⊢;go_wp2
 all_goals exact aE (v:=.tuple fg) (by simp[results,ed,go_sem]) rfl ⟨by simp[*],hb⟩):p:=h
theorem Zu(h:p:=by
 go_enter d_,ec
 go_upto_region 2 with(go_at_call 192;refine(bY _ _).mono ?_;rintro e w1 ⟨rfl,EG⟩)
 obtain⟨W,hW,hb,e0,e1,e2,e3,e4,f0,f1,f2,f3⟩:=e_ _ _ _ _ _ _ EG (.bool (eJ 6)) (.bool (eK 6)) (.bool (eL 6)) (.bool (eN 6)) 226;rw[<-hW];clear hW EG;simp only[show eJ 6=true from rfl,show eK 6=true from rfl,show eL 6=false from rfl,show eN 6=false from rfl]at f0 f1 f2 f3 ⊢;go_wp2
 all_goals exact aE (v:=.tuple fg) (by simp[results,ed,go_sem]) rfl ⟨by simp[*],hb⟩):p:=h
theorem Zt(h:p:=by
 intro k u' r' FF GN;by_cases hk:k<us.length
 .rw[df hk]at FF;rw[df (by rw[<-EF.len];exact hk)]at GN;exact aD.kept (hW.each k u' r' FF GN) hg (eT hW.outer (hW.each k u' r' FF GN))
 .have GM:k=us.length:=by have:=(bG.1 FF).1;simp at this;omega
  subst GM;simp at FF;rw[EF.len]at GN;simp at GN;subst FF GN;have GL:=aD.kept hu hg (eT hW.outer hu);exact⟨GL.1,GL.2.imp id fun⟨g,cap,Fm,a1,a2,a3⟩=>⟨g,cap,Fm,a1,by omega,a3⟩⟩):p:=h
theorem Zs(h:p:=by
 refine aE (v:=.tuple (fA (ar v' h' A3 EZ c3))) (by simp[results,eP,go_sem, *]) rfl (Made.yes (by rw[HS.o];rfl) rfl ?_ ?_)
 .exact((((HU.o.ext ET.o).setCell (by simp<;>omega) _).setCell (by simp<;>omega) _).setCell (by simp<;>omega) _).mono (by omega)
 .exact(((EY.o.trans (ET.o.mono (by have:=EN.o.size;omega))).setCell (by simp<;>omega) _).setCell (by simp<;>omega) _).setCell (by simp<;>omega) _):p:=h
theorem Zr(h:p:=by
 by_cases hc:Ff=j+1
 .refine⟨⟨g,0,none⟩,by simp[hc],fun t u hu=>?_⟩;have h0:Gb.length=0:=by rw[ES];omega
  rw[vZ.1 h0]at hu;simp at hu
 .refine⟨⟨g,j+1,none⟩,by simp[hc],fun t u hu=>?_⟩;have ht:t<rows.length-(j+1):=by have:=(bG.1 hu).1;rwa[ES]at this
  rw[dj]
  show W2.cell? _=_
  rw[a_ Jv,Fe _ (by omega),<-hu,FG,eX]):p:=h
theorem Zq(h:p:=by obtain⟨⟨r0,r1,r2,r3,r4,r5⟩,f0,f1,f2,f3,f4,f5⟩:=bB F0.o;go_wp2;obtain⟨⟨u0,u1,u2,u3,u4,u5⟩,-⟩:=bB (dR (v0:=.bool false) (v1:=bW) (v2:=()) (v3:=bW) (v4:=bW) (v5:=bW) F0.o);clear r0 r1 r2 r3 r4 r5;exact aE (v:=.tuple (cJ dy)) (by simp[results,oU,go_sem, *]) rfl (chF HT.o Ji.o (dp Fc.o (b:=w.heap.size+1+1+1+1+1) (by omega) ..))):p:=h
theorem Zp(h:p:=by obtain⟨⟨r0,r1,r2,r3,r4,r5⟩,f0,f1,f2,f3,f4,f5⟩:=bB F0.o;go_wp2;obtain⟨⟨u0,u1,u2,u3,u4,u5⟩,-⟩:=bB (dR (v0:=.bool false) (v1:=bW) (v2:=()) (v3:=bW) (v4:=bW) (v5:=bW) F0.o);clear r0 r1 r2 r3 r4 r5;exact aE (v:=.tuple (cJ dy)) (by simp[results,oW,go_sem, *]) rfl (chF HT.o Ji.o (dp Fc.o (b:=w.heap.size+1+1+1+1+1) (by omega) ..))):p:=h
theorem Zo(h:p:=by
 clear Lm Lp y1;go_wp2_with (go_at_call 171;(with_reducible refine(GI.o _ (aj _ _)).mono ?_);intro e w7 h;unfold zC at h;obtain⟨b7,D7,e7,Jz,ho,hm,hb⟩:=h;subst e7;have Ln:=zH (aR Gy.o.size Jz);clear Jz;have Fh:=zH hb;have Ll:=zH ho;have Lo:=zH hm;clear hb ho hm)
 go_ret
 exact zcg (Gy.o.trans (Fh.o.mono Gy.o.size)) Ll.o Ln.o Lo.o):p:=h
theorem Zn(h:p:=by
 go_enter func266,ntmps266
 go_upto_region 1 with(fail)
 refine bK (by kernel_rfl) (by kernel_rfl) ?_
 repeat (go_big_quiet_step (first|(go_at_call_of 247 a;exact Calls.eA (Calls.be (dS _ _ _ _ _ _ _ hm) h1))|(go_at_call 269;exact Calls.eA (Calls.be (kd _ _ _ _ _ hh Lq) h2))))
 refine dn ?_;rintro _ ⟨W,rfl⟩;go_wp2;go_ret
 exact⟨aL (by simp),ai HB.o W.ok⟩):p:=h
theorem Zm(h:p:=by
 go_enter func251,ntmps251
 go_upto_region 1 with(fail)
 refine cS ?_
 repeat (go_big_quiet_step (first|(go_at_call_of 247 a;exact Calls.eA (Calls.be (dS _ _ _ _ _ _ _ hm) h1))|(go_at_call_of 247 b;exact Calls.eA (Calls.be (dS _ _ _ _ _ _ _ hm) h2))))
 refine dn ?_;rintro _ ⟨W,rfl⟩;go_wp2;go_ret
 exact⟨aL (by simp),ai HB.o W.ok⟩):p:=h
theorem Zl(h:p:=by
 by_cases hc:cap=j
 .refine⟨⟨g,0,none⟩,by simp[hc],fun t u hu=>?_⟩;have h0:Gb.length=0:=by rw[ES];omega
  rw[vZ.1 h0]at hu;simp at hu
 .refine⟨⟨g,j,none⟩,by simp[hc],fun t u hu=>?_⟩;have ht:t<n-j:=by have:=(bG.1 hu).1;rwa[ES]at this
  rw[dj,a_ Gc,Fe _ (by omega),<-hu,FG,eX]):p:=h
theorem Zk(h:p:=by
 have Lu:IntKind.i64.wrap ((c:Int)+1)=(c:Int)+1:=by rw[bM];omega
 obtain⟨HS,Lr⟩:=bD hs (EL.setCell (p:=⟨gb,x,none⟩) (by exact IE.o) (.int .i64 ((c:Int)+1)));clear Gu hx Lt hs hc EL;go_wp2;go_roundw
 case rel=>exact⟨k+1,by omega,by go_num,HS.o,Lr.o⟩
 case measure=>simp[intOf];omega):p:=h
theorem Zj(h:p:=by
 obtain⟨hB,hq⟩:=bA w (.cells (dG k v s) 95);go_enter func193,ntmps193
 go_upto_region 1 with(fail)
 generalize w.alloc _=W at hB hq ⊢;obtain⟨c0,c1,c2⟩:=aG hq;have HB:=zH hB;clear hB hq;go_wp2_with (go_at_call 92;refine(Calls.cT (aS _ _ _ _) hi).mono ?_;rintro e w' ⟨rfl,rfl⟩)
 go_ret
 exact⟨rfl,HB.o⟩):p:=h
theorem Zi(h:p:=by
 by_cases e:cap=q
 .exact⟨_,ay e,au (iN (by omega))⟩
 .refine⟨_,av e,?_⟩;rcases h with h|⟨b,o,h,hc⟩
  .exact au (by rw[h];simp)
  .simp only[dZ,sG]at h;obtain⟨rfl,rfl,_⟩:=h;refine an ⟨g,q,rfl,fun k x hk=>?_⟩;rw[eX]at hk;have:=hc _ x hk;rwa[iO]at this):p:=h
theorem Zh(h:p:=by
 obtain rfl:k=N:=by omega
 rw[cY (by rw[HM.o];exact af _)]at EF;obtain⟨u0,cu,rfl,-⟩:=EF.view;have hl:(M.map f).length=k:=by rw[bh,HM.o]
 rw[hl]at EF ⊢;obtain⟨HF,EP⟩:=bD EF EL;clear EF EL hl;go_wp2;go_ret
 exact⟨u0,cu,rfl,HF.o,EP.o⟩):p:=h
theorem Zg(h:p:=by
 go_enter func124,ntmps124
 go_upto_region 1 with(fail)
 generalize w.alloc _=W at hq hB ⊢;obtain⟨x0,x1,x2,x3⟩:=aA hq;have HB:=zH hB;clear hq hB;go_wp2_with (go_at_call 143;refine(Calls.cT (Gs.o _ _ _) E1.o).mono ?_;rintro e w' ⟨rfl,rfl⟩)
 go_ret
 exact⟨rfl,HB.o⟩):p:=h
theorem Zf(h:p:=by refine aE (v:=.tuple (cJ bj)) (by simp[results,eP,go_sem, *]) rfl (Made.no (by rw[HS.o];rfl) rfl ?_);exact(((EY.o.trans (ET.o.mono (by have:=EN.o.size;omega))).setCell (by simp<;>omega) _).setCell (by simp<;>omega) _).setCell (by simp<;>omega) _):p:=h
theorem Ze(h:p:=by
 have IP:l=q:=by omega
 subst IP;rw[cY (fD HL.o.symm),<-IX.o]at hS;obtain⟨IL,Fc⟩:=bD hS E9;clear hS E9 IN hC IV IK;go_wp2;go_roundw
 case rel=>exact⟨j+1,_,_,_,by omega,by go_num,IL.o,Fc.o⟩
 case measure=>simp[intOf];omega):p:=h
theorem Zd(h:p:=by
 go_enter func193,ntmps193
 go_upto_region 1 with(fail)
 generalize w.alloc _=W at hB hq ⊢;obtain⟨c0,c1,c2⟩:=aG hq;have HB:=zH hB;clear hB hq;go_wp2_with (go_at_call 92;refine(aS _ _ _ _).mono ?_;rintro e w' ⟨rfl,rfl⟩)
 go_ret
 exact⟨rfl,HB.o⟩):p:=h
theorem Zc(h:p:=by
 clear HE HS;go_enter func207,ntmps207
 go_wp2_with ((first|(go_at_call 209;with_reducible refine HX.o.mono ?_;rintro e w' ⟨rfl,rfl⟩)|(go_at_call 209;with_reducible refine HY.o.mono ?_;rintro e w' ⟨rfl,rfl⟩)))
 go_end0
 exact⟨rfl,HF.o⟩):p:=h
theorem Zb(h:p:=by
 rw[JA,Jy,JB];by_cases h9:9<=k
 .rw[ay h9,ay h9,ay h9,Jz,Jx];unfold yD mv xD xE;constructor <;> (repeat' split) <;>omega
 .rw[av h9,av h9,av h9,Jz,Jx];unfold yD mv xD xE;constructor <;> (repeat' split) <;>omega):p:=h
theorem Za(h:p:=by
 go_wp2_with (go_at_call 162;refine(Calls.cT (kN _ _) hv).mono ?_;rintro e w' ⟨rfl,rfl⟩)
 go_roundw
 case rel=>exact⟨k+1,by omega,by go_num,zH (by rw[dN _ _ _ _ HX.o,Fl.o,HF.o];rfl),EP.o⟩
 case measure=>simp[intOf];omega):p:=h
theorem Y_(h:p:=by refine aE (v:=.tuple (cJ bj)) (by simp[results,eP,go_sem, *]) rfl (Made.no (kq _) rfl ?_);exact(((HB.o.trans (EO.o.mono (by omega))).setCell (by simp<;>omega) _).setCell (by simp<;>omega) _).setCell (by simp<;>omega) _):p:=h
theorem Y9(h:p:=by
 go_upto_region 1 with(fail)
 refine cS ?_
 repeat (go_big_quiet_step ((go_at_call_of 247 a;exact Calls.eA (Calls.be (dS _ _ _ _ _ _ _ hm) h1))))
 refine dn ?_;rintro _ ⟨W,rfl⟩;go_wp2;go_ret
 exact⟨aL (by simp),ai HB.o W.ok⟩):p:=h
theorem Y8(h:p:=by exact((((((H3.o.setCell (by simp<;>omega) _).setCell (by simp<;>omega) _).setCell (by simp<;>omega) _).setCell (by simp<;>omega) _).setCell (by simp<;>omega) _).setCell (by simp<;>omega) _).mono (by omega)):p:=h
theorem Y7(h:p:=by unfold Ed.jt at hf;simp only[bE,bX]at hf;have h3:=hf.2.1;obtain⟨ea,eb⟩:=rZ (v:=v) h3;exact⟨h3,by have:=yR hf.1;dsimp only at this;omega,by rw[<-ea];exact hf.2.2.1,by rw[<-eb];exact hf.2.2.2⟩):p:=h
theorem Y6(h:p:=by exact(((((HB.o.setCell (by simp<;>omega) _).setCell (by simp<;>omega) _).setCell (by simp<;>omega) _).setCell (by simp<;>omega) _).setCell (by simp<;>omega) _).setCell (by simp<;>omega) _):p:=h
theorem Y5(h:p:=by have hz:w2.heap.size=(dC w2 (w.heap.size+1) (.int .i64 m) (.slice A1 0 d1) (.slice A2 m d2) (.slice A3 m d3)).heap.size:=dV.symm;exact(HF.o.dC (b:=w.heap.size+1) s0).to (by omega) (fD hz)):p:=h
theorem Y4(h:p:=by
 go_wp2_with (go_at_call 209;refine Lw.o.mono ?_;rintro e w' ⟨rfl,rfl⟩)
 go_roundw
 case rel=>exact⟨k+1,by omega,by go_num,by rw[Lv.o],HS.o.1,HS.o.2⟩
 case measure=>simp[intOf];omega):p:=h
theorem Y0(h:p:=by
 clear h1 h2;go_enter func172,ntmps172
 go_wp2_with (go_at_call 143;refine gG (da _ _ _ _) ?_;first|(rw[e1];rintro e w' ⟨rfl,rfl⟩)|(rw[e2];rintro e w' ⟨rfl,rfl⟩))
 go_ret
 exact⟨rfl,rfl⟩):p:=h
theorem YZ(h:p:=by
 go_wp2;go_round
 case rel=>exact⟨1,by omega,by go_num,fun j hj=>by
  by_cases Lx:j<0
  .exact EX.o j Lx
  .obtain rfl:j=0:=by omega
   exact HB.o⟩
 case measure=>simp[intOf]):p:=h
theorem YY(h:p:=by
 go_wp2;go_round
 case rel=>exact⟨2,by omega,by go_num,fun j hj=>by
  by_cases Lx:j<1
  .exact EX.o j Lx
  .obtain rfl:j=1:=by omega
   exact HB.o⟩
 case measure=>simp[intOf]):p:=h
theorem YX(h:p:=by
 go_wp2;go_round
 case rel=>exact⟨3,by omega,by go_num,fun j hj=>by
  by_cases Lx:j<2
  .exact EX.o j Lx
  .obtain rfl:j=2:=by omega
   exact HB.o⟩
 case measure=>simp[intOf]):p:=h
theorem YW(h:p:=by
 go_wp2;go_round
 case rel=>exact⟨4,by omega,by go_num,fun j hj=>by
  by_cases Lx:j<3
  .exact EX.o j Lx
  .obtain rfl:j=3:=by omega
   exact HB.o⟩
 case measure=>simp[intOf]):p:=h
theorem YV(h:p:=by
 obtain⟨HN,H0⟩:=bD hn h0;clear hn h0;go_wp2;go_round
 case rel=>exact⟨k+1,by omega,by go_num,by rw[dN _ _ _ _ Hx.o,EX.o];simp[HN.o,H0.o]⟩
 case measure=>simp[intOf];omega):p:=h
theorem YU(h:p:=by
 have hl:=hA.row r hr;refine⟨by simp[vF,iu,hl];omega,fun d hd=>?_⟩;rw[zfx hl];split
 .exact hA.zr hr (by omega)
 .split
  .omega
  .split
   .exact hA.zr hr (by omega)
   .omega):p:=h
theorem YT(h:p:=by
 have hl:=hB.row r hr;refine⟨by simp[vG,iu,hl];omega,fun d hd=>?_⟩;rw[zfy hl];split
 .omega
 .split
  .exact hB.zr hr (by omega)
  .split
   .omega
   .exact hB.zr hr (by omega)):p:=h
theorem YS(h:p:=by refine aE (v:=.tuple (fA (bl S F1 l1 F2 l2 F3 l3))) (by simp[results,qC,go_sem, *]) rfl ?_;have e:=HS.o;subst e;exact an ⟨Ly.o,F1,l1,F2,l2,F3,l3,rfl,HF.o,HE.o⟩):p:=h
theorem YR(h:p:=by
 apply gS;intro k;simp only[madeCells,Value.cells,eG,Array.toList_map,Array.toList_range,cC,fH];by_cases hk:k<n
 .simp[hk,Nat.mod_one]
 .simp[hk]):p:=h
theorem YQ(h:p:=by
 go_wp2;go_roundw
 case rel=>exact⟨k+1,by omega,by go_num,zH (by rw[dN _ _ _ _ HX.o,Fl.o,HF.o];rfl),EP.o⟩
 case measure=>simp[intOf];omega):p:=h
theorem YP(h:p:=by
 rcases h with h|⟨b,o,h,hc⟩
 .exact au (by rw[h];simp)
 .refine an ⟨b,o,h,fun k x hk=>hc k x ?_⟩;rw[gm]at hk;split at hk
  .exact hk
  .cases hk):p:=h
theorem YO(h:p:=by rw[show k+(n+1-k)=n+1 by omega,<-hG,<-JE,<-JH]at h;rw[show((n:Int)+1-(k:Int))=((n+1-k:Nat):Int) by omega];exact h):p:=h
theorem YN(h:p:=by
 rw[Fc.o];have:i=0∨i=1∨i=2∨i=3∨i=4∨i=5:=by omega
 rcases this with rfl|rfl|rfl|rfl|rfl|rfl <;>exact aI hq _ rfl):p:=h
theorem YM(h:p:=by
 go_roundw
 case rel=>exact⟨k+1,by omega,by go_num,zH (by rw[dN _ _ _ _ HX.o,Fl.o,HF.o];rfl),EP.o⟩
 case measure=>simp[intOf];omega):p:=h
theorem YL(h:p:=by
 rw[HA.o];have:i=0∨i=1∨i=2∨i=3∨i=4∨i=5:=by omega
 rcases this with rfl|rfl|rfl|rfl|rfl|rfl <;>exact aI hq _ rfl):p:=h
theorem YK(h:p:=by
 rw[F3.o k Jj EH]at e2;go_wp2;go_roundw
 case rel=>exact⟨k+1,by omega,by omega,by go_num,by trivial⟩
 case measure=>simp[intOf];omega):p:=h
theorem YJ(h:p:=by obtain⟨a1,a2,lo,hi,a3,a4,a5,a6⟩:=h2.each k x c hx hc;exact⟨a1,a2,lo,hi,by omega,a4,fun g e=>au (by have:=hd g e;omega),a6⟩):p:=h
theorem YI(h:p:=by
 refine dn ?_;rintro _ ⟨W,rfl⟩;go_wp2;go_roundw
 case rel=>exact⟨k+1,by omega,by go_num,ai EL W.ok⟩
 case measure=>simp[intOf];omega):p:=h
theorem YH(h:p:=by
 intro j u hj;rw[cC]at hj;obtain⟨y,hy,rfl⟩:=DY.1 hj;rcases FA with h|⟨b,o,h,hc⟩
 .simp[h]at hy
 .cases h;rw[dj];exact hc j y hy):p:=h
theorem YG(h:p:=by
 intro k u r hu hr;rw[fH]at hu hr;by_cases hk:k<n
 .rw[ay hk]at hu hr;cases hu;cases hr
  exact aD.nil _ _
 .rw[av hk]at hu;cases hu):p:=h
theorem YF(h:p:=by rintro e w' ⟨G,rfl,a,b⟩;exact⟨w.heap.size,G,rfl,a,⟨b.os,b.tape,b.output,b.size,fun k hk _=>b.block k hk (by simp)⟩,an (af _)⟩):p:=h
theorem YE(h:p:=by exact Calls.be (uW a b XA LB row p v h A cap rows W E5 (hX.ext hW) (by unfold maxLen;omega) s.v0 s.v24 s.h0 s.h100) (E0.symm.trans hc)):p:=h
theorem YD(h:p:=by
 go_roundw
 case rel=>exact⟨k+1,by omega,by go_num,by rw[HT.o];exact F_,EL.trans F6⟩
 case measure=>simp[intOf];omega):p:=h
theorem YC(h:p:=by
 go_wp2;go_roundw
 case rel=>exact⟨k+1,by omega,by go_num,by rw[E_.o];exact Fi.o,Fj.o⟩
 case measure=>simp[intOf];omega):p:=h
theorem YB(h:p:=by
 go_wp2;go_ret
 exact⟨by rw[he.o];rfl,by rw[he.o];exact HR.o.st.h1,by rw[he.o];exact HR.o.st.h2,(bn.eu HB.o).trans HR.o.st.wi⟩):p:=h
theorem YA(h:p:=by
 go_round
 case rel=>exact⟨k+1,by omega,by go_num,by rw[dN _ _ _ _ Hx.o,EX.o,hf];rfl⟩
 case measure=>simp[intOf];omega):p:=h
theorem Yz(h:p:=by
 obtain⟨HN,H0⟩:=bD hn h0;clear hn h0;go_wp2;go_ret
 exact⟨aL (by rw[rU,all_false _ _ _ _ Hx.o (by simp[HN.o,H0.o])]),rfl⟩):p:=h
theorem Yy(h:p:=by
 go_wp2;go_roundw
 case rel=>exact⟨m+1,by omega,by go_num,LC.o,LF.o,LG.o,EN.o⟩
 case measure=>simp[intOf];omega):p:=h
theorem Yx(h:p:=by
 go_wp2;go_roundw
 case rel=>exact⟨i+1,by omega,by go_num,by rw[Lz.o];exact Gt.o⟩
 case measure=>simp[intOf];omega):p:=h
theorem Yw(h:p:=by go_wp2;exact aE (v:=.agg (dF Q.l Q.r D Q.b.length d)) (by simp[results,results130,go_sem, *]) rfl ⟨D,d,rfl,G1.o,G2.o⟩):p:=h
theorem Yv(h:p:=by
 clear Fg EF;go_wp2;go_roundw
 case rel=>exact⟨k+1,by omega,by go_num,HS.o,Fc.o⟩
 case measure=>simp[intOf];omega):p:=h
theorem Yu(h:p:=by
 clear Fg EF;go_wp2;go_roundw
 case rel=>exact⟨k+1,by omega,by go_num,HS.o,HB.o⟩
 case measure=>simp[intOf];omega):p:=h
theorem Yt(h:p:=by
 intro i j u u' b hu _ hb;rw[fH]at hu;by_cases hk:i<n
 .rw[ay hk]at hu;cases hu;cases hb
 .rw[av hk]at hu;cases hu):p:=h
theorem Ys(h:p:=by intro t ht;rw[ES]at ht;have Gv:aW W2.drew g Fm 26:=Jv;refine⟨?_,aK Gv _⟩;rw[a_ Gv,dL (by simp;omega)];rfl):p:=h
theorem Yr(h:p:=by
 go_enter lS,lT
 go_wp2;exact aE (v:=.tuple #[.int .i64 1,.int .i64 2]) (by simp[results,lU,go_sem, *]) rfl ⟨rfl,rfl⟩):p:=h
theorem Yq(h:p:=by
 go_enter lS,lT
 go_wp2;exact aE (v:=.tuple #[.int .i64 2,.int .i64 1]) (by simp[results,lU,go_sem, *]) rfl ⟨rfl,rfl⟩):p:=h
theorem Yp(h:p:=by exact(((HO.o.setCell (by simp<;>omega) _).setCell (by simp<;>omega) _).setCell (by simp<;>omega) _).mono (by omega)):p:=h
theorem Yo(h:p:=by
 have he:=hu;rw[cY (by omega)]at he;obtain⟨HE,FX⟩:=bD he hw;clear he hu hw;go_wp2;go_end0
 exact⟨rfl,HE.o,FX.o⟩):p:=h
theorem Yn(h:p:=by
 go_wp2;go_roundw
 case rel=>exact⟨k+1,by omega,by go_num,⟨_,HN.o⟩,Fw.o,EN.o⟩
 case measure=>simp[intOf];omega):p:=h
theorem Ym(h:p:=by
 go_wp2;go_roundw
 case rel=>exact⟨k+1,by omega,by go_num,HS.o,bN HG.o (dP _ _)⟩
 case measure=>simp[intOf];omega):p:=h
theorem Yl(h:p:=by intro U hU;obtain⟨h1,h2⟩:=hU;(try dsimp only at h1 h2);have c1:=aI h1 1 rfl;go_simp;(try with_reducible rfl)):p:=h
theorem Yk(h:p:=by exact aE (v:=.agg (dF Q.l Q.r D Q.b.length d)) (by simp[results,results130,go_sem, *]) rfl ⟨D,d,rfl,G1.o,G2.o⟩):p:=h
theorem Yj(h:p:=by
 obtain rfl:v=.slice none 0 0:=by simpa using Fp
 exact⟨none,[],0,rfl,au rfl,aX _,fun r hr=>by cases hr⟩):p:=h
theorem Yi(h:p:=by have s0:=JC.o;have JD:=F0.o;exact(HF.o.dC (b:=w.heap.size+1) s0).to (by omega) (fD (JD.trans dV.symm))):p:=h
theorem Yh(h:p:=by
 have:k<us.length:=by rw[h.len];exact(bG.1 hx).1
 obtain⟨u,hu⟩:=aB this;exact⟨u,hu,h.each k u x hu hx⟩):p:=h
theorem Yg(h:p:=by have JL:=(bG.1 hx).1;refine⟨?_,h.row.frozenAt x⟩;rw[h.row.cellAt x (by have:=h.len;omega),cC,hx];rfl):p:=h
theorem Yf(h:p:=by have:=AB (k:=(v+b).toNat) (G q hq) (by have:=(G q hq).1;omega);exact⟨by have:=this.1;omega,this.2⟩):p:=h
theorem Ye(h:p:=by
 obtain rfl:g5=g:=by simpa[Value.ownBlock]using h
 rcases IW.o with e|e
 .exact HC.o _ e
 .right;omega):p:=h
theorem Yd(h:p:=by exact Calls.be (uV a b p v h A cap rows W E5 (hR.ext hW) s.v0 s.v24 s.h0 s.h100 s.len) (E0.symm.trans hc)):p:=h
theorem Yc(h:p:=by
 go_roundw
 case rel=>exact⟨t+1,by omega,by go_num,HP.o,LJ.o⟩
 case measure=>simp[intOf];omega):p:=h
theorem Yb(h:p:=by
 intro j u' hj
 match j,hj with
 |0,hj=>simp at hj;subst hj;simp[Addr.add]
 |j+1,hj=>simp at hj):p:=h
theorem Ya(h:p:=by exact Calls.be (sZ b p v h A cap rows W E5 (hR.ext hW) s.v0 s.v24 s.h0 s.h100 s.len) (E0.symm.trans hc)):p:=h
theorem X_(h:p:=by exact((HE.o.setCell (by simp<;>omega) _).setCell (by simp<;>omega) _).setCell (by simp<;>omega) _):p:=h
theorem X9(h:p:=by
 go_wp2_with (go_at_call 92;(refine(LP.o _).mono ?_);rintro e w' ⟨rfl,rfl⟩)
 go_ret
 exact⟨rfl,HB.o⟩):p:=h
theorem X8(h:p:=by go_wp2;exact aE (v:=.tuple (mS eW)) (by simp[results,qA,go_sem, *]) rfl ⟨0,0,by rw[Iw.o],HE.o⟩):p:=h
theorem X7(h:p:=by rw[JE,Array.append_assoc,Array.toList_append,lM (by simp;omega),List.toList_toArray,lk,wB]):p:=h
theorem X6(h:p:=by go_wp2;exact aE (v:=.tuple (cJ bQ)) (by simp[results,qC,go_sem, *]) rfl (au ⟨Ly.o,rfl,HE.o⟩)):p:=h
theorem X5(h:p:=by
 go_enter lQ,lR
 go_wp2
 all_goals
  go_ret
  exact⟨aL (by simp[mu,tf, *]),(aj _ _).alloc (af _) _⟩):p:=h
theorem X4(h:p:=by exact aE (v:=.tuple (cJ (bf (0) (0)))) (by simp[results,results220,go_sem, *]) rfl ⟨rfl,HE.o⟩):p:=h
theorem XZ(h:p:=by
 go_enter lS,lT
 go_wp2;exact aE (v:=.tuple ki) (by simp[results,lU,go_sem, *]) rfl ⟨rfl,rfl⟩):p:=h
theorem XY(h:p:=by
 go_enter lS,lT
 go_wp2;exact aE (v:=.tuple jx) (by simp[results,lU,go_sem, *]) rfl ⟨rfl,rfl⟩):p:=h
theorem XX(h:p:=by
 go_wp2
 all_goals exact aE (v:=.tuple fg) (by simp[results,ed,go_sem]) rfl ⟨by simp[*],hb⟩):p:=h
theorem XW(h:p:=by intro U hU;obtain⟨h1,h2⟩:=hU;(try dsimp only at h1 h2);go_simp;(try with_reducible rfl)):p:=h
theorem XV(h:p:=by go_wp2;exact aE (v:=.agg (bf a b)) (by simp[results,results167,go_sem, *]) rfl ⟨rfl,HE.o⟩):p:=h
theorem XU(h:p:=by
 rw[bP,vY];by_cases h:a=d
 .subst h;rw[ay rfl,ay ha,ay rfl];rfl
 .rw[av h,av h,bP]):p:=h
theorem XT(h:p:=by exact aE (v:=.tuple (cJ bQ)) (by simp[results,qC,go_sem, *]) rfl (au ⟨Ly.o,rfl,HE.o⟩)):p:=h
theorem XS(h:p:=by
 refine an fun e=>?_
 simp only[Value.ownBlock,dZ]at e;subst e;rw[hb]at hg;simp at hg):p:=h
theorem XR(h:p:=by
 rw[IU.o];rcases eh.1 (aY hx)with h|h
 .exact II.o x (au h)
 .exact II.o x (an (au h))):p:=h
theorem XQ(h:p:=by obtain⟨A',c',h1,h2,_⟩:=h.view;simp only[dW]at h1;obtain⟨rfl,_,_⟩:=h1;exact h2):p:=h
theorem XP(h:p:=by exact aD.kept (h.each j u' x' FF JM) hg (jj (by decide) (h.each j u' x' FF JM) h.outer)):p:=h
theorem XO(h:p:=by have:(xs.length+ys.length)*bytes<=1048576*1000:=Nat.mul_le_mul ES hT.bts;omega):p:=h
theorem XN(h:p:=by obtain⟨lo,hi,h1,h2,h3,h4⟩:=h;exact⟨lo,hi,h1,aR h2 hb.size,h3,h4.ext hb h2⟩):p:=h
theorem XM(h:p:=by rw[show(List.range a).length=a from fX ..,show(eC a b).length=b from dw ..];rfl):p:=h
theorem XL(h:p:=by
 rcases fK EF.outer Fs (by decide)with h1|h1
 .cases h1
 .exact h1 (by rw[<-e];rfl)):p:=h
theorem XK(h:p:=by
 go_wp2;go_ret
 exact⟨aL (gH (nS EX.o (by omega) (by have:=Hn.o;omega))).symm,EL⟩):p:=h
theorem XJ(h:p:=by
 by_cases h3:j<i/\j≠r
 .rw[ay h3,ay ⟨by omega,h3.2⟩]
 .rw[av h3,av (by omega)]):p:=h
theorem XI(h:p:=by have:=zaE (k:=(v+b).toNat) s.p2 (G q hq);exact⟨by have:=this.1;omega,this.2⟩):p:=h
theorem XH(h:p:=by
 go_ret
 exact⟨g,cap,rfl,by rw[HI.o];exact EF,GZ,JN.imp id fun e=>by omega⟩):p:=h
theorem XG(h:p:=by intro t ht;rw[ES]at ht;refine⟨?_,aK Gc _⟩;rw[a_ Gc,dL (by simp;omega)];rfl):p:=h
theorem XF(h:p:=by rcases hr with rfl|rfl <;>refine⟨rfl,fun x hx=>?_⟩ <;>simp at hx <;>omega):p:=h
theorem XE(h:p:=by exact⟨by omega,fun r hr=>by have:=h2 r hr;omega,by omega,by omega,by omega⟩):p:=h
theorem XD(h:p:=by
 rcases fv EF.outer GV with h1|h1
 .cases h1
 .exact fun e=>h1 (by rw[e];rfl)):p:=h
theorem XC(h:p:=by
 intro u hu;rcases dQ.1 hu with rfl|hu
 .exact⟨z,hz⟩
 .exact h.ty u (by simp[hu])):p:=h
theorem XB(h:p:=by
 rcases FA with h|h
 .rw[<-h];exact au e
 .rw[h]at e;cases e;exact an (af _)):p:=h
theorem Xz(h:p:=by
 go_enter func142,ntmps142
 go_wp2;go_ret
 exact⟨aL (by simp[cN,et];omega),rfl⟩):p:=h
theorem Xy(h:p:=by
 rcases fK GV Fs (by decide)with h1|h1
 .cases h1
 .exact h1 (by rw[<-e];rfl)):p:=h
theorem Xx(h:p:=by obtain⟨g,GB,e,_⟩:=h.own.form (by omega);simp only[dW]at e;exact e.2.1):p:=h
theorem Xw(h:p:=by exact Calls.be (x_ a p v h A cap rows W E5 (hR.ext hW) LQ) (E0.symm.trans hc)):p:=h
theorem Xv(h:p:=by have:=mX List.length hL;simp only[b_,Tm.flat,bh,bx,zk]at this;exact this):p:=h
theorem Xu(h:p:=by
 rcases EF.2 with⟨_,h1⟩|⟨g,c',Fm,e,_⟩
 .omega
 .cases e;exact⟨g,rfl⟩):p:=h
theorem Xt(h:p:=by
 refine dn ?_;rintro _ ⟨W,rfl⟩;go_wp2;go_ret
 exact⟨aL (by simp),ai HB.o W.ok⟩):p:=h
theorem Xs(h:p:=by
 go_wp2;go_ret
 have h:=F9.o;rw[cY (by omega)]at h;exact⟨_,rfl,h,EL⟩):p:=h
theorem Xr(h:p:=by intro u' FF;simp at FF;subst FF;obtain⟨A',c',rfl,_⟩:=hu.view;rfl):p:=h
theorem Xq(h:p:=by rw[ay ⟨by omega,Fq⟩,h0 Fq,Int.zero_mul,Int.sub_zero,qB this.1 this.2]):p:=h
theorem Xp(h:p:=by rw[mZ,eQ _ _ _ (by have:=Gd;simp at this ⊢;omega)];simpa using Gd):p:=h
theorem Xo(h:p:=by obtain⟨k,hk⟩:=fk.1 hu;obtain⟨r,_,ho⟩:=h.kC hk;exact(ho.lt b hb).2):p:=h
theorem Xn(h:p:=by exact(hW.each _ x rx hx hr).kept GZ (eT hW.outer (hW.each _ x rx hx hr))):p:=h
theorem Xm(h:p:=by
 go_wp2;go_ret
 exact⟨aL (by simp[hf,gx _ _ _ Fl.o (by omega)]),EL⟩):p:=h
theorem Xl(h:p:=by rw[mZ,eQ _ _ _ (by have:=JG;simp at this ⊢;omega)];simpa using JG):p:=h
theorem Xk(h:p:=by rw[EF.cellAt k (by omega),cC,lu _ _ _ (by rw[ee];exact EH)];rfl):p:=h
theorem Xj(h:p:=by
 intro u hu;rcases dQ.1 hu with rfl|hu
 .exact⟨_,JO⟩
 .exact h.ty u hu):p:=h
theorem Xi(h:p:=by simp[eO]at hr;subst hr;refine⟨rfl,fun x hx=>?_⟩;simp at hx;omega):p:=h
theorem Xh(h:p:=by rw[eF ci]at h1;rw[eF cj]at h2;exact h.apart i j u1 u2 b h1 h2 h3 h4):p:=h
theorem Xg(h:p:=by
 go_ret
 exact⟨aL (by simp[hf,all_false _ _ _ _ HX.o HF.o]),EP.o⟩):p:=h
theorem Xf(h:p:=by have h1:=jA _ _ (J3 0 _ rfl);have:gb<w2.heap.size:=h1;omega):p:=h
theorem Xe(h:p:=by exact Calls.be (Af a b c p v h A cap rows W E5) (E0.symm.trans hc)):p:=h
theorem Xd(h:p:=by
 go_wp2;go_ret
 exact⟨aL (fW (fun e=>hn (by rw[e]))).symm,aj _ _⟩):p:=h
theorem Xc(h:p:=by
 go_ret
 exact⟨iB (by first|exact HI.o|(simpa using HI.o)),rfl⟩):p:=h
theorem Xb(h:p:=by
 rcases Ga.o with h|h
 .cases h
 .exact fun e=>h (by rw[e];rfl)):p:=h
theorem Xa(h:p:=by exact⟨go _ (by omega),by dsimp only;omega,by dsimp only;omega⟩):p:=h
theorem W_(h:p:=by exact⟨gi _ (by omega),by dsimp only;omega,by dsimp only;omega⟩):p:=h
theorem W9(h:p:=by
 by_cases hl:dh x.nd=true
 .exact hl
 .rw[av hl]at hr;cases hr):p:=h
theorem W8(h:p:=by exact Calls.be (xZ a b p v h A cap rows W E5) (E0.symm.trans hc)):p:=h
theorem WZ(h:p:=by exact Calls.be (uU a c p v h A cap rows W E5) (E0.symm.trans hc)):p:=h
theorem WY(h:p:=by
 go_wp2;go_end0
 exact⟨rfl,⟨_,by rw[JK.o];exact HN.o⟩,HE.o⟩):p:=h
theorem WX(h:p:=by exact Calls.be (Ag a p v h A cap rows W E5) (E0.symm.trans hc)):p:=h
theorem WV(h:p:=by exact Calls.be (sY b p v h A cap rows W E5) (E0.symm.trans hc)):p:=h
theorem WU(h:p:=by have:=h1 0 _ rfl;simpa[Addr.add]using World.cell?_spot this):p:=h
theorem WT(h:p:=by
 go_ret
 exact⟨aL (by rw[nP,HV.o,HH.o,<-HQ.o];rfl),EO.o⟩):p:=h
theorem WS(h:p:=by refine⟨_,_,rfl,by omega,?_,hb⟩;exact au (iN (by omega))):p:=h
theorem WR(h:p:=by exact(h.own.each k u r hu hr).within (h.ups u (aY hu)) hw hd):p:=h
theorem WQ(h:p:=by have:us=[]:=fC (by simpa using h);subst this;simp[gW]):p:=h
theorem WO(h:p:=by exact⟨none,0,by rw[hn],au (fC hn),by omega,by decide⟩):p:=h
theorem WN(h:p:=by
 go_wp2;go_ret
 exact⟨aL (by rw[nP,HV.o,HH.o];rfl),HB.o⟩):p:=h
theorem WM(h:p:=by rw[mZ,eQ _ _ _ (by simp[ES];omega)];simpa using GU):p:=h
theorem WL(h:p:=by rw[EF.cellAt k (by omega),cC,xB _ _ _ _ EH,hx];rfl):p:=h
theorem WK(h:p:=by rintro e w' ⟨rfl,a,b⟩;exact⟨g,cap,rfl,a,b,au rfl⟩):p:=h
theorem WJ(h:p:=by rw[show k+(n-j)=n-1 by have:=HX.o;omega];rfl):p:=h
theorem WI(h:p:=by have:=EF;rwa[cY (by rw[bh];exact af _)]at this):p:=h
theorem WH(h:p:=by have:=mI x.xs x.xs.length hm.s hm.ss;rwa[k_]at this):p:=h
theorem WG(h:p:=by rw[IQ.o];exact⟨C1,m1,by rw[<-IJ.o],HF.o,HE.o⟩):p:=h
theorem WE(h:p:=by simp only[dW]at e2;obtain⟨rfl,-,-⟩:=e2;exact h2):p:=h
theorem WD(h:p:=by
 go_wp2;go_ret
 exact⟨aL (by rw[nP,HV.o];rfl),HB.o⟩):p:=h
theorem WC(h:p:=by
 go_wp2;go_ret
 exact⟨_,rfl,au (by decide),aj _ _⟩):p:=h
theorem WB(h:p:=by simp only[dW]at e;obtain⟨rfl,-,-⟩:=e;exact h):p:=h
theorem WA(h:p:=by rcases hc with rfl|rfl|rfl|rfl|rfl <;>rfl):p:=h
theorem Wz(h:p:=by
 go_wp2;go_ret
 exact⟨_,rfl,au (by decide),GI.o⟩):p:=h
theorem Wy(h:p:=by
 rcases FA with h|⟨b,o,h,_⟩
 .exact h
 .cases h):p:=h
theorem Wx(h:p:=by
 rw[ef (by simp;omega),eX];congr 1
 simp;omega):p:=h
theorem Ww(h:p:=by
 rw[mT h1];congr 1
 rw[dL h1]at hx;exact je hx):p:=h
theorem Wv(h:p:=by intro u hu;rw[FG]at hu;exact h1 u (ko hu)):p:=h
theorem Wu(h:p:=by
 go_ret
 exact⟨_,rfl,au (by decide),EO.o⟩):p:=h
theorem Wt(h:p:=by have:=h.apart _ _ x y b hx hy hb LR;omega):p:=h
theorem Ws(h:p:=by exact⟨gU _ (by omega),gV _ (by omega)⟩):p:=h
theorem Wr(h:p:=by have:=E6 W;rw[he]at this;exact this):p:=h
theorem Wq(h:p:=by obtain⟨us,h⟩:=h;exact⟨us,h.ext hb⟩):p:=h
theorem Wp(h:p:=by simp only[bx,cG,il]at this ⊢;omega):p:=h
theorem Wo(h:p:=by exact fun e=>h1 (by rw[e];rfl)):p:=h
theorem Wn(h:p:=by
 go_wp2;go_ret
 exact⟨rfl,rfl⟩):p:=h
theorem Wm(h:p:=by rw[FH]at hx;simp at hx):p:=h
theorem Wl(h:p:=by subst h;exact au (by simp)):p:=h
theorem Wk(h:p:=by first|with_reducible exact zH (Fh.o.trans (E9.mono Fh.o.size))|with_reducible exact zH ((Fh.o.alloc Fh.o.size _).trans (E9.mono (Fh.o.alloc Fh.o.size _).size))):p:=h
theorem Wj(h:p:=by first|with_reducible exact zH ((az _).trans (EG.mono (az _).size))|with_reducible exact zH ((ak _ _).drew.trans (EG.mono (ak _ _).drew.size))):p:=h
theorem Wi(h:p:=by first|with_reducible exact zH E9|with_reducible exact zH ((ak _ _).trans (E9.mono (ak _ _).size))):p:=h
theorem Wh(h:p:=by iterate 8 (first|done|exact az _|exact Fh.o|exact aj _ _|refine l6 ?_|refine l9 ?_)):p:=h
theorem Wg(h:p:=by rw[FQ.o];show(if dh ⟨kk,vv,ss.toList.isEmpty⟩=true then _ else _)=_;rw[Is];rfl):p:=h
theorem Wf(h:p:=by rw[EK,show k+(n+1-k)=n+1 by omega];exact growslice_fits (by omega) (by omega)):p:=h
theorem We(h:p:=by rw[HS.o];show(if(fG kk ca cb).isSome=true then _ else _)=_;rw[<-GF.o];rfl):p:=h
theorem Wd(h:p:=by first|with_reducible exact Fh.o|with_reducible exact Fh.o.alloc Fh.o.size _):p:=h
theorem Wc(h:p:=by iterate 8 (first|done|exact az _|exact aj _ _|refine l6 ?_|refine l9 ?_)):p:=h
theorem Wb(h:p:=by first|with_reducible exact Gz.o|with_reducible exact Gz.o.ext (ak _ _)):p:=h
theorem Wa(h:p:=by have:=hS.len;have h2:=zfq (p:=p) (g:=g) j;have:=IM.o;omega):p:=h
theorem V_(h:p:=by rw[dj,a_ JF,Fe _ (by have:=(bG.1 hj).1;omega),<-hj,Fz,eX]):p:=h
theorem V9(h:p:=by rw[dj,a_ Gc,Fe _ (by have:=(bG.1 hj).1;omega),<-hj,Fz,eX]):p:=h
theorem V8(h:p:=by first|with_reducible exact az _|with_reducible exact(ak _ _).drew):p:=h
theorem VZ(h:p:=by rw[zcH];exact cY (by unfold Gr.ends;simp;have:=IM.o;omega)):p:=h
theorem VY(h:p:=by have:=Gu 0 (by omega) _ (by rw[he];rfl);simpa[dj]using this):p:=h
theorem VX(h:p:=by have:=Gu 1 (by omega) _ (by rw[he];rfl);simpa[dj]using this):p:=h
theorem VW(h:p:=by have:=Gu 2 (by omega) _ (by rw[he];rfl);simpa[dj]using this):p:=h
theorem VV(h:p:=by cases e;have:=LN.o _ e2;have:=LL.o;have:=IC.o;omega):p:=h
theorem VU(h:p:=by rw[a_ b1,dL (by have:=Gd;simp at this hj ⊢;omega)];rfl):p:=h
theorem VT(h:p:=by rw[a_ JJ,dL (by have:=JG;simp at this hj ⊢;omega)];rfl):p:=h
theorem VS(h:p:=by rw[Il,df (by rw[bx,Ik];simp),ef (by omega),Ik];simp):p:=h
theorem VR(h:p:=by rw[Ir,Il,ef (by rw[bx,Ik];exact af _),bx,Ik];simp):p:=h
theorem VQ(h:p:=by simp[yM]at hu;rcases hu with h|h|h<;>subst h<;>rfl):p:=h
theorem VP(h:p:=by rw[a_ ((hV _ hb.size (by simp)).trans (aC w8 _ rfl)) 0];rfl):p:=h
theorem VO(h:p:=by rw[a_ b1,dL (by have:=Gd;simp at this ⊢;omega)];rfl):p:=h
theorem VN(h:p:=by have:=h'.2.2.2.2;rw[HS.o.len,<-FY]at this;exact this):p:=h
theorem VM(h:p:=by simp at hq;rcases hq with rfl|rfl;exact IY;exact IH):p:=h
theorem VL(h:p:=by rw[JH];exact bN (dP w none) (World.grownBy_alloc _ _ _)):p:=h
theorem VK(h:p:=by rw[JE];simp[Builtin.zeroCells,Value.cells];omega):p:=h
theorem VJ(h:p:=by rw[IU.o];exact II.o x (an (an ⟨_,IS,au hx⟩))):p:=h
theorem VI(h:p:=by rw[IU.o];exact II.o x (an (an ⟨_,IS,an hx⟩))):p:=h
theorem VH(h:p:=by rw[hU];exact J9 (by rw[Kb,<-hG,Is];exact h)):p:=h
theorem VG(h:p:=by intro u hu;simp at hu;obtain⟨x,_,rfl⟩:=hu;rfl):p:=h
theorem VF(h:p:=by have:=(HV.o _ IS).2;dsimp only at this ⊢;omega):p:=h
theorem VE(h:p:=by rw[FY,Jj];exact Kr _ _ (by rw[GH.o];omega)):p:=h
theorem VD(h:p:=by rw[Ky,Jj];exact Kr _ _ (by rw[Kv.o];omega)):p:=h
theorem VC(h:p:=by rw[KJ,Jj];exact Kr _ _ (by rw[Kq.o];omega)):p:=h
theorem VB(h:p:=by have:=h.le;have:=hb.size;simp at this ⊢;omega):p:=h
theorem VA(h:p:=by obtain⟨r,_,ho⟩:=hu.kC hx;exact(ho.lt b hb).2):p:=h
theorem Vz(h:p:=by rw[eQ _ _ _ (by simp[ES];omega)];simp[Fp]):p:=h
theorem Vy(h:p:=by rw[eQ _ _ _ (by simp[Gg];omega)];simp[Fp]):p:=h
theorem Vx(h:p:=by rw[Ko];exact Kr _ _ (by rw[GH.o];omega)):p:=h
theorem Vw(h:p:=by rw[Kz];exact Kr _ _ (by rw[Kv.o];omega)):p:=h
theorem Vv(h:p:=by rw[KG];exact Kr _ _ (by rw[Kq.o];omega)):p:=h
theorem Vu(h:p:=by rw[a_ EG,dL (by simp at hj ⊢;omega)];rfl):p:=h
theorem Vt(h:p:=by rw[hu.us.cellAt _ (by omega),cC,hq];rfl):p:=h
theorem Vs(h:p:=by unfold Gr.ends;simp;have:=IM.o;omega):p:=h
theorem Vr(h:p:=by unfold swN;split<;>(try split)<;>omega):p:=h
theorem Vq(h:p:=by unfold dh at hl;rw[bE]at hl;exact hl.1):p:=h
theorem Vp(h:p:=by rw[eQ _ _ _ (by simp;omega)];simp[JI]):p:=h
theorem Vo(h:p:=by have:=JP.len r hr;unfold maxLen;omega):p:=h
theorem Vn(h:p:=by rw[Gg];simp only[oY];split<;>omega):p:=h
theorem Vm(h:p:=by rw[Fa.outer.cellAt _ (by omega),GQ]):p:=h
theorem Vl(h:p:=by have:=HT.o.len;have:=HT.o.kl;omega):p:=h
theorem Vk(h:p:=by simp only[oY];split<;>simp<;>omega):p:=h
theorem Vj(h:p:=by rw[EJ];exact(aj _ _).alloc (af _) _):p:=h
theorem Vi(h:p:=by have:=Fy.size;simp at this;omega):p:=h
theorem Vh(h:p:=by have:=FU.o.size;simp at this;omega):p:=h
theorem Vg(h:p:=by rw[Fa.outer.cellAt _ (by omega),Fx]):p:=h
theorem Vf(h:p:=by have:=h.up g (by rw[a1];rfl);omega):p:=h
theorem Ve(h:p:=by unfold BD;simp only[iG,bX];exact h1):p:=h
theorem Vd(h:p:=by rw[JQ];exact(aj _ _).alloc (af _) _):p:=h
theorem Vc(h:p:=by unfold ldB;rw[gH (by omega),ht];rfl):p:=h
theorem Vb(h:p:=by have:=E4 r hr;unfold maxLen;omega):p:=h
theorem U_(h:p:=by rw[e];exact an (aR FD.o LS.o.size)):p:=h
theorem U9(h:p:=by have:=Gd;simp at this hj ⊢;omega):p:=h
theorem U8(h:p:=by subst e;exact(bL hu.outer g' rfl).2):p:=h
theorem U7(h:p:=by simp[results,results252,go_sem, *]):p:=h
theorem U6(h:p:=by simp[results,results105,go_sem, *]):p:=h
theorem U5(h:p:=by rw[GI.o,KC.o,Jk.o];exact KK.o):p:=h
theorem U4(h:p:=by simp[results,results123,go_sem, *]):p:=h
theorem U3(h:p:=by simp[results,results223,go_sem, *]):p:=h
theorem U2(h:p:=by simp[results,results107,go_sem, *]):p:=h
theorem U1(h:p:=by simp[results,results194,go_sem, *]):p:=h
theorem U0(h:p:=by rw[a_ Gc,dL (by simp;omega)];rfl):p:=h
theorem UZ(h:p:=by have:=JG;simp at this hj ⊢;omega):p:=h
theorem UY(h:p:=by simp[results,results220,go_sem, *]):p:=h
theorem UX(h:p:=by simp[results,results85,go_sem, *]):p:=h
theorem UW(h:p:=by have:=h.len;simp at this ⊢;omega):p:=h
theorem UU(h:p:=by have:=LL.o;have:=LM.o;omega):p:=h
theorem UT(h:p:=by have:=hg.2.2;unfold maxLen;omega):p:=h
theorem US(h:p:=by simp[results,results68,go_sem, *]):p:=h
theorem UR(h:p:=by simp[results,results67,go_sem, *]):p:=h
theorem UQ(h:p:=by have:=Gd;simp at this ⊢;omega):p:=h
theorem UP(h:p:=by have:=LL.o;have:=GY.o;omega):p:=h
theorem UO(h:p:=by split;exact h;exact⟨0,by omega⟩):p:=h
theorem UN(h:p:=by have:=HZ.o;have:=Fb.o;omega):p:=h
theorem UM(h:p:=by rw[Ft.cellAt _ (by omega),Fu]):p:=h
theorem UL(h:p:=by obtain⟨x,-,rfl⟩:=cM.1 hc;rfl):p:=h
theorem UK(h:p:=by have:=JG;simp at this ⊢;omega):p:=h
theorem UJ(h:p:=by have:=GG.o;have:=G1.o;omega):p:=h
theorem UH(h:p:=by simp only[dW]at h1;exact h1.1):p:=h
theorem UG(h:p:=by rw[<-hf];exact iX _ _ (HP.o _)):p:=h
theorem UF(h:p:=by intro e';cases e';exact e rfl):p:=h
theorem UE(h:p:=by simp at hv;subst hv;exact Gi):p:=h
theorem UD(h:p:=by rw[<-Gj.o];exact Fc.o.symm):p:=h
theorem UC(h:p:=by have:=HW.o.size;simp;omega):p:=h
theorem UB(h:p:=by rcases hq with h|h<;>omega):p:=h
theorem UA(h:p:=by first|exact af _|simp[dC]):p:=h
theorem Uz(h:p:=by rw[FN];exact aZ _ _ _ _ hj):p:=h
theorem Uy(h:p:=by simp[results,m7,go_sem, *]):p:=h
theorem Ux(h:p:=by rw[aQ];unfold maxLen;omega):p:=h
theorem Uw(h:p:=by simp[results,jf,go_sem, *]):p:=h
theorem Uv(h:p:=by have:=s.el r hr x hx;omega):p:=h
theorem Uu(h:p:=by simp[Value.ownBlock];omega):p:=h
theorem Ut(h:p:=by have:=GP _ e.symm;omega):p:=h
theorem Us(h:p:=by rw[Kb,<-hG,Is];exact h):p:=h
theorem Ur(h:p:=by have:=Fq _ e.symm;omega):p:=h
theorem Uq(h:p:=by rw[<-hv];exact da _ _ _ _):p:=h
theorem Up(h:p:=by rw[<-hh];exact da _ _ _ _):p:=h
theorem Uo(h:p:=by rw[EJ];exact aC _ _ rfl):p:=h
theorem Un(h:p:=by rw[FN];simpa using Gk):p:=h
theorem Um(h:p:=by simp[results,ed,go_sem]):p:=h
theorem Ul(h:p:=by have:=(bG.1 hj).1;omega):p:=h
theorem Uk(h:p:=by simp[results,pa,go_sem]):p:=h
theorem Uj(h:p:=by cases v.ownBlock<;>simp):p:=h
theorem Ui(h:p:=by have:=s.len r hr;omega):p:=h
theorem Uh(h:p:=by simp[Region.wanted,G0]):p:=h
theorem Ug(h:p:=by first|exact af _|simp):p:=h
theorem Uf(h:p:=by simp[Act.eval,Act.put]):p:=h
theorem Ue(h:p:=by rw[bh,cG,HM.o];omega):p:=h
theorem Ud(h:p:=by have:=GP b hb;omega):p:=h
theorem Uc(h:p:=by rw[<-GS,gm,ay ht]):p:=h
theorem Ub(h:p:=by have:=ES r hr;omega):p:=h
theorem Ua(h:p:=by rw[bx,Ik];exact af _):p:=h
theorem T_(h:p:=by rw[KQ.o]at h;cases h):p:=h
theorem T9(h:p:=by have:=HW.o.size;omega):p:=h
theorem T8(h:p:=by rw[<-JR.o];exact HO.o):p:=h
theorem T6(h:p:=by have:=h.el e he;omega):p:=h
theorem T5(h:p:=by rw[LK.o];exact GA):p:=h
theorem T4(h:p:=by rw[ha.len];exact GA):p:=h
theorem T3(h:p:=by have:=EM r hr;omega):p:=h
theorem TZ(h:p:=by rw[<-Fo,gm,ay ht]):p:=h
theorem TY(h:p:=by rw[FG];simp[GW]):p:=h
theorem TX(h:p:=by rw[dU _ _ _ hk];omega):p:=h
theorem TW(h:p:=by rw[h0]at hr;cases hr):p:=h
theorem TV(h:p:=by simpa[aD]using GX):p:=h
theorem TU(h:p:=by simp[WideAt.IsKeyLit]):p:=h
theorem TS(h:p:=by simp[dh]at hl;omega):p:=h
theorem TR(h:p:=by simp[mY,GW];omega):p:=h
theorem TQ(h:p:=by rw[<-h.len];exact hk):p:=h
theorem TP(h:p:=by rw[hs g a2];exact a3):p:=h
theorem TO(h:p:=by simp[Value.ownBlock]):p:=h
theorem TN(h:p:=by simp[List.getD,Fk]):p:=h
theorem TM(h:p:=by simp[List.getD,FE]):p:=h
theorem TL(h:p:=by rw[IL.o.len];omega):p:=h
theorem TK(h:p:=by simp[Value.oneCell']):p:=h
theorem TJ(h:p:=by rw[Jh.o,HT.o];rfl):p:=h
theorem TI(h:p:=by rw[Fz];simp;omega):p:=h
theorem TH(h:p:=by rw[S.s1.1];exact ha):p:=h
theorem TG(h:p:=by rw[S.s2.1];exact ha):p:=h
theorem TF(h:p:=by simp[cf,Ge];omega):p:=h
theorem TE(h:p:=by rw[iE];exact h.len):p:=h
theorem TD(h:p:=by unfold maxLen;omega):p:=h
theorem TC(h:p:=by have:=Fb.o;omega):p:=h
theorem TB(h:p:=by have:=GD.o;omega):p:=h
theorem TA(h:p:=by have:=IZ.o;omega):p:=h
theorem Tz(h:p:=by rw[HM.o];exact EH):p:=h
theorem Ty(h:p:=by rw[dH,hx,kY];rfl):p:=h
theorem Tx(h:p:=by rw[tW];exact GR.o):p:=h
theorem Tw(h:p:=by rw[<-h.1];exact hl):p:=h
theorem Tv(h:p:=by rw[lA];exact FL.o):p:=h
theorem Tu(h:p:=by rw[Iu.o,Iq];rfl):p:=h
theorem Tt(h:p:=by rw[Ik];exact af _):p:=h
theorem Ts(h:p:=by have:=FD.o;omega):p:=h
theorem Tr(h:p:=by have:=GK.o;omega):p:=h
theorem Tq(h:p:=by have:=GH.o;omega):p:=h
theorem Tp(h:p:=by have:=GY.o;omega):p:=h
theorem To(h:p:=by simp[List.getD,hr]):p:=h
theorem Tn(h:p:=by simp[List.getD,hx]):p:=h
theorem Tl(h:p:=by rw[h.len];exact hk):p:=h
theorem Tk(h:p:=by rw[Gf];simp[Gh]):p:=h
theorem Tj(h:p:=by rw[<-Fz];exact hv):p:=h
theorem Ti(h:p:=by rw[eG];exact ES):p:=h
theorem Th(h:p:=by rw[Iv];exact Ik):p:=h
theorem Tg(h:p:=by have:=GG.o;omega):p:=h
theorem Tf(h:p:=by rw[<-oV];exact ho):p:=h
theorem Te(h:p:=by simpa[et]using h1):p:=h
theorem Td(h:p:=by simpa[et]using hi):p:=h
theorem Tc(h:p:=by have:=Hn.o;omega):p:=h
theorem Tb(h:p:=by have:=h.es;omega):p:=h
theorem Ta(h:p:=by rw[LH];exact hb):p:=h
theorem S_(h:p:=by rw[aQ];exact EH):p:=h
theorem SZ(h:p:=by rw[cG,hl];omega):p:=h
theorem SY(h:p:=by rw[gp,hl];omega):p:=h
theorem SX(h:p:=by rw[bx,Ik];simp):p:=h
theorem SW(h:p:=by rw[aQ,dw];omega):p:=h
theorem SV(h:p:=by have:=h.w;omega):p:=h
theorem SU(h:p:=by have:=h.i;omega):p:=h
theorem SS(h:p:=by have:=h.o;omega):p:=h
theorem SR(h:p:=by rw[cG,gp];omega):p:=h
theorem SQ(h:p:=by rw[EW.o];omega):p:=h
theorem SP(h:p:=by rw[aQ];exact hm):p:=h
theorem SN(h:p:=by dsimp only;omega):p:=h
theorem SM(h:p:=by rw[Jk.o];omega):p:=h
theorem SL(h:p:=by rw[Gx.o];omega):p:=h
theorem SK(h:p:=by rw[GH.o];omega):p:=h
theorem SJ(h:p:=by rw[Kv.o];omega):p:=h
theorem SH(h:p:=by rw[Kq.o];omega):p:=h
theorem SG(h:p:=by simp[qV.add,bt]):p:=h
theorem SF(h:p:=by rw[ES];omega):p:=h
theorem SE(h:p:=by simp[et];omega):p:=h
theorem SD(h:p:=by rw[HL.o];omega):p:=h
theorem SC(h:p:=by simpa using EF):p:=h
theorem SB(h:p:=by simp[b_];omega):p:=h
theorem SA(h:p:=by rw[EK];omega):p:=h
theorem Sz(h:p:=by simpa using Fp):p:=h
theorem Sx(h:p:=by cases hb;omega):p:=h
theorem Sw(h:p:=by simpa using Fq):p:=h
theorem Sv(h:p:=by rw[GF.o];rfl):p:=h
theorem Su(h:p:=by simp[JT,JS]):p:=h
theorem St(h:p:=by rw[E7];omega):p:=h
theorem Ss(h:p:=by simp[kQ,e,m]):p:=h
theorem Sr(h:p:=by rw[cG];omega):p:=h
theorem Sq(h:p:=by rw[bM];omega):p:=h
theorem Sp(h:p:=by simp<;>omega):p:=h
theorem So(h:p:=by rw[EJ];simp):p:=h
theorem Sn(h:p:=by decide +kernel):p:=h
theorem Sm(h:p:=by simpa using h2):p:=h
theorem Sl(h:p:=by simpa using h1):p:=h
theorem Sk(h:p:=by rw[gp];omega):p:=h
theorem Sj(h:p:=by rw[aQ];omega):p:=h
theorem Si(h:p:=by simpa using h7):p:=h
theorem Sh(h:p:=by simpa using hk):p:=h
theorem Sg(h:p:=by simpa using h3):p:=h
theorem Sf(h:p:=by simpa using h4):p:=h
theorem Se(h:p:=by simpa using h5):p:=h
theorem Sd(h:p:=by simpa using tL):p:=h
theorem Sc(h:p:=by simpa using tC):p:=h
theorem Sb(h:p:=by simpa using tB):p:=h
theorem Sa(h:p:=by simpa using tA):p:=h
theorem R_(h:p:=by simpa using h0):p:=h
theorem R9(h:p:=by simpa using h):p:=h
theorem R7(h:p:=by simp[h1,h2]):p:=h
theorem R6(h:p:=by rw[jz];simp):p:=h
theorem RZ(h:p:=by rw[hf];rfl):p:=h
theorem RY(h:p:=by rw[a1];rfl):p:=h
theorem RX(h:p:=by simp[h.len]):p:=h
theorem RW(h:p:=by rw[he];rfl):p:=h
theorem RV(h:p:=by simp[kQ,e]):p:=h
theorem RU(h:p:=by simp[kQ,m]):p:=h
theorem RS(h:p:=by simp;omega):p:=h
theorem RR(h:p:=by rw[aQ,bh]):p:=h
theorem RQ(h:p:=by rw[aQ,dw]):p:=h
theorem RP(h:p:=by kernel_rfl):p:=h
theorem RO(h:p:=by assumption):p:=h
theorem RN(h:p:=by simp at hu):p:=h
theorem RM(h:p:=by simp at h):p:=h
theorem RL(h:p:=by simp[iu]):p:=h
theorem RK(h:p:=by simp[bt]):p:=h
theorem RJ(h:p:=by simp[hj]):p:=h
theorem RI(h:p:=by simp[h0]):p:=h
theorem RH(h:p:=by simp[hn]):p:=h
theorem RG(h:p:=by simp[mu]):p:=h
theorem RF(h:p:=by simp[j4]):p:=h
theorem RE(h:p:=by simp[bT]):p:=h
theorem RD(h:p:=by simp[eS]):p:=h
theorem RC(h:p:=by simp[dE]):p:=h
theorem Rz(h:p:=by simp[*]):p:=h
theorem Ry(h:p:=by simp[e]):p:=h
theorem Rx(h:p:=by cases hr):p:=h
theorem Rw(h:p:=by simp[m]):p:=h
theorem Rv(h:p:=by trivial):p:=h
theorem Ru(h:p:=by cases h):p:=h
theorem Rt(h:p:=by go_num):p:=h
theorem Rs(h:p:=by decide):p:=h
theorem Rr(h:p:=by omega):p:=h
theorem Rq(h:p:=by simp):p:=h
theorem Rp(h:p:=by rfl):p:=h
end Go.Proofs.YtpieilkmmiopfaaGreatDoor
