/- Steps that stand more than once. Conditions: none. -/
import Derived.BigQuiet
import Derived.ChangeVars
import Derived.Deep.AppendLies
import Derived.Deep.Cut
import Derived.Deep.CutBlock
import Derived.Deep.CutRange
import Derived.Deep.DeepHandedRow
import Derived.Deep.Matrix
import Derived.Deep.QuietTactic
import Derived.Deep.RegionHeld
import Derived.Deep.RegionHeld3
import Derived.Deep.RegionLaw
import Derived.Deep.RegionWith
import Derived.Deep.Slices
import Derived.Great.BuildSlice
import Derived.LaidLaws
import Derived.Laws.BytesString
import Derived.Laws.Concat
import Derived.Laws.CopyOwn
import Derived.Laws.Externs
import Derived.Laws.IdiomCopy
import Derived.Laws.IdiomStrings
import Derived.Lib.AppendZeros
import Derived.Lib.AppendZerosOnto
import Derived.Lib.Hide
import Derived.Lib.LaidTab
import Derived.Lib.Overlaps
import Derived.Lib.SliceRun
import Derived.Lib.SmallJoins
import Derived.Maps.AppendAt
import Derived.Maps.OwnOps
import Derived.Maps.RangeWalk
import Derived.OpenShut
import Derived.OwnWalkIn
import Derived.ProofKit
import Derived.RangeFuncBound
import Derived.RangeFuncCalls
import Derived.RangeFuncNested
import Derived.Shelf.Abstract
import Derived.StillTail
import Derived.TacticsInMore
import Derived.Test.YtpieilkmmiopfaaGreatDoorProg
import Derived.WalkKit
import Derived.WalkLawsBesides
import Derived.WalkSmall
import Derived.WalkSpells
namespace Go.Proofs.YtpieilkmmiopfaaGreatDoor
open Go.RowKit Tryz
set_option linter.all false
def _root_.Eq.t := @Eq.trans
def _root_.Go.RowKit.Below.t := @Go.RowKit.Below.trans
def _root_.Iff.t := @Iff.trans
def _root_.Go.Calls.x := @Go.Calls.mono
def _root_.Go.CallsIn.x := @Go.CallsIn.mono
def _root_.Go.RoundIn.x := @Go.RoundIn.mono
def _root_.Go.RowKit.Below.x := @Go.RowKit.Below.mono
def _root_.Go.Rows.x := @Go.Rows.mono
def _root_.Go.World.ownsMap.x := @Go.World.ownsMap.mono
def _root_.Eq.q := @Eq.symm
def _root_.Iff.q := @Iff.symm
def _root_.Ne.q := @Ne.symm
def _root_.Go.World.ownsRow.g := @Go.World.ownsRow.frozenAt
def _root_.Go.World.ownsRow.j := @Go.World.ownsRow.stored
def _root_.Go.World.ownsRow.C := @Go.World.ownsRow.cellAt
def _root_.Or.E := @Or.imp
def zA.{u}:(∀{α:Type u} (l:List α) (i:Nat) (a:α),l.toArray.setIfInBounds i a=(l.set i a).toArray)/\(∀{α:Type u} {x:α} {l:List α} {a:α},(x::l).set 0 a=a::l)/\∀{α:Type u} {x:α} {l:List α} {n:Nat} {a:α},(x::l).set (n+1) a=x::l.set n a:=⟨fun _ _ _=>List.setIfInBounds_toArray ..,rfl,rfl⟩
instance:CoeOut World Nat:=⟨(·.heap.size)⟩
instance {α}:CoeOut (List α) Nat:=⟨(·.length)⟩
def Hd(p:Prop):Prop:=(fun _=>p) @wpAnyQ
def Hd.o{p:Prop}(h:Hd p):p:=h
def zH{p:Prop}(h:p):Hd p:=h
def aR{α:Sort _}(a:α):∃x,x=a:=⟨a,rfl⟩
def aT{a b c:World}(h:Below a a b)(l:Below b b c):Below a a c:=h.t (l.x h.size)
def bJ{p0 p1:Prop}(a0:p0)(a1:p1):Hd p0/\Hd p1:=⟨a0,a1⟩
def er{p0 p1 p2:Prop}(a0:p0)(a1:p1)(a2:p2):Hd p0/\Hd p1/\Hd p2:=⟨a0,a1,a2⟩
def gG{p0 p1 p2 p3:Prop}(a0:p0)(a1:p1)(a2:p2)(a3:p3):Hd p0/\Hd p1/\Hd p2/\Hd p3:=⟨a0,a1,a2,a3⟩
def pD{p0 p1 p2 p3 p4:Prop}(a0:p0)(a1:p1)(a2:p2)(a3:p3)(a4:p4):Hd p0/\Hd p1/\Hd p2/\Hd p3/\Hd p4:=⟨a0,a1,a2,a3,a4⟩
def ny{p0 p1 p2 p3 p4 p5:Prop}(a0:p0)(a1:p1)(a2:p2)(a3:p3)(a4:p4)(a5:p5):Hd p0/\Hd p1/\Hd p2/\Hd p3/\Hd p4/\Hd p5:=⟨a0,a1,a2,a3,a4,a5⟩
def ß{p0 p1 p2 p3 p4 p5 p6:Prop}(a0:p0)(a1:p1)(a2:p2)(a3:p3)(a4:p4)(a5:p5)(a6:p6):Hd p0/\Hd p1/\Hd p2/\Hd p3/\Hd p4/\Hd p5/\Hd p6:=⟨a0,a1,a2,a3,a4,a5,a6⟩
def ð{p0 p1 p2 p3 p4 p5 p6 p7:Prop}(a0:p0)(a1:p1)(a2:p2)(a3:p3)(a4:p4)(a5:p5)(a6:p6)(a7:p7):Hd p0/\Hd p1/\Hd p2/\Hd p3/\Hd p4/\Hd p5/\Hd p6/\Hd p7:=⟨a0,a1,a2,a3,a4,a5,a6,a7⟩
def Ů{p0 p1 p2 p3 p4 p5 p6 p7 p8:Prop}(a0:p0)(a1:p1)(a2:p2)(a3:p3)(a4:p4)(a5:p5)(a6:p6)(a7:p7)(a8:p8):Hd p0/\Hd p1/\Hd p2/\Hd p3/\Hd p4/\Hd p5/\Hd p6/\Hd p7/\Hd p8:=⟨a0,a1,a2,a3,a4,a5,a6,a7,a8⟩
def ϟ{p0 p1 p2 p3 p4 p5 p6 p7 p8 p9:Prop}(a0:p0)(a1:p1)(a2:p2)(a3:p3)(a4:p4)(a5:p5)(a6:p6)(a7:p7)(a8:p8)(a9:p9):Hd p0/\Hd p1/\Hd p2/\Hd p3/\Hd p4/\Hd p5/\Hd p6/\Hd p7/\Hd p8/\Hd p9:=⟨a0,a1,a2,a3,a4,a5,a6,a7,a8,a9⟩
def ũ{p0 p1 p2 p3 p4 p5 p6 p7 p8 p9 p10:Prop}(a0:p0)(a1:p1)(a2:p2)(a3:p3)(a4:p4)(a5:p5)(a6:p6)(a7:p7)(a8:p8)(a9:p9)(a10:p10):Hd p0/\Hd p1/\Hd p2/\Hd p3/\Hd p4/\Hd p5/\Hd p6/\Hd p7/\Hd p8/\Hd p9/\Hd p10:=⟨a0,a1,a2,a3,a4,a5,a6,a7,a8,a9,a10⟩
def zl9{p0 p1 p2 p3 p4 p5 p6 p7 p8 p9 p10 p11:Prop}(a0:p0)(a1:p1)(a2:p2)(a3:p3)(a4:p4)(a5:p5)(a6:p6)(a7:p7)(a8:p8)(a9:p9)(a10:p10)(a11:p11):Hd p0/\Hd p1/\Hd p2/\Hd p3/\Hd p4/\Hd p5/\Hd p6/\Hd p7/\Hd p8/\Hd p9/\Hd p10/\Hd p11:=⟨a0,a1,a2,a3,a4,a5,a6,a7,a8,a9,a10,a11⟩
def bM(w:World)(o:Obj):Below w w (w.alloc o)/\(w.alloc o).heap[w.heap.size]?=some o:=⟨(Below.refl _ _).alloc (Nat.le_refl _) o,by show(w.heap.push o)[w.heap.size]?=_;simp⟩
structure M.{u}{α:Sort u}(a:α):Type
instance {α:Type}{a:α}:CoeOut (M a) α:=⟨fun _=>a⟩
instance {a:Prop}:CoeOut (M a) Prop:=⟨fun _=>a⟩
instance {a:Prop}:CoeSort (M a) Prop:=⟨fun _=>a⟩
instance {a:Type}:CoeOut (M a) Type:=⟨fun _=>a⟩
instance {a:Type}:CoeSort (M a) Type:=⟨fun _=>a⟩
instance:Coe Int Value:=⟨fun x=>.int .i64 x⟩
instance:Coe Nat Value:=⟨fun x=>.int .i64 (x:Int)⟩
instance:CoeDep Unit () Value:=⟨.int .i64 0⟩
def dE:M (Value.slice none 0 0):=⟨⟩
def ag(w w':World):M (Below w w w'):=⟨⟩
def af(w:World)(b o:Nat)(v:Value):M (w.cell? ⟨b,o,none⟩=some v):=⟨⟩
def bA(w:World)(b:Nat)(c:Array Value)(t:TypeId):M (w.heap[b]?=some (.cells c t)):=⟨⟩
def dt(w:World)(x:Bool):M (fun(e:Ending) (w':World)=>e=.returned (.bool x)/\Below w w w'):=⟨⟩
def az(f:FuncId)(x:Array Value)(w:World)(R:Ending->World->Prop):M (Calls Tryz.prog f x w R):=⟨⟩
def bH(g:Nat):M (some (⟨g,0,none⟩:Addr)):=⟨⟩
def zI(x:Int):M (Value.int .i64 x):=⟨⟩
def aP:M (List (List Int)):=⟨⟩
def ax:M (Option Addr):=⟨⟩
def aL:M (List Int):=⟨⟩
def cL:M (List Value):=⟨⟩
def bP:M (List Nat):=⟨⟩
def ng:M (List (Nat×Nat)):=⟨⟩
def iH:M (List (Nat×Int)):=⟨⟩
def gZ:M (Exit->Act->World->Prop):=⟨⟩
def pt:M (Act->World->Prop):=⟨⟩
def j4:M (World->Prop):=⟨⟩
def aa:M (World):=⟨⟩
def aG:M (Value):=⟨⟩
def gg:M (Array Value):=⟨⟩
def iI:M (Array Oper):=⟨⟩
def dL:M (TypeId):=⟨⟩
def jk:M (Program):=⟨⟩
def dM:M (Addr):=⟨⟩
def g_:M (Nat×Nat):=⟨⟩
def gN:M (Nat->Nat):=⟨⟩
def pv:M (Array Bool):=⟨⟩
def Fg:M (List Bool):=⟨⟩
def h_:M (Oper):=⟨⟩
def aA{α3:Type}(x0 x1 x2)(x3:List α3)(x4):M (#[.int .i64 x0,.int .i64 x1,.slice x2 x3 x4]:Array Value):=⟨⟩
def bx:M (#[.int .i64 0,.int .i64 0,.slice none 0 0]:Array Value):=⟨⟩
def cw:M (#[.int .i64 0,.slice none 0 0,.slice none 0 0,.slice none 0 0]:Array Value):=⟨⟩
def lR(x0 x1 x2 x3 x4 x5 x6 x7 x8 x9 x10 x11 x12 x13 x14 x15 x16 x17 x18 x19 x20 x21 x22 x23 x24 x25 x26 x27 x28 x29 x30 x31 x32 x33 x34 x35 x36 x37 x38 x39 x40):M (#[.int .i64 x0,.int .i64 (x1:Nat),.slice x2 x3 x4,.slice x5 x6 x7,.slice x8 x9 x10,.int .i64 x11,.int .i64 x12,.slice x13 x14 x15,.int .i64 (x16:Nat),.int .i64 (x17:Nat),.slice x18 x19 x20,.int .i64 (x21:Nat),.slice x22 x23 x24,.slice x25 x26 x27,.slice x28 x29 x30,.int .i64 x31,.int .i64 x32,.slice x33 x34 x35,.int .i64 (x36:Nat),.int .i64 (x37:Nat),.slice x38 x39 x40]:Array Value):=⟨⟩
def dh(x0 x1 x2 x3 x4):M (#[.int .i64 (x0:Nat),.int .i64 (x1:Nat),.slice x2 x3 x4]:Array Value):=⟨⟩
def bC(x0 x1):M (#[.int .i64 x0,.int .i64 x1]:Array Value):=⟨⟩
def rF:M (#[.int .i64 0,.int .i64 0,.slice none 0 0,.slice none 0 0,.slice none 0 0,.int .i64 0,.int .i64 0,.slice none 0 0,.int .i64 0,.int .i64 0,.slice none 0 0,.int .i64 0,.slice none 0 0,.slice none 0 0,.slice none 0 0,.int .i64 0,.int .i64 0,.slice none 0 0,.int .i64 0,.int .i64 0,.slice none 0 0]:Array Value):=⟨⟩
def aV{α1:Type}(x0)(x1:List α1)(x2):M (#[.slice x0 x1 x2]:Array Value):=⟨⟩
def eh{α3:Type}{α6:Type}(x0 x1 x2)(x3:List α3)(x4 x5)(x6:List α6)(x7):M (#[.int .i64 x0,.int .i64 x1,.slice x2 x3 x4,.slice x5 x6 x7]:Array Value):=⟨⟩
def lS(x0 x1 x2 x3 x4 x5 x6 x7 x8 x9 x10 x11 x12 x13 x14 x15 x16 x17 x18 x19 x20 x21 x22 x23 x24 x25 x26 x27 x28 x29):M (#[.int .i64 (x0:Nat),.slice x1 x2 x3,.slice x4 x5 x6,.slice x7 x8 x9,.int .i64 (x10:Nat),.slice x11 x12 x13,.slice x14 x15 x16,.slice x17 x18 x19,.int .i64 x20,.int .i64 x21,.slice x22 x23 x24,.int .i64 x25,.int .i64 x26,.slice x27 x28 x29]:Array Value):=⟨⟩
def tV:M (#[.int .i64 0,.slice none 0 0,.slice none 0 0,.slice none 0 0,.int .i64 0,.slice none 0 0,.slice none 0 0,.slice none 0 0,.int .i64 0,.int .i64 0,.slice none 0 0,.int .i64 0,.int .i64 0,.slice none 0 0]:Array Value):=⟨⟩
def dN(x0 x1 x2):M (#[.int .i64 x0,.int .i64 x1,.string x2]:Array Value):=⟨⟩
def fw(x0 x1 x2 x3 x4 x5 x6 x7 x8 x9):M (#[.int .i64 (x0:Nat),.slice x1 x2 x3,.slice x4 x5 x6,.slice x7 x8 x9]:Array Value):=⟨⟩
def gH(x0 x1 x2 x3 x4):M (#[.int .i64 (x0:Nat),.int .i64 (x1:Nat),.slice x2 x3 x4]:Array Value):=⟨⟩
def iK(x0 x1 x2 x3 x4 x5 x6 x7 x8 x9 x10 x11 x12 x13):M (#[.bool x0,.slice x1 x2 x3,.int .i64 x4,.slice x5 x6 x7,.slice x8 x9 x10,.slice x11 x12 x13]:Array Value):=⟨⟩
def eO(x0 x1 x2 x3 x4):M (#[.int .i64 x0,.int .i64 x1,.slice x2 x3 x4]:Array Value):=⟨⟩
def bK(x0):M (#[.int .i64 x0]:Array Value):=⟨⟩
def jP(x0 x1 x2 x3 x4 x5 x6):M (#[.int .i64 x0,.int .i64 x1,.int .i64 x2,.int .i64 x3,.slice x4 x5 x6]:Array Value):=⟨⟩
def dz(x0):M (#[.agg x0,.bool false]:Array Value):=⟨⟩
def en(x0 x1 x2):M (#[.int .i64 x0,.int .i64 x1,x2]:Array Value):=⟨⟩
def iL(x0 x1):M (#[.int .i64 (x0:Nat),.int .i64 (x1:Nat)]:Array Value):=⟨⟩
def gT(x0 x1 x2):M (#[.int .i64 x0,.int .i64 x1,.int .i64 x2]:Array Value):=⟨⟩
def fP:M (#[.int .i64 0,.int .i64 0]:Array Value):=⟨⟩
def Ae:M (#[.int .i64 0,.slice none 0 0,.slice none 0 0,.slice none 0 0,.int .i64 0,.int .i64 0,.slice none 0 0,.int .i64 0,.int .i64 0,.slice none 0 0]:Array Value):=⟨⟩
def gh:M (#[.nilIface,.bool false]:Array Value):=⟨⟩
def tW:M (#[.bool false,.slice none 0 0,.int .i64 0,.slice none 0 0,.slice none 0 0,.slice none 0 0]:Array Value):=⟨⟩
def lT(x0 x1 x2 x3 x4 x5 x6):M (#[.agg #[.slice x0 x1 x2,.slice x3 x1 x4,.slice x5 x1 x6],.bool false]:Array Value):=⟨⟩
def fm(x0):M (#[.int .i64 (x0:Nat)]:Array Value):=⟨⟩
def fH(x0):M (#[.agg x0,.bool true]:Array Value):=⟨⟩
def bZ(x0 x1 x2):M (#[.slice x0 x1 x2]:Array Value):=⟨⟩
def rG:M (#[.slice none 0 0,.slice none 0 0,.slice none 0 0]:Array Value):=⟨⟩
def rH{α1:Type}(x0)(x1:List α1)(x2 x3 x4 x5 x6 x7 x8 x9 x10 x11 x12):M (#[.bool true,.slice x0 x1 x2,.int .i64 x3,.slice x4 x5 x6,.slice x7 x8 x9,.slice x10 x11 x12]:Array Value):=⟨⟩
def je(x0 x1 x2):M (#[.agg x0,.int .i64 x1,.agg x2]:Array Value):=⟨⟩
def kz(x0 x1 x2 x3):M (#[.int .i64 x0,.agg x1,.agg x2,.agg x3]:Array Value):=⟨⟩
def gj(x0 x1):M (#[.int .i64 x0,.agg x1]:Array Value):=⟨⟩
def kZ:M (#[.int .i64 0,.int .i64 1]:Array Value):=⟨⟩
def rI{α2:Type}{α5:Type}{α8:Type}(x0 x1)(x2:List α2)(x3 x4)(x5:List α5)(x6 x7)(x8:List α8)(x9):M (#[.int .i64 x0,.slice x1 x2 x3,.slice x4 x5 x6,.slice x7 x8 x9]:Array Value):=⟨⟩
def ĩ:M (#[.int .i64 1,.int .i64 2,.int .i64 1,.int .i64 0,.int .i64 2,.int .i64 1,.int .i64 0,.int .i64 1,.int .i64 1,.int .i64 1,.int .i64 1,.int .i64 1]:Array Value):=⟨⟩
def rJ(x0 x1 x2 x3 x4 x5 x6):M (#[.int .i64 x0,.int .i64 x1,.int .i64 x2,.int .i64 x3,.slice x4 x5 x6]:Array Value):=⟨⟩
def pP(x0 x1 x2 x3):M (#[.int .i64 x0,.int .i64 x1,.int .i64 x2,.int .i64 x3]:Array Value):=⟨⟩
def j9(x0 x1 x2):M (#[.int .i64 x0,.agg x1,.agg x2]:Array Value):=⟨⟩
def mu:M (#[.int .i64 1,.int .i64 0]:Array Value):=⟨⟩
def tX(x0 x1 x2 x3 x4 x5):M (#[.int .i64 3,.int .i64 x0,.int .i64 x1,.int .i64 x2,.slice x3 x4 x5]:Array Value):=⟨⟩
def tY(x0 x1 x2 x3 x4 x5):M (#[.int .i64 6,.int .i64 x0,.int .i64 x1,.int .i64 x2,.slice x3 x4 x5]:Array Value):=⟨⟩
def tZ(x0 x1 x2 x3 x4 x5):M (#[.int .i64 8,.int .i64 x0,.int .i64 x1,.int .i64 x2,.slice x3 x4 x5]:Array Value):=⟨⟩
def t_(x0 x1 x2 x3 x4 x5):M (#[.int .i64 1,.int .i64 x0,.int .i64 x1,.int .i64 x2,.slice x3 x4 x5]:Array Value):=⟨⟩
def ud(x0 x1 x2 x3 x4 x5):M (#[.int .i64 2,.int .i64 x0,.int .i64 x1,.int .i64 x2,.slice x3 x4 x5]:Array Value):=⟨⟩
def ue(x0 x1 x2 x3 x4 x5):M (#[.int .i64 4,.int .i64 x0,.int .i64 x1,.int .i64 x2,.slice x3 x4 x5]:Array Value):=⟨⟩
def uf(x0 x1 x2 x3 x4 x5):M (#[.int .i64 5,.int .i64 x0,.int .i64 x1,.int .i64 x2,.slice x3 x4 x5]:Array Value):=⟨⟩
def uh(x0 x1 x2 x3 x4 x5):M (#[.int .i64 7,.int .i64 x0,.int .i64 x1,.int .i64 x2,.slice x3 x4 x5]:Array Value):=⟨⟩
def j_(x0 x1 x2):M (#[.int .i64 x0,.agg x1,.agg x2]:Array Value):=⟨⟩
def uk(x0 x1 x2 x3 x4 x5):M (#[.int .i64 9,.int .i64 x0,.int .i64 x1,.int .i64 x2,.slice x3 x4 x5]:Array Value):=⟨⟩
def nh(x0 x1 x2 x3 x4 x5 x6 x7 x8 x9):M (#[.int .i64 x0,.slice x1 x2 x3,.slice x4 x5 x6,.slice x7 x8 x9]:Array Value):=⟨⟩
def mv{α1:Type}{α4:Type}(x0)(x1:List α1)(x2 x3)(x4:List α4)(x5):M (#[.slice x0 x1 x2,.slice x3 x4 x5]:Array Value):=⟨⟩
def Af(x0):M (#[.int .i64 (x0:Nat),.slice none 0 0,.slice none 0 0,.slice none 0 0]:Array Value):=⟨⟩
def wS:M (#[.int .i64 2,.int .i64 3,.int .i64 5,.int .i64 7]:Array Value):=⟨⟩
def wT(x0 x1 x2 x3 x4 x5):M (#[.int .i64 x0,.int .i64 (x1:Nat),.int .i64 (x2:Nat),.slice x3 x4 x5]:Array Value):=⟨⟩
def jx(x0 x1 x2):M (#[x0,.int .i64 x1,.agg x2]:Array Value):=⟨⟩
def jy(x0 x1):M (#[.agg x0,.int .i64 x1]:Array Value):=⟨⟩
def jz:M (#[.int .i64 0]:Array Value):=⟨⟩
def wU(x0 x1 x2):M (#[.int .i64 2,.int .i64 x0,.int .i64 x1,.int .i64 x2]:Array Value):=⟨⟩
def lU:M (#[.slice none 0 0]:Array Value):=⟨⟩
def Ā(x0 x1 x2 x3 x4 x5 x6 x7 x8 x9 x10 x11 x12 x13 x14 x15 x16 x17 x18 x19 x20 x21 x22 x23 x24 x25 x26 x27 x28 x29 x30 x31 x32 x33 x34 x35 x36 x37 x38 x39 x40):M (#[.int .i64 x0,.int .i64 x1,.slice x2 x3 x4,.slice x5 x6 x7,.slice x8 x9 x10,.int .i64 x11,.int .i64 x12,.slice x13 x14 x15,.int .i64 x16,.int .i64 x17,.slice x18 x19 x20,.int .i64 x21,.slice x22 x23 x24,.slice x25 x26 x27,.slice x28 x29 x30,.int .i64 x31,.int .i64 x32,.slice x33 x34 x35,.int .i64 x36,.int .i64 x37,.slice x38 x39 x40]:Array Value):=⟨⟩
def um(x0 x1 x2 x3 x4 x5 x6 x7 x8 x9):M (#[.int .i64 (x0:Nat),.slice x1 x2 x3,.slice x4 x5 x6,.slice x7 x8 x9]:Array Value):=⟨⟩
def cY(x0):M (#[.agg x0]:Array Value):=⟨⟩
def Ag(x0 x1):M (#[.int .i64 0,.int .i64 x0,.int .i64 x1,.int .i64 0]:Array Value):=⟨⟩
def đ:M (#[.int .i64 0,.slice none 0 0,.slice none 0 0,.slice none 0 0,.slice none 0 0]:Array Value):=⟨⟩
def iV(x0 x1):M (#[.agg x0,.agg x1]:Array Value):=⟨⟩
def Ah(x0 x1 x2):M (#[.int .i64 1,.int .i64 x0,.int .i64 x1,.int .i64 x2]:Array Value):=⟨⟩
def CT{α5:Type}{α8:Type}{α11:Type}(x0 x1 x2 x3 x4)(x5:List α5)(x6 x7)(x8:List α8)(x9 x10)(x11:List α11)(x12):M (#[.bool false,.slice x0 x1 x2,.int .i64 x3,.slice x4 x5 x6,.slice x7 x8 x9,.slice x10 x11 x12]:Array Value):=⟨⟩
def Ai(x0 x1 x2):M (#[.int .i64 0,.int .i64 x0,.int .i64 x1,.int .i64 x2]:Array Value):=⟨⟩
def CU(x0 x1):M (#[.int .i64 (x0:Nat),.int .i64 (x1:Nat),.slice none 0 0]:Array Value):=⟨⟩
def uo:M (#[.bool false,.bool true]:Array Value):=⟨⟩
def wV(x0 x1 x2 x3):M (#[.agg x0,.pointer x1,.pointer x2,.pointer x3]:Array Value):=⟨⟩
def ka(x0 x1):M (#[.agg x0,.bool x1]:Array Value):=⟨⟩
def wW(x0 x1 x2 x3 x4 x5 x6 x7):M (#[.int .i64 x0,.int .i64 x1,.slice x2 x3 x4,.slice x5 x6 x7]:Array Value):=⟨⟩
def CV(x0 x1 x2 x3):M (#[.int .i64 x0,.int .i64 (x1:Nat),.slice x2 2 2,.slice x3 2 2]:Array Value):=⟨⟩
def CW(x0 x1 x2 x3):M (#[.int .i64 x0,.slice x1 x2 x3,.slice none 0 0,.slice none 0 0]:Array Value):=⟨⟩
def rL(x0 x1 x2 x3 x4):M (#[.agg x0,.int .i64 x1,.slice x2 x3 x4]:Array Value):=⟨⟩
def wX:M (#[.bool false,.bool false]:Array Value):=⟨⟩
def pQ(x0):M (#[.agg x0,.bool false]:Array Value):=⟨⟩
def uq(x0):M (#[.int .i64 1,.int .i64 x0]:Array Value):=⟨⟩
def mw(x0 x1):M (#[.bool x0,.bool x1]:Array Value):=⟨⟩
def rM(x0):M (#[.bool x0,.bool true]:Array Value):=⟨⟩
def Ą:M (#[.int .i64 1,.int .i64 0,.int .i64 0,.int .i64 1]:Array Value):=⟨⟩
def ą:M (#[.int .i64 0,.int .i64 1,.int .i64 1,.int .i64 0]:Array Value):=⟨⟩
def nj(x0 x1 x2 x3 x4 x5):M (#[.slice x0 x1 x2,.slice x3 x4 x5]:Array Value):=⟨⟩
def CX(x0):M (#[.int .i64 0,.int .i64 0,.string x0]:Array Value):=⟨⟩
def wY(x0 x1 x2 x3 x4 x5 x6):M (#[.int .i64 x0,.slice x1 x2 x3,.slice x4 x5 x6]:Array Value):=⟨⟩
def ě:M (#[.int .i64 1,.int .i64 1,.int .i64 1]:Array Value):=⟨⟩
def bG:=@List.getElem?_eq_some_iff
def bI:=@List.getElem?_map
def eW:=@List.map_set
def iW:=@List.length_set
def fi:=@List.getElem?_append_right
def fQ:=@List.getElem?_drop
def bs:=@List.length_map
def cQ:=@List.length_take
def iw:=@Nat.min_eq_left
def pR:=@Nat.sub_self
def jf:=@Nat.add_zero
def uu:=@List.drop_eq_getElem_cons
def du:=@List.take_add_one
def kA:=@List.map_append
def om:=@List.set_append_right
def ix:=@Nat.le_of_lt
def gk:=@List.ext_getElem?
def gl:=@List.getElem?_set_self
def gI:=@List.getElem?_set_ne
def Aj:=@List.getElem?_zip_eq_some
def pS:=@List.of_mem_zip
def jA:=@World.ownsRow.kept
def au:=@Or.inr
def fI:=@List.getElem?_replicate
def iy:=@List.getElem?_range
def ak:=@if_pos
def eP:=@List.getElem?_eq_none
def aj:=@if_neg
def nk:=@List.range_succ
def CY:=@List.any_append
def kB:=@List.map_congr_left
def fR:=@decide_eq_false
def jQ:=@Bool.eq_iff_iff
def nl:=@List.any_eq_true
def bN:=@Bool.and_eq_true
def cf:=@decide_eq_true_eq
def fj:=@List.mem_range
def Al:=@Bool.not_eq_true
def dP:=@List.mem_append
def ay:=@Or.inl
def uv:=@List.mem_flatten
def cH:=@List.mem_map
def dU:=@List.getElem?_append_left
def iM:=@List.getElem?_take
def fJ:=@List.append_assoc
def rO:=@List.set_cons_zero
def wZ:=@List.cons_append
def rP:=@List.nil_append
def cZ:=@List.take_of_length_le
def jR:=@List.drop_of_length_le
def lZ:=@List.append_nil
def bm:=@List.length_append
def fS:=@List.length_drop
def dp:=@info_parts
def aZ:=@Nat.le_trans
def Am:=@Nat.mul_le_mul_right
def al:=@Below.refl
def ae:=@Nat.le_refl
def jg:=@wpList_make_full
def dR:=@underlying26
def aW:=@Nat.zero_le
def fK:=@List.length_range
def aU:=@List.mem_of_getElem?
def bf:=@List.getD_eq_getElem?_getD
def aQ:=@And.intro
def pT:=@beq_iff_eq
def bS:=@World.ownsRow.lt
def rQ:=@List.count_le_length
def bT:=@IntKind.wrap_i64
def fA:=@List.length_replicate
def bk:=@Array.getElem?_eq_some_iff
def aI:=@bodyPost_ret
def pU:=@Nat.lt_of_succ_lt
def iq:=@List.eq_nil_of_length_eq_zero
def dV:=@World.size_alloc
def dA:=@List.getElem?_cons_zero
def dm:=@List.getElem?_cons_succ
def eH:=@List.mem_iff_getElem?
def nm:=@World.ownsRow.alloc
def jB:=@World.block_lt_of_cell?
def CZ:=@DataW.trod_struct
def C0:=@List.drop_zero
def Ċ:=@List.drop_succ_cons
def w_:=@List.take_succ_cons
def oq:=@List.take_zero
def uw:=@DataW.trod_int
def fL:=@underlying3
def ow:=@Nat.add_assoc
def ox:=@Option.map_some
def xd:=@Option.getD_some
def pV:=@List.getElem?_set
def k_:=@Ne.q
def np:=@Int.zero_mul
def jh:=@Int.mul_zero
def lg:=@forall_congr'
def gU:=@Int.mul_comm
def ep:=@Value.slice.injEq
def oy:=@congrArg
def An:=@Nat.lt_trichotomy
def iz:=@Int.eq_ofNat_of_zero_le
def eD:=@List.all_eq_true
def jS:=@Bool.or_eq_true
def rS:=@Int.mul_nonneg
def Ĥ:=@Int.mul_le_mul_of_nonneg_right
def Ĕ:=@Int.mul_le_mul_of_nonneg_left
def gV:=@Int.emod_nonneg
def gW:=@Int.emod_lt_of_pos
def ux:=@Int.add_zero
def iA:=@underlying55
def xe:=@heap_alloc_old
def jT:=@List.length_cons
def iN:=@List.length_nil
def bE:=@heap_setCell_same
def eX:=@heap_setCell_other
def uA:=@List.take_length
def C3:=@Int.natCast_add
def a_:=@Below.heap_setCell
def ĥ:=@Int.add_mul_emod_self_left
def nq:=@Int.emod_eq_of_lt
def C4:=@List.length_filter_le
def C5:=@List.filter_append
def pW:=@World.ownsRow.form
def dW:=@Option.some.injEq
def iX:=@Nat.lt_succ_self
def lh:=@List.mem_flatMap
def fk:=@Nat.mul_one
def oz:=@World.ownsRow.cells
def rT:=@World.ownsRow_nil
def C6:=@wpList_append_own
def Ao:=@List.length_eq_zero_iff
def mx:=@List.mem_of_mem_drop
def di:=@List.getElem?_eq_getElem
def pX:=@List.length_eraseIdx
def l5:=@List.size_toArray
def jU:=@Nat.zero_add
def xf:=@step_append_room
def nr:=@List.map_map
def oC:=@World.grownBy.cell
def l6:=@World.cell?_of_block
def gm:=@Nat.lt_of_lt_of_le
def ji:=@Option.some.inj
def gp:=@Nat.le_of_eq
def iB:=@Calls.x
def Ĩ:=@List.flatten_append
def Ķ:=@List.take_append_drop
def rU:=@List.map_nil
def pY:=@ntmps96
def xg:=@Addr.mk.injEq
def pZ:=@results96
def xh:=@List.set_cons_succ
def kC:=@List.mem_cons_of_mem
def kb:=@List.mem_cons_self
def p_:=@if_true
def C7:=@List.replicate_succ
def uB:=@Int.mul_le_mul
def l7:=@wpList_plain
def uC:=@Bool.or_eq_false_iff
def uD:=@decide_eq_false_iff_not
def Aq:=@Int.mul_add
def et:=@List.mem_cons
def lj:=@Below.setCell
def C8:=@wp_region_held_drew
def lk:=@wpAnyH_ready
def ll:=@AllReadyH.nil
def As:=@World.cell?_setCell_other
def uE:=@Bool.not_eq_true'
def Av:=@Option.isSome_iff_exists
def xi:=@Bool.and_assoc
def uF:=@Bool.eq_false_iff
def Aw:=@Nat.le_total
def uG:=@Nat.min_eq_right
def xj:=@List.mem_filter
def kD:=@List.mem_singleton
def gJ:=@List.not_mem_nil
def oD:=@List.mem_append_left
def kE:=@List.mem_append_right
def Ax:=@List.all_cons
def rV:=@List.all_append
def dJ:=@wpQuiet_nil
def iY:=@Nat.add_sub_cancel_left
def C9:=@List.getElem?_append
def rW:=@Int.mul_assoc
def rX:=@Nat.min_self
def ir:=@Int.dvd_add
def qd:=@Int.dvd_mul_of_dvd_right
def oE:=@Int.mul_sub
def eY:=@Int.dvd_sub
def Ay:=@List.length_eraseIdx_of_lt
def C_:=@List.eraseIdx_eq_take_drop_succ
def nt:=@List.take_take
def AA:=@List.mem_of_mem_eraseIdx
def Da:=@Int.toNat_natCast
def AB:=@World.ownsRow.drew
def rY:=@Below.grown
def rZ:=@run_underlying
def oF:=@Option.map_eq_some_iff
def Db:=@World.ownsRow_lit
def AD:=@Classical.byContradiction
def AE:=@wpList_append_own_at
def r_:=@Int.mul_one
def oG:=@List.take_append_of_le_length
def fT:=@decide_eq_true
def se:=@List.map_cons
def uH:=@List.flatten_cons
def AF:=@Nat.succ_mul
def uI:=@Nat.add_comm
def qe:=@Nat.le_succ
def uJ:=@belowK_b
def Ē:=@World.putObj_heap_same
def kF:=@World.putObj_heap_other
def xk:=@List.getElem_mem
def kG:=@results149
def Dc:=@Result.andThen_ok
def AG:=@List.mem_of_mem_take
def uK:=@results15
def uL:=@underlying71
def AH:=@Nat.eq_zero_or_pos
def Ę:=@List.mem_map_of_mem
def Dd:=@List.length_singleton
def De:=@List.getElem_of_mem
def oH:=@List.length_eq_one_iff
def uM:=@setRow_other
def gX:=@or_false
def sf:=@Array.getElem?_toList
def Df:=@wpList_load_row
def AI:=@setRow_heap
def AJ:=@decide_eq_decide
def uN:=@Bool.true_eq_false
def lp:=@if_false
def uO:=@results219
def xl:=@Int.dvd_neg
def xm:=@Bool.true_and
def AK:=@Int.sub_zero
def eQ:=@func146
def eS:=@ntmps146
def eT:=@results146
def oI:=@func101
def oJ:=@ntmps101
def fM:=@results101
def my:=@Bool.false_and
def oK:=@func136
def oL:=@ntmps136
def xn:=@DataW.trod_lt
def sg:=@trodAll_cons_mk
def xo:=@Below.trod
def oM:=@of_decide_eq_true
def mz:=@Int.sub_mul
def kH:=@Int.dvd_trans
def AL:=@Int.mul_neg
def xp:=@Nat.lt_or_ge
def ģ:=@List.getElem?_zipWith
def ś:=@Array.toList_append
def Dg:=@List.take_left
def Ğ:=@run_firstCells_some
def į:=@Lib.run_append_grow_zeros
def ı:=@List.getElem?_zipIdx
def Dh:=@List.getElem_range
def ϡ:=@Int.emod_eq_zero_of_dvd
def Di:=@List.flatMap_append
def oN:=@func151
def oO:=@ntmps151
def oP:=@results151
def uP:=@results14
def sh:=@run_copy_cells
def si:=@Nat.min_def
def Dj:=@wpList_append_lies
def gq:=@func95
def gx:=@ntmps95
def uQ:=@Int.zero_add
def Dk:=@Nat.lt_or_eq_of_le
def uR:=@results75
def Dl:=@Int.dvd_mul_of_dvd_left
def sj:=@func192
def sl:=@ntmps192
def sm:=@results192
def AM:=@Array.getElem?_eq_none
structure Bx(q:Prop):Prop where o:q
variable{p q:Prop}
def Z_(h:p:=by
 go_wp2_with fail
 refine cU (S:=fun W=>af W w1 2 (.slice (bH g) rows Ga)) 14 (by kernel_rfl) y2 (fun hHeld=>?_);refine Qi ?_;refine aM 9 ?_;refine aM 10 ?_;refine aM 11 ?_;refine ĉ (i:=6) (j:=7) (by kernel_rfl) rfl rfl (fun K hK=>?_) (fun K hK=>?_)
 .go_simp;refine(L1.o _ (al _ _).drew).x ?_;rintro e w2 ⟨u1,rfl,IB,Gg⟩;obtain⟨A1,c1,rfl⟩:∃A1 c1,u1=.slice A1 0 c1:=by obtain⟨A1,c1,e,_⟩:=IB.p;exact⟨A1,c1,by rw[e];congr 1<;>(simp<;>omega)⟩
  refine Mx fun H2 Iz hHeld Kt=>?_;clear K hK Gg IB
  have Kn:aE (w2.alloc (.cells jz 3)) wr (.slice A1 0 c1) ((([]:aL)).take 0):=Iz.o.ext ((al _ _).alloc (ae _) _);have IA:=ph w2 0;refine Pe fun Iv HZ HC K hK w3 A2 c2 Ks Kp hHeld=>?_;clear Kt Kn IA
  refine Qm ?_;clear K hK;refine PL fun w4 A3 c3 Ki Kr Kv Kh Km hHeld=>?_;clear y2 f0 z0
  refine P9 ?_;refine OC fun K hK hHeld=>?_
  refine Qm ?_;clear K hK;have hHeld:=hHeld (by decide);refine MU fun K hK=>?_
  refine O8 ?_;refine Qm ?_;clear K hK;refine Pw fun Kf HN Hi FZ=>?_
  go_roundw
  case rel=>exact⟨k+1,by omega,by go_num,⟨_,HN.o⟩,Hi.o,FZ.o⟩
  case measure=>simp[intOf];omega
 .refine Mv fun hHeld K hK w2 u1 IB Gg=>?_
  obtain⟨A1,c1,rfl⟩:∃A1 c1,u1=.slice A1 0 c1:=by obtain⟨A1,c1,e,_⟩:=IB.p;exact⟨A1,c1,by rw[e];congr 1<;>(simp<;>omega)⟩
  have H2:=zH (((al wr wr).drew.alloc (ae _) (.cells jz 3)).t (Gg.x (by simp)));have Kn:aE w2 wr (.slice A1 0 c1) ((([]:aL)).take 0):=IB.x (by simp);have IA:=(ph wr.drew 0).ext Gg;clear IB Gg;have Kt:=H2.o;go_simp;refine hK.out _ _ (fun _=>ar H2.o y2) (fun hHeld=>?_);refine Qm ?_;clear K hK;have hHeld:=hHeld (by decide);refine Pe fun Iv HZ HC K hK w3 A2 c2 Ks Kp hHeld=>?_;clear Kt Kn IA
  refine Qm ?_;clear K hK;refine PL fun w4 A3 c3 Ki Kr Kv Kh Km hHeld=>?_;clear y2 f0 z0
  refine P9 ?_;refine OC fun K hK hHeld=>?_
  refine Qm ?_;clear K hK;have hHeld:=hHeld (by decide);refine MU fun K hK=>?_
  refine O8 ?_;refine Qm ?_;clear K hK;refine Pw fun Kf HN Hi FZ=>?_
  go_roundw
  case rel=>exact⟨k+1,by omega,by go_num,⟨_,HN.o⟩,Hi.o,FZ.o⟩
  case measure=>simp[intOf];omega):p:=h
def Z9(h:p:=by
 go_wp2_with fail
 refine cU (S:=fun W=>af W w1 2 (.slice (bH g) rows Ga)) 14 (by kernel_rfl) y2 (fun hHeld=>?_);refine Qi ?_;refine aM 9 ?_;refine aM 10 ?_;refine aM 11 ?_;refine ĉ (i:=6) (j:=7) (by kernel_rfl) rfl rfl (fun K hK=>?_) (fun K hK=>?_)
 .go_simp;refine(L1.o _ (al _ _).drew).x ?_;rintro e w2 ⟨u1,rfl,IB,Gg⟩;obtain⟨A1,c1,rfl⟩:∃A1 c1,u1=.slice A1 q c1:=by obtain⟨A1,c1,e,_⟩:=IB.p;exact⟨A1,c1,by rw[e];congr 1<;>(simp<;>omega)⟩
  refine Mx fun H2 Iz hHeld Kt=>?_;clear K hK Gg IB
  have Kn:aE (w2.alloc (.cells jz 3)) wr (.slice A1 q c1) ((r).take q):=Iz.o.ext ((al _ _).alloc (ae _) _);have IA:=ph w2 0;refine Pd fun Iv HZ HC K hK w3 A2 c2 Ks Kp hHeld=>?_;clear Kt Kn IA
  refine Qm ?_;clear K hK;refine PG fun w4 A3 c3 Ki Kr Kv Kh Km hHeld=>?_;clear y2 f0 z0
  refine P9 ?_;refine OC fun K hK hHeld=>?_
  refine Qm ?_;clear K hK;have hHeld:=hHeld (by decide);refine MU fun K hK=>?_
  refine O8 ?_;refine Qm ?_;clear K hK;refine Pr fun Kf HN Hi FZ=>?_
  go_roundw
  case rel=>exact⟨k+1,by omega,by go_num,⟨_,HN.o⟩,Hi.o,FZ.o⟩
  case measure=>simp[intOf];omega
 .refine Mv fun hHeld K hK w2 u1 IB Gg=>?_
  obtain⟨A1,c1,rfl⟩:∃A1 c1,u1=.slice A1 q c1:=by obtain⟨A1,c1,e,_⟩:=IB.p;exact⟨A1,c1,by rw[e];congr 1<;>(simp<;>omega)⟩
  have H2:=zH (((al wr wr).drew.alloc (ae _) (.cells jz 3)).t (Gg.x (by simp)));have Kn:aE w2 wr (.slice A1 q c1) ((r).take q):=IB.x (by simp);have IA:=(ph wr.drew 0).ext Gg;clear IB Gg;have Kt:=H2.o;go_simp;refine hK.out _ _ (fun _=>ar H2.o y2) (fun hHeld=>?_);refine Qm ?_;clear K hK;have hHeld:=hHeld (by decide);refine Pd fun Iv HZ HC K hK w3 A2 c2 Ks Kp hHeld=>?_;clear Kt Kn IA
  refine Qm ?_;clear K hK;refine PG fun w4 A3 c3 Ki Kr Kv Kh Km hHeld=>?_;clear y2 f0 z0
  refine P9 ?_;refine OC fun K hK hHeld=>?_
  refine Qm ?_;clear K hK;have hHeld:=hHeld (by decide);refine MU fun K hK=>?_
  refine O8 ?_;refine Qm ?_;clear K hK;refine Pr fun Kf HN Hi FZ=>?_
  go_roundw
  case rel=>exact⟨k+1,by omega,by go_num,⟨_,HN.o⟩,Hi.o,FZ.o⟩
  case measure=>simp[intOf];omega):p:=h
def Z8(h:p:=by
 have⟨n0,n1,n2,n3⟩:=aB G6;have FU:=ai KS.o Gm;have IL:=zH FU;obtain⟨-,q1,-,-⟩:=aB FU;have S0:=aQ q1 (aQ n0 (aQ n1 (aQ n2 n3)));clear x0 x1 x2 x3 hi1 hi2 L1 L2 N1 N2 Gm G6 n0 n1 n2 n3 FU q1;refine cU (S:=fun V=>af V Z 1 (.slice C1 k m1)/\af V wr 0 (zI ek)/\af V wr 1 (zI ev)/\af V wr 2 (.slice D1 ei d1)/\af V wr 3 (.slice D2 IN d2)) 18 (by kernel_rfl) S0 (fun hHeld=>?_);refine Qj ?_;refine aM 10 ?_;refine aM 11 ?_;refine aM 12 ?_;refine cm 9 fun K hK=>?_
 go_simp;refine(KT.o _ (Ia.o.drew)).x ?_;rintro e w7 ⟨F1,g1,rfl,IB,FR⟩;have⟨GY,KO,Iz⟩:=er (Ia.o.drew.t (FR.x Ia.o.size)) ((aC w2).t FR) (IB.to (lo':=wr.heap.size) Ia.o.size (ae _));clear IB FR;go_simp;have S1:=kU KO.o S0;refine hK.out _ _ (fun _=>S1) (fun hHeld=>?_);clear hK K hHeld;refine P9 ?_;refine cm 13 fun K hK=>?_
 go_simp;refine(Hf.o _ GY.o).x ?_;rintro e w8 ⟨F2,g2,rfl,Gf,Gg⟩;have⟨Hk,KN,Iv,Kw⟩:=gG (aT GY.o Gg) Gg (Gf.to (lo':=wr.heap.size) GY.o.size (ae _)) (ai (ai IL.o KO.o) Gg);clear Gf Gg;go_simp;have S2:=kU KN.o S1;refine hK.out _ _ (fun _=>S2) (fun hHeld=>?_);clear hK K hHeld;refine P9 ?_;refine MU fun K hK=>?_
 refine hK.out _ _ (fun _=>S2) (fun hHeld=>?_);clear hK K hHeld;refine P9 ?_;refine cm 15 fun K hK=>?_
 go_simp;have S3:=kU (aw w8 (.cells (eh ek ev F1 ei g1 F2 IN g2) 155)) S2;refine hK.out _ _ (fun _=>S3) (fun hHeld=>?_);clear hK K hHeld;refine P9 ?_;have⟨KF,KL⟩:=bJ (aH w8 (.cells (eh ek ev F1 ei g1 F2 IN g2) 155) rfl) (aw w8 (.cells (eh ek ev F1 ei g1 F2 IN g2) 155));have KD:=zH ((II.o.ext Hk.o).ext KL.o);have KK:=zH (show kn Cl (w8.alloc (.cells (eh ek ev F1 ei g1 F2 IN g2) 155)) wc (.slice C1 k m1) (Ed.map f ⟨ek,ev,ei,IN⟩) [.int .i64 ek,.int .i64 ev,.slice F1 ei g1,.slice F2 IN g2] from by
  obtain⟨cs,ho⟩:=II.o;refine⟨wr,w8,IM,KL.o.size,fun g e=>ay ((bS ho.η g e).2),?_⟩;refine Fr.E (((Iz.o.ext KN.o (ae _)).to (ae _) KN.o.size |>.and Iv.o).ext KL.o (ae _)) fun V hV=>⟨F1,g1,F2,g2,?_,hV.1,hV.2⟩
  simp[Ed.map])
 have⟨KR,Ky⟩:=bJ (show(wc:Nat)<=(w8.alloc (.cells (eh ek ev F1 ei g1 F2 IN g2) 155)) from aZ IM (aZ Hk.o.size KL.o.size)) (ai Kw.o KL.o);generalize w8.alloc _=w9 at KF KL KD KK KR Ky S3 ⊢;have KC:=zH (zem KD.o Ky.o (by decide));refine cm 16 fun K hK=>?_
 refine im Ć rfl (.tmp 28) (.tmp 42) rfl wc w9 (.slice C1 k m1) ((es.map (Ed.map f)).take k) (Ed.map f ⟨ek,ev,ei,IN⟩) [.int .i64 ek,.int .i64 ev,.slice F1 ei g1,.slice F2 IN g2] w8 KD.o rfl (by simp[Value.oneCell']) KK.o (by rw[Kx.o];omega) KR.o rfl rfl KF.o ?_;intro g5 Jr w5 KG KU KH Js;rw[Kx.o]at KG ⊢;have⟨KJ,Jt,IK⟩:=er KG ((KU.block Z (bk.1 Ky.o).1 (fun e=>KC.o e.q)).t Ky.o) (show b_ Z (Z+1) wc w5 from(Jq.o.t (b_.gy (aT Hk.o KL.o))).À Js);have⟨z0,z1,z2,z3⟩:=aB Jt.o;have⟨y0,y1,y2,y3⟩:=cN Jt.o;have Ju:some wr.heap.size≠(Value.slice C1 k m1).ownBlock:=fun e=>by obtain⟨cs,ho⟩:=II.o;have:=(bS ho.η _ e.q).2;omega
 have S4:=aQ z1 (aQ (oC KU S3.2.1 Ju) (aQ (oC KU S3.2.2.1 Ju) (aQ (oC KU S3.2.2.2.1 Ju) (oC KU S3.2.2.2.2 Ju))));clear KG KU KH Js Ju;refine hK.out _ _ (fun _=>S4) (fun hHeld=>?_);clear hK K hHeld;refine P9 ?_;refine cm 17 fun K hK=>?_
 go_simp;refine hK.out _ _ (fun _=>S4) (fun hHeld=>?_);clear hK K hHeld;refine P9 ?_;refine cm 18 fun K hK=>?_
 go_simp;refine O8 ?_;refine Qm ?_;clear K hK;refine gM (by kernel_rfl) ?_ _;have GW:=bE w5 Z 1 _ _ (.slice (bH g5) (k+1) Jr) Jt.o;simp only[zA]at GW;have⟨IH,KE,IP⟩:=er GW (KJ.o.setCell (a:=⟨Z,1,none⟩) (by have:=Kz.o;exact this) (.slice (bH g5) (k+1) Jr)) (IK.o.xv (p:=⟨Z,1,none⟩) (v:=.slice (bH g5) (k+1) Jr) (ae _) (iX _));clear GW S0 S1 S2 S3 S4 z0 z1 z2 z3 y0 y1 y2 y3;go_wp2;go_roundw
 case rel=>exact⟨k+1,by omega,by go_num,⟨_,_,IH.o,by rw[Gl.o];exact KE.o⟩,IP.o⟩
 case measure=>simp[intOf];omega):p:=h
def Z5(h:p:=by
 go_upto_region 15 with(fail)
 clear S0 S1;rw[<-HA6.o];refine P_ fun HG1 KY w5 Lf HF5 Jt HS5 z0 z1 z2 z3 Qh Qd Jw=>?_;clear Ic hgb r0 r1 r2 r3 f0 f1 f2 f3
 cases Ju:jc G
 .have HGF:=zH (show t.pM=false by
   have h1:=K6.o Ju;rw[HTR.o]at h1;by_cases h:t.pM=true
   .rw[ak h]at h1;cases h1
   .simpa using h)
  rw[Ju]at Qh;clear Ju;go_wp2_with (go_at_call 124;refine Qh.o.x ?_;rintro e w6 ⟨rfl,hb⟩;have hz:=ai (ai Ib.o Lf.o) hb;have⟨r0,r1,r2,r3⟩:=aB hz;have⟨f0,f1,f2,f3⟩:=cN hz;have HZ6:=zH hz;have Qo:=zH ((aT Gc.o Lf.o).t (hb.x (aT Gc.o Lf.o).size));clear hz hb)
  have y:=cP (v0:=()) (v1:=dE) (v2:=dE) (v3:=dE) HZ6.o;refine O2 fun y0 y1 y2 y3=>?_
  exact aI (v:=.tuple (dz cw)) (by simp[results,results85,go_sem, *]) rfl (ay ⟨HGF.o,rfl,bY Qo.o (b:=(w:Nat)+1) (by omega) _ _ _ _⟩)
 .have HGN:=zH (Ll.o Ju);rw[Ju]at Qh;clear Ju;go_upto_region 17 with(go_at_call 124;refine Qh.o.x ?_;rintro e w6 ⟨rfl,hb⟩;have HZ6:=zH (ai Jt.o hb);have Qa:=zH hb;clear hb)
  have Gm:=aw w6 (.cells (bj G D1 d1 D2 d2 D3 d3) 54);have⟨H27,Qg⟩:=bJ ((aT Lf.o Qa.o).t (Gm.x (aT Lf.o Qa.o).size)) (aT Qa.o Gm);clear z0 z1 z2 z3 Gm;have⟨z0,z1,z2,z3⟩:=aB HZ6.o;go_upto_region 18 with((at_builtin;refine de Ţ rfl (.tmp 60) (.tmp 62) rfl W (w6.alloc (.cells (bj G D1 d1 D2 d2 D3 d3) 54)) (.slice A6 m c6) (uS T0) G [.int .i64 (G.w:Nat),.slice D1 G.es d1,.slice D2 G.i d2,.slice D3 G.o d3] w6 (K5.o.ext H27.o) rfl (by simp[Value.oneCell']) ⟨w3,w4,Qd.o,aZ (gp HS5.o.q) Qg.o.size,fun g e=>ay (Jw.o g e),(HF5.o.ext Qg.o (gp HS5.o.q)).E fun V hV=>⟨D1,d1,D2,d2,D3,d3,rfl,hV⟩⟩ (by rw[Jy.o];omega) (by have:=Qd.o;have:=IS.o;have:=GX.o;have:=H27.o.size;omega) rfl rfl (aH w6 _ rfl) ?_;intro g8 Lp w8 Lj Lq K9 K3;rw[Jy.o]at Lj ⊢;have Gv:=zH Lj;have G0:=zH K3;clear Lj Lq K9 K3))
  have⟨JA,K_⟩:=bJ ((G0.o.block ((w:Nat)+1) (by have:=Gn.o;omega)).t (ai Ib.o H27.o)) ((aT Gc.o H27.o).t (G0.o.x (by have:=Gn.o;omega)));go_wp2;go_roundw
  case rel=>exact⟨k+1,U::T0,by go_num,HGN.o,by rw[KX.o];exact Gv.o,JA.o,K_.o,by have:=GX.o;have:=H27.o.size;have:=G0.o.size;omega⟩
  case measure=>simp[intOf];omega):p:=h
def Z4(h:p:=by
 go_simp;refine hK.out _ _ (fun _=>jH (by iterate 8 (first|done|exact aC _|exact al _ _|refine oX ?_|refine oY ?_)) S0) (fun hHeld=>?_);clear hK K hHeld;refine P9 ?_;refine cm 17 fun K hK=>?_
 go_simp
 (with_reducible refine iB (G5.o _ _ _ ?_ ?_) ?_)
 .iterate 8 (first|done|with_reducible refine q8 ?_|(with_reducible refine aH _ _ ?_;simp;done)|with_reducible refine q7 ?_)
 .iterate 8 (first|done|with_reducible refine q8 ?_|(with_reducible refine aH _ _ ?_;simp;done)|with_reducible refine q7 ?_)
 rintro e w7 ⟨g7,rfl,ha,hb⟩;have hX1:ag wr w7:=BX hb (by iterate 8 (first|done|exact aC _|exact al _ _|refine oX ?_|refine oY ?_));have⟨GY,HU7⟩:=bJ hX1 (show aE w7 wr (.slice (bH g7) N N) row from ha.a.x (by simp;omega));clear ha hb hX1;go_simp;refine hK.out _ _ (fun _=>jH GY.o S0) (fun hHeld=>?_);clear hK K hHeld;refine P9 ?_;refine cm 18 fun K hK=>?_
 go_simp;refine hK.out _ _ (fun _=>jH (GY.o.alloc GY.o.size _) S0) (fun hHeld=>?_);clear hK K hHeld;refine P9 ?_;refine cm 19 fun K hK=>?_
 refine lv rfl (.tmp 32) (.tmp 49) rfl w3 wr w7 (.slice C1 k m1) (.slice (bH g7) N N) _ row JG.o.μ GY.o HU7.o (by rw[JG.o.ι];omega) JG.o.le rfl rfl ?_;intro g5 Jr w5 Lu Js hs5 hk5;rw[JG.o.ι]at Lu ⊢;have⟨GW,hz5⟩:=CP.j JG.o Lu Js;have⟨z0,z1,z2⟩:=aD hz5;have⟨f0,f1,f2⟩:=cd hz5;have⟨IH,Jo⟩:=bJ GW Js;clear Lu Js hs5 hk5 GW hz5;refine O8 ?_;refine Qm ?_;clear K hK;refine cm 20 fun K hK=>?_
 go_simp;refine O8 ?_;refine Qm ?_;clear K hK;refine cm 21 fun K hK=>?_
 go_simp;refine O8 ?_;refine Qm ?_;clear K hK;refine gM (by kernel_rfl) ?_ _;clear S0 z0 z1 z2 f0 f1 f2;go_wp2;go_roundw
 case rel=>
  have h:=IH.o;rw[<-Gl.o]at h;exact⟨k+1,_,_,by omega,by go_num,h,(Ho.o.t (Jo.o.x (ix IS.o))).setCell (p:=⟨w2,2,none⟩) (ae _) _⟩
 case measure=>simp[intOf];omega):p:=h
def Z3(h:p:=by
 obtain⟨k,hk,rfl,hi,LZ⟩:=hrel;clear z0 z1 z2 z3;by_cases FX:k<es.length
 .have⟨e,he⟩:=aq FX;obtain⟨eb,eo,D1,d1,D2,d2,rfl,u0,u1,u2,u3,hi1,hi2⟩:=fU IJ.o.es he;have Gd:=Ih.o wr LZ;have x0:=ar Gd u0;have x1:=ar Gd u1;have x2:=ar Gd u2;have x3:=ar Gd u3;obtain⟨L1,L2⟩:=LE.o e (aU he);obtain⟨M1,M2⟩:=L8.o e (aU he);have HF:=zH (JJ.o k e he);obtain⟨ek,ev,ei,IN⟩:=e;dsimp only at x0 x1 x2 x3 hi1 hi2 L1 L2 M1 M2 HF;have⟨Gm,G6⟩:=bM wr (.cells (eh ek ev D1 ei d1 D2 IN d2) 155);have IM:=LZ.size;have⟨JM,Md,JL,LY⟩:=gG (HI.o _ _ _ hi Gm) (LZ.t (b_.gy Gm)) hi1 hi2;clear he hi LZ hi1 hi2 Gd u0 u1 u2 u3;go_upto_region 6 with(fail)
  generalize wr.alloc _=w5 at Gm G6 JM Md ⊢;have⟨n0,n1,n2,n3⟩:=aB G6;have⟨L5,L_⟩:=bJ G6 (HH.o _ ei D1 d1 w5 JM.o JL.o (Ih.o _ Md.o) L1 M1);clear x0 x1 x2 x3 G6 Gm;go_wp2_with fail
  refine L_.o.x ?_;rintro e w6 ⟨rfl,Ma,JI⟩;have JK:=nL L5.o JI (au (aZ Mb IM));have⟨m0,m1,m2,m3⟩:=aB JK;have IP:=zH (Md.o.t JI);have Me:=zH (HH.o _ IN D2 d2 w6 Ma LY.o (Ih.o _ IP.o) L2 M2);clear JK Ma JI n0 n1 n2 n3 L_;go_wp2_with fail
  refine Me.o.x ?_;rintro e w7 ⟨rfl,L6,Mc⟩;have⟨L7,L0⟩:=bJ L6 (IP.o.t Mc);clear L6 Mc m0 m1 m2 m3 Me;go_wp2;go_roundw
  case rel=>exact⟨k+1,by omega,by go_num,by rw[HF.o,<-fJ,<-fJ];exact L7.o,L0.o⟩
  case measure=>simp[intOf];omega
 .obtain rfl:k=es.length:=by omega
  rw[cZ (ae _)]at hi;have⟨L9,I3⟩:=bJ hi LZ;clear hi LZ;go_wp2;go_end0
  exact⟨rfl,L9.o,I3.o⟩):p:=h
def Z0(h:p:=by
 refine pF rfl (fun K hK=>?_) ll;go_simp;refine hK.out _ _ (by assumption) (fun hHeld=>?_);refine Qm ?_;clear K hK;refine eZ 20 ?_;refine lk (rs:=[21]) (by kernel_rfl) (by simp) ?_;refine pF rfl (fun K hK=>?_) ll;go_simp;refine hK.out _ _ (by refine⟨?_,?_,?_⟩<;>(refine(fu (by simp<;>omega)).t ?_;assumption)) (fun hHeld=>?_);refine Qm ?_;clear K hK;refine eZ 22 ?_;refine lk (rs:=[23]) (by kernel_rfl) (by simp) ?_;refine pF rfl (fun K hK=>?_) ll;have z3:(W2.drew.setCell ⟨g,a.toNat,none⟩ (.slice Ab rb cb)).cell? ⟨g,b.toNat,none⟩=some (.slice Ab rb cb):=by rw[As _ _ _ _ (by simp<;>omega)];simpa using z1
 go_simp;refine hK.out _ _ (by refine⟨?_,?_,?_⟩<;>(refine(cE (by simp<;>omega)).t ((fu (by simp<;>omega)).t ?_);assumption)) (fun hHeld=>?_);clear hK K;refine wpAnyH_done (by kernel_rfl) ?_ _;clear hHeld;try dsimp only
 have⟨W5,hW5⟩:=aR (((W2.setCell ⟨g,a.toNat,none⟩ (.slice Ab rb cb)).setCell ⟨g,b.toNat,none⟩ (.slice Aa ra ca)).drew);rw[<-hW5];obtain⟨e0,e1,e2,e3,e4,e5,e6,e7,e8,e9,e10⟩:=END W5 hW5;have⟨HO,HE⟩:=bJ e9 e10;clear END e9 e10 hW5 y0 y1 x2 r0 r1 r2 s0 s1 s2 z0 z1 f0 f1;go_wp2;refine aI (v:=.agg (aA v h (bH g) rows Ga)) (by simp[results,results245,go_sem, *]) rfl ⟨_,rfl,?_,?_⟩
 .rw[HA.o,HB.o];exact(((HO.o.setCell (by simp<;>omega) _).setCell (by simp<;>omega) _).setCell (by simp<;>omega) _).x (by omega)
 .exact((HE.o.setCell (by simp<;>omega) _).setCell (by simp<;>omega) _).setCell (by simp<;>omega) _):p:=h
def ZZ(h:p:=by
 go_wp2;go_loopw [13] (fun i wr=>∃k:Nat,k<=xs.length/\i=.int .i64 k/\xs.take k=ys.take k/\ag w wr) (fun i _=>xs.length-(intOf i).toNat)
 case atStart=>exact⟨0,aW _,rfl,by simp,al _ _⟩
 case round=>
  obtain⟨k,hk,rfl,Gw,FW⟩:=hrel;have Gi:=zH Gw;clear Gw;by_cases FX:k<xs.length
  .have JO:k<ys.length:=by have:=Hn.o;omega
   have⟨x,hx⟩:=aq FX;have⟨y,hy⟩:=aq JO;obtain⟨b,o,rfl,hc⟩:=h.θ FX;obtain⟨b2,o2,rfl,I4⟩:=h2.θ JO;have c1:∀W:κ wr,af W.W b (o+k) (zI x):=fun W=>W.cell (ar FW (hc k x hx))
   have c2:∀W:κ wr,af W.W b2 (o2+k) (zI y):=fun W=>W.cell (ar FW (I4 k y hy))
   have⟨Hx,Hy⟩:=bJ hx hy;clear hx hy hc I4 h h2;by_cases hf:x=y
   .subst hf;go_wp2;refine bU (by kernel_rfl) (by kernel_rfl) ?_
    repeat (go_big_quiet_step (fail))
    refine Py fun W=>?_
    go_roundw
    case rel=>exact⟨k+1,by omega,by go_num,m_ Gi.o Hx.o Hy.o,aJ FW W.ok⟩
    case measure=>simp[intOf];omega
   .have JN:(x !=y)=true:=by simp[hf]
    go_wp2;refine bU (by kernel_rfl) (by kernel_rfl) ?_
    repeat (go_big_quiet_step (fail))
    refine Py fun W=>?_
    go_ret
    exact⟨aN (fR (ό Hx.o Hy.o hf)).q,aJ FW W.ok⟩
  .go_wp2;go_ret
   exact⟨aN (fT (qK Gi.o (by omega) (by have:=Hn.o;omega))).q,FW⟩):p:=h
def ZY(h:p:=by
 refine pF rfl (fun K hK=>?_) ll;go_simp;refine hK.out _ _ (by assumption) (fun hHeld=>?_);refine Qm ?_;clear K hK;refine eZ 16 ?_;refine lk (rs:=[17]) (by kernel_rfl) (by simp) ?_;refine pF rfl (fun K hK=>?_) ll;go_simp;refine hK.out _ _ (by refine⟨?_,?_⟩<;>(refine(fu (by simp<;>omega)).t ?_;assumption)) (fun hHeld=>?_);refine Qm ?_;clear K hK;refine eZ 18 ?_;refine lk (rs:=[19]) (by kernel_rfl) (by simp) ?_;refine pF rfl (fun K hK=>?_) ll;have z3:(W2.drew.setCell ⟨g,a,none⟩ (.slice Ab rb cb)).cell? ⟨g,b,none⟩=some (.slice Ab rb cb):=by rw[As _ _ _ _ (by simp<;>omega)];simpa using hcb
 go_simp;refine hK.out _ _ (by refine⟨?_,?_⟩<;>(refine(cE (by simp<;>omega)).t ((fu (by simp<;>omega)).t ?_);assumption)) (fun hHeld=>?_);clear hK K;refine wpAnyH_done (by kernel_rfl) ?_ _;clear hHeld;try dsimp only
 go_wp2;go_end0
 refine⟨rfl,⟨_,by rw[GX.o];exact HS.o.ext (al _ _).drew⟩,HE.o.t (b_.gy (al _ _).drew)⟩):p:=h
def ZX(h:p:=by
 have h1':(fb:Int)<1:=by omega
 have h2':(2:Int)<=k:=by omega
 have HTF:=zH (hNo h1);clear hn h2 h1 hNo hsn JN hib K7 hcF hcI hcO cib cob Mm nget t1 t2 t3 t4 hc1;subst hv;have hyy:=(HYY.o 1 (by omega)).t HY.o;have⟨r0,r1,r2⟩:=aD hyy;have⟨f0,f1,f2⟩:=cd hyy;have hy2:=ik (v0:=.slice (some ⟨gf,of',none⟩) k cF) (v1:=.slice (some ⟨gi,oi,none⟩) k cI) (v2:=.slice (some ⟨go,oo,none⟩) k cO) hyy;have⟨u0,u1,u2⟩:=aD hy2;clear hy2 hyy;go_wp2;exact aI (v:=.tuple (lT (some ⟨gf,of',none⟩) k cF (some ⟨gi,oi,none⟩) cI (some ⟨go,oo,none⟩) cO)) (by simp[results,kG,go_sem, *]) rfl ⟨_,_,_,_,_,_,_,_,_,by rw[HTF.o],(((Gc.o.setCell (p:=⟨(w:Nat)+1,0,none⟩) (by show(w:Nat)<=w+1;omega) _).setCell (p:=⟨(w:Nat)+1,1,none⟩) (by show(w:Nat)<=w+1;omega) _).setCell (p:=⟨(w:Nat)+1,2,none⟩) (by show(w:Nat)<=w+1;omega) _),fun h=>by rw[HTF.o]at h;cases h⟩):p:=h
def ZW(h:p:=by
 have he1:(ss.toList==[])=false:=by cases e:ss.toList<;>simp_all
 have he2:(!ss.toList==[])=true:=by rw[he1];rfl
 have HTF:=zH (HS.o.no HXX.o (ml hlf (fun h=>hn h.2.2.1)));clear hn;have hyy:=(HYY.o 1 (by omega)).t HY.o;have⟨r0,r1,r2⟩:=aD hyy;have⟨f0,f1,f2⟩:=cd hyy;have hy2:=ik (v0:=.slice F k cF) (v1:=.slice I k cI) (v2:=.slice O k cO) hyy;have⟨u0,u1,u2⟩:=aD hy2;clear hy2 hyy;go_wp2;exact aI (v:=.tuple (lT F k cF I cI O cO)) (by simp[results,kG,go_sem, *]) rfl ⟨_,_,_,_,_,_,_,_,_,by rw[HTF.o],(((Gc.o.setCell (p:=⟨(w:Nat)+1,0,none⟩) (by show(w:Nat)<=w+1;omega) _).setCell (p:=⟨(w:Nat)+1,1,none⟩) (by show(w:Nat)<=w+1;omega) _).setCell (p:=⟨(w:Nat)+1,2,none⟩) (by show(w:Nat)<=w+1;omega) _),fun h=>by rw[HTF.o]at h;cases h⟩):p:=h
def ZU(h:p:=by
 have h2':(k:Int)<2:=by omega
 have HTF:=zH (HS.o.no HXX.o (ml hlf (fun h=>h2 (by have:=h.2.2.2.1;rw[HS.o.ι]at this;exact this))));clear hn h2;subst hv;have hyy:=(HYY.o 1 (by omega)).t HY.o;have⟨r0,r1,r2⟩:=aD hyy;have⟨f0,f1,f2⟩:=cd hyy;have hy2:=ik (v0:=.slice F k cF) (v1:=.slice I k cI) (v2:=.slice O k cO) hyy;have⟨u0,u1,u2⟩:=aD hy2;clear hy2 hyy;go_wp2;exact aI (v:=.tuple (lT F k cF I cI O cO)) (by simp[results,kG,go_sem, *]) rfl ⟨_,_,_,_,_,_,_,_,_,by rw[HTF.o],(((Gc.o.setCell (p:=⟨(w:Nat)+1,0,none⟩) (by show(w:Nat)<=w+1;omega) _).setCell (p:=⟨(w:Nat)+1,1,none⟩) (by show(w:Nat)<=w+1;omega) _).setCell (p:=⟨(w:Nat)+1,2,none⟩) (by show(w:Nat)<=w+1;omega) _),fun h=>by rw[HTF.o]at h;cases h⟩):p:=h
def ZT(h:p:=by clear hq;have hyy:=(HYY.o 1 (by omega)).t HY.o;have⟨r0,r1,r2⟩:=aD hyy;have⟨f0,f1,f2⟩:=cd hyy;have hy2:=ik (v0:=.slice (some ⟨gf,of',none⟩) k cF) (v1:=.slice (some ⟨gi,oi,none⟩) k cI) (v2:=.slice (some ⟨go,oo,none⟩) k cO) hyy;have⟨u0,u1,u2⟩:=aD hy2;clear hy2 hyy;go_wp2;exact aI (v:=.tuple (lT (some ⟨gf,of',none⟩) k cF (some ⟨gi,oi,none⟩) cI (some ⟨go,oo,none⟩) cO)) (by simp[results,kG,go_sem, *]) rfl ⟨_,_,_,_,_,_,_,_,_,by rw[HTF.o],(((Gc.o.setCell (p:=⟨(w:Nat)+1,0,none⟩) (by show(w:Nat)<=w+1;omega) _).setCell (p:=⟨(w:Nat)+1,1,none⟩) (by show(w:Nat)<=w+1;omega) _).setCell (p:=⟨(w:Nat)+1,2,none⟩) (by show(w:Nat)<=w+1;omega) _),fun h=>by rw[HTF.o]at h;cases h⟩):p:=h
def ZS(h:p:=by have⟨⟨r0,r1,r2,r3,r4,r5,r6,r7,r8,r9⟩,f0,f1,f2,f3,f4,f5,f6,f7,f8,f9⟩:=sF HZ.o;go_wp2;have y:=vm (v0:=()) (v1:=dE) (v2:=dE) (v3:=dE) (v4:=()) (v5:=()) (v6:=dE) (v7:=()) (v8:=()) (v9:=dE) HZ.o;obtain⟨⟨u0,u1,u2,u3,u4,u5,u6,u7,u8,u9⟩,-⟩:=sF y;unfold xD at u0 u1 u2 u3 u4 u5 u6 u7 u8 u9;clear y r0 r1 r2 r3 r4 r5 r6 r7 r8 r9;exact aI (v:=.tuple (pQ Ae)) (by simp[results,results53,go_sem, *]) rfl ⟨0,0,0,0,none,none,none,0,0,0,⟨0,0,[]⟩,none,0,0,0,none,0,0,by rw[HT.o];rfl,(fun h=>by rw[HT.o]at h;cases h),fun _ _=>⟨ay rfl,fun h=>by rw[HT.o]at h;cases h⟩,vn FV.o (b:=(w:Nat)+1) (by omega) (zI 0) (.slice none 0 0) (.slice none 0 0) (.slice none 0 0) (zI 0) (zI 0) (.slice none 0 0) (zI 0) (zI 0) (.slice none 0 0)⟩):p:=h
def ZR(h:p:=by clear ha hb;go_wp2;have y:=pn (v0:=()) (v1:=dE) (v2:=dE) (v3:=dE) (v4:=()) (v5:=dE) (v6:=dE) (v7:=dE) (v8:=()) (v9:=()) (v10:=dE) (v11:=()) (v12:=()) (v13:=dE) HAK.o;obtain⟨⟨u0,u1,u2,u3,u4,u5,u6,u7,u8,u9,u10,u11,u12,u13⟩,-⟩:=nc y;unfold zW at u0 u1 u2 u3 u4 u5 u6 u7 u8 u9 u10 u11 u12 u13;clear y r0 r1 r2 r3 r4 r5 r6 r7 r8 r9 r10 r11 r12 r13 a0 a1 a2 a3 b0 b1 b2 b3 c0 c1 c2 e0 e1 e2;exact aI (v:=.tuple (dz tV)) (by simp[results,results24,go_sem, *]) rfl ⟨_,by rw[HT.o],pq HYF.o (b:=(w:Nat)+1+1) (by omega) (zI 0) (.slice none 0 0) (.slice none 0 0) (.slice none 0 0) (zI 0) (.slice none 0 0) (.slice none 0 0) (.slice none 0 0) (zI 0) (zI 0) (.slice none 0 0) (zI 0) (zI 0) (.slice none 0 0),fun h=>(by rw[HT.o]at h;cases h),fun _=>rfl⟩):p:=h
def ZQ(h:p:=by
 have hv2:(vv !=0)=true:=by simpa using hv
 have HTF:=zH (HS.o.no HXX.o (ml hlf (fun h=>hv h.2.1)));clear hn hv;have hyy:=(HYY.o 1 (by omega)).t HY.o;have⟨r0,r1,r2⟩:=aD hyy;have⟨f0,f1,f2⟩:=cd hyy;have hy2:=ik (v0:=.slice F k cF) (v1:=.slice I k cI) (v2:=.slice O k cO) hyy;have⟨u0,u1,u2⟩:=aD hy2;clear hy2 hyy;go_wp2;exact aI (v:=.tuple (lT F k cF I cI O cO)) (by simp[results,kG,go_sem, *]) rfl ⟨_,_,_,_,_,_,_,_,_,by rw[HTF.o],(((Gc.o.setCell (p:=⟨(w:Nat)+1,0,none⟩) (by show(w:Nat)<=w+1;omega) _).setCell (p:=⟨(w:Nat)+1,1,none⟩) (by show(w:Nat)<=w+1;omega) _).setCell (p:=⟨(w:Nat)+1,2,none⟩) (by show(w:Nat)<=w+1;omega) _),fun h=>by rw[HTF.o]at h;cases h⟩):p:=h
def ZP(h:p:=by go_wp2;have y:=pn (v0:=()) (v1:=dE) (v2:=dE) (v3:=dE) (v4:=()) (v5:=dE) (v6:=dE) (v7:=dE) (v8:=()) (v9:=()) (v10:=dE) (v11:=()) (v12:=()) (v13:=dE) HAK.o;obtain⟨⟨u0,u1,u2,u3,u4,u5,u6,u7,u8,u9,u10,u11,u12,u13⟩,-⟩:=nc y;unfold zW at u0 u1 u2 u3 u4 u5 u6 u7 u8 u9 u10 u11 u12 u13;clear y r0 r1 r2 r3 r4 r5 r6 r7 r8 r9 r10 r11 r12 r13 a0 a1 a2 a3 b0 b1 b2 b3 c0 c1 c2 e0 e1 e2;exact aI (v:=.tuple (dz tV)) (by simp[results,results24,go_sem, *]) rfl ⟨_,by rw[HT.o],pq HYF.o (b:=(w:Nat)+1+1) (by omega) (zI 0) (.slice none 0 0) (.slice none 0 0) (.slice none 0 0) (zI 0) (.slice none 0 0) (.slice none 0 0) (.slice none 0 0) (zI 0) (zI 0) (.slice none 0 0) (zI 0) (zI 0) (.slice none 0 0),fun h=>(by rw[HT.o]at h;cases h),fun _=>rfl⟩):p:=h
def ZO(h:p:=by
 go_enter func221,ntmps221
 go_wp2_with fail
 refine(H1.o _ HB.o).x ?_;rintro e w1 ⟨rfl,hh1,Gq⟩;have hq1:=(Gq.block w (by simp) (by omega)).t HQ.o;have⟨y0,y1,y2,y3⟩:=ye hq1;simp only[dA,dm]at y0 y1 y2 y3;have hp1:=Gq.cell (ar HB.o hp) (by simpa using hbp);have ha1:=Gq.cell (ar HB.o ha) (by simpa using hba);have Ge:=Gq.size;simp only[dV]at Ge;have⟨HH1,HW1,HH3⟩:=er hh1 Gq ((HH2.o.ext HB.o).u Gq (au h12));clear hh1 Gq hq1 hp hr ha;go_wp2_with fail
 refine(H2.o _ (by omega) HH3.o).x ?_;rintro e w2 ⟨rfl,hh2,Hl⟩;have⟨HH4,JU⟩:=bJ hh2 Hl;clear hh2 Hl y0 y1 y2 y3 hp1 ha1;go_wp2;go_end0
 exact⟨rfl,HH1.o.u JU.o (ay h12),HH4.o,(((b_.gy HB.o).t (HW1.o.x (ae _) (by omega))).t (JU.o.x (by omega) (ae _)))⟩):p:=h
def ZM(h:p:=by
 intro g8 Lp w8 Lj Lq K9 K3;rw[Jy.o]at Lj ⊢;have⟨Gv,G0⟩:=bJ Lj ((HX4.o.alloc HX4.o.size (.cells (dh G.l G.r D G.b d) 67)).x GX.o |>.t K3);clear Lj Lq K9 K3;refine O8 ?_;refine Qm ?_;clear K hK;refine cm 17 fun K hK=>?_
 go_simp;refine O8 ?_;refine Qm ?_;clear K hK;refine gM (by kernel_rfl) ?_ _;clear S0 S1;have⟨JA,K_⟩:=bJ ((G0.o.block ((w:Nat)+1) Gn.o).t Ib.o) (Gc.o.t (G0.o.x (by have:=Gn.o;omega)));go_wp2;go_roundw
 case rel=>exact⟨k+1,U::T0,by go_num,Ll.o,by rw[KX.o];exact Gv.o,JA.o,K_.o,aZ GX.o G0.o.size⟩
 case measure=>simp[intOf];omega):p:=h
def ZL(h:p:=by
 have Î:∀(i:Nat) (u':aG) (b:Nat),i<us.length->us[i]?=some u'->u'.ownBlock=some b->u.ownBlock=some b->False:=fun i u' b _ h1 h2 h3=>by obtain⟨r',_,JW⟩:=FT.nT h1;have a1:=(JW.lt b h2).2;have a2:=(hu.lt b h3).1;omega
 intro i j u1 u2 b h1 h2 h3 h4;have hi:=(bG.1 h1).1;have hj:=(bG.1 h2).1;simp only[bm,jT,iN]at hi hj;by_cases ci:i<us.length<;>by_cases cj:j<us.length
 .rw[dU ci]at h1;rw[dU cj]at h2;exact FT.apart i j u1 u2 b h1 h2 h3 h4
 .rw[dU ci]at h1;obtain rfl:j=us.length:=by omega
  simp at h2;subst h2;exact(Î i u1 b ci h1 h3 h4).elim
 .rw[dU cj]at h2;obtain rfl:i=us.length:=by omega
  simp at h1;subst h1;exact(Î j u2 b cj h2 h4 h3).elim
 .omega):p:=h
def ZK(h:p:=by
 go_upto_region 1 with(fail)
 generalize w.alloc _=W at hB hq ⊢;have x2:=aF hq 2 rfl;have x3:=aF hq 3 rfl;have x4:=aF hq 4 rfl;have x5:=aF hq 5 rfl;have HB:=zH hB;clear hB hq;by_cases h2:sd=0
 rotate_left
 .have e2:(sd==0)=false:=by simpa using h2
  go_wp2;go_ret
  exact⟨aN (by simp[h2]),HB.o⟩
 subst h2;by_cases h3:n3=0
 rotate_left
 .have e3:=É h3;go_wp2;go_ret
  exact⟨aN (by simp[h3]),HB.o⟩
 subst h3;by_cases h4:n4=0
 rotate_left
 .have e4:=É h4;go_wp2;go_ret
  exact⟨aN (by simp[h4]),HB.o⟩
 subst h4;by_cases h5:n5=0
 rotate_left
 .have e5:=É h5;go_wp2;go_ret
  exact⟨aN (by simp[h5]),HB.o⟩
 subst h5;go_wp2;go_ret
 exact⟨aN (by simp),HB.o⟩):p:=h
def ZJ(h:p:=by obtain⟨y1,y2,-⟩:=qY (v0:=()) (v1:=dE) (v2:=dE) (v3:=dE) (u0:=()) (u1:=()) (u2:=dE) HZ.o HY.o;have⟨u0,u1,u2,u3⟩:=aB y1;have⟨t0,t1,t2⟩:=aD y2;unfold uT dQ at u0 u1 u2 u3 t0 t1 t2;clear y1 y2 r0 r1 r2 r3 f0 f1 f2 f3 s0 s1 s2 g0 g1 g2;exact aI (v:=.tuple #[.agg cw,.agg bx,.bool false]) (by simp[results,results49,go_sem, *]) rfl ⟨0,0,0,0,none,none,none,0,0,0,⟨0,0,[]⟩,none,0,by rw[HT.o];rfl,(fun h=>by rw[HT.o]at h;cases h),fun _ _=>ay rfl,qZ FV.o (b:=(w:Nat)+1) (by omega) (zI 0) (.slice none 0 0) (.slice none 0 0) (.slice none 0 0) (zI 0) (zI 0) (.slice none 0 0)⟩):p:=h
def ZI(h:p:=by
 have hz:=HZ.o.t he.o;obtain rfl:Z=(r,z1,z2):=hz;have⟨HRD,JZ,HLE2,HRO2⟩:=gG (show ig wr w A (z1.take r) from by obtain⟨us,ho⟩:=HP.o.μ;exact(aY.from ⟨us,ho⟩).take _) HP.o.be (show(j5 p n M).length=r from H8.o) (show j5 p n M=z1.take r from Mw.o);rcases JJ.o with⟨rfl,h0,rfl,Ht⟩|⟨g,rfl,-,hc5,hc6⟩
 .have hr0:r=0:=by omega
  subst hr0;clear Ht;go_wp2;go_ret
  exact⟨none,0,by rw[HLE2.o];rfl,by rw[HRO2.o];exact HRD.o,JZ.o⟩
 .go_wp2;go_ret
  exact⟨some ⟨g,0,none⟩,ε,by rw[HLE2.o];rfl,by rw[HRO2.o];exact HRD.o,JZ.o⟩):p:=h
def ZH(h:p:=by
 go_enter gq,gx
 go_wp2;go_quiet ((go_at_call 92;exact bX (aX _ _ _ _)))
 go_wp2;go_quiet ((go_at_call 92;first|exact bX (aX _ _ _ _)|exact cX (aX _ _ _ _)))
 go_wp2_with (first|(go_at_call 92;refine(aX _ _ _ _).x ?_;rintro e w' ⟨rfl,rfl⟩)|(go_at_call 136;refine(Calls.bl (dB _ _ _ _ _ _ _ _ Gt.o) HE.o).x ?_;rintro e w1 ⟨rfl,FR⟩;have⟨Gd,⟨c0,c1,c2⟩,⟨d0,d1,d2,d3,d4⟩⟩:=fe FR;have Gs:=zH Gd;clear Gd FR))
 all_goals go_quiet (fail)
 all_goals go_wp2
 all_goals
  go_ret
  exact⟨aN (by simp[nR,HE.o,jb, *]),aJ Gs.o (rD _ _)⟩):p:=h
def ZG(h:p:=by
 have⟨y0,y1,y2,y3,y4⟩:=fg Iy;have⟨s0,s1,s2⟩:=aD Iu;clear Iu Iy;have⟨e0,e1,e2⟩:=cC IF;have⟨e3,e4,e5⟩:=cC Iw;have⟨e6,e7,e8⟩:=cd Iw;simp only[dA,dm]at e0 e1 e2 e3 e4 e5;clear IF Iw;go_wp2;refine aI (v:=.agg (aA v h (bH g) rows Ga)) (by simp[results,pZ,go_sem, *]) rfl ⟨_,rfl,?_,?_⟩
 .exact(((HO.o.setCell (by simp<;>omega) _).setCell (by simp<;>omega) _).setCell (by simp<;>omega) _).x (by omega)
 .exact((HE.o.setCell (by simp<;>omega) _).setCell (by simp<;>omega) _).setCell (by simp<;>omega) _):p:=h
def ZF(h:p:=by
 have HE:=zH he;clear he;go_enter gq,gx
 go_wp2;go_quiet ((go_at_call 92;exact bX (aX _ _ _ _)))
 go_wp2;go_quiet ((go_at_call 92;first|exact bX (aX _ _ _ _)|exact cX (aX _ _ _ _)))
 go_wp2_with (first|(go_at_call 92;refine(aX _ _ _ _).x ?_;rintro e w' ⟨rfl,rfl⟩)|(go_at_call 136;refine(Calls.bl (dB _ _ _ _ _ _ _ _ Gt.o) HE.o).x ?_;rintro e w1 ⟨rfl,FR⟩;have⟨Gd,⟨c0,c1,c2⟩,⟨d0,d1,d2,d3,d4⟩⟩:=fe FR;have Gs:=zH Gd;clear Gd FR))
 all_goals
  go_ret
  exact⟨aN (by simp[nR,HE.o,jb, *]),Gs.o⟩):p:=h
def ZE(h:p:=by
 have HE:=zH he;clear he;go_enter gq,gx
 go_wp2;go_quiet ((go_at_call 92;exact bX (aX _ _ _ _)))
 go_wp2;go_quiet ((go_at_call 92;first|exact bX (aX _ _ _ _)|exact cX (aX _ _ _ _)))
 go_wp2_with (first|(go_at_call 92;refine(aX _ _ _ _).x ?_;rintro e w' ⟨rfl,rfl⟩)|(go_at_call 136;refine(Calls.bl (dB _ _ _ _ _ _ _ _ Gt.o) HE.o).x ?_;rintro e w1 ⟨rfl,FR⟩;have⟨Gd,⟨c0,c1,c2⟩,⟨d0,d1,d2,d3,d4⟩⟩:=fe FR;have Gs:=zH Gd;clear Gd FR))
 all_goals
  go_ret
  exact⟨aN (by rw[nR,HE.o];rfl),Gs.o⟩):p:=h
def ZD(h:p:=by
 have⟨HN,Hi,FZ⟩:=er IE ((eX W5 ⟨g,k,none⟩ w1 (.slice (bH gr) (r.length-1) cr) (by simp<;>omega)).t ((MX.block w1 (by have:=HW.o.size;simp;omega) (by simp;omega)).t Hf.o)) (lj (rY HW.o MX (by have:=HW.o.size;simp;omega) (fun b hb=>by cases hb;omega)) (p:=⟨g,k,none⟩) (by simp<;>omega) (.slice (bH gr) (r.length-1) cr));clear IE MD MX;go_wp2;go_roundw
 case rel=>exact⟨k+1,by omega,by go_num,⟨_,HN.o⟩,Hi.o,FZ.o⟩
 case measure=>simp[intOf];omega):p:=h
def ZC(h:p:=by
 go_enter eQ,eS
 go_upto_region 2 with(go_at_call 192;refine(cM _ _).x ?_;rintro e w1 ⟨rfl,FR⟩)
 have⟨W,hW,hb,e0,e1,e2,e3,e4,f0,f1,f2,f3⟩:=fV _ _ _ _ _ _ FR (.bool (fC k)) (.bool (fD k)) (.bool (fE k)) (.bool (fF k)) 226;rw[<-hW];clear hW FR;simp only[show fC k=true by simp[fC, *],show fD k=false by simp[fD, *],show fE k=false by simp[fE, *],show fF k=false by simp[fF, *]]at f0 f1 f2 f3 ⊢;go_wp2
 all_goals exact aI (v:=.tuple gh) (by simp[results,eT,go_sem]) rfl ⟨rfl,hb⟩):p:=h
def ZB(h:p:=by
 go_enter gq,gx
 go_wp2;go_quiet ((go_at_call 92;exact bX (aX _ _ _ _)))
 go_wp2;go_quiet ((go_at_call 92;first|exact bX (aX _ _ _ _)|exact cX (aX _ _ _ _)))
 go_wp2_with (first|(go_at_call 92;refine(aX _ _ _ _).x ?_;rintro e w' ⟨rfl,rfl⟩)|(go_at_call 136;refine(Calls.bl (dB _ _ _ _ _ _ _ _ Gt.o) HE.o).x ?_;rintro e w1 ⟨rfl,FR⟩;have⟨Gd,⟨c0,c1,c2⟩,⟨d0,d1,d2,d3,d4⟩⟩:=fe FR;have Gs:=zH Gd;clear Gd FR))
 all_goals
  go_ret
  exact⟨aN (by simp[nR,HE.o,jb, *]),Gs.o⟩):p:=h
def ZA(h:p:=by
 go_enter eQ,eS
 go_upto_region 2 with(go_at_call 192;refine(cM _ _).x ?_;rintro e w1 ⟨rfl,FR⟩)
 have⟨W,hW,hb,e0,e1,e2,e3,e4,f0,f1,f2,f3⟩:=fV _ _ _ _ _ _ FR (.bool (fC 4)) (.bool (fD 4)) (.bool (fE 4)) (.bool (fF 4)) 226;rw[<-hW];clear hW FR;simp only[show fC 4=true from rfl,show fD 4=false from rfl,show fE 4=false from rfl,show fF 4=false from rfl]at f0 f1 f2 f3 ⊢;go_wp2
 all_goals exact aI (v:=.tuple gh) (by simp[results,eT,go_sem]) rfl ⟨by simp[*],hb⟩):p:=h
def Zz(h:p:=by
 go_enter eQ,eS
 go_upto_region 2 with(go_at_call 192;refine(cM _ _).x ?_;rintro e w1 ⟨rfl,FR⟩)
 have⟨W,hW,hb,e0,e1,e2,e3,e4,f0,f1,f2,f3⟩:=fV _ _ _ _ _ _ FR (.bool (fC 5)) (.bool (fD 5)) (.bool (fE 5)) (.bool (fF 5)) 226;rw[<-hW];clear hW FR;simp only[show fC 5=true from rfl,show fD 5=false from rfl,show fE 5=false from rfl,show fF 5=false from rfl]at f0 f1 f2 f3 ⊢;go_wp2
 all_goals exact aI (v:=.tuple gh) (by simp[results,eT,go_sem]) rfl ⟨by simp[*],hb⟩):p:=h
def Zy(h:p:=by
 go_enter eQ,eS
 go_upto_region 2 with(go_at_call 192;refine(cM _ _).x ?_;rintro e w1 ⟨rfl,FR⟩)
 have⟨W,hW,hb,e0,e1,e2,e3,e4,f0,f1,f2,f3⟩:=fV _ _ _ _ _ _ FR (.bool (fC 8)) (.bool (fD 8)) (.bool (fE 8)) (.bool (fF 8)) 226;rw[<-hW];clear hW FR;simp only[show fC 8=false from rfl,show fD 8=true from rfl,show fE 8=false from rfl,show fF 8=false from rfl]at f0 f1 f2 f3 ⊢;go_wp2
 all_goals exact aI (v:=.tuple gh) (by simp[results,eT,go_sem]) rfl ⟨by simp[*],hb⟩):p:=h
def Zx(h:p:=by
 go_enter eQ,eS
 go_upto_region 2 with(go_at_call 192;refine(cM _ _).x ?_;rintro e w1 ⟨rfl,FR⟩)
 have⟨W,hW,hb,e0,e1,e2,e3,e4,f0,f1,f2,f3⟩:=fV _ _ _ _ _ _ FR (.bool (fC 9)) (.bool (fD 9)) (.bool (fE 9)) (.bool (fF 9)) 226;rw[<-hW];clear hW FR;simp only[show fC 9=false from rfl,show fD 9=true from rfl,show fE 9=false from rfl,show fF 9=false from rfl]at f0 f1 f2 f3 ⊢;go_wp2
 all_goals exact aI (v:=.tuple gh) (by simp[results,eT,go_sem]) rfl ⟨by simp[*],hb⟩):p:=h
def Zw(h:p:=by
 go_enter eQ,eS
 go_upto_region 2 with(go_at_call 192;refine(cM _ _).x ?_;rintro e w1 ⟨rfl,FR⟩)
 have⟨W,hW,hb,e0,e1,e2,e3,e4,f0,f1,f2,f3⟩:=fV _ _ _ _ _ _ FR (.bool (fC 1)) (.bool (fD 1)) (.bool (fE 1)) (.bool (fF 1)) 226;rw[<-hW];clear hW FR;simp only[show fC 1=true from rfl,show fD 1=true from rfl,show fE 1=false from rfl,show fF 1=false from rfl]at f0 f1 f2 f3 ⊢;go_wp2
 all_goals exact aI (v:=.tuple gh) (by simp[results,eT,go_sem]) rfl ⟨by simp[*],hb⟩):p:=h
def Zv(h:p:=by
 go_enter eQ,eS
 go_upto_region 2 with(go_at_call 192;refine(cM _ _).x ?_;rintro e w1 ⟨rfl,FR⟩)
 have⟨W,hW,hb,e0,e1,e2,e3,e4,f0,f1,f2,f3⟩:=fV _ _ _ _ _ _ FR (.bool (fC 2)) (.bool (fD 2)) (.bool (fE 2)) (.bool (fF 2)) 226;rw[<-hW];clear hW FR;simp only[show fC 2=true from rfl,show fD 2=false from rfl,show fE 2=true from rfl,show fF 2=false from rfl]at f0 f1 f2 f3 ⊢;go_wp2
 all_goals exact aI (v:=.tuple gh) (by simp[results,eT,go_sem]) rfl ⟨by simp[*],hb⟩):p:=h
def Zu(h:p:=by
 go_enter eQ,eS
 go_upto_region 2 with(go_at_call 192;refine(cM _ _).x ?_;rintro e w1 ⟨rfl,FR⟩)
 have⟨W,hW,hb,e0,e1,e2,e3,e4,f0,f1,f2,f3⟩:=fV _ _ _ _ _ _ FR (.bool (fC 6)) (.bool (fD 6)) (.bool (fE 6)) (.bool (fF 6)) 226;rw[<-hW];clear hW FR;simp only[show fC 6=true from rfl,show fD 6=true from rfl,show fE 6=false from rfl,show fF 6=false from rfl]at f0 f1 f2 f3 ⊢;go_wp2
 all_goals exact aI (v:=.tuple gh) (by simp[results,eT,go_sem]) rfl ⟨by simp[*],hb⟩):p:=h
def Zt(h:p:=by
 intro k u' r' JX JV;by_cases hk:k<us.length
 .rw[dU hk]at JX;rw[dU (by rw[<-FT.ι];exact hk)]at JV;exact aE.kept (hW.ν k u' r' JX JV) hg (fq hW.η (hW.ν k u' r' JX JV))
 .have Il:k=us.length:=by have:=(bG.1 JX).1;simp at this;omega
  subst Il;simp at JX;rw[FT.ι]at JV;simp at JV;subst JX JV;have JY:=aE.kept hu hg (fq hW.η hu);exact⟨JY.1,JY.2.E id fun⟨g,ε,F9,a1,a2,a3⟩=>⟨g,ε,F9,a1,by omega,a3⟩⟩):p:=h
def Zs(h:p:=by
 refine aI (v:=.tuple (fH (aA v' h' A3 GF c3))) (by simp[results,fM,go_sem, *]) rfl (ο.yes (by rw[HS.o];rfl) rfl ?_ ?_)
 .exact((((HU.o.ext Gp.o).setCell (by simp<;>omega) _).setCell (by simp<;>omega) _).setCell (by simp<;>omega) _).x (by omega)
 .exact(((GC.o.t (Gp.o.x (by have:=FZ.o.size;omega))).setCell (by simp<;>omega) _).setCell (by simp<;>omega) _).setCell (by simp<;>omega) _):p:=h
def Zr(h:p:=by
 by_cases hc:Ga=j+1
 .refine⟨⟨g,0,none⟩,by simp[hc],fun t u hu=>?_⟩;have h0:Iq.length=0:=by rw[Gb];omega
  rw[Ao.1 h0]at hu;simp at hu
 .refine⟨⟨g,j+1,none⟩,by simp[hc],fun t u hu=>?_⟩;have ht:t<rows.length-(j+1):=by have:=(bG.1 hu).1;rwa[Gb]at this
  rw[dF]
  show W2.cell? _=_
  rw[bB MT,Gk _ (by omega),<-hu,Ip,fQ]):p:=h
def Zq(h:p:=by
 go_enter func266,ntmps266
 go_upto_region 1 with(fail)
 refine bU (by kernel_rfl) (by kernel_rfl) ?_
 repeat (go_big_quiet_step (first|(go_at_call_of 247 a;exact Calls.fh (Calls.bl (eI _ _ _ _ _ _ _ hm) h1))|(go_at_call 269;exact Calls.fh (Calls.bl (mq _ _ _ _ _ hh hh') h2))))
 refine Py fun W=>?_
 go_ret
 exact⟨aN (by simp),aJ HB.o W.ok⟩):p:=h
def Zp(h:p:=by
 clear hco hnn y1;go_wp2_with (go_at_call 171;(with_reducible refine(JR.o _ (al _ _)).x ?_);intro e w7 h;unfold Dy at h;obtain⟨b7,D7,e7,I2,ho,hm,hb⟩:=h;subst e7;have HG7:=zH (aZ Ih.o.size I2);clear I2;have GY:=zH hb;have HO7:=zH ho;have HM7:=zH hm;clear hb ho hm)
 go_ret
 exact zfF (aT Ih.o GY.o) HO7.o HG7.o HM7.o):p:=h
def Zo(h:p:=by
 go_enter func251,ntmps251
 go_upto_region 1 with(fail)
 refine dn ?_
 repeat (go_big_quiet_step (first|(go_at_call_of 247 a;exact Calls.fh (Calls.bl (eI _ _ _ _ _ _ _ hm) h1))|(go_at_call_of 247 b;exact Calls.fh (Calls.bl (eI _ _ _ _ _ _ _ hm) h2))))
 refine Py fun W=>?_
 go_ret
 exact⟨aN (by simp),aJ HB.o W.ok⟩):p:=h
def Zn(h:p:=by
 by_cases hc:ε=j
 .refine⟨⟨g,0,none⟩,by simp[hc],fun t u hu=>?_⟩;have h0:Iq.length=0:=by rw[Gb];omega
  rw[Ao.1 h0]at hu;simp at hu
 .refine⟨⟨g,j,none⟩,by simp[hc],fun t u hu=>?_⟩;have ht:t<n-j:=by have:=(bG.1 hu).1;rwa[Gb]at this
  rw[dF,bB I9,Gk _ (by omega),<-hu,Ip,fQ]):p:=h
def Zm(h:p:=by
 have hwc:IntKind.i64.wrap ((c:Int)+1)=(c:Int)+1:=by rw[bT];omega
 have⟨HS,HBS⟩:=bJ hs (FW.setCell (p:=⟨gb,x,none⟩) (by exact KY.o) (zI ((c:Int)+1)));clear Jz hx J7 hs hc FW;go_wp2;go_roundw
 case rel=>exact⟨k+1,by omega,by go_num,HS.o,HBS.o⟩
 case measure=>simp[intOf];omega):p:=h
def Zl(h:p:=by
 have⟨hB,hq⟩:=bM w (.cells (dN k v s) 95);go_enter func193,ntmps193
 go_upto_region 1 with(fail)
 generalize w.alloc _=W at hB hq ⊢;have⟨c0,c1,c2⟩:=aD hq;have HB:=zH hB;clear hB hq;go_wp2_with (go_at_call 92;refine(Calls.cg (aX _ _ _ _) hi).x ?_;rintro e w' ⟨rfl,rfl⟩)
 go_ret
 exact⟨rfl,HB.o⟩):p:=h
def Zk(h:p:=by
 by_cases e:ε=q
 .exact⟨_,ak e,ay (jR (by omega))⟩
 .refine⟨_,aj e,?_⟩;rcases h with h|⟨b,o,h,hc⟩
  .exact ay (by rw[h];simp)
  .simp only[dW,xg]at h;obtain⟨rfl,rfl,_⟩:=h;refine au ⟨g,q,rfl,fun k x hk=>?_⟩;rw[fQ]at hk;have:=hc _ x hk;rwa[jU]at this):p:=h
def Zj(h:p:=by have y:=ja (v0:=()) (v1:=()) (v2:=dE) HZ.o;have⟨u0,u1,u2⟩:=aD y;clear y r0 r1 r2 f0 f1 f2;exact aI (v:=.tuple (dz bx)) (by simp[results,results34,go_sem, *]) rfl ⟨0,0,none,0,0,by rw[HM.o],(fun h=>by rw[HM.o]at h;cases h),e_ FZ.o (by omega) _ _ _⟩):p:=h
def Zi(h:p:=by
 go_simp;refine O8 ?_;refine Qm ?_;clear K hK;refine gM (by kernel_rfl) ?_ _;go_wp2;go_roundw
 case rel=>exact⟨j+1,by omega,by go_num,⟨_,S1.o.ext (al _ _).drew⟩,S2.o.drew⟩
 case measure=>simp[intOf];omega):p:=h
def Zh(h:p:=by
 obtain rfl:k=N:=by omega
 rw[cZ (by rw[HM.o];exact ae _)]at FT;obtain⟨u0,cu,rfl,-⟩:=FT.p;have hl:(M.map f).length=k:=by rw[bs,HM.o]
 rw[hl]at FT ⊢;have⟨HF,Gc⟩:=bJ FT FW;clear FT FW hl;go_wp2;go_ret
 exact⟨u0,cu,rfl,HF.o,Gc.o⟩):p:=h
def Zg(h:p:=by
 go_enter func124,ntmps124
 go_upto_region 1 with(fail)
 generalize w.alloc _=W at hq hB ⊢;have⟨x0,x1,x2,x3⟩:=aB hq;have HB:=zH hB;clear hq hB;go_wp2_with (go_at_call 143;refine(Calls.cg (Jq.o _ _ _) E1.o).x ?_;rintro e w' ⟨rfl,rfl⟩)
 go_ret
 exact⟨rfl,HB.o⟩):p:=h
def Zf(h:p:=by refine aI (v:=.tuple (dz bx)) (by simp[results,fM,go_sem, *]) rfl (ο.no (by rw[HS.o];rfl) rfl ?_);exact(((GC.o.t (Gp.o.x (by have:=FZ.o.size;omega))).setCell (by simp<;>omega) _).setCell (by simp<;>omega) _).setCell (by simp<;>omega) _):p:=h
def Ze(h:p:=by
 have LH:l=q:=by omega
 subst LH;rw[cZ (gp HL.o.q),<-Lw.o]at hS;have⟨JG,Ho⟩:=bJ hS Gg;clear hS Gg LV hC LQ LJ;go_wp2;go_roundw
 case rel=>exact⟨j+1,_,_,_,by omega,by go_num,JG.o,Ho.o⟩
 case measure=>simp[intOf];omega):p:=h
def Zd(h:p:=by
 go_enter func193,ntmps193
 go_upto_region 1 with(fail)
 generalize w.alloc _=W at hB hq ⊢;have⟨c0,c1,c2⟩:=aD hq;have HB:=zH hB;clear hB hq;go_wp2_with (go_at_call 92;refine(aX _ _ _ _).x ?_;rintro e w' ⟨rfl,rfl⟩)
 go_ret
 exact⟨rfl,HB.o⟩):p:=h
def Zc(h:p:=by
 clear HE HS;go_enter func207,ntmps207
 refine MY ?_;go_end0
 exact⟨rfl,HF.o⟩):p:=h
def Zb(h:p:=by
 go_wp2_with (go_at_call 162;refine(Calls.cg (jN _ _) hv).x ?_;rintro e w' ⟨rfl,rfl⟩)
 go_roundw
 case rel=>exact⟨k+1,by omega,by go_num,zH (by rw[dG _ _ _ _ HX.o,Gw.o,HF.o];rfl),Gc.o⟩
 case measure=>simp[intOf];omega):p:=h
def Za(h:p:=by
 refine MI ?_;go_roundw
 case rel=>exact⟨k+1,by omega,by go_num,zH (by rw[dG _ _ _ _ HX.o,Gw.o,HF.o];rfl),Gc.o⟩
 case measure=>simp[intOf];omega):p:=h
def Y_(h:p:=by
 rw[Ni,Nr,Jv];by_cases h9:9<=k
 .rw[ak h9,ak h9,ak h9,I2,Ns];unfold xz mf BB BC;constructor<;>(repeat' split)<;>omega
 .rw[aj h9,aj h9,aj h9,I2,Ns];unfold xz mf BB BC;constructor<;>(repeat' split)<;>omega):p:=h
def Y9(h:p:=by refine aI (v:=.tuple (dz bx)) (by simp[results,fM,go_sem, *]) rfl (ο.no (my _) rfl ?_);exact(((HB.o.t (FV.o.x (by omega))).setCell (by simp<;>omega) _).setCell (by simp<;>omega) _).setCell (by simp<;>omega) _):p:=h
def Y8(h:p:=by
 go_upto_region 1 with(fail)
 refine dn ?_
 repeat (go_big_quiet_step ((go_at_call_of 247 a;exact Calls.fh (Calls.bl (eI _ _ _ _ _ _ _ hm) h1))))
 refine Py fun W=>?_
 go_ret
 exact⟨aN (by simp),aJ HB.o W.ok⟩):p:=h
def Y7(h:p:=by have s0:=(bk.1 HR.o).1;have hz:(w2:Nat)=(dQ w2 ((w:Nat)+1) (zI m) (.slice A1 0 d1) (.slice A2 m d2) (.slice A3 m d3)):=eK.q;exact(HF.o.dQ (b:=(w:Nat)+1) s0).to (by omega) (gp hz)):p:=h
def Y5(h:p:=by
 go_wp2_with (go_at_call 209;refine HRO.o.x ?_;rintro e w' ⟨rfl,rfl⟩)
 go_roundw
 case rel=>exact⟨k+1,by omega,by go_num,by rw[HCN.o],HS.o.1,HS.o.2⟩
 case measure=>simp[intOf];omega):p:=h
def Y4(h:p:=by
 clear h1 h2;go_enter func172,ntmps172
 go_wp2_with (go_at_call 143;refine iB (dC _ _ _ _) ?_;first|(rw[e1];rintro e w' ⟨rfl,rfl⟩)|(rw[e2];rintro e w' ⟨rfl,rfl⟩))
 go_ret
 exact⟨rfl,rfl⟩):p:=h
def Y0(h:p:=by
 rw[a1.1,od hf a1];constructor
 .intro h i hi;have:=h (fun d=>eM M i d) ((a3 _).2 (wj (yS hi)));exact this
 .intro h x hx;have:=(a3 x).1 hx y h;rwa[bF (fun d _=>by rw[gU])]at this):p:=h
def YZ(h:p:=by
 go_wp2;go_round
 case rel=>exact⟨1,by omega,by go_num,fun j hj=>by
  by_cases hj':j<0
  .exact Gi.o j hj'
  .obtain rfl:j=0:=by omega
   exact HB.o⟩
 case measure=>simp[intOf]):p:=h
def YY(h:p:=by
 go_wp2;go_round
 case rel=>exact⟨2,by omega,by go_num,fun j hj=>by
  by_cases hj':j<1
  .exact Gi.o j hj'
  .obtain rfl:j=1:=by omega
   exact HB.o⟩
 case measure=>simp[intOf]):p:=h
def YX(h:p:=by
 go_wp2;go_round
 case rel=>exact⟨3,by omega,by go_num,fun j hj=>by
  by_cases hj':j<2
  .exact Gi.o j hj'
  .obtain rfl:j=2:=by omega
   exact HB.o⟩
 case measure=>simp[intOf]):p:=h
def YW(h:p:=by
 go_wp2;go_round
 case rel=>exact⟨4,by omega,by go_num,fun j hj=>by
  by_cases hj':j<3
  .exact Gi.o j hj'
  .obtain rfl:j=3:=by omega
   exact HB.o⟩
 case measure=>simp[intOf]):p:=h
def YV(h:p:=by
 have⟨HN,H0⟩:=bJ hn h0;clear hn h0;go_wp2;go_round
 case rel=>exact⟨k+1,by omega,by go_num,by rw[dG _ _ _ _ Hx.o,Gi.o];simp[HN.o,H0.o]⟩
 case measure=>simp[intOf];omega):p:=h
def YU(h:p:=by
 have hl:=hA.row r hr;refine⟨by simp[nU,jG,hl];omega,fun d hd=>?_⟩;rw[zfr hl];split
 .exact hA.vY hr (by omega)
 .split
  .omega
  .split
   .exact hA.vY hr (by omega)
   .omega):p:=h
def YT(h:p:=by
 have hl:=hB.row r hr;refine⟨by simp[nV,jG,hl];omega,fun d hd=>?_⟩;rw[ž hl];split
 .omega
 .split
  .exact hB.vY hr (by omega)
  .split
   .omega
   .exact hB.vY hr (by omega)):p:=h
def YS(h:p:=by refine aI (v:=.tuple (fH (bj S F1 l1 F2 l2 F3 l3))) (by simp[results,uR,go_sem, *]) rfl ?_;have e:=HS.o;subst e;exact au ⟨HFF.o,F1,l1,F2,l2,F3,l3,rfl,HF.o,HE.o⟩):p:=h
def YR(h:p:=by
 apply gk;intro k;simp only[madeCells,Value.cells,fk,Array.toList_map,Array.toList_range,bI,fI];by_cases hk:k<n
 .simp[hk,Nat.mod_one]
 .simp[hk]):p:=h
def YQ(h:p:=by
 go_wp2;go_roundw
 case rel=>exact⟨k+1,by omega,by go_num,zH (by rw[dG _ _ _ _ HX.o,Gw.o,HF.o];rfl),Gc.o⟩
 case measure=>simp[intOf];omega):p:=h
def YP(h:p:=by
 rcases h with h|⟨b,o,h,hc⟩
 .exact ay (by rw[h];simp)
 .refine au ⟨b,o,h,fun k x hk=>hc k x ?_⟩;rw[iM]at hk;split at hk
  .exact hk
  .cases hk):p:=h
def YO(h:p:=by rw[show k+(n+1-k)=n+1 by omega,<-hG,<-NF,<-I7]at h;rw[show((n:Int)+1-(k:Int))=((n+1-k:Nat):Int) by omega];exact h):p:=h
def YN(h:p:=by
 rw[Ho.o];have:i=0∨i=1∨i=2∨i=3∨i=4∨i=5:=by omega
 rcases this with rfl|rfl|rfl|rfl|rfl|rfl<;>exact aF hq _ rfl):p:=h
def YM(h:p:=by
 rw[HA.o];have:i=0∨i=1∨i=2∨i=3∨i=4∨i=5:=by omega
 rcases this with rfl|rfl|rfl|rfl|rfl|rfl<;>exact aF hq _ rfl):p:=h
def YL(h:p:=by
 rw[F3.o k Mm FX]at e2;go_wp2;go_roundw
 case rel=>exact⟨k+1,by omega,by omega,by go_num,by trivial⟩
 case measure=>simp[intOf];omega):p:=h
def YK(h:p:=by obtain⟨a1,a2,lo,hi,a3,a4,a5,a6⟩:=h2.ν k x c hx hc;exact⟨a1,a2,lo,hi,by omega,a4,fun g e=>ay (by have:=hd g e;omega),a6⟩):p:=h
def YJ(h:p:=by
 rcases N4.o with h|⟨_,_,h1,h2,h3,h4,h5⟩
 .omega
 .exact⟨by omega,fun r hr=>by have:=h2 r hr;omega,by omega,by omega,by omega⟩):p:=h
def YI(h:p:=by
 refine Py fun W=>?_
 go_roundw
 case rel=>exact⟨k+1,by omega,by go_num,aJ FW W.ok⟩
 case measure=>simp[intOf];omega):p:=h
def YH(h:p:=by
 intro j u hj;rw[bI]at hj;obtain⟨y,hy,rfl⟩:=oF.1 hj;rcases Ha with h|⟨b,o,h,hc⟩
 .simp[h]at hy
 .cases h;rw[dF];exact hc j y hy):p:=h
def YG(h:p:=by
 intro k u r hu hr;rw[fI]at hu hr;by_cases hk:k<n
 .rw[ak hk]at hu hr;cases hu;cases hr
  exact aE.nil _ _
 .rw[aj hk]at hu;cases hu):p:=h
def YF(h:p:=by rintro e w' ⟨G,rfl,a,b⟩;exact⟨w,G,rfl,a,⟨b.os,b.tape,b.output,b.size,fun k hk _=>b.block k hk (by simp)⟩,au (ae _)⟩):p:=h
def YE(h:p:=by
 go_wp2;go_roundw
 case rel=>exact⟨i+1,by omega,by go_num,⟨_,by rw[Gj.o];exact HOI.o⟩,HBI.o⟩
 case measure=>simp[intOf];omega):p:=h
def YD(h:p:=by exact Calls.bl (zn a b XA xcap row p v h A ε rows W GR (hX.ext hW) (by unfold maxLen;omega) s.v0 s.Â s.h0 s.χ) (GN.q.t hc)):p:=h
def YC(h:p:=by
 go_wp2_with (go_at_call 142;refine(Calls.cg (jj _ _ HP.o) hf).x ?_;rintro e w' ⟨rfl,rfl⟩)
 go_ret
 exact⟨aN (by rw[hf];rfl),HB.o⟩):p:=h
def YB(h:p:=by rw[e]at h1;have:=eY (ir h1 h3) h4;rwa[show ∀z a b s:Int,z-a+(a-b)-(s-b)=z-s from fun z a b s=>by omega]at this):p:=h
def YA(h:p:=by
 go_roundw
 case rel=>exact⟨k+1,by omega,by go_num,by rw[HT.o];exact Ij,FW.t Ik⟩
 case measure=>simp[intOf];omega):p:=h
def Yz(h:p:=by
 go_wp2;go_roundw
 case rel=>exact⟨k+1,by omega,by go_num,by rw[Gl.o];exact Gv.o,G0.o⟩
 case measure=>simp[intOf];omega):p:=h
def Yy(h:p:=by
 go_wp2;go_ret
 exact⟨by rw[he.o];rfl,by rw[he.o];exact HR.o.st.h1,by rw[he.o];exact HR.o.st.h2,(b_.gy HB.o).t HR.o.st.wi⟩):p:=h
def Yx(h:p:=by
 go_round
 case rel=>exact⟨k+1,by omega,by go_num,by rw[dG _ _ _ _ Hx.o,Gi.o,hf];rfl⟩
 case measure=>simp[intOf];omega):p:=h
def Yw(h:p:=by
 have⟨HN,H0⟩:=bJ hn h0;clear hn h0;go_wp2;go_ret
 exact⟨aN (by rw[vQ,ξ _ _ _ _ Hx.o (by simp[HN.o,H0.o])]),rfl⟩):p:=h
def Yv(h:p:=by
 go_wp2;go_roundw
 case rel=>exact⟨m+1,by omega,by go_num,HN3.o,HU3.o,HA3.o,FZ.o⟩
 case measure=>simp[intOf];omega):p:=h
def Yu(h:p:=by
 go_wp2;go_roundw
 case rel=>exact⟨i+1,by omega,by go_num,by rw[Gj.o];exact IS.o⟩
 case measure=>simp[intOf];omega):p:=h
def Yt(h:p:=by go_wp2;exact aI (v:=.agg (dh Q.l Q.r D Q.b d)) (by simp[results,results130,go_sem, *]) rfl ⟨D,d,rfl,G1.o,G2.o⟩):p:=h
def Ys(h:p:=by
 clear GW FT;go_wp2;go_roundw
 case rel=>exact⟨k+1,by omega,by go_num,HS.o,Ho.o⟩
 case measure=>simp[intOf];omega):p:=h
def Yr(h:p:=by
 clear GW FT;go_wp2;go_roundw
 case rel=>exact⟨k+1,by omega,by go_num,HS.o,HB.o⟩
 case measure=>simp[intOf];omega):p:=h
def Yq(h:p:=by
 intro i j u u' b hu _ hb;rw[fI]at hu;by_cases hk:i<n
 .rw[ak hk]at hu;cases hu;cases hb
 .rw[aj hk]at hu;cases hu):p:=h
def Yp(h:p:=by intro t ht;rw[Gb]at ht;have Ic:bA W2.drew g F9 26:=MT;refine⟨?_,aK Ic _⟩;rw[bB Ic,di (by simp;omega)];rfl):p:=h
def Yo(h:p:=by
 go_enter oN,oO
 go_wp2;exact aI (v:=.tuple #[.int .i64 1,.int .i64 2]) (by simp[results,oP,go_sem, *]) rfl ⟨rfl,rfl⟩):p:=h
def Yn(h:p:=by
 go_enter oN,oO
 go_wp2;exact aI (v:=.tuple #[.int .i64 2,.int .i64 1]) (by simp[results,oP,go_sem, *]) rfl ⟨rfl,rfl⟩):p:=h
def Ym(h:p:=by exact(((HO.o.setCell (by simp<;>omega) _).setCell (by simp<;>omega) _).setCell (by simp<;>omega) _).x (by omega)):p:=h
def Yl(h:p:=by
 have he:=hu;rw[cZ (by omega)]at he;have⟨HE,I3⟩:=bJ he hw;clear he hu hw;go_wp2;go_end0
 exact⟨rfl,HE.o,I3.o⟩):p:=h
def Yk(h:p:=by
 go_wp2;go_roundw
 case rel=>exact⟨k+1,by omega,by go_num,⟨_,HN.o⟩,Hi.o,FZ.o⟩
 case measure=>simp[intOf];omega):p:=h
def Yj(h:p:=by
 go_wp2;go_roundw
 case rel=>exact⟨k+1,by omega,by go_num,HS.o,cx HG.o (eG _ _)⟩
 case measure=>simp[intOf];omega):p:=h
def Yi(h:p:=by
 go_wp2;go_roundw
 case rel=>exact⟨k+1,by omega,by omega,by go_num,by trivial⟩
 case measure=>simp[intOf];omega):p:=h
def Yh(h:p:=by exact aI (v:=.agg (dh Q.l Q.r D Q.b d)) (by simp[results,results130,go_sem, *]) rfl ⟨D,d,rfl,G1.o,G2.o⟩):p:=h
def Yg(h:p:=by
 obtain rfl:v=.slice none 0 0:=by simpa using G_
 exact⟨none,[],0,rfl,ay rfl,aW _,fun r hr=>by cases hr⟩):p:=h
def Yf(h:p:=by have s0:=Nv.o;have Nx:=Nw.o;exact(HF.o.dQ (b:=(w:Nat)+1) s0).to (by omega) (gp (Nx.t eK.q))):p:=h
def Ye(h:p:=by
 have:k<us.length:=by rw[h.ι];exact(bG.1 hx).1
 have⟨u,hu⟩:=aq this;exact⟨u,hu,h.ν k u x hu hx⟩):p:=h
def Yd(h:p:=by have Kc:=(bG.1 hx).1;refine⟨?_,h.row.g x⟩;rw[h.row.C x (by have:=h.ι;omega),bI,hx];rfl):p:=h
def Yc(h:p:=by have:=Ey (k:=(v+b).toNat) (G q hq) (by have:=(G q hq).1;omega);exact⟨by have:=this.1;omega,this.2⟩):p:=h
def Yb(h:p:=by
 obtain rfl:g5=g:=by simpa[Value.ownBlock]using h
 rcases LK.o with e|e
 .exact HC.o _ e
 .right;omega):p:=h
def Ya(h:p:=by exact Calls.bl (zm a b p v h A ε rows W GR (hR.ext hW) s.v0 s.Â s.h0 s.χ s.ι) (GN.q.t hc)):p:=h
def X_(h:p:=by
 go_roundw
 case rel=>exact⟨t+1,by omega,by go_num,HP.o,HBP.o⟩
 case measure=>simp[intOf];omega):p:=h
def X9(h:p:=by
 intro j u' hj
 match j,hj with
 |0,hj=>simp at hj;subst hj;simp[Addr.add]
 |j+1,hj=>simp at hj):p:=h
def X8(h:p:=by exact Calls.bl (xH b p v h A ε rows W GR (hR.ext hW) s.v0 s.Â s.h0 s.χ s.ι) (GN.q.t hc)):p:=h
def X7(h:p:=by exact((HE.o.setCell (by simp<;>omega) _).setCell (by simp<;>omega) _).setCell (by simp<;>omega) _):p:=h
def X6(h:p:=by
 go_wp2_with (go_at_call 92;(refine(HLI.o _).x ?_);rintro e w' ⟨rfl,rfl⟩)
 go_ret
 exact⟨rfl,HB.o⟩):p:=h
def X5(h:p:=by go_wp2;exact aI (v:=.tuple (pQ fP)) (by simp[results,uO,go_sem, *]) rfl ⟨0,0,by rw[K6.o],HE.o⟩):p:=h
def X4(h:p:=by have:=eY h1 h0;rwa[show ∀a b c:Int,a-c-(b-c)=a-b from fun a b c=>by omega]at this):p:=h
def XZ(h:p:=by have:=ir h1 h3;rwa[show ∀a b c:Int,a-b+(b-c)=a-c from fun a b c=>by omega]at this):p:=h
def XY(h:p:=by go_wp2;exact aI (v:=.tuple (dz cw)) (by simp[results,uR,go_sem, *]) rfl (ay ⟨HFF.o,rfl,HE.o⟩)):p:=h
def XX(h:p:=by
 go_enter oK,oL
 go_wp2
 all_goals
  go_ret
  exact⟨aN (by simp[pB,xL, *]),(al _ _).alloc (ae _) _⟩):p:=h
def XW(h:p:=by exact aI (v:=.tuple (dz (bC (0) (0)))) (by simp[results,results220,go_sem, *]) rfl ⟨rfl,HE.o⟩):p:=h
def XV(h:p:=by
 go_enter oN,oO
 go_wp2;exact aI (v:=.tuple mu) (by simp[results,oP,go_sem, *]) rfl ⟨rfl,rfl⟩):p:=h
def XU(h:p:=by
 go_enter oN,oO
 go_wp2;exact aI (v:=.tuple kZ) (by simp[results,oP,go_sem, *]) rfl ⟨rfl,rfl⟩):p:=h
def XT(h:p:=by
 go_wp2
 all_goals exact aI (v:=.tuple gh) (by simp[results,eT,go_sem]) rfl ⟨by simp[*],hb⟩):p:=h
def XS(h:p:=by go_wp2;exact aI (v:=.agg (bC a b)) (by simp[results,results167,go_sem, *]) rfl ⟨rfl,HE.o⟩):p:=h
def XR(h:p:=by
 rw[bf,pV];by_cases h:a=d
 .subst h;rw[ak rfl,ak ha,ak rfl];rfl
 .rw[aj h,aj h,bf]):p:=h
def XQ(h:p:=by exact aI (v:=.tuple (dz cw)) (by simp[results,uR,go_sem, *]) rfl (ay ⟨HFF.o,rfl,HE.o⟩)):p:=h
def XP(h:p:=by
 obtain⟨b,o,rfl,hc⟩:=h.θ h0;cases e
 have⟨x,hx⟩:=aq h0;exact jB _ _ (hc 0 x hx)):p:=h
def XO(h:p:=by
 refine au fun e=>?_
 simp only[Value.ownBlock,dW]at e;subst e;rw[hb]at hg;simp at hg):p:=h
def XN(h:p:=by
 rw[IV.o];rcases dP.1 (aU hx)with h|h
 .exact IW.o x (ay h)
 .exact IW.o x (au (ay h))):p:=h
def XM(h:p:=by obtain⟨A',c',h1,h2,_⟩:=h.p;simp only[ep]at h1;obtain⟨rfl,_,_⟩:=h1;exact h2):p:=h
def XL(h:p:=by have:(xs.length+ys)*bytes<=1048576*1000:=Nat.mul_le_mul Gb hT.bts;omega):p:=h
def XK(h:p:=by rw[show(List.range a).length=a from fK ..,show(dd a b).length=b from c_ ..];rfl):p:=h
def XJ(h:p:=by
 rcases ie FT.η Hh (by decide)with h1|h1
 .cases h1
 .exact h1 (by rw[<-e];rfl)):p:=h
def XI(h:p:=by
 go_wp2;go_ret
 exact⟨aN (fT (qK Gi.o (by omega) (by have:=Hn.o;omega))).q,FW⟩):p:=h
def XH(h:p:=by
 by_cases h3:j<i/\j≠r
 .rw[ak h3,ak ⟨by omega,h3.2⟩]
 .rw[aj h3,aj (by omega)]):p:=h
def XG(h:p:=by have:=zdA (k:=(v+b).toNat) s.p2 (G q hq);exact⟨by have:=this.1;omega,this.2⟩):p:=h
def XF(h:p:=by
 go_ret
 exact⟨g,ε,rfl,by rw[HI.o];exact FT,Io,Ix.E id fun e=>by omega⟩):p:=h
def XD(h:p:=by rcases hr with rfl|rfl<;>refine⟨rfl,fun x hx=>?_⟩<;>simp at hx<;>omega):p:=h
def XC(h:p:=by rw[show(fun x=>Bj a.w fa fb (x+a.w))=fb from funext fun x=>wk x];exact vb):p:=h
def XB(h:p:=by rw[NF,Array.append_assoc,ś,oG (by simp;omega),List.toList_toArray,nt,rX]):p:=h
def Xz(h:p:=by
 rcases gF FT.η J5 with h1|h1
 .cases h1
 .exact fun e=>h1 (by rw[e];rfl)):p:=h
def Xy(h:p:=by
 intro u hu;rcases et.1 hu with rfl|hu
 .exact⟨z,hz⟩
 .exact h.ty u (by simp[hu])):p:=h
def Xx(h:p:=by
 rcases Ha with h|h
 .rw[<-h];exact ay e
 .rw[h]at e;cases e;exact au (ae _)):p:=h
def Xw(h:p:=by
 go_enter func142,ntmps142
 go_wp2;go_ret
 exact⟨aN (by simp[bV,eU];omega),rfl⟩):p:=h
def Xv(h:p:=by
 rcases ie J5 Hh (by decide)with h1|h1
 .cases h1
 .exact h1 (by rw[<-e];rfl)):p:=h
def Xu(h:p:=by obtain⟨g,JP,e,_⟩:=h.μ.form (by omega);simp only[ep]at e;exact e.2.1):p:=h
def Xt(h:p:=by exact Calls.bl (B_ a p v h A ε rows W GR (hR.ext hW) GU) (GN.q.t hc)):p:=h
def Xs(h:p:=by have:=oy List.length hL;simp only[cJ,Tm.d,bs,bm,Dd]at this;exact this):p:=h
def Xr(h:p:=by
 rcases FT.2 with⟨_,h1⟩|⟨g,c',F9,e,_⟩
 .omega
 .cases e;exact⟨g,rfl⟩):p:=h
def Xq(h:p:=by
 refine Py fun W=>?_
 go_ret
 exact⟨aN (by simp),aJ HB.o W.ok⟩):p:=h
def Xp(h:p:=by
 go_wp2;go_ret
 have h:=I5.o;rw[cZ (by omega)]at h;exact⟨_,rfl,h,FW⟩):p:=h
def Xo(h:p:=by intro u' JX;simp at JX;subst JX;obtain⟨A',c',rfl,_⟩:=hu.p;rfl):p:=h
def Xn(h:p:=by
 go_wp2;go_ret
 exact⟨aN (by rw[hf,fZ _ _ _ Gw.o (by omega)];rfl),FW⟩):p:=h
def Xm(h:p:=by rw[l5,fN _ _ _ (by have:=I8;simp at this ⊢;omega)];simpa using I8):p:=h
def Xl(h:p:=by obtain⟨k,hk⟩:=eH.1 hu;obtain⟨r,_,ho⟩:=h.nT hk;exact(ho.lt b hb).2):p:=h
def Xk(h:p:=by
 rcases h.2 with⟨_,h1⟩|⟨g,c,F9,e,_⟩
 .omega
 .cases e;exact⟨g,rfl⟩):p:=h
def Xj(h:p:=by exact(hW.ν _ x rx hx hr).kept Io (fq hW.η (hW.ν _ x rx hx hr))):p:=h
def Xi(h:p:=by
 go_wp2;go_ret
 exact⟨aN (by simp[hf,fZ _ _ _ Gw.o (by omega)]),FW⟩):p:=h
def Xh(h:p:=by rw[l5,fN _ _ _ (by have:=Ig;simp at this ⊢;omega)];simpa using Ig):p:=h
def Xg(h:p:=by rw[FT.C k (by omega),bI,lD _ _ _ (by rw[dX];exact FX)];rfl):p:=h
def Xf(h:p:=by
 intro u hu;rcases et.1 hu with rfl|hu
 .exact⟨_,OM⟩
 .exact h.ty u hu):p:=h
def Xe(h:p:=by rwa[show ∀a b:Int,a-(a-b)=b from fun a b=>by omega]at this):p:=h
def Xd(h:p:=by
 go_ret
 exact⟨aN (by rw[hf,ξ _ _ _ _ HX.o HF.o];rfl),Gc.o⟩):p:=h
def Xc(h:p:=by simp[d_]at hr;subst hr;refine⟨rfl,fun x hx=>?_⟩;simp at hx;omega):p:=h
def Xb(h:p:=by rw[gI ci]at h1;rw[gI cj]at h2;exact h.apart i j u1 u2 b h1 h2 h3 h4):p:=h
def Xa(h:p:=by
 go_wp2;go_ret
 exact⟨aN (by rw[vH,fZ _ _ _ Gi.o (by omega)]),rfl⟩):p:=h
def W_(h:p:=by
 go_ret
 exact⟨aN (by simp[hf,ξ _ _ _ _ HX.o HF.o]),Gc.o⟩):p:=h
def W8(h:p:=by have h1:=jB _ _ (hxa 0 _ rfl);have:gb < (w2:Nat):=h1;omega):p:=h
def WZ(h:p:=by exact Calls.bl (Ek a b c p v h A ε rows W GR) (GN.q.t hc)):p:=h
def WY(h:p:=by
 go_wp2;go_ret
 exact⟨aN (fR (fun e=>hn (by rw[e]))).q,al _ _⟩):p:=h
def WX(h:p:=by
 go_ret
 exact⟨rl (by first|exact HI.o|(simpa using HI.o)),rfl⟩):p:=h
def WW(h:p:=by have⟨r,hr⟩:=aq hi;rw[getD_some hr];exact(OT r (aU hr)).1):p:=h
def WV(h:p:=by
 rcases Hu.o with h|h
 .cases h
 .exact fun e=>h (by rw[e];rfl)):p:=h
def WU(h:p:=by exact⟨go _ (by omega),by dsimp only;omega,by dsimp only;omega⟩):p:=h
def WT(h:p:=by exact⟨gi _ (by omega),by dsimp only;omega,by dsimp only;omega⟩):p:=h
def WS(h:p:=by
 by_cases hl:dI x.nd=true
 .exact hl
 .rw[aj hl]at hr;cases hr):p:=h
def WR(h:p:=by exact Calls.bl (B4 a b p v h A ε rows W GR) (GN.q.t hc)):p:=h
def WQ(h:p:=by exact Calls.bl (zl a c p v h A ε rows W GR) (GN.q.t hc)):p:=h
def WO(h:p:=by
 go_wp2;go_end0
 exact⟨rfl,⟨_,by rw[OI.o];exact HN.o⟩,HE.o⟩):p:=h
def WN(h:p:=by exact Calls.bl (El a p v h A ε rows W GR) (GN.q.t hc)):p:=h
def WM(h:p:=by exact Calls.bl (xG b p v h A ε rows W GR) (GN.q.t hc)):p:=h
def WL(h:p:=by have:=h1 0 _ rfl;simpa[Addr.add]using World.cell?_spot this):p:=h
def WK(h:p:=by
 go_ret
 exact⟨aN (by rw[qI,HV.o,HH.o,<-HQ.o];rfl),FV.o⟩):p:=h
def WJ(h:p:=by refine⟨_,_,rfl,by omega,?_,hb⟩;exact ay (jR (by omega))):p:=h
def WI(h:p:=by exact(h.μ.ν k u r hu hr).u (h.Í u (aU hu)) hw hd):p:=h
def WH(h:p:=by exact⟨none,0,by rw[hn],ay (iq hn),by omega,by decide⟩):p:=h
def WG(h:p:=by
 go_wp2;go_ret
 exact⟨aN (by rw[qI,HV.o,HH.o];rfl),HB.o⟩):p:=h
def WE(h:p:=by rw[l5,fN _ _ _ (by simp[Gb];omega)];simpa using J6):p:=h
def WD(h:p:=by rw[FT.C k (by omega),bI,wG _ _ _ _ FX,hx];rfl):p:=h
def WC(h:p:=by rw[ak ⟨by omega,F0⟩,h0 F0,np,AK,nq this.1 this.2]):p:=h
def WB(h:p:=by rintro e w' ⟨rfl,a,b⟩;exact⟨g,ε,rfl,a,b,ay rfl⟩):p:=h
def WA(h:p:=by rw[show k+(n-j)=n-1 by have:=HX.o;omega];rfl):p:=h
def Wz(h:p:=by obtain⟨hj,rfl⟩:=bG.1 hx;rw[Dh];exact⟨0,by omega⟩):p:=h
def Wy(h:p:=by have:=FT;rwa[cZ (by rw[bs];exact ae _)]at this):p:=h
def Wx(h:p:=by rw[Lt.o];exact⟨C1,m1,by rw[<-LU.o],HF.o,HE.o⟩):p:=h
def Ww(h:p:=by simp only[ep]at e2;obtain⟨rfl,-,-⟩:=e2;exact h2):p:=h
def Wv(h:p:=by
 go_wp2;go_ret
 exact⟨aN (by rw[qI,HV.o];rfl),HB.o⟩):p:=h
def Wu(h:p:=by
 go_wp2;go_ret
 exact⟨_,rfl,ay (by decide),al _ _⟩):p:=h
def Wt(h:p:=by simp only[ep]at e;obtain⟨rfl,-,-⟩:=e;exact h):p:=h
def Ws(h:p:=by rcases hc with rfl|rfl|rfl|rfl|rfl<;>rfl):p:=h
def Wr(h:p:=by
 go_wp2;go_ret
 exact⟨_,rfl,ay (by decide),JR.o⟩):p:=h
def Wq(h:p:=by
 rcases Ha with h|⟨b,o,h,_⟩
 .exact h
 .cases h):p:=h
def Wp(h:p:=by
 rw[fi (by simp;omega),fQ];congr 1
 simp;omega):p:=h
def Wo(h:p:=by
 rw[uu h1];congr 1
 rw[di h1]at hx;exact ji hx):p:=h
def Wn(h:p:=by intro u hu;rw[Ip]at hu;exact h1 u (mx hu)):p:=h
def Wm(h:p:=by
 go_ret
 exact⟨_,rfl,ay (by decide),FV.o⟩):p:=h
def Wl(h:p:=by have:=h.apart _ _ x y b hx hy hb hb';omega):p:=h
def Wk(h:p:=by
 go_ret
 exact⟨aN (by rw[hf];rfl),FV.o⟩):p:=h
def Wj(h:p:=by exact⟨gV _ (by omega),gW _ (by omega)⟩):p:=h
def Wi(h:p:=by have:=GL W;rw[he]at this;exact this):p:=h
def Wh(h:p:=by simp only[bm,cQ,iN]at this ⊢;omega):p:=h
def Wg(h:p:=by exact fun e=>h1 (by rw[e];rfl)):p:=h
def Wf(h:p:=by
 go_ret
 exact⟨aN (by simp),FV.o⟩):p:=h
def We(h:p:=by
 go_wp2;go_ret
 exact⟨rfl,rfl⟩):p:=h
def Wc(h:p:=by rw[Ht]at hx;simp at hx):p:=h
def V_(h:p:=by subst h;exact ay (by simp)):p:=h
def V9(h:p:=by rw[h]at hr;simp at hr):p:=h
def V8(h:p:=by
 go_ret
 exact⟨rfl,rfl⟩):p:=h
def V7(h:p:=by first|with_reducible exact zH (aT GY.o Gg)|with_reducible exact zH ((GY.o.alloc GY.o.size _).t (Gg.x (GY.o.alloc GY.o.size _).size))):p:=h
def VZ(h:p:=by first|with_reducible exact zH ((aC _).t (FR.x (aC _).size))|with_reducible exact zH ((aw _ _).drew.t (FR.x (aw _ _).drew.size))):p:=h
def VX(h:p:=by first|with_reducible exact zH Gg|with_reducible exact zH ((aw _ _).t (Gg.x (aw _ _).size))):p:=h
def VW(h:p:=by iterate 8 (first|done|exact aC _|exact GY.o|exact al _ _|refine oX ?_|refine oY ?_)):p:=h
def VV(h:p:=by
 rw[IH.o]
 show(if dI ⟨kk,vv,ss.toList.isEmpty⟩=true then _ else _)=_
 rw[G8];rfl):p:=h
def VU(h:p:=by rw[FU,show k+(n+1-k)=n+1 by omega];exact growslice_fits (by omega) (by omega)):p:=h
def VT(h:p:=by
 rw[HS.o]
 show(if(gP kk ca cb).isSome=true then _ else _)=_
 rw[<-HOK.o];rfl):p:=h
def VR(h:p:=by first|with_reducible exact GY.o|with_reducible exact GY.o.alloc GY.o.size _):p:=h
def VQ(h:p:=by iterate 8 (first|done|exact aC _|exact al _ _|refine oX ?_|refine oY ?_)):p:=h
def VP(h:p:=by first|with_reducible exact JL.o|with_reducible exact JL.o.ext (aw _ _)):p:=h
def VO(h:p:=by have:=hS.ι;have h2:=zjC (p:=p) (g:=g) j;have:=LL.o;omega):p:=h
def VN(h:p:=by rw[dF,bB NX,Gk _ (by have:=(bG.1 hj).1;omega),<-hj,H4,fQ]):p:=h
def VM(h:p:=by rw[dF,bB I9,Gk _ (by have:=(bG.1 hj).1;omega),<-hj,H4,fQ]):p:=h
def VL(h:p:=by first|with_reducible exact aC _|with_reducible exact(aw _ _).drew):p:=h
def VK(h:p:=by rw[zgh];exact cZ (by unfold Gr.H;simp;have:=LL.o;omega)):p:=h
def VJ(h:p:=by have:=Jz 0 (by omega) _ (by rw[he];rfl);simpa[dF]using this):p:=h
def VI(h:p:=by have:=Jz 1 (by omega) _ (by rw[he];rfl);simpa[dF]using this):p:=h
def VH(h:p:=by have:=Jz 2 (by omega) _ (by rw[he];rfl);simpa[dF]using this):p:=h
def VG(h:p:=by cases e;have:=HR7.o _ e2;have:=HZ7.o;have:=Lf.o;omega):p:=h
def VF(h:p:=by rw[bB b1,di (by have:=I8;simp at this hj ⊢;omega)];rfl):p:=h
def VE(h:p:=by rw[bB NM,di (by have:=Ig;simp at this hj ⊢;omega)];rfl):p:=h
def VD(h:p:=by rw[Lc,dU (by rw[bm,Ld];simp),fi (by omega),Ld];simp):p:=h
def VC(h:p:=by rw[Lm,Lc,fi (by rw[bm,Ld];exact ae _),bm,Ld];simp):p:=h
def VB(h:p:=by simp[DY]at hu;rcases hu with h|h|h<;>subst h<;>rfl):p:=h
def Vz(h:p:=by rw[bB ((hV _ hb.size (by simp)).t (aH w8 _ rfl)) 0];rfl):p:=h
def Vy(h:p:=by rw[bB b1,di (by have:=I8;simp at this ⊢;omega)];rfl):p:=h
def Vx(h:p:=by have:=h'.2.2.2.2;rw[HS.o.ι,<-JN]at this;exact this):p:=h
def Vw(h:p:=by simp at hq;rcases hq with rfl|rfl;exact Lx;exact LN):p:=h
def Vv(h:p:=by rw[I7];exact cx (eG w none) (World.grownBy_alloc _ _ _)):p:=h
def Vu(h:p:=by rw[NF];simp[Builtin.zeroCells,Value.cells];omega):p:=h
def Vt(h:p:=by rw[IV.o];exact IW.o x (au (au ⟨_,I0,ay hx⟩))):p:=h
def Vs(h:p:=by rw[IV.o];exact IW.o x (au (au ⟨_,I0,au hx⟩))):p:=h
def Vr(h:p:=by rw[hU];exact Li (by rw[Lo,<-hG,G8];exact h)):p:=h
def Vq(h:p:=by intro u hu;simp at hu;obtain⟨x,_,rfl⟩:=hu;rfl):p:=h
def Vp(h:p:=by have:=(HV.o _ I0).2;dsimp only at this ⊢;omega):p:=h
def Vo(h:p:=by rw[JN,Mm];exact nget _ _ (by rw[Ii.o];omega)):p:=h
def Vn(h:p:=by rw[hib,Mm];exact nget _ _ (by rw[JQ.o];omega)):p:=h
def Vm(h:p:=by rw[K7,Mm];exact nget _ _ (by rw[JS.o];omega)):p:=h
def Vl(h:p:=by have:=h.le;have:=hb.size;simp at this ⊢;omega):p:=h
def Vk(h:p:=by obtain⟨r,_,ho⟩:=hu.nT hx;exact(ho.lt b hb).2):p:=h
def Vj(h:p:=by
 have:=GX.o
 show k≠(w:Nat)+1+1
 omega):p:=h
def Vi(h:p:=by
 have:=HZW.o
 show k≠(w:Nat)+1+1
 omega):p:=h
def Vh(h:p:=by rw[hR,bs];unfold Ed.G;split<;>exact td ..):p:=h
def Vg(h:p:=by
 have:=J8.o
 show k≠(w:Nat)+1+1
 omega):p:=h
def Vf(h:p:=by rw[fN _ _ _ (by simp[Gb];omega)];simp[G_]):p:=h
def Ve(h:p:=by rw[fN _ _ _ (by simp[Jb];omega)];simp[G_]):p:=h
def U_(h:p:=by rw[bB FR,di (by simp at hj ⊢;omega)];rfl):p:=h
def U9(h:p:=by rw[hu.us.C _ (by omega),bI,hq];rfl):p:=h
def U4(h:p:=by unfold eM;rw[getD_some hr,getD_some hx]):p:=h
def U3(h:p:=by unfold mF;split<;>(try split)<;>omega):p:=h
def U2(h:p:=by rw[fN _ _ _ (by simp;omega)];simp[NS]):p:=h
def U0(h:p:=by rw[Lu.C _ (by omega),bI,hd];rfl):p:=h
def UZ(h:p:=by simp[results,results90,go_sem,c3,c4]):p:=h
def UU(h:p:=by rw[Jb];simp only[si];split<;>omega):p:=h
def UT(h:p:=by constructor<;>(repeat' split)<;>omega):p:=h
def US(h:p:=by rw[Gf.η.C _ (by omega),J0]):p:=h
def UR(h:p:=by have:=HT.o.ι;have:=HT.o.kl;omega):p:=h
def UQ(h:p:=by simp only[si];split<;>simp<;>omega):p:=h
def UP(h:p:=by rw[FY];exact(al _ _).alloc (ae _) _):p:=h
def UN(h:p:=by have:=G5.o.size;simp at this;omega):p:=h
def UM(h:p:=by rw[Gf.η.C _ (by omega),Hp]):p:=h
def UL(h:p:=by have:=h.up g (by rw[a1];rfl);omega):p:=h
def UK(h:p:=by unfold FC;simp only[jS,cf];exact h1):p:=h
def UJ(h:p:=by have:=Hu _ e h0;simp at this;omega):p:=h
def UH(h:p:=by rw[OY];exact(al _ _).alloc (ae _) _):p:=h
def UD(h:p:=by rw[e];exact au (aZ Gn.o HA5.o.size)):p:=h
def UB(h:p:=by subst e;exact(bS hu.η g' rfl).2):p:=h
def UA(h:p:=by simp[results,results252,go_sem, *]):p:=h
def Uz(h:p:=by simp[results,results105,go_sem, *]):p:=h
def Uy(h:p:=by rw[JR.o,HE2.o,Mk.o];exact HX3.o):p:=h
def Ux(h:p:=by simp[results,results123,go_sem, *]):p:=h
def Uw(h:p:=by simp[results,results223,go_sem, *]):p:=h
def Uv(h:p:=by simp[results,results107,go_sem, *]):p:=h
def Uu(h:p:=by simp[results,results194,go_sem, *]):p:=h
def Ut(h:p:=by rw[bB I9,di (by simp;omega)];rfl):p:=h
def Ur(h:p:=by simp[results,results220,go_sem, *]):p:=h
def Uq(h:p:=by simp[results,results85,go_sem, *]):p:=h
def Up(h:p:=by first|exact h|exact h.ext (aC _)):p:=h
def Uo(h:p:=by have:=h.ι;simp at this ⊢;omega):p:=h
def Un(h:p:=by simp[results,results34,go_sem, *]):p:=h
def Um(h:p:=by have:=HZ7.o;have:=HW24.o;omega):p:=h
def Ul(h:p:=by have:=hg.2.2;unfold maxLen;omega):p:=h
def Uj(h:p:=by simp[results,results68,go_sem, *]):p:=h
def Ui(h:p:=by simp[results,results37,go_sem, *]):p:=h
def Uh(h:p:=by simp[results,results67,go_sem, *]):p:=h
def Ug(h:p:=by have:=I8;simp at this ⊢;omega):p:=h
def Uf(h:p:=by have:=HZ7.o;have:=Je.o;omega):p:=h
def Ue(h:p:=by rw[fi (by omega),iY,bI,hx];rfl):p:=h
def Ud(h:p:=by split;exact h;exact⟨0,by omega⟩):p:=h
def Uc(h:p:=by have:=HZ.o;have:=GX.o;omega):p:=h
def Ub(h:p:=by rw[He.C _ (by omega),Hc]):p:=h
def Ua(h:p:=by obtain⟨x,-,rfl⟩:=cH.1 hc;rfl):p:=h
def T_(h:p:=by have:=Ig;simp at this ⊢;omega):p:=h
def T8(h:p:=by simp only[ep]at h1;exact h1.1):p:=h
def T5(h:p:=by rw[<-hf];exact jj _ _ (HP.o _)):p:=h
def T4(h:p:=by intro e';cases e';exact e rfl):p:=h
def T3(h:p:=by simp at hv;subst hv;exact Ja):p:=h
def T2(h:p:=by rw[<-H_.o];exact Ho.o.q):p:=h
def TZ(h:p:=by rcases hq with h|h<;>omega):p:=h
def TY(h:p:=by have:=HW.o.size;simp;omega):p:=h
def TX(h:p:=by first|exact ae _|simp[dQ]):p:=h
def TW(h:p:=by rw[Ir];exact a_ _ _ _ _ hj):p:=h
def TV(h:p:=by simp[results,pZ,go_sem, *]):p:=h
def TU(h:p:=by rw[aS];unfold maxLen;omega):p:=h
def TS(h:p:=by simp[results,kG,go_sem, *]):p:=h
def TR(h:p:=by have:=s.el r hr x hx;omega):p:=h
def TQ(h:p:=by simp[Value.ownBlock];omega):p:=h
def TP(h:p:=by have:=J1 _ e.q;omega):p:=h
def TO(h:p:=by rw[Lo,<-hG,G8];exact h):p:=h
def TN(h:p:=by have:=F0 _ e.q;omega):p:=h
def TM(h:p:=by rw[<-hv];exact dC _ _ _ _):p:=h
def TL(h:p:=by rw[<-hh];exact dC _ _ _ _):p:=h
def TK(h:p:=by rw[FY];exact aH _ _ rfl):p:=h
def TJ(h:p:=by rw[Ir];simpa using Jp):p:=h
def TI(h:p:=by simp[results,uK,go_sem]):p:=h
def TH(h:p:=by simp[results,eT,go_sem]):p:=h
def TG(h:p:=by simp[xz,mf]at hd;omega):p:=h
def TF(h:p:=by simp[results,uP,go_sem]):p:=h
def TD(h:p:=by simp[results,sm,go_sem]):p:=h
def TC(h:p:=by cases v.ownBlock<;>simp):p:=h
def TB(h:p:=by rw[s.row r hr];exact hn):p:=h
def TA(h:p:=by have:=Mu.o.size;omega):p:=h
def Tz(h:p:=by simp[Region.wanted,Jf]):p:=h
def Ty(h:p:=by have:=s.ι r hr;omega):p:=h
def Tx(h:p:=by first|exact ae _|simp):p:=h
def Tw(h:p:=by simp[Act.eval,Act.put]):p:=h
def Tv(h:p:=by rw[bs,cQ,HM.o];omega):p:=h
def Tu(h:p:=by have:=J1 b hb;omega):p:=h
def Tt(h:p:=by unfold ntE;rw[hv];rfl):p:=h
def Ts(h:p:=by rw[<-J4,iM,ak ht]):p:=h
def Tr(h:p:=by have:=Gb r hr;omega):p:=h
def Tp(h:p:=by rw[HTF.o]at h;cases h):p:=h
def To(h:p:=by have:=HW.o.size;omega):p:=h
def Tn(h:p:=by rw[<-Pa.o];exact HO.o):p:=h
def Tl(h:p:=by have:=h.el e he;omega):p:=h
def Tk(h:p:=by rw[H8.o];exact JO):p:=h
def Tj(h:p:=by rw[ha.ι];exact JO):p:=h
def Ti(h:p:=by have:=F6 r hr;omega):p:=h
def Tg(h:p:=by rw[Ip];simp[J3]):p:=h
def Tf(h:p:=by rw[eJ _ _ _ hk];omega):p:=h
def Te(h:p:=by rw[h4,g2];exact ae _):p:=h
def Td(h:p:=by rw[h3,g1];exact ae _):p:=h
def Tc(h:p:=by rw[h0]at hr;cases hr):p:=h
def Tb(h:p:=by rw[Gl.o];exact Gv.o):p:=h
def Ta(h:p:=by simpa[aE]using J_):p:=h
def S_(h:p:=by simpa using aE.nil _ _):p:=h
def S9(h:p:=by rw[<-jr];exact dK hx):p:=h
def S8(h:p:=by simp[WideAt.IsKeyLit]):p:=h
def S7(h:p:=by simp[dI]at hl;omega):p:=h
def SZ(h:p:=by simp[pX,J3];omega):p:=h
def SY(h:p:=by simp[Value.ownBlock]):p:=h
def SX(h:p:=by simp[List.getD,GZ]):p:=h
def SW(h:p:=by simp[List.getD,Hm]):p:=h
def SV(h:p:=by rw[JG.o.ι];omega):p:=h
def SU(h:p:=by simp[Value.oneCell']):p:=h
def SS(h:p:=by rw[H4];simp;omega):p:=h
def SR(h:p:=by rw[Im.o];exact JT):p:=h
def SQ(h:p:=by rw[S.s1.1];exact ha):p:=h
def SP(h:p:=by rw[S.s2.1];exact ha):p:=h
def SN(h:p:=by simp[cT,I_];omega):p:=h
def SM(h:p:=by rw[iW];exact h.ι):p:=h
def SL(h:p:=by unfold maxLen;omega):p:=h
def SK(h:p:=by have:=Im.o;omega):p:=h
def SJ(h:p:=by have:=GX.o;omega):p:=h
def SH(h:p:=by have:=NB.o;omega):p:=h
def SG(h:p:=by have:=Lv.o;omega):p:=h
def SF(h:p:=by rw[HM.o];exact FX):p:=h
def SE(h:p:=by rw[du,hx,kA];rfl):p:=h
def SD(h:p:=by rw[tJ];exact J2.o):p:=h
def SC(h:p:=by rw[<-h.1];exact hl):p:=h
def SB(h:p:=by rw[nJ];exact Is.o):p:=h
def Sz(h:p:=by rw[Ld];exact ae _):p:=h
def Sx(h:p:=by have:=Gn.o;omega):p:=h
def Sw(h:p:=by have:=JU.o;omega):p:=h
def Sv(h:p:=by have:=Ka.o;omega):p:=h
def Su(h:p:=by have:=Ii.o;omega):p:=h
def St(h:p:=by have:=Je.o;omega):p:=h
def Ss(h:p:=by simp[List.getD,hr]):p:=h
def Sr(h:p:=by simp[List.getD,hx]):p:=h
def Sq(h:p:=by rw[h.ι];exact hk):p:=h
def So(h:p:=by rw[Hw];simp[G4]):p:=h
def Sn(h:p:=by rw[<-H4];exact hv):p:=h
def Sm(h:p:=by rw[fk];exact Gb):p:=h
def Sl(h:p:=by rw[KZ];exact Ld):p:=h
def Sk(h:p:=by rw[<-sf];exact ho):p:=h
def Sj(h:p:=by simpa[eU]using h1):p:=h
def Si(h:p:=by simpa[eU]using hi):p:=h
def Sh(h:p:=by have:=Hn.o;omega):p:=h
def Sg(h:p:=by have:=h.es;omega):p:=h
def Sf(h:p:=by rw[hyk];exact hb):p:=h
def Se(h:p:=by rw[aS];exact FX):p:=h
def Sd(h:p:=by rw[cQ,hl];omega):p:=h
def Sc(h:p:=by rw[fS,hl];omega):p:=h
def Sa(h:p:=by rw[aS,c_];omega):p:=h
def R_(h:p:=by have:=h.w;omega):p:=h
def R9(h:p:=by have:=h.i;omega):p:=h
def R7(h:p:=by have:=h.o;omega):p:=h
def R6(h:p:=by rw[cQ,fS];omega):p:=h
def R5(h:p:=by rw[Gu.o];omega):p:=h
def RZ(h:p:=by rw[aS];exact hm):p:=h
def RY(h:p:=by dsimp only;omega):p:=h
def RX(h:p:=by rw[Mk.o];omega):p:=h
def RW(h:p:=by rw[Jy.o];omega):p:=h
def RV(h:p:=by rw[Ii.o];omega):p:=h
def RU(h:p:=by rw[JQ.o];omega):p:=h
def RR(h:p:=by rw[JS.o];omega):p:=h
def RQ(h:p:=by simp[vg.add,bD]):p:=h
def RP(h:p:=by rw[bm];exact hd):p:=h
def RO(h:p:=by rw[e1];exact hd):p:=h
def RN(h:p:=by rw[Gb];omega):p:=h
def RM(h:p:=by simp[eU];omega):p:=h
def RL(h:p:=by rw[bf,hx];rfl):p:=h
def RK(h:p:=by rw[HL.o];omega):p:=h
def RJ(h:p:=by simpa using FT):p:=h
def RI(h:p:=by simp[cJ];omega):p:=h
def RH(h:p:=by rw[bI,hx];rfl):p:=h
def RG(h:p:=by intro h;cases h):p:=h
def RF(h:p:=by rw[FU];omega):p:=h
def RE(h:p:=by simpa using G_):p:=h
def RD(h:p:=by cases hb;omega):p:=h
def RC(h:p:=by simpa using F0):p:=h
def Rz(h:p:=by simp[P5,PZ]):p:=h
def Rx(h:p:=by rw[GP];omega):p:=h
def Rw(h:p:=by simp[m6,e,m]):p:=h
def Rv(h:p:=by rw[cQ];omega):p:=h
def Ru(h:p:=by rw[dX];omega):p:=h
def Rt(h:p:=by rw[bT];omega):p:=h
def Rs(h:p:=by simp<;>omega):p:=h
def Rr(h:p:=by rw[FY];simp):p:=h
def Rq(h:p:=by decide +kernel):p:=h
def Rp(h:p:=by simpa using h1):p:=h
def Ro(h:p:=by rw[fS];omega):p:=h
def Rn(h:p:=by rw[aS];omega):p:=h
def Rm(h:p:=by simpa using h7):p:=h
def Rk(h:p:=by simpa using h2):p:=h
def Rj(h:p:=by simpa using hk):p:=h
def Ri(h:p:=by simpa using h3):p:=h
def Rh(h:p:=by simpa using h4):p:=h
def Rg(h:p:=by simpa using h5):p:=h
def Re(h:p:=by simpa using tC):p:=h
def Rd(h:p:=by simpa using tB):p:=h
def Rc(h:p:=by simpa using tA):p:=h
def Rb(h:p:=by simpa using h0):p:=h
def Ra(h:p:=by rw[bm];omega):p:=h
def Q_(h:p:=by simpa using h):p:=h
def Q9(h:p:=by simp[h1,h2]):p:=h
def Q7(h:p:=by rw[jQ];simp):p:=h
def Q5(h:p:=by rw[he];rfl):p:=h
def QZ(h:p:=by rw[h];simp):p:=h
def QY(h:p:=by simp[m6,e]):p:=h
def QX(h:p:=by simp[m6,m]):p:=h
def QW(h:p:=by simp;omega):p:=h
def QV(h:p:=by rw[aS,bs]):p:=h
def QU(h:p:=by rw[aS,c_]):p:=h
def QT(h:p:=by kernel_rfl):p:=h
def QS(h:p:=by rw[Mt.o]):p:=h
def QR(h:p:=by assumption):p:=h
def QQ(h:p:=by simp[h2]):p:=h
def QP(h:p:=by simp[h1]):p:=h
def QO(h:p:=by simp at h):p:=h
def QN(h:p:=by simp[jG]):p:=h
def QM(h:p:=by simp[bD]):p:=h
def QL(h:p:=by simp[h0]):p:=h
def QK(h:p:=by simp[hv]):p:=h
def QJ(h:p:=by simp[hn]):p:=h
def QI(h:p:=by simp[pB]):p:=h
def QH(h:p:=by simp[me]):p:=h
def QG(h:p:=by simp[cG]):p:=h
def QF(h:p:=by simp[fO]):p:=h
def QD(h:p:=by simp[*]):p:=h
def QC(h:p:=by simp[e]):p:=h
def QB(h:p:=by cases hr):p:=h
def QA(h:p:=by simp[m]):p:=h
def Qy(h:p:=by cases h):p:=h
def Qx(h:p:=by go_num):p:=h
def Qw(h:p:=by decide):p:=h
def Qv(h:p:=by rw[e]):p:=h
def Qu(h:p:=by omega):p:=h
def Qt(h:p:=by simp):p:=h
def Qs(h:p:=by rfl):p:=h
def Qn(h:q)(e:Bx q->p:=by
 intro zq;refine hK.out _ _ (fun h=>absurd h Qw) (fun _=>?_);try simp only[Act.put,zA]
 exact zq.o):p:=e ⟨h⟩
def Qm(h:q)(e:Bx q->p:=by
 intro zq;try simp only[Act.put,zA]
 exact zq.o):p:=e ⟨h⟩
def Ql(h:q)(e:Bx q->p:=by
 intro zq;have GV:=s.p2;have GK:=s.p97;have Gh:=s.Â;have GO:=s.χ;have GM:=s.n;have GR:rows.length<=maxLen:=SL;have GS:∀r∈rows,r.length<=1000:=fun r hr=>Ty
 have GU:∀r∈rows,r.length<=maxLen:=fun r hr=>(by have:=GS r hr;unfold maxLen;omega)
 have GQ:∀r∈rows,∀x∈r,0<=x/\x<=1000:=fun r hr x hx=>TR
 revert GV GK Gh GO GM GR GS GU GQ;exact zq.o):p:=e ⟨h⟩
def Qj(h:q)(e:Bx q->p:=by intro zq;refine aM 0 ?_;refine aM 1 ?_;refine aM 2 ?_;refine aM 3 ?_;refine aM 4 ?_;refine aM 5 ?_;refine aM 6 ?_;refine aM 7 ?_;refine aM 8 ?_;exact zq.o):p:=e ⟨h⟩
def Qi(h:q)(e:Bx q->p:=by intro zq;refine aM 0 ?_;refine aM 1 ?_;refine aM 2 ?_;refine aM 3 ?_;refine aM 4 ?_;refine aM 5 ?_;exact zq.o):p:=e ⟨h⟩
def Qe(h:q)(e:Bx q->p:=by
 intro zq;have m0:=dg FR q0;have m2:=dg FR q2;have hb:=GJ.t (FR.x (B':=w.heap.size) Rs);have Ge:=FR.size;simp only[dV]at Ge;have⟨e0,e1,e2,_,_,_⟩:=dS m0;have⟨HB,M0,M2⟩:=er hb m0 m2;clear m0 m2 hb
 revert Ge e0 e1 e2 HB M0 M2;exact zq.o):p:=e ⟨h⟩
def Qc(h:q)(e:Bx q->p:=by
 intro zq;have⟨HM,F_⟩:=bJ (Qu:rows.length<=1048576) (show ∀r∈rows,r.length<=1048576 from fun r hr=>Ti)
 revert HM F_;exact zq.o):p:=e ⟨h⟩
def Qb(h:q)(e:Bx q->p:=by
 intro zq;dsimp only at *;have⟨HH,HI,IJ,Ih⟩:=gG H hI hG (show ∀V,b_ lo hi w V->ag w0 V from fun V hV=>hB.t (hV.L I2 hB.size));have Ig:=hI _ _ _ hs (aw w (.cells (fw gw A1 es c1 A2 gi c2 A3 go c3) 54));have hq:=aH w (.cells (fw gw A1 es c1 A2 gi c2 A3 go c3) 54) rfl;have Gq:b_ lo hi w (w.alloc (.cells (fw gw A1 es c1 A2 gi c2 A3 go c3) 54)):=b_.gy (aw _ _);have HB:=zH (show ∀V,b_ lo hi w V->jV V A1 A2 A3 ⟨gw,es,gi,go⟩ from fun V hV=>hG.ext (hB.t (hV.L I2 hB.size)));have LI:∀x∈gi,Gr.On ⟨gw,es,gi,go⟩ x:=fun x hx=>ay hx
 have LO:∀x∈go,Gr.On ⟨gw,es,gi,go⟩ x:=fun x hx=>au (ay hx)
 have⟨LE,JJ⟩:=bJ (show ∀e∈es,(∀x∈e.i,Gr.On ⟨gw,es,gi,go⟩ x)/\∀x∈e.o,Gr.On ⟨gw,es,gi,go⟩ x from fun e he=>⟨fun x hx=>au (au ⟨e,he,ay hx⟩),fun x hx=>au (au ⟨e,he,au hx⟩)⟩) (show ∀k e,es[k]?=some e->((es.take (k+1)).flatMap fun e=>[e.i,e.o])=((es.take k).flatMap fun e=>[e.i,e.o])++[e.i]++[e.o] from fun k e he=>by rw[du,he,Di];simp);have Mf:gi.length<=65536:=Gb gi (by simp[ec]);have L3:go.length<=65536:=Gb go (by simp[ec]);have L8:=zH (show ∀e∈es,e.i.length<=65536/\e.o.length<=65536 from fun e he=>⟨Gb e.i (kE _ (lh.2 ⟨e,he,Qt⟩)),Gb e.o (kE _ (lh.2 ⟨e,he,Qt⟩))⟩)
 revert HH HI IJ Ih Ig hq Gq HB LI LO LE JJ Mf L3 L8;exact zq.o):p:=e ⟨h⟩
def P_(h:q)(e:Bx q->p:=by
 intro zq;have⟨HG1,KY,Lf,HF5,Jt⟩:=pD Ic hgb (bY (aT Ia.o Gp.o) (b:=w2.heap.size) (ae _) (zI (G.w:Nat)) (.slice D1 G.es d1) (.slice D2 G.i d2) (.slice D3 G.o d3)) (HF.o.dQ (v0:=.int .i64 (G.w:Nat)) (v1:=.slice D1 G.es d1) (v2:=.slice D2 G.i d2) (v3:=.slice D3 G.o d3) (b:=w2.heap.size) IS.o) (cP (v0:=.int .i64 (G.w:Nat)) (v1:=.slice D1 G.es d1) (v2:=.slice D2 G.i d2) (v3:=.slice D3 G.o d3) HZ.o);have Qr:(dQ w4 w2 (zI (G.w:Nat)) (.slice D1 G.es d1) (.slice D2 G.i d2) (.slice D3 G.o d3):Nat)=w4:=eK;have HS5:=zH Qr;clear Qr;unfold dQ at Lf HF5 Jt HS5;generalize (((w4.setCell ⟨w2,0,none⟩ _).setCell ⟨w2,1,none⟩ _).setCell ⟨w2,2,none⟩ _).setCell ⟨w2,3,none⟩ _=w5 at Lf HF5 Jt HS5 ⊢;have⟨z0,z1,z2,z3⟩:=aB Jt.o;have Qh:=zH (qQ G D1 D2 D3 d1 d2 d3 w5 HF5.o.D HG1.o KY.o.w KY.o.es KY.o.i KY.o.o);have Qd:=zH (show(W:Nat)<=w3 from aZ (show(W:Nat)<=w2 by have:=GX.o;omega) (ix IS.o))
 have Jw:=zH (show ∀g,(Value.slice A6 m c6).ownBlock=some g->g < (w3:Nat) from fun g e=>by obtain⟨cs,h⟩:=K5.o;have:=(bS h.η g e).2;have:=IS.o;omega)
 revert HG1 KY w5 Lf HF5 Jt HS5 z0 z1 z2 z3 Qh Qd Jw;exact zq.o):p:=e ⟨h⟩
def P9(h:q)(e:Bx q->p:=by
 intro zq;try simp only[Act.put,zA]
 exact zq.o):p:=e ⟨h⟩
def P8(h:q)(e:Bx q->p:=by intro zq;refine aM 0 ?_;refine aM 1 ?_;refine aM 2 ?_;refine aM 3 ?_;exact zq.o):p:=e ⟨h⟩
def P6(h:q)(e:Bx q->p:=by
 intro zq;have LG:(w:Nat)+1<w3:=by have:=(bk.1 IX.o).1;omega
 have HF:=zH (show Fr ((((wr.setCell ⟨(w:Nat)+1,0,none⟩ (zI (f_:Nat))).setCell ⟨(w:Nat)+1,1,none⟩ (zI (gw:Nat))).setCell ⟨(w:Nat)+1,2,none⟩ (.slice C1 m m1))) w ((((wr.setCell ⟨(w:Nat)+1,0,none⟩ (zI (f_:Nat))).setCell ⟨(w:Nat)+1,1,none⟩ (zI (gw:Nat))).setCell ⟨(w:Nat)+1,2,none⟩ (.slice C1 m m1))) (fun V=>cS V C1 (g.og p)) from
  (hf.y fun k h1 _=>(a_ _ _ _ _ (by show k≠(w:Nat)+1;omega)).t ((a_ _ _ _ _ (by show k≠(w:Nat)+1;omega)).t (a_ _ _ _ _ (by show k≠(w:Nat)+1;omega)))).to Qu Qt)
 have⟨HE,Lt,LU⟩:=er ((((aT FV.o Gg).setCell (p:=⟨(w:Nat)+1,0,none⟩) (by show(w:Nat)<=w+1;omega) (zI (f_:Nat))).setCell (p:=⟨(w:Nat)+1,1,none⟩) (by show(w:Nat)<=w+1;omega) (zI (gw:Nat))).setCell (p:=⟨(w:Nat)+1,2,none⟩) (by show(w:Nat)<=w+1;omega) (.slice C1 m m1)) (by unfold Gr.N;rw[LL.o,IV.o]:g.N p=⟨(f_:Nat),(gw:Nat),g.og p⟩) hS.ι
 revert LG HF HE Lt LU;exact zq.o):p:=e ⟨h⟩
def PX(h:q)(e:Bx q->p:=by
 intro zq;have H7:=ζ w (.cells (bj a A1 c1 A2 c2 A3 c3) 54) (.cells (bj b D1 d1 D2 d2 D3 d3) 54) (.cells cw 54);have⟨q0,q1,q2⟩:=cD w (.cells (bj a A1 c1 A2 c2 A3 c3) 54) (.cells (bj b D1 d1 D2 d2 D3 d3) 54) (.cells cw 54)
 revert H7 q0 q1 q2;exact zq.o):p:=e ⟨h⟩
def PT(h:q)(e:Bx q->p:=by
 intro zq;rintro e w1 ⟨u,rfl,⟨us,hu⟩,FR⟩;obtain⟨gA,Ga,rfl,_,_,_⟩:=aY.p ⟨us,hu⟩
 revert w1 FR us gA Ga hu;exact zq.o):p:=e ⟨h⟩
def PR(h:q)(e:Bx q->p:=by
 intro zq;dsimp only at *;have LI:∀x∈gi,t[x]?=some ((f x:Nat):Int):=fun x hx=>hl x (ay hx)
 have LO:∀x∈go,t[x]?=some ((f x:Nat):Int):=fun x hx=>hl x (au (ay hx))
 have LE:∀e∈es,(∀x∈e.i,t[x]?=some ((f x:Nat):Int))/\∀x∈e.o,t[x]?=some ((f x:Nat):Int):=fun e hm=>⟨fun x hx=>hl x (au (au ⟨e,hm,ay hx⟩)),fun x hx=>hl x (au (au ⟨e,hm,au hx⟩))⟩
 have hB:=((al w w).alloc (ae _) (.cells (rI gw A1 es c1 A2 gi c2 A3 go c3) 54)).alloc Qt (.cells cw 54);have hq:=(bO (w.alloc (.cells (rI gw A1 es c1 A2 gi c2 A3 go c3) 54)) (.cells cw 54) (k:=w.heap.size) Qt).t (aH w _ rfl);have hr:=aH (w.alloc (.cells (rI gw A1 es c1 A2 gi c2 A3 go c3) 54)) (.cells cw 54) (n:=(w:Nat)+1) Qt;have⟨HG,HT,KQ,KM⟩:=gG (hG.ext hB) (hT.ext hB) LE KI;have KB:gi.length<=1048576:=Qu;have KV:go.length<=1048576:=Qu;have KA:t.length<=1048576:=Qu;have⟨IJ,KP⟩:=bJ hG hT;clear LE
 revert LI LO hB hq hr HG HT KQ KM KB KV KA IJ KP;exact zq.o):p:=e ⟨h⟩
def PN(h:q)(e:Bx q->p:=by
 intro zq;have⟨f_,LP⟩:=aR g.f_;have LL:=zH LP;have LM:(bD g.i++bD g.o).length=f_:=by rw[bm,aS,aS,LP];rfl
 have LR:=zH LM;have Gh:f_<=24:=by rw[LP];unfold Gr.f_;omega
 have⟨gw,Lz⟩:=aR g.w;have IV:=zH Lz;rw[<-Lz]at Ie ⊢;have⟨N,hN⟩:=aR (f_+gw);have LS:IntKind.i64.wrap ((f_:Int)+(gw:Int))=(N:Int):=Rt;have LA:N<=4096:=Qu;have Lv:=zH hN;have LW:IntKind.i64.wrap (p-1)=p-1:=Rt;have hB:=((al w w).alloc (ae _) (.cells (fw gw A1 g.es c1 A2 g.i c2 A3 g.o c3) 54)).alloc Qt (.cells bx 57);have hq:=(bO (w.alloc (.cells (fw gw A1 g.es c1 A2 g.i c2 A3 g.o c3) 54)) (.cells bx 57) (k:=w.heap.size) Qt).t (aH w _ rfl);have hr:=aH (w.alloc (.cells (fw gw A1 g.es c1 A2 g.i c2 A3 g.o c3) 54)) (.cells bx 57) (n:=(w:Nat)+1) Qt;clear LP LM Lz hN
 revert f_ LL LR Gh gw Ie IV N LS LA Lv LW hB hq hr;exact zq.o):p:=e ⟨h⟩
def PL(h:q)(e:Bx q->p:=by
 intro zq;have hHeld:=hHeld (by decide);refine cm 12 fun K hK=>?_
 refine df rfl (.tmp 215) (.tmp 218) rfl wr w3 (.slice A2 (0+1) c2) ((([]:aL)).take 0++[0]) ((([]:aL)).drop 0) (none) (0) (0) (by simp) rfl rfl Kp.o (ID.o.ext Ks.o) (by simp<;>omega) Ks.o.size ?_;intro v3 w4 Ko IG;rw[show(([]:aL)).take 0++[0]++(([]:aL)).drop 0=cT (([]:aL)) 0 0 by simp[cT]]at Ko;obtain⟨A3,c3,rfl⟩:∃A3 c3,v3=.slice A3 ((([]:aL)).length+1) c3:=by obtain⟨A3,c3,e,_⟩:=Ko.p;exact⟨A3,c3,by rw[e,show(cT (([]:aL)) 0 (0:Int)).length=(([]:aL))+1 from kQ _ _ _ (by omega)]⟩
 have⟨Ki,Kr⟩:=bJ (Ks.o.t IG) Ko;clear Ko IG;have Kv:=ar Ki.o z0;have Kh:=i_ Ki.o f0 (ju z0);have Km:=zH (ar Ki.o y2);refine hK.out _ _ (fun _=>Km.o) (fun hHeld=>?_);clear hK K
 revert w4 A3 c3 Ki Kr Kv Kh Km hHeld;exact zq.o):p:=e ⟨h⟩
def PK(h:q)(e:Bx q->p:=by
 intro zq;have Hz:=zH (show w.grownBy (W2.drew.setCells w (k+1) ds) none from
  ⟨d2.os.t (c2.os.t Ic.os),d2.tape.t (c2.tape.t Ic.tape),d2.output.t (c2.output.t Ic.output),aZ Ic.size (aZ c2.size d2.size),fun q hq _=>
   (d2.block q (gm hq (aZ Ic.size c2.size)) QW).t ((c2.block q (gm hq Ic.size) QW).t (NC q hq))⟩)
 have NR:(n:Int) < (n:Int)+1:=Qu;have Jc:k<=n:=Qu;have Gq:IntKind.i64.wrap ((k:Int)+1)=(k:Int)+1:=Rt;have NT:(0:Int)<=(k:Int)+1:=Qu;have Hv:((k:Int)+1).toNat=k+1:=Qu;have NY:¬(G=k):=Qu;have NJ:¬(G=k+1):=Qu;have NU:¬(n=k):=Qu;have Hj:(k:Int)<=(n:Int)+1:=Qu
 revert Hz NR Jc Gq NT Hv NY NJ NU Hj;exact zq.o):p:=e ⟨h⟩
def PJ(h:q)(e:Bx q->p:=by
 intro zq;have GD:=HB.o.t (FV.o.x Qu);have Gj:=FV.o.size;have⟨GI,GH⟩:=bJ GD (GG.o (by trivial) w2 GD);clear GD
 revert Gj GI GH;exact zq.o):p:=e ⟨h⟩
def PI(h:q)(e:Bx q->p:=by
 intro zq;obtain⟨g,GA,Gy,Gz⟩:∃g,gA=some ⟨g,0,none⟩/\(w:Nat)+3<=g/\g < (W2:Nat):=mh Gf Qu
 revert g GA Gy Gz;exact zq.o):p:=e ⟨h⟩
def PG(h:q)(e:Bx q->p:=by
 intro zq;have hHeld:=hHeld (by decide);refine cm 12 fun K hK=>?_
 refine df rfl (.tmp 215) (.tmp 218) rfl wr w3 (.slice A2 (q+1) c2) ((r).take q++[0]) ((r).drop q) (some A9) (r.length-q) (cr-q) (by simp) rfl rfl Kp.o (ID.o.ext Ks.o) (by simp<;>omega) Ks.o.size ?_;intro v3 w4 Ko IG;rw[show(r).take q++[0]++(r).drop q=cT (r) q 0 by simp[cT]]at Ko;obtain⟨A3,c3,rfl⟩:∃A3 c3,v3=.slice A3 ((r).length+1) c3:=by obtain⟨A3,c3,e,_⟩:=Ko.p;exact⟨A3,c3,by rw[e,show(cT (r) q (0:Int)).length=(r)+1 from kQ _ _ _ (by omega)]⟩
 have⟨Ki,Kr⟩:=bJ (Ks.o.t IG) Ko;clear Ko IG;have Kv:=ar Ki.o z0;have Kh:=i_ Ki.o f0 (ju z0);have Km:=zH (ar Ki.o y2);refine hK.out _ _ (fun _=>Km.o) (fun hHeld=>?_);clear hK K
 revert w4 A3 c3 Ki Kr Kv Kh Km hHeld;exact zq.o):p:=e ⟨h⟩
def PF(h:q)(e:Bx q->p:=by
 intro zq;have Ig:=hsn h1;obtain⟨t5,t6,t7,t8,-⟩:=wm hc1 h1;have⟨a,ha⟩:=aR (fb-1);rw[<-ha]at Ig t6 t7 t8;have⟨fa,hfa⟩:=aR (s.f.getD a 0);have⟨ia,hia⟩:=aR (s.i.getD a 0);have⟨oa,Lh⟩:=aR (s.o.getD a 0);have cfa:=hcF a (fa:Nat) (by rw[hfa];exact nget _ _ (by rw[Ii.o];omega));have cia:=hcI a (ia:Nat) (by rw[hia];exact nget _ _ (by rw[JQ.o];omega));have coa:=hcO a (oa:Nat) (by rw[Lh];exact nget _ _ (by rw[JS.o];omega));rw[<-hfa]at Ig t6;rw[<-hia]at Ig t7;rw[<-Lh]at Ig t8;have Gq:IntKind.i64.wrap ((fb:Int)-1)=(a:Int):=Rt;have Hl:IntKind.i64.wrap ((ia:Int)+(ib:Int))=(ia:Int)+(ib:Int):=Rt;have hw3:IntKind.i64.wrap ((oa:Int)+(ob:Int))=(oa:Int)+(ob:Int):=Rt;have hak:a<k:=Qu;have h1':(1:Int)<=fb:=Qu;have h2':(2:Int)<=k:=Qu;have S0:=aQ z1 (aQ z2 (aQ cia (aQ cib (aQ coa cob))));have⟨HS1,JM,Jw,HIB⟩:=gG Ig t7 t4 t3;clear cia coa t5 t6 t7 t8 Ig ha hfa hia Lh
 revert a fa ia oa cfa Gq Hl hw3 hak h1' h2' S0 HS1 JM Jw HIB;exact zq.o):p:=e ⟨h⟩
def PB(h:q)(e:Bx q->p:=by
 intro zq;refine Mg fun la Hq lb Hs=>?_
 rw[<-Hq,<-Hs]at H5;rw[<-Hq,<-Hs];have⟨ve,Jh⟩:=aR x.e;have⟨lx,Jn⟩:=aR x.xs.length;have⟨sd,Ph⟩:=aR x.sd;have⟨n3,Jm⟩:=aR x.x3.length;have⟨n4,Jg⟩:=aR x.x4.length;have⟨n5,Ji⟩:=aR x.x5.length;have Pj:=zH ((by rw[Jh,Jn,Ph,Jm,Jg,Ji];rfl):ciV p La Lb x=if ve=true then Û sd n3 n4 n5&&(decide (lx<=3000)&&Ó p (jM p La) x.xs (Ω p La Lb)) else decide (sd=1)&&î p La Lb x);rw[<-Jh,<-Jn,<-Ph,<-Jm,<-Jg,<-Ji]at Jk Pm ⊢;rw[<-Jn]at Pb;have⟨vr,Jl⟩:=aR (î p La Lb x);have⟨ld,Pn⟩:=aR (Ó p (jM p La) x.xs (Ω p La Lb));rw[<-Jl]at Jk Pj;rw[<-Pn]at Pb Pj;unfold ciB miB
 revert la Hq lb H5 Hs ve Jh lx Jn sd Ph n3 Jm n4 Jg n5 Pm Ji vr Jk Jl ld Pj Pb Pn;exact zq.o):p:=e ⟨h⟩
def Py(h:q)(e:Bx q->p:=by
 intro zq;refine dJ ?_;rintro _ ⟨W,rfl⟩;go_wp2
 revert W;exact zq.o):p:=e ⟨h⟩
def Pw(h:q)(e:Bx q->p:=by
 intro zq;refine Ml fun Kf IE=>?_
 rw[jI (fun r=>cT r 0 0) _ k (([]:aL)) H_.o]at IE;have⟨HN,Hi,FZ⟩:=er IE ((eX w4 ⟨g,k,none⟩ w1 (.slice A3 ((([]:aL)).length+1) c3) (by simp<;>omega)).t ((Ki.o.block w1 (by omega)).t Hf.o)) (lj (HW.o.t (Ki.o.x (by omega))) (p:=⟨g,k,none⟩) (by simp<;>omega) (.slice A3 ((([]:aL)).length+1) c3));clear IE;go_wp2
 revert Kf HN Hi FZ;exact zq.o):p:=e ⟨h⟩
def Pu(h:q)(e:Bx q->p:=by
 intro zq;have IQ:L1.length<=1048576:=by(rcases OA.o with h|h<;>omega)
 have⟨Ii,OD⟩:=bJ IQ (bQ G5.o FZ.o);have IU:L2.length<=1048576:=by(rcases Ol.o with h|h<;>omega)
 have⟨JQ,Ov⟩:=bJ IU (bQ IX.o FZ.o);have Oy:vR 1048576 x3:=YJ;have⟨JS,OB,Ob,Gn,Oo,Oe,Og,J8,H5,Jd⟩:=ϟ Oy (Oh.o.ext FZ.o) (HP.o.ext FZ.o) (fun V (hV:ag w3 V)=>HS.o V (aJ FZ.o hV)) (ai Oz.o FZ.o) (ai IZ.o FZ.o) (ai N6.o FZ.o) (aJ Ih.o FZ.o) (fun V (hV:ag w3 V)=>tx A1 c1 L1 V (bQ OD.o hV) Ii.o) (fun V (hV:ag w3 V)=>tx A2 c2 L2 V (bQ Ov.o hV) JQ.o);have OG:=zH (fun V (hV:ag w3 V)=>xQ x3 a3 V (OB.o.ext hV) JS.o)
 revert IQ Ii OD IU JQ Ov Oy JS OB Ob Gn Oo Oe Og J8 H5 Jd OG;exact zq.o):p:=e ⟨h⟩
def Ps(h:q)(e:Bx q->p:=by
 intro zq;have⟨Iq,Ip⟩:=aR (us.drop j);have Gb:Iq.length=n-j:=by rw[Ip];simp;omega
 obtain⟨A,hA,I6⟩:∃A:dM,(if ε=j then some (⟨g,0,none⟩:dM) else some ⟨g,j,none⟩)=some A/\Hd (∀t u,Iq[t]?=some u->w.drew.cell? (A.add t)=some u):=Zn;have s1:Hd (Iq.length=(n-j)*1):=Sm;have s2:Hd (∀u∈Iq,u.oneCell'=true):=Wn;have s3:Hd (∀t,t<Iq.length->(w.drew.cell? ⟨g,0+k*1+t,none⟩).isSome=true/\w.drew.frozen? ⟨g,0+k*1+t,none⟩=false):=(by intro t ht;rw[Gb]at ht;refine⟨?_,aK I9 _⟩;rw[bB I9,di (by simp;omega)];rfl);have⟨W1,I7⟩:=aR (w.drew.setCells g (0+k*1) Iq)
 revert Iq Ip Gb A hA I6 s1 s2 s3 W1 I7;exact zq.o):p:=e ⟨h⟩
def Pr(h:q)(e:Bx q->p:=by
 intro zq;refine Ml fun Kf IE=>?_
 rw[jI (fun r=>cT r q 0) _ k (r) H_.o]at IE;have⟨HN,Hi,FZ⟩:=er IE ((eX w4 ⟨g,k,none⟩ w1 (.slice A3 ((r).length+1) c3) (by simp<;>omega)).t ((Ki.o.block w1 (by omega)).t Hf.o)) (lj (HW.o.t (Ki.o.x (by omega))) (p:=⟨g,k,none⟩) (by simp<;>omega) (.slice A3 ((r).length+1) c3));clear IE;go_wp2
 revert Kf HN Hi FZ;exact zq.o):p:=e ⟨h⟩
def Pp(h:q)(e:Bx q->p:=by
 intro zq;refine gM QT ?_ _;have IF:=bE wc w1 2 _ _ (.slice (bH g) (rows.length+1) Kj) HF.o;simp only[zA]at IF;have Iu:=(eX wc ⟨w1,2,none⟩ w (.slice (bH g) (rows.length+1) Kj) Rs).t ((Jo.o.block _ Qu).t K0.o);have Iy:=(eX wc ⟨w1,2,none⟩ ((w:Nat)+1) (.slice (bH g) (rows.length+1) Kj) Rs).t ((Jo.o.block _ Qu).t K1.o);have Iw:=(eX wc ⟨w1,2,none⟩ ((w:Nat)+1+1) (.slice (bH g) (rows.length+1) Kj) Rs).t ((Jo.o.block _ Qu).t K2.o)
 revert IF Iu Iy Iw;exact zq.o):p:=e ⟨h⟩
def Pk(h:q)(e:Bx q->p:=by
 intro zq;have⟨m,K8⟩:=aR S.length;have⟨m1,Lm⟩:=aR (m+1);have K4:n=m+2:=(by rw[Le.o,K8];rfl);rw[show((n:Int)-1)=(m1:Int) by omega];have Hl:IntKind.i64.wrap ((m1:Int)-1)=(m:Int):=Rt
 revert m K8 m1 Lm K4 Hl;exact zq.o):p:=e ⟨h⟩
def Pg(h:q)(e:Bx q->p:=by
 intro zq;have Ib:=zH (fun V (hV:ag wr V)=>yi p gw ⟨kk,vv,ei,JH⟩ D1 D2 e1 e2 V hp JC Qu (hi1.ext hV) (hi2.ext hV) (JE.o _ I0) (fun x hx=>Vt) (fun x hx=>Vs) (HV.o _ I0).1 (HV.o _ I0).2);have⟨R,hR⟩:=aR (((Ed.mk kk vv ei JH).G p).map (iE p gw))
 revert Ib R hR;exact zq.o):p:=e ⟨h⟩
def Pf(h:q)(e:Bx q->p:=by
 intro zq;have⟨FV,IX,IZ⟩:=er (aT HB.o Hk.o) (ai HR.o Hk.o) (ai HQ.o Hk.o);have⟨x0,x1,x2,x3⟩:=aB (ai HQ.o Hk.o);have LX:=zH (IY.o w2 FV.o);go_upto_region 3 with(fail)
 have⟨Gm,hz⟩:=bM w2 (.cells (CU f_ gw) 57);generalize w2.alloc _=w3 at Gm hz ⊢;have⟨IS,Ia⟩:=bJ (show(w2:Nat)<w3 from(bk.1 hz).1) Gm;have⟨JG,LC⟩:=bJ (show CP w3 w2 w3 f_ gw none 0 0 [] from⟨hz,⟨[],rT _ _ _ _,fun k u r h=>QO,fun i j u u' b h=>QO⟩,rfl,IS.o,ae _⟩) (show(w:Nat)<=w2 from FV.o.size)
 rename_i JB JD JF LB
 revert FV IX IZ x0 x1 x2 x3 LX JB JD JF LB w3 Gm hz IS Ia JG LC;exact zq.o):p:=e ⟨h⟩
def Pe(h:q)(e:Bx q->p:=by
 intro zq;have⟨Iv,HZ,HC⟩:=er Kn IA Kt;refine cm 8 fun K hK=>?_
 refine df rfl (.tmp 213) (.tmp 214) rfl wr _ (.slice A1 0 c1) ((([]:aL)).take 0) [0] (some ⟨_,0,none⟩) 1 1 rfl rfl rfl Iv.o HZ.o (by simp<;>omega) HC.o.size ?_;intro v2 w3 Ku Hj;obtain⟨A2,c2,rfl⟩:∃A2 c2,v2=.slice A2 (0+1) c2:=by obtain⟨A2,c2,e,_⟩:=Ku.p;exact⟨A2,c2,by rw[e];congr 1<;>(simp<;>omega)⟩
 have⟨Ks,Kp⟩:=bJ (HC.o.t Hj) Ku;clear Ku Hj;refine hK.out _ _ (fun _=>ar Ks.o y2) (fun hHeld=>?_)
 revert Iv HZ HC K hK w3 A2 c2 Ks Kp hHeld;exact zq.o):p:=e ⟨h⟩
def Pd(h:q)(e:Bx q->p:=by
 intro zq;have⟨Iv,HZ,HC⟩:=er Kn IA Kt;refine cm 8 fun K hK=>?_
 refine df rfl (.tmp 213) (.tmp 214) rfl wr _ (.slice A1 q c1) ((r).take q) [0] (some ⟨_,0,none⟩) 1 1 rfl rfl rfl Iv.o HZ.o (by simp<;>omega) HC.o.size ?_;intro v2 w3 Ku Hj;obtain⟨A2,c2,rfl⟩:∃A2 c2,v2=.slice A2 (q+1) c2:=by obtain⟨A2,c2,e,_⟩:=Ku.p;exact⟨A2,c2,by rw[e];congr 1<;>(simp<;>omega)⟩
 have⟨Ks,Kp⟩:=bJ (HC.o.t Hj) Ku;clear Ku Hj;refine hK.out _ _ (fun _=>ar Ks.o y2) (fun hHeld=>?_)
 revert Iv HZ HC K hK w3 A2 c2 Ks Kp hHeld;exact zq.o):p:=e ⟨h⟩
def Pc(h:q)(e:Bx q->p:=by
 intro zq;have hg:W.grownBy w' v.ownBlock:=⟨Gx.os,Gx.tape,Gx.output,(by have:=Gx.size;simp at this;omega),fun k hk F0=>(Gx.block k QW F0).t (xe W _ hk)⟩
 revert hg;exact zq.o):p:=e ⟨h⟩
def O9(h:q)(e:Bx q->p:=by
 intro zq;have⟨Gm,JI⟩:=bM w2 (.cells (iL a b) 207);have JK:=ai Kb Gm;have⟨Mj,HN1,Ka⟩:=er (aT FV.o Gm) (show w2.heap.size≠(w:Nat)+1 by have:=FV.o.size;have:=Gn.o;omega) (Qu:w.heap.size≠(w:Nat)+1);generalize w2.alloc _=w6 at Gm JI JK Mj ⊢;obtain⟨a0,a1,-,-⟩:=dD JI;have⟨n0,n1,n2⟩:=aD JK;have S0:=aQ a0 (aQ a1 (aQ n0 n1));have⟨HQ6,HWW⟩:=bJ (ai HR.o Mj.o) (aT HB.o Mj.o);have Je:=zH (show(w:Nat)+1<w6 from(bk.1 HQ6.o).1);clear Gm JI JK a0 a1 n0 n1 n2
 revert HN1 Ka w6 Mj S0 HQ6 HWW Je;exact zq.o):p:=e ⟨h⟩
def O8(h:q)(e:Bx q->p:=by intro zq;refine hK.out _ _ (fun h=>absurd h (by decide)) (fun _=>?_);exact zq.o):p:=e ⟨h⟩
def O3(h:q)(e:Bx q->p:=by
 intro zq;have gL:(n==0)=false:=(by simpa using tL);have hL:(0:Int)<n:=Qu;have GB:0<n:=Qu
 revert gL hL GB;exact zq.o):p:=e ⟨h⟩
def O2(h:q)(e:Bx q->p:=by
 intro zq;have⟨y0,y1,y2,y3⟩:=aB y;unfold dQ at y0 y1 y2 y3
 revert y0 y1 y2 y3;exact zq.o):p:=e ⟨h⟩
def OU(h:q)(e:Bx q->p:=by intro zq;refine aM 9 ?_;refine aM 10 ?_;refine aM 11 ?_;refine aM 12 ?_;refine aM 13 ?_;exact zq.o):p:=e ⟨h⟩
def OR(h:q)(e:Bx q->p:=by
 intro zq;simp only[show(7:Int)=1↔False by decide,show(7:Int)=2↔False by decide,show(7:Int)=3↔False by decide,show(7:Int)=4↔False by decide,show(7:Int)=5↔False by decide,show(7:Int)=6↔False by decide,lp,p_]at hc ⊢;rw[show jX p row (v+h+1)=(decide ((row:Int)=v+h+1)&&row.all (jY p)) from rfl]at hc
 revert hc;exact zq.o):p:=e ⟨h⟩
def OQ(h:q)(e:Bx q->p:=by
 intro zq;have y0:=aF hq 0 rfl;have y1:=aF hq 1 rfl;have y2:=aF hq 2 rfl;have y3:=aF hq 3 rfl;have y4:=aF hq 4 rfl;have y5:=aF hq 5 rfl
 revert y0 y1 y2 y3 y4 y5;exact zq.o):p:=e ⟨h⟩
def OO(h:q)(e:Bx q->p:=by
 intro zq;refine cU (S:=fun V=>af V gb (go+m*3) (zI (ra.l:Nat))/\af V gb (go+m*3+1) (zI (ra.r:Nat))/\af V gb (go+m*3+2) (.slice X1 ra.b p1)/\af V gb (go+m1*3) (zI (rb.l:Nat))/\af V gb (go+m1*3+1) (zI (rb.r:Nat))/\af V gb (go+m1*3+2) (.slice Y1 rb.b q1)) 16 QT S1 (fun hHeld=>?_)
 revert hHeld;exact zq.o):p:=e ⟨h⟩
def ON(h:q)(e:Bx q->p:=by
 intro zq;have F0:gr≠w1.heap.size:=fun e=>Xv
 have Nb:g≠w1.heap.size:=fun e=>XJ
 have f0:=He.g k;have M7:g≠gr:=Xz;have⟨HO,HW,Hf,IC,H_⟩:=pD FT Gd Hh Hc hr;have⟨i0,Hw,IA,G4,FU⟩:=dp gD;have⟨A9,Iq,W5,IK,hA,I6,s1,s2,s3,Hz,MS,Nc⟩:=zcT wr.drew ((w:Nat)+3) gr cr q r (AB J5) Qu;have MC:IntKind.i64.wrap ((q:Int)+1)=(q:Int)+1:=Rt;have Hv:((q:Int)+1).toNat=q+1:=Qu;have M9:q<=cr:=Qu;have Na:(0:Int)<=(q:Int)+1:=Qu;have M8:(q:Int)+1<=(r:Int):=Qu
 revert F0 Nb f0 M7 HO HW Hf IC H_ i0 Hw IA G4 FU A9 Iq W5 IK hA I6 s1 s2 s3 Hz MS Nc MC Hv M9 Na M8;exact zq.o):p:=e ⟨h⟩
def OL(h:q)(e:Bx q->p:=by
 intro zq;intro v' w' FT Gx _ Ha;have hv:∀g',v'.ownBlock=some g'->v.ownBlock=some g'∨(W:Nat)<=g':=fun g' e=>Xx
 revert v' w' FT Gx Ha hv;exact zq.o):p:=e ⟨h⟩
def OK(h:q)(e:Bx q->p:=by
 intro zq;have⟨A9,hA,Ke⟩:=zaY Kd Kg q;have ID:=zH Ke;clear Ke;have L1:=zH (fun(W:aa) (hW:ag wr W)=>(by
  have:=iR (some ⟨gr,0,none⟩) (cr) ((r).take q) W (IT.o.ext hW) Rs;rw[show((r).take q).length=q by simp<;>omega]at this;exact this:az 70 (bZ (bH gr) q (cr)) W fun e w'=>∃u,e=.returned u/\aE w' W u ((r).take q)/\ag W w'))
 revert A9 hA ID L1;exact zq.o):p:=e ⟨h⟩
def OJ(h:q)(e:Bx q->p:=by
 intro zq;have Hz:=zH (cx (eG w (some g)) (cx b2 c2));have Jc:k<=n:=Qu;have Gq:IntKind.i64.wrap ((k:Int)+1)=(k:Int)+1:=Rt;have FR:(0:Int)<=(k:Int)+1:=Qu;have Hv:((k:Int)+1).toNat=k+1:=Qu;have Gg:¬(ε=k+1):=Qu;have Hj:(k:Int)<=(n:Int)+1:=Qu;have IG:¬(ε=k):=Qu
 revert Hz Jc Gq FR Hv Gg Hj IG;exact zq.o):p:=e ⟨h⟩
def OH(h:q)(e:Bx q->p:=by
 intro zq;have O0:DataW.TrodVars enc prog W' (fun b=>decide (b < (W:Nat))) ["loop.example/g01073/impl.smallPrimes"] [Rows.laid_loop_example_g01073_impl_smallPrimes] (MemPlace.row ⟨0,0,none⟩ km.size++[]++[]):=
  ⟨0,224,km,3,[],[],tF,qz,var?_below O5 tF (jB _ _ (World.var?_cell tF O_ 0)) O_,pe enc W' _,rfl,rfl⟩
 revert O0;exact zq.o):p:=e ⟨h⟩
def OF(h:q)(e:Bx q->p:=by
 intro zq;have G8:=Gr.iT.1 hg;have If:=Gr.mE hg;have Ie:g.w<=100:=G8.1;have F0:g.es.length<=60:=G8.2.1
 revert G8 If Ie F0;exact zq.o):p:=e ⟨h⟩
def OE(h:q)(e:Bx q->p:=by
 intro zq;have⟨ra,GZ⟩:=aq (Qu:a.toNat<rows.length);have⟨rb,Hm⟩:=aq (Qu:b.toNat<rows.length)
 revert ra GZ rb Hm;exact zq.o):p:=e ⟨h⟩
def OC(h:q)(e:Bx q->p:=by
 intro zq;have hHeld:=hHeld (by decide);refine cm 13 fun K hK=>?_
 go_simp;refine hK.out _ _ (fun _=>Km.o) (fun hHeld=>?_)
 revert K hK hHeld;exact zq.o):p:=e ⟨h⟩
def Ox(h:q)(e:Bx q->p:=by
 intro zq;have hB:=((al w w).alloc (ae _) (.cells (dN k v s) 95)).alloc Qt (.cells cw 54);have hq:=(bO (w.alloc (.cells (dN k v s) 95)) (.cells cw 54) (k:=w.heap.size) Qt).t (aH w _ rfl);have hr:=aH (w.alloc (.cells (dN k v s) 95)) (.cells cw 54) (n:=(w:Nat)+1) Qt;have he:s.toList.isEmpty=true:=(by unfold dI at hl;rw[bN]at hl;exact hl.1);rw[he]at hl ⊢
 revert hl hB hq hr he;exact zq.o):p:=e ⟨h⟩
def Ow(h:q)(e:Bx q->p:=by
 intro zq;have⟨n0,n1,n2⟩:=aD hq;have⟨HB,HQ,HR,Gn⟩:=gG hB hq hr (show(w:Nat)+1<W from(bk.1 hr).1)
 revert n0 n1 n2 HB HQ HR Gn;exact zq.o):p:=e ⟨h⟩
def Ou(h:q)(e:Bx q->p:=by
 intro zq;have Gk:∀t,t<n->F9.toList[t]?=us[t]?:=fun t ht=>(by rw[<-G9,iM,ak ht])
 revert Gk;exact zq.o):p:=e ⟨h⟩
def Ot(h:q)(e:Bx q->p:=by
 intro zq;go_wp2_with (first|(go_at_call 91;refine(Calls.cg (kr _ _) hf).x ?_;rintro e w' ⟨rfl,rfl⟩)|(go_at_call_of 92 v;refine(Calls.cg (aX _ _ _ _) hv).x ?_;rintro e w' ⟨rfl,rfl⟩)|(go_at_call_of 92 h;refine(Calls.cg (aX _ _ _ _) hh).x ?_;rintro e w' ⟨rfl,rfl⟩))
 exact zq.o):p:=e ⟨h⟩
def Oq(h:q)(e:Bx q->p:=by
 intro zq;have hB:=((al w w).alloc (ae _) (.cells (bj g A1 c1 A2 c2 A3 c3) 54)).alloc Qt (.cells cw 54);have hq:=(bO (w.alloc (.cells (bj g A1 c1 A2 c2 A3 c3) 54)) (.cells cw 54) (k:=w.heap.size) Qt).t (aH w _ rfl);have hr:=aH (w.alloc (.cells (bj g A1 c1 A2 c2 A3 c3) 54)) (.cells cw 54) (n:=(w:Nat)+1) Qt
 revert hB hq hr;exact zq.o):p:=e ⟨h⟩
def Om(h:q)(e:Bx q->p:=by
 intro zq;have hB:Below w w ((w.alloc (.cells (da a A ε) 57)).alloc (.cells (da b A2 cap2) 57)):=((al w w).alloc Qt _).alloc Qt _;have HB:=zH hB;have Kb:((w.alloc (.cells (da a A ε) 57)).alloc (.cells (da b A2 cap2) 57)).heap[(w:Nat)+1]?=some (.cells (da b A2 cap2) 57 (0,0)):=aH _ _ Qt
 revert hB HB Kb;exact zq.o):p:=e ⟨h⟩
def Oj(h:q)(e:Bx q->p:=by
 intro zq;have⟨l1,l2⟩:=Eu hf s;have My:j5 p n M=(gY p n M (List.replicate N [])).2.1.take (gY p n M (List.replicate N [])).1:=by unfold j5;rw[s.1]
 have⟨Z,hZ⟩:=aR (gY p n M (List.replicate N []));rw[<-hZ]at l1 l2 My;have⟨HZ,Mw,H8,Im⟩:=gG hZ My l1 (show ∀r∈M,r.length<=1048576 from fun r hr=>TB);have MA:=s.1
 revert Z My l2 l1 hZ HZ Mw H8 Im MA;exact zq.o):p:=e ⟨h⟩
def Oi(h:q)(e:Bx q->p:=by
 intro zq;obtain⟨y0,y1,-,-⟩:=dD y;unfold vf at y0 y1
 revert y0 y1;exact zq.o):p:=e ⟨h⟩
def Of(h:q)(e:Bx q->p:=by
 intro zq;have q1:((w.alloc (.cells (aA v h A rows ε) 57)).alloc (.cells bx 57)).heap[w.heap.size]?=some (.cells (aA v h A rows ε) 57):=(bO _ _ Qt).t (aH _ _ rfl);have q2:((w.alloc (.cells (aA v h A rows ε) 57)).alloc (.cells bx 57)).heap[(w:Nat)+1]?=some (.cells bx 57):=aH _ _ Qt
 revert q1 q2;exact zq.o):p:=e ⟨h⟩
def Od(h:q)(e:Bx q->p:=by
 intro zq;have⟨HH,HM,HR⟩:=er H hM (show ∀V,ag w V->cS V A M from fun V hV=>hR.ext hV);have⟨hB,hq⟩:=bM w (.cells #[v0,v1,.slice A N c0] 67)
 revert HH HM HR hB hq;exact zq.o):p:=e ⟨h⟩
def Oa(h:q)(e:Bx q->p:=by
 intro zq;have x0:=aF hr 0 rfl;have x1:=aF hr 1 rfl;have x2:=aF hr 2 rfl;have x3:=aF hr 3 rfl;have x4:=aF hr 4 rfl;have x5:=aF hr 5 rfl
 revert x0 x1 x2 x3 x4 x5;exact zq.o):p:=e ⟨h⟩
def N_(h:q)(e:Bx q->p:=by
 intro zq;have hB:=ζ w (.cells (bZ A la ca) 35) (.cells (bZ B lb cb) 35) (.cells (iK ve a.A lx a.c sd a.A3 n3 a.c3 a.A4 n4 a.c4 a.A5 n5 a.c5) 39);have⟨q0,q1,q2⟩:=cD w (.cells (bZ A la ca) 35) (.cells (bZ B lb cb) 35) (.cells (iK ve a.A lx a.c sd a.A3 n3 a.c3 a.A4 n4 a.c4 a.A5 n5 a.c5) 39)
 revert hB q0 q1 q2;exact zq.o):p:=e ⟨h⟩
def N9(h:q)(e:Bx q->p:=by
 intro zq;have gC:(c==0)=false:=Re;have hC:(c !=0)=true:=Re
 revert gC hC;exact zq.o):p:=e ⟨h⟩
def N8(h:q)(e:Bx q->p:=by
 intro zq;have⟨q,hq⟩:=iz (Qu:0<=v+b);have Kk:(v+b).toNat=q:=Qu;rw[Kk];have H8:=zH (show ∀r∈rows,(q:Int)<=r.length/\r.length<=1000 from fun r hr=>⟨Tr,F6 r hr⟩);have Kq:IntKind.i64.wrap (v+b)=(q:Int):=Rt;have Ix:IntKind.i64.wrap (h+1)=h+1:=Rt
 revert q hq Kk H8 Kq Ix;exact zq.o):p:=e ⟨h⟩
def N7(h:q)(e:Bx q->p:=by
 intro zq;have hb:((xs:Int)!=(ys:Int))=false:=QJ;have Hn:=zH hn
 revert hb Hn;exact zq.o):p:=e ⟨h⟩
def N5(h:q)(e:Bx q->p:=by
 intro zq;have hB:=(al w w).alloc (ae _) (.cells (aV A L ε) 35);have hq:=aH w (.cells (aV A L ε) 35) rfl
 revert hB hq;exact zq.o):p:=e ⟨h⟩
def N0(h:q)(e:Bx q->p:=by
 intro zq;have hz:=(hb.block Z h.lz).t (ai h.bz (aw V o));have hy:=(hb.block Y h.ly).t (ai h.by' (aw V o))
 revert hz hy;exact zq.o):p:=e ⟨h⟩
def NZ(h:q)(e:Bx q->p:=by
 intro zq;have IF:=(Io.block w1 Qu (fun e=>TP)).t M2.o;have Iu:=(Io.block w Qu (fun e=>TP)).t K0.o;have Iy:=(Io.block ((w:Nat)+1) Qu (fun e=>TP)).t K1.o;have Iw:=(Io.block ((w:Nat)+1+1) Qu (fun e=>TP)).t K2.o;have Il:k=ra.length:=Qu
 revert IF Iu Iy Iw Il;exact zq.o):p:=e ⟨h⟩
def NW(h:q)(e:Bx q->p:=by
 intro zq;have⟨y0,y1,y2,y3,y4⟩:=fg k1;have⟨x0,x1,x2⟩:=aD m2
 revert y0 y1 y2 y3 y4 x0 x1 x2;exact zq.o):p:=e ⟨h⟩
def NV(h:q)(e:Bx q->p:=by
 intro zq;go_upto_region 21 with(fail)
 replace HYY:=zH (HYY.o.ext Gn.o Mj.o.le (aC w3));replace Mj:=zH (Mj.o.ext (aC w3));replace Gc:=zH (Gc.o.t ((aC w3).x Gc.o.size))
 replace n0:=ar (aC w3) n0;replace cfa:=ar (aC w3) cfa
 rename_i JB JD JF
 revert JB JD JF HYY Mj Gc n0 cfa;exact zq.o):p:=e ⟨h⟩
def NQ(h:q)(e:Bx q->p:=by
 intro zq;have⟨x0,x1,x2,x3⟩:=aB hq;have⟨HB,HQ⟩:=bJ hB hq
 revert x0 x1 x2 x3 HB HQ;exact zq.o):p:=e ⟨h⟩
def NO(h:q)(e:Bx q->p:=by
 intro zq;have⟨M6,MR,MP,MJ⟩:=gG ME ((MH _ Qu).t K0.o) ((MH _ Qu).t K1.o) ((MH _ Qu).t K2.o);have MV:=HU.o.m9 M2.o (j:=1) (u:=.int .i64 (h-1));rw[<-Ir]at MV;have MN:=HB.o.setCell (p:=⟨w1,1,none⟩) Rs (zI (h-1));rw[<-Ir]at MN
 revert M6 MR MP MJ MV MN;exact zq.o):p:=e ⟨h⟩
def NL(h:q)(e:Bx q->p:=by
 intro zq;have e1:=bE w b 0 _ _ v0 h;have e2:=bE _ b 1 _ _ v1 e1;have e3:=bE _ b 2 _ _ v2 e2
 revert e1 e2 e3;exact zq.o):p:=e ⟨h⟩
def NH(h:q)(e:Bx q->p:=by
 intro zq;have⟨HX,Gc⟩:=bJ hx (FW.alloc FW.size (.cells (dN kk vv ss) 95));have G6:=aH wr (.cells (dN kk vv ss) 95) rfl
 revert HX Gc G6;exact zq.o):p:=e ⟨h⟩
def ND(h:q)(e:Bx q->p:=by
 intro zq;refine aM 17 ?_;refine aM 18 ?_;refine kY 19 ?_;refine kY 20 ?_;refine kY 21 ?_;refine kY 22 ?_;refine kY 23 ?_;refine kY 24 ?_;refine kY 25 ?_;refine kY 26 ?_;refine aM 27 ?_;refine cm 28 fun K hK=>?_
 go_simp
 revert K hK;exact zq.o):p:=e ⟨h⟩
def NA(h:q)(e:Bx q->p:=by
 intro zq;have⟨JZ,IY⟩:=bJ (fun(V:aa) (hV:ag w V)=>EB a b A1 A2 A3 D1 D2 D3 c1 c2 c3 d1 d2 d3 V ha hb (hG.ext hV) (hH.ext hV)) (show ∀V,ag w V->jV V A1 A2 A3 a/\jV V D1 D2 D3 b from fun V hV=>⟨hG.ext hV,hH.ext hV⟩)
 revert JZ IY;exact zq.o):p:=e ⟨h⟩
def Nz(h:q)(e:Bx q->p:=by
 intro zq;dsimp only at *;have⟨hB,hq⟩:=bM w (.cells (eh k v A1 li c1 A2 lo c2) 155);have⟨HI,HO⟩:=bJ (fun V (hV:ag w V)=>hI.ext hV) (fun V (hV:ag w V)=>hO.ext hV);have Nk:3<=k/\k<=14/\li.length=BB k/\lo.length=BC k:=(by unfold Ed.jd at hf;simp only[bN,cf]at hf;have h3:=hf.2.1;have⟨ea,eb⟩:=vU (v:=v) h3;exact⟨h3,by have:=CK hf.1;dsimp only at this;omega,by rw[<-ea];exact hf.2.2.1,by rw[<-eb];exact hf.2.2.2⟩);obtain⟨h3,Nf,Ns,I2⟩:=Nk
 revert hB hq HI HO h3 Nf Ns I2;exact zq.o):p:=e ⟨h⟩
def Ny(h:q)(e:Bx q->p:=by
 intro zq;refine cm 7 fun K hK=>?_
 go_simp
 revert K hK;exact zq.o):p:=e ⟨h⟩
def Nq(h:q)(e:Bx q->p:=by
 intro zq;have OX:Small t:=by rw[ht];exact OZ.o Qu
 have⟨HL,H5,Jd⟩:=er ((by unfold Ó;rw[fT (by omega),ht];rfl):Ó p a xs b=qI t b) (show t.rows.length<=maxLen by have:=OX.n;unfold maxLen;omega) (show ∀r∈t.rows,r.length<=maxLen from fun r hr=>(by have:=OX.ι r hr;unfold maxLen;omega))
 revert OX HL H5 Jd;exact zq.o):p:=e ⟨h⟩
def No(h:q)(e:Bx q->p:=by
 intro zq;have⟨HS,HF,P7,IL⟩:=gG (fun W (hW:ag V W)=>xZ xs l r k c0 d A D W (hI.ext hW) hx h0 hc Qu) (fun W (hW:ag V W)=>AU xs l r k c0 d A D W (hI.ext hW) hx hc Qu) (fun W=>zbk l2 W Qu) (fun W=>zbk r2 W Qu);have⟨n,hn⟩:=aR xs.length
 revert HS HF P7 IL n hn;exact zq.o):p:=e ⟨h⟩
def Nm(h:q)(e:Bx q->p:=by
 intro zq;have⟨W,hW,hb,e0,e1,e2,e3,e4,f0,f1,f2,f3⟩:=fV _ _ _ _ _ _ FR (.bool (fC 7)) (.bool (fD 7)) (.bool (fE 7)) (.bool (fF 7)) 226;rw[<-hW];clear hW;simp only[show fC 7=true from rfl,show fD 7=true from rfl,show fE 7=false from rfl,show fF 7=true from rfl]at f0 f1 f2 f3 ⊢
 revert W hb e0 e1 e2 e3 e4 f0 f1 f2 f3;exact zq.o):p:=e ⟨h⟩
def Nl(h:q)(e:Bx q->p:=by
 intro zq;have⟨W,hW,hb,e0,e1,e2,e3,e4,f0,f1,f2,f3⟩:=fV _ _ _ _ _ _ FR (.bool (fC 3)) (.bool (fD 3)) (.bool (fE 3)) (.bool (fF 3)) 226;rw[<-hW];clear hW;simp only[show fC 3=true from rfl,show fD 3=true from rfl,show fE 3=true from rfl,show fF 3=false from rfl]at f0 f1 f2 f3 ⊢
 revert W hb e0 e1 e2 e3 e4 f0 f1 f2 f3;exact zq.o):p:=e ⟨h⟩
def Nj(h:q)(e:Bx q->p:=by
 intro zq;go_upto_region 23 with(fail)
 go_region_held3 (fun V=>af V gc t (zI (na:Nat))/\af V gd t (zI (nb:Nat)))
  (first|with_reducible exact S0|with_reducible exact j6 (aC _) S0)
  ((fail))
 go_wp2;exact zq.o):p:=e ⟨h⟩
def Nh(h:q)(e:Bx q->p:=by
 intro zq;go_region_held3 (fun V=>af V w 0 (zI k)/\af V w 1 (zI v)/\af V w 2 (.slice A1 li c1)/\af V w 3 (.slice A2 lo c2))
  (exact S0)
  ((fail))
 exact zq.o):p:=e ⟨h⟩
def Ng(h:q)(e:Bx q->p:=by
 intro zq;rw[aS]at this;refine this.x ?_;rintro e w' ⟨u,rfl,hu,hb⟩;rw[xX hl]at hu;obtain⟨A3,c3,rfl,-⟩:=hu.p
 revert this w' hb A3 c3 hu;exact zq.o):p:=e ⟨h⟩
def M_(h:q)(e:Bx q->p:=by
 intro zq;have⟨ra,GZ⟩:=aq (Qu:a.toNat<rows.length);have⟨HA,HX⟩:=bJ (SX:rows.getD a.toNat []=ra) (show ∀x∈ra,0<=x/\x<=1000 from hx ra (aU GZ));have MB:ra.length<=1000:=F6 ra (aU GZ)
 revert ra GZ HA HX MB;exact zq.o):p:=e ⟨h⟩
def M5(h:q)(e:Bx q->p:=by
 intro zq;obtain⟨D,d,J7,Nt,hI⟩:=Gk k xs hx;have HC:=zH (HH.o xs D d wr (aU hx) FW hI Nt)
 replace J7:=ar (aT Nu.o FW) J7
 have⟨Gl,Gu⟩:=bJ (SE:(M.take (k+1)).map f=(M.take k).map f++[f xs]) (Tv:((M.take k).map f).length=k)
 revert D d Nt hI HC J7 Gl Gu;exact zq.o):p:=e ⟨h⟩
def MZ(h:q)(e:Bx q->p:=by
 intro zq;have J9:=iZ (P:=prog) (w:=W) B 26 o.type 3 i0 1 dR hi v _ c _ FT;unfold Oper.wp;simp only[iN]at hx
 revert J9 hx;exact zq.o):p:=e ⟨h⟩
def MY(h:q)(e:Bx q->p:=by
 intro zq;go_wp2_with ((first|(go_at_call 209;with_reducible refine HX.o.x ?_;rintro e w' ⟨rfl,rfl⟩)|(go_at_call 209;with_reducible refine HY.o.x ?_;rintro e w' ⟨rfl,rfl⟩)))
 exact zq.o):p:=e ⟨h⟩
def MW(h:q)(e:Bx q->p:=by
 intro zq;have hb:=ζ w (.cells (dh R.l R.r A1 N1 c1) 67) (.cells (dh S.l S.r A2 N2 c2) 67) (.cells bx 67);have⟨q0,q1,q2⟩:=cD w (.cells (dh R.l R.r A1 N1 c1) 67) (.cells (dh S.l S.r A2 N2 c2) 67) (.cells bx 67)
 revert hb q0 q1 q2;exact zq.o):p:=e ⟨h⟩
def MU(h:q)(e:Bx q->p:=by
 intro zq;refine cm 14 fun K hK=>?_
 go_simp
 revert K hK;exact zq.o):p:=e ⟨h⟩
def MQ(h:q)(e:Bx q->p:=by
 intro zq;have y1:=bE w2 w 0 _ _ (zI (l:Nat)) HZ.o;have y2:=bE _ w.heap.size 1 _ _ (zI (r:Nat)) y1;have y3:=bE _ w.heap.size 2 _ _ (.slice D Z d) y2;simp only[zA]at y3;have⟨u0,u1,u2⟩:=aD y3;have Ge:=(bk.1 HQ.o).1
 revert y1 y2 y3 u0 u1 u2 Ge;exact zq.o):p:=e ⟨h⟩
def MO(h:q)(e:Bx q->p:=by
 intro zq;have OV:=ζ w (.cells (gH nv na A la ca) 57) (.cells (gH nv nb B lb cb) 57) (.cells bx 57);have⟨q0,q1,q2⟩:=cD w (.cells (gH nv na A la ca) 57) (.cells (gH nv nb B lb cb) 57) (.cells bx 57)
 revert OV q0 q1 q2;exact zq.o):p:=e ⟨h⟩
def MM(h:q)(e:Bx q->p:=by
 intro zq;have hq:=(bO (w.alloc (.cells (aV A L ε) 35)) (.cells cw 54) (k:=w.heap.size) Qt).t (aH w _ rfl);have hr:=aH (w.alloc (.cells (aV A L ε) 35)) (.cells cw 54) (n:=(w:Nat)+1) Qt
 revert hq hr;exact zq.o):p:=e ⟨h⟩
def ML(h:q)(e:Bx q->p:=by
 intro zq;have sA:eV p A.b (A.l+B.l+(A.r+B.r)) (A.b.map (nU A B)):=eV.yP hA fun r hr=>YU
 have sB:eV p B.b (A.l+B.l+(A.r+B.r)) (B.b.map (nV A B)):=eV.yP hB fun r hr=>YT
 revert sA sB;exact zq.o):p:=e ⟨h⟩
def MI(h:q)(e:Bx q->p:=by
 intro zq;go_wp2_with (go_at_call 120;refine(Calls.cg (rf _ _) hv).x ?_;rintro e w' ⟨rfl,rfl⟩)
 exact zq.o):p:=e ⟨h⟩
def MG(h:q)(e:Bx q->p:=by
 intro zq;refine⟨_,ε,rfl,au ⟨g,0,rfl,fun k x hk=>?_⟩,hn,hm⟩
 revert k x hk;exact zq.o):p:=e ⟨h⟩
def MF(h:q)(e:Bx q->p:=by
 intro zq;have e1:=bE _ b 1 _ _ v1 e0;have e2:=bE _ b 2 _ _ v2 e1;have e3:=bE _ b 3 _ _ v3 e2;have e4:=bE _ b 4 _ _ v4 e3;have e5:=bE _ b 5 _ _ v5 e4;have e6:=bE _ b 6 _ _ v6 e5;have e7:=bE _ b 7 _ _ v7 e6;have e8:=bE _ b 8 _ _ v8 e7;have e9:=bE _ b 9 _ _ v9 e8
 revert e1 e2 e3 e4 e5 e6 e7 e8 e9;exact zq.o):p:=e ⟨h⟩
def Mz(h:q)(e:Bx q->p:=by
 intro zq;go_simp;refine hK.out _ _ (fun _=>HS.o _ Jo.o) (fun hHeld=>?_)
 revert hHeld;exact zq.o):p:=e ⟨h⟩
def Mx(h:q)(e:Bx q->p:=by
 intro zq;have⟨H2,Iz⟩:=bJ ((al wr wr).drew.t Gg) IB;go_simp;refine hK.out _ _ (fun _=>ar H2.o y2) (fun hHeld=>?_);refine Qm ?_;have hHeld:=hHeld (by decide);refine Ny fun K hK=>?_
 refine hK.out _ _ (fun _=>ar (H2.o.alloc H2.o.size _) y2) (fun hHeld=>?_);refine Qm ?_;have hHeld:=hHeld (by decide);have Kt:=H2.o.alloc H2.o.size (.cells jz 3)
 revert H2 Iz hHeld Kt;exact zq.o):p:=e ⟨h⟩
def Mv(h:q)(e:Bx q->p:=by
 intro zq;go_simp;refine hK.out _ _ (fun _=>ar ((al _ _).drew.alloc (ae _) _) y2) (fun hHeld=>?_);refine Qm ?_;have hHeld:=hHeld (by decide);refine cm 6 fun K hK=>?_
 go_simp;refine(L1.o _ ((al _ _).drew.alloc (ae _) _)).x ?_;rintro e w2 ⟨u1,rfl,IB,Gg⟩
 revert hHeld K hK w2 u1 IB Gg;exact zq.o):p:=e ⟨h⟩
def Mr(h:q)(e:Bx q->p:=by
 intro zq;refine Qm ?_;have hHeld:=hHeld Qw
 revert hHeld;exact zq.o):p:=e ⟨h⟩
def Mq(h:q)(e:Bx q->p:=by
 intro zq;have y:=cP (v0:=.int .i64 m) (v1:=.slice A1 ([]:List Ed) d1) (v2:=.slice A2 (List.range m) d2) (v3:=.slice A3 (List.range m) d3) HZ.o;refine O2 fun y0 y1 y2 y3=>?_
 simp only[iN,fK]at y0 y1 y2 y3
 revert y y0 y1 y2 y3;exact zq.o):p:=e ⟨h⟩
def Ml(h:q)(e:Bx q->p:=by
 intro zq;refine gM (by kernel_rfl) ?_ _;have Kf:=HW.o.size;have IE:=HO.o.put (eJ _ _ _ hk).q IC.o (gz Ki.o) (Kr.o.x (B':=(w:Nat)+3) (by omega)) (fun b hb=>au (Kr.o.lt b hb).1)
 revert Kf IE;exact zq.o):p:=e ⟨h⟩
def Mi(h:q)(e:Bx q->p:=by
 intro zq;have⟨r0,r1,r2,r3⟩:=aB JA.o;have⟨f0,f1,f2,f3⟩:=cN JA.o;have y:=cP (v0:=()) (v1:=dE) (v2:=dE) (v3:=dE) JA.o;refine O2 fun y0 y1 y2 y3=>?_
 have HE:=zH (bY G0.o (b:=(w:Nat)+1) Qu (zI 0) (.slice none 0 0) (.slice none 0 0) (.slice none 0 0))
 revert r0 r1 r2 r3 f0 f1 f2 f3 y y0 y1 y2 y3 HE;exact zq.o):p:=e ⟨h⟩
def Mh(h:q)(e:Bx q->p:=by
 intro zq;have y2:af wr w1 2 (.slice (bH g) rows Ga):=bB Hh 2
 revert y2;exact zq.o):p:=e ⟨h⟩
def Mg(h:q)(e:Bx q->p:=by
 intro zq;have⟨la,Hq⟩:=aR La.length;have⟨lb,Hs⟩:=aR Lb.length
 revert la Hq lb Hs;exact zq.o):p:=e ⟨h⟩
end Go.Proofs.YtpieilkmmiopfaaGreatDoor
