/- Readings of slices of integers and of slices of such slices; worlds that extend a world; small facts on lists. No conditions. -/
import Derived.Test.YtjdbfokbgmbphaaGreatDoorProg
import Derived.WalkKit
import Derived.WalkSpells
import Derived.WalkLawsBesides
import Derived.Deep.QuietTactic
import Derived.BigQuiet
import Derived.Lib.Hide
import Derived.Deep.RegionHeld3
import Derived.Deep.RegionWith
import Derived.Deep.Cut
import Derived.Deep.CutBlock
namespace Go.Proofs.YtjdbfokbgmbphaaGreatDoor
set_option linter.unusedVariables false
set_option linter.unusedSimpArgs false
open Go.RowKit

/-- The address A holds the integers xs, one behind the other, in world w. -/
def IntsAt (w : World) (A : Option Addr) (xs : List Int) : Prop :=
  xs = [] ∨ ∃ b o, A = some ⟨b, o, none⟩ ∧ ∀ k x, xs[k]? = some x → w.cell? ⟨b, o + k, none⟩ = some (.int .i64 x)

/-- The address A holds slices that read as the rows. -/
def RowsAt (w : World) (A : Option Addr) (rows : List (List Int)) : Prop :=
  rows = [] ∨ ∃ b o, A = some ⟨b, o, none⟩ ∧ ∀ k r, rows[k]? = some r → ∃ A' cap, w.cell? ⟨b, o + k, none⟩ = some (.slice A' r.length cap) ∧ IntsAt w A' r

theorem Below.cell_keep {B : Nat} {w w' : World} (h : Below B w w') {p : Addr} {v : Value} (hc : w.cell? p = some v) (hp : p.block < B) : w'.cell? p = some v := (h.cell hp).trans hc

theorem ext_cell {w w' : World} (h : Below w.heap.size w w') {p : Addr} {v : Value} (hc : w.cell? p = some v) : w'.cell? p = some v :=
  Below.cell_keep h hc (World.block_lt_of_cell? w p hc)

theorem ext_frozen {w w' : World} (h : Below w.heap.size w w') {p : Addr} (hc : w.frozen? p = false) (hp : p.block < w.heap.size) : w'.frozen? p = false := (h.frozen hp).trans hc

theorem IntsAt.ext {w w' : World} {A : Option Addr} {xs : List Int} (h : IntsAt w A xs) (hb : Below w.heap.size w w') : IntsAt w' A xs := by
  rcases h with h | ⟨b, o, hA, hc⟩
  · exact Or.inl h
  · exact Or.inr ⟨b, o, hA, fun k x hk => ext_cell hb (hc k x hk)⟩

theorem RowsAt.ext {w w' : World} {A : Option Addr} {rows : List (List Int)} (h : RowsAt w A rows) (hb : Below w.heap.size w w') : RowsAt w' A rows := by
  rcases h with h | ⟨b, o, hA, hc⟩
  · exact Or.inl h
  · refine Or.inr ⟨b, o, hA, fun k r hk => ?_⟩
    obtain ⟨A', cap, h1, h2⟩ := hc k r hk
    exact ⟨A', cap, ext_cell hb h1, h2.ext hb⟩

/-- Worlds that extend w. -/
structure Ext (w : World) where
  W : World
  ok : Below w.heap.size w W
instance (w : World) : Nonempty (Ext w) := ⟨⟨w, Below.refl _ _⟩⟩

theorem below_ext {w a b : World} (h : Below w.heap.size w a) (k : Below a.heap.size a b) : Below w.heap.size w b :=
  h.trans (k.mono h.size)

/-- A block of three cells, met in a later world. -/
theorem box3 {W w' : World} {b : Nat} {x y z : Value} {t : TypeId} (hb : Below W.heap.size W w') (h : W.heap[b]? = some (.cells #[x, y, z] t (0, 0))) :
    w'.cell? ⟨b, 0, none⟩ = some x ∧ w'.cell? ⟨b, 1, none⟩ = some y ∧ w'.cell? ⟨b, 2, none⟩ = some z ∧ w'.frozen? ⟨b, 0, none⟩ = false ∧ w'.frozen? ⟨b, 1, none⟩ = false ∧ w'.frozen? ⟨b, 2, none⟩ = false := by
  have h' : w'.heap[b]? = some (.cells #[x, y, z] t (0, 0)) := (hb.block b (Array.getElem?_eq_some_iff.1 h).1).trans h
  simp [World.cell?, World.frozen?, h']
/-- A block of five cells, met in a later world. -/
theorem box5 {W w' : World} {b : Nat} {x y z u v : Value} {t : TypeId} (hb : Below W.heap.size W w') (h : W.heap[b]? = some (.cells #[x, y, z, u, v] t (0, 0))) :
    (w'.cell? ⟨b, 0, none⟩ = some x ∧ w'.cell? ⟨b, 1, none⟩ = some y ∧ w'.cell? ⟨b, 2, none⟩ = some z ∧ w'.cell? ⟨b, 3, none⟩ = some u ∧ w'.cell? ⟨b, 4, none⟩ = some v) ∧
    w'.frozen? ⟨b, 0, none⟩ = false ∧ w'.frozen? ⟨b, 1, none⟩ = false ∧ w'.frozen? ⟨b, 2, none⟩ = false ∧ w'.frozen? ⟨b, 3, none⟩ = false ∧ w'.frozen? ⟨b, 4, none⟩ = false := by
  have h' : w'.heap[b]? = some (.cells #[x, y, z, u, v] t (0, 0)) := (hb.block b (Array.getElem?_eq_some_iff.1 h).1).trans h
  simp [World.cell?, World.frozen?, h']
theorem heap_at (w : World) (o : Obj) {n : Nat} (h : n = w.heap.size) : (w.alloc o).heap[n]? = some o := by subst h; show (w.heap.push o)[w.heap.size]? = _; simp
theorem heap_past (w : World) (o : Obj) {k : Nat} (h : k < w.heap.size) : (w.alloc o).heap[k]? = w.heap[k]? := by
  show (w.heap.push o)[k]? = _
  rw [Array.getElem?_push, if_neg (by omega)]

/-- A region that draws its order, whose operations leave the world alone but for calls that make memory of their own. -/
theorem wp_region_ext_lit {P : Program} {id : Nat} {Q : Exit → Act → World → Prop} {a : Act} {w : World} {l : List Oper} (hm : P.follows .mixedOrders = true) (hB : Region.lexB .any l.toArray = true)
    (h : wpQuiet P l.toArray (fun w' => ∃ W : Ext w, w' = W.W) (fun a' => ∀ w', (∃ W : Ext w, w' = W.W) → Q .normal a' w') l a) : (Code.region id l.toArray true).wp P Q a w :=
  wp_region_quiet (C := fun w' => ∃ W : Ext w, w' = W.W) hm hB ⟨⟨_, (Below.refl _ _).drew⟩, rfl⟩ (by simpa using h)

theorem wpList_of_quiet {P : Program} {ops : Array Oper} {C : World → Prop} {Q' : Act → Prop} {Q : Exit → Act → World → Prop} (hQ : ∀ a w, C w → Q' a → Q .normal a w) :
    ∀ (l : List Oper) (a : Act) (w : World), C w → wpQuiet P ops C Q' l a → wpList P ops Q l a w
  | [], a, w, hC, h => hQ a w hC h
  | o :: l, a, w, hC, h => by
    unfold wpQuiet at h
    unfold wpList
    split
    · rename_i hw
      rw [if_pos hw] at h
      exact Or.inl (Oper.wp_of_quiet hC (fun a' w' hC' h' => wpList_of_quiet hQ l a' w' hC' h') h)
    · rename_i hw
      rw [if_neg hw] at h
      exact wpList_of_quiet hQ l _ w hC h
/-- The same of a region in the text's own order. -/
theorem wp_region_ext_seq {P : Program} {id : Nat} {Q : Exit → Act → World → Prop} {a : Act} {w : World} {l : List Oper}
    (h : wpQuiet P l.toArray (fun w' => ∃ W : Ext w, w' = W.W) (fun a' => ∀ w', (∃ W : Ext w, w' = W.W) → Q .normal a' w') l a) : (Code.region id l.toArray false).wp P Q a w :=
  wp_region_lit (wpList_of_quiet (C := fun w' => ∃ W : Ext w, w' = W.W) (fun _ w' hw' h => h w' hw') l a w ⟨⟨w, Below.refl _ _⟩, rfl⟩ h)

/-- A cell of w, met in a world that extends it. -/
theorem Ext.cell {w : World} (W : Ext w) {p : Addr} {v : Value} (hc : w.cell? p = some v) : W.W.cell? p = some v := ext_cell W.ok hc
theorem Ext.old {w : World} {o : Obj} (W : Ext (w.alloc o)) : Below w.heap.size w W.W := below_ext ((Below.refl _ _).alloc (Nat.le_refl _) _) W.ok

/-- A callee's contract, met in a world that extends w. -/
theorem Calls.ext_of {P : Program} {f : FuncId} {args : Array Value} {w : World} {W : Ext w} {v : Value}
    (h : Calls P f args W.W fun e w' => e = .returned v ∧ Below W.W.heap.size W.W w') : Calls P f args W.W fun e w'' => e = .returned v ∧ ∃ W' : Ext w, w'' = W'.W :=
  h.mono fun _ _ ⟨he, hm⟩ => ⟨he, ⟨_, below_ext W.ok hm⟩, rfl⟩
theorem Calls.ext_of_same {P : Program} {f : FuncId} {args : Array Value} {w : World} {W : Ext w} {v : Value}
    (h : Calls P f args W.W fun e w' => e = .returned v ∧ W.W = w') : Calls P f args W.W fun e w'' => e = .returned v ∧ ∃ W' : Ext w, w'' = W'.W :=
  h.mono fun _ _ ⟨he, hm⟩ => ⟨he, W, hm.symm⟩

/-- A Bool that a call hands back, under another name. -/
theorem Calls.bool_eq {P : Program} {f : FuncId} {args : Array Value} {w : World} {x y : Bool} (h : Calls P f args w fun e w' => e = .returned (.bool x) ∧ w = w') (e : x = y) : Calls P f args w fun e w' => e = .returned (.bool y) ∧ w = w' := e ▸ h
theorem Calls.bool_eq' {P : Program} {f : FuncId} {args : Array Value} {w : World} {x y : Bool} (h : Calls P f args w fun e w' => e = .returned (.bool x) ∧ Below w.heap.size w w') (e : x = y) : Calls P f args w fun e w' => e = .returned (.bool y) ∧ Below w.heap.size w w' := e ▸ h
theorem ret_bool {a b : Bool} (h : a = b) : Ending.returned (.bool a) = .returned (.bool b) := by rw [h]
theorem ret_int {a b : Int} (h : a = b) : Ending.returned (.int .i64 a) = .returned (.int .i64 b) := by rw [h]

/-! ### Small facts on lists -/
theorem all_take_succ {α : Type} (f : α → Bool) (xs : List α) (k : Nat) (x : α) (h : xs[k]? = some x) :
    (xs.take (k+1)).all f = ((xs.take k).all f && f x) := by
  rw [List.take_add_one, h]; simp
theorem all_false {α : Type} (f : α → Bool) (xs : List α) (k : Nat) (x : α) (h : xs[k]? = some x) (hf : f x = false) : xs.all f = false := by
  rw [List.all_eq_false]; exact ⟨x, List.mem_of_getElem? h, by simp [hf]⟩
theorem all_of_take {α : Type} (f : α → Bool) (xs : List α) (k : Nat) (h : (xs.take k).all f = true) (hk : xs.length ≤ k) : xs.all f = true := by
  rwa [List.take_of_length_le hk] at h
theorem get_of_lt {α : Type} {xs : List α} {k : Nat} (h : k < xs.length) : ∃ x, xs[k]? = some x := ⟨_, List.getElem?_eq_getElem h⟩
theorem not_nil_of_lt {α : Type} {xs : List α} {k : Nat} (h : k < xs.length) : xs ≠ [] := by intro e; simp [e] at h

theorem IntsAt.here {w : World} {A : Option Addr} {xs : List Int} (h : IntsAt w A xs) {k : Nat} (hk : k < xs.length) :
    ∃ b o, A = some ⟨b, o, none⟩ ∧ ∀ k x, xs[k]? = some x → w.cell? ⟨b, o + k, none⟩ = some (.int .i64 x) := by
  rcases h with h | h
  · simp [h] at hk
  · exact h
theorem RowsAt.here {w : World} {A : Option Addr} {rows : List (List Int)} (h : RowsAt w A rows) {k : Nat} (hk : k < rows.length) :
    ∃ b o, A = some ⟨b, o, none⟩ ∧ ∀ k r, rows[k]? = some r → ∃ A' cap, w.cell? ⟨b, o + k, none⟩ = some (.slice A' r.length cap) ∧ IntsAt w A' r := by
  rcases h with h | h
  · simp [h] at hk
  · exact h

/-! ### What the two sides ask of numbers and rows -/
def inB (n lo hi : Int) : Bool := decide (lo ≤ n) && decide (n ≤ hi)
def elemB (p a : Int) : Bool := decide (0 ≤ a) && decide (a < p)
def vecB (p : Int) (xs : List Int) (n : Int) : Bool := decide ((xs.length : Int) = n) && xs.all (elemB p)
def rowsB (p : Int) (rows : List (List Int)) (n : Int) : Bool := rows.all fun r => vecB p r n
/-- p is a prime from 2 to 97. -/
def fieldB (p : Int) : Bool := inB p 2 97 && [(2 : Int), 3, 5, 7].all fun q => !(decide (p % q = 0) && decide (p ≠ q))
def sysB (p v h : Int) (rows : List (List Int)) : Bool := fieldB p && (inB v 0 24 && (inB h 0 100 && (decide (rows.length ≤ 160) && rowsB p rows (v + h))))

/-- The package's table of small primes. -/
structure Primes (w : World) : Prop where
  c0 : w.cell? ⟨0, 0, none⟩ = some (.int .i64 2)
  c1 : w.cell? ⟨0, 1, none⟩ = some (.int .i64 3)
  c2 : w.cell? ⟨0, 2, none⟩ = some (.int .i64 5)
  c3 : w.cell? ⟨0, 3, none⟩ = some (.int .i64 7)
theorem Primes.ext {w w' : World} (h : Primes w) (hb : Below w.heap.size w w') : Primes w' :=
  ⟨ext_cell hb h.c0, ext_cell hb h.c1, ext_cell hb h.c2, ext_cell hb h.c3⟩
end Go.Proofs.YtjdbfokbgmbphaaGreatDoor
