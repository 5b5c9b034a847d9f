/- Readings of slices of integers and of slices of such slices; worlds that extend a world; small facts on lists. No conditions. | The readers of numbers, vectors and systems: within, isElement, isVector, areVectors, isField and their like in the reference. Conditions: lengths of at most maxLen. | The readers of a field and of a system, on both sides. Conditions: lengths of at most maxLen; the table of small primes is laid. -/
import Derived.Test.YtjdbfokbgmbphaaGreatDoorProg
import Derived.WalkKit
import Derived.WalkSpells
import Derived.WalkLawsBesides
import Derived.Deep.QuietTactic
import Derived.BigQuiet
import Derived.Lib.Hide
import Derived.Deep.RegionHeld3
import Derived.Deep.RegionWith
import Derived.Deep.Cut
import Derived.Deep.CutBlock
namespace Go.Proofs.YtjdbfokbgmbphaaGreatDoor
set_option linter.unusedVariables false
set_option linter.unusedSimpArgs false
open Go.RowKit
/-- The address A holds the integers xs, one behind the other, in world w. -/
def IntsAt (w : World) (A : Option Addr) (xs : List Int) : Prop :=
 xs = [] ∨ ∃ b o, A = some ⟨b, o, none⟩ ∧ ∀ k x, xs[k]? = some x → w.cell? ⟨b, o + k, none⟩ = some (.int .i64 x)
/-- The address A holds slices that read as the rows. -/
def RowsAt (w : World) (A : Option Addr) (rows : List (List Int)) : Prop :=
 rows = [] ∨ ∃ b o, A = some ⟨b, o, none⟩ ∧ ∀ k r, rows[k]? = some r → ∃ A' cap, w.cell? ⟨b, o + k, none⟩ = some (.slice A' r.length cap) ∧ IntsAt w A' r
theorem Below.cell_keep {B : Nat} {w w' : World} (h : Below B w w') {p : Addr} {v : Value} (hc : w.cell? p = some v) (hp : p.block < B) : w'.cell? p = some v := (h.cell hp).trans hc
theorem ext_cell {w w' : World} (h : Below w.heap.size w w') {p : Addr} {v : Value} (hc : w.cell? p = some v) : w'.cell? p = some v :=
 Below.cell_keep h hc (World.block_lt_of_cell? w p hc)
theorem ext_frozen {w w' : World} (h : Below w.heap.size w w') {p : Addr} (hc : w.frozen? p = false) (hp : p.block < w.heap.size) : w'.frozen? p = false := (h.frozen hp).trans hc
theorem IntsAt.ext {w w' : World} {A : Option Addr} {xs : List Int} (h : IntsAt w A xs) (hb : Below w.heap.size w w') : IntsAt w' A xs := by
 rcases h with h | ⟨b, o, hA, hc⟩
 ·exact Or.inl h
 ·exact Or.inr ⟨b, o, hA, fun k x hk => ext_cell hb (hc k x hk)⟩
theorem RowsAt.ext {w w' : World} {A : Option Addr} {rows : List (List Int)} (h : RowsAt w A rows) (hb : Below w.heap.size w w') : RowsAt w' A rows := by
 rcases h with h | ⟨b, o, hA, hc⟩
 ·exact Or.inl h
 ·refine Or.inr ⟨b, o, hA, fun k r hk => ?_⟩
  obtain ⟨A', cap, h1, h2⟩ := hc k r hk
  exact ⟨A', cap, ext_cell hb h1, h2.ext hb⟩
/-- Worlds that extend w. -/
structure Ext (w : World) where
 W : World
 ok : Below w.heap.size w W
instance (w : World) : Nonempty (Ext w) := ⟨⟨w, Below.refl _ _⟩⟩
theorem below_ext {w a b : World} (h : Below w.heap.size w a) (k : Below a.heap.size a b) : Below w.heap.size w b :=
 h.trans (k.mono h.size)
/-- A block of three cells, met in a later world. -/
theorem box3 {W w' : World} {b : Nat} {x y z : Value} {t : TypeId} (hb : Below W.heap.size W w') (h : W.heap[b]? = some (.cells #[x, y, z] t (0, 0))) :
  w'.cell? ⟨b, 0, none⟩ = some x ∧ w'.cell? ⟨b, 1, none⟩ = some y ∧ w'.cell? ⟨b, 2, none⟩ = some z ∧ w'.frozen? ⟨b, 0, none⟩ = false ∧ w'.frozen? ⟨b, 1, none⟩ = false ∧ w'.frozen? ⟨b, 2, none⟩ = false := by
 have h' : w'.heap[b]? = some (.cells #[x, y, z] t (0, 0)) := (hb.block b (Array.getElem?_eq_some_iff.1 h).1).trans h
 simp [World.cell?, World.frozen?, h']
/-- A block of five cells, met in a later world. -/
theorem box5 {W w' : World} {b : Nat} {x y z u v : Value} {t : TypeId} (hb : Below W.heap.size W w') (h : W.heap[b]? = some (.cells #[x, y, z, u, v] t (0, 0))) :
  (w'.cell? ⟨b, 0, none⟩ = some x ∧ w'.cell? ⟨b, 1, none⟩ = some y ∧ w'.cell? ⟨b, 2, none⟩ = some z ∧ w'.cell? ⟨b, 3, none⟩ = some u ∧ w'.cell? ⟨b, 4, none⟩ = some v) ∧
  w'.frozen? ⟨b, 0, none⟩ = false ∧ w'.frozen? ⟨b, 1, none⟩ = false ∧ w'.frozen? ⟨b, 2, none⟩ = false ∧ w'.frozen? ⟨b, 3, none⟩ = false ∧ w'.frozen? ⟨b, 4, none⟩ = false := by
 have h' : w'.heap[b]? = some (.cells #[x, y, z, u, v] t (0, 0)) := (hb.block b (Array.getElem?_eq_some_iff.1 h).1).trans h
 simp [World.cell?, World.frozen?, h']
theorem heap_at (w : World) (o : Obj) {n : Nat} (h : n = w.heap.size) : (w.alloc o).heap[n]? = some o := by subst h; show (w.heap.push o)[w.heap.size]? = _; simp
theorem heap_past (w : World) (o : Obj) {k : Nat} (h : k < w.heap.size) : (w.alloc o).heap[k]? = w.heap[k]? := by
 show (w.heap.push o)[k]? = _
 rw [Array.getElem?_push, if_neg (by omega)]
/-- A region that draws its order, whose operations leave the world alone but for calls that make memory of their own. -/
theorem wp_region_ext_lit {P : Program} {id : Nat} {Q : Exit → Act → World → Prop} {a : Act} {w : World} {l : List Oper} (hm : P.follows .mixedOrders = true) (hB : Region.lexB .any l.toArray = true)
  (h : wpQuiet P l.toArray (fun w' => ∃ W : Ext w, w' = W.W) (fun a' => ∀ w', (∃ W : Ext w, w' = W.W) → Q .normal a' w') l a) : (Code.region id l.toArray true).wp P Q a w :=
 wp_region_quiet (C := fun w' => ∃ W : Ext w, w' = W.W) hm hB ⟨⟨_, (Below.refl _ _).drew⟩, rfl⟩ (by simpa using h)
theorem wpList_of_quiet {P : Program} {ops : Array Oper} {C : World → Prop} {Q' : Act → Prop} {Q : Exit → Act → World → Prop} (hQ : ∀ a w, C w → Q' a → Q .normal a w) :
  ∀ (l : List Oper) (a : Act) (w : World), C w → wpQuiet P ops C Q' l a → wpList P ops Q l a w
 | [], a, w, hC, h => hQ a w hC h
 | o :: l, a, w, hC, h => by
  unfold wpQuiet at h
  unfold wpList
  split
  ·rename_i hw
   rw [if_pos hw] at h
   exact Or.inl (Oper.wp_of_quiet hC (fun a' w' hC' h' => wpList_of_quiet hQ l a' w' hC' h') h)
  ·rename_i hw
   rw [if_neg hw] at h
   exact wpList_of_quiet hQ l _ w hC h
/-- The same of a region in the text's own order. -/
theorem wp_region_ext_seq {P : Program} {id : Nat} {Q : Exit → Act → World → Prop} {a : Act} {w : World} {l : List Oper}
  (h : wpQuiet P l.toArray (fun w' => ∃ W : Ext w, w' = W.W) (fun a' => ∀ w', (∃ W : Ext w, w' = W.W) → Q .normal a' w') l a) : (Code.region id l.toArray false).wp P Q a w :=
 wp_region_lit (wpList_of_quiet (C := fun w' => ∃ W : Ext w, w' = W.W) (fun _ w' hw' h => h w' hw') l a w ⟨⟨w, Below.refl _ _⟩, rfl⟩ h)
/-- A cell of w, met in a world that extends it. -/
theorem Ext.cell {w : World} (W : Ext w) {p : Addr} {v : Value} (hc : w.cell? p = some v) : W.W.cell? p = some v := ext_cell W.ok hc
theorem Ext.old {w : World} {o : Obj} (W : Ext (w.alloc o)) : Below w.heap.size w W.W := below_ext ((Below.refl _ _).alloc (Nat.le_refl _) _) W.ok
/-- A callee's contract, met in a world that extends w. -/
theorem Calls.ext_of {P : Program} {f : FuncId} {args : Array Value} {w : World} {W : Ext w} {v : Value}
  (h : Calls P f args W.W fun e w' => e = .returned v ∧ Below W.W.heap.size W.W w') : Calls P f args W.W fun e w'' => e = .returned v ∧ ∃ W' : Ext w, w'' = W'.W :=
 h.mono fun _ _ ⟨he, hm⟩ => ⟨he, ⟨_, below_ext W.ok hm⟩, rfl⟩
theorem Calls.ext_of_same {P : Program} {f : FuncId} {args : Array Value} {w : World} {W : Ext w} {v : Value}
  (h : Calls P f args W.W fun e w' => e = .returned v ∧ W.W = w') : Calls P f args W.W fun e w'' => e = .returned v ∧ ∃ W' : Ext w, w'' = W'.W :=
 h.mono fun _ _ ⟨he, hm⟩ => ⟨he, W, hm.symm⟩
/-- A Bool that a call hands back, under another name. -/
theorem Calls.bool_eq {P : Program} {f : FuncId} {args : Array Value} {w : World} {x y : Bool} (h : Calls P f args w fun e w' => e = .returned (.bool x) ∧ w = w') (e : x = y) : Calls P f args w fun e w' => e = .returned (.bool y) ∧ w = w' := e ▸ h
theorem Calls.bool_eq' {P : Program} {f : FuncId} {args : Array Value} {w : World} {x y : Bool} (h : Calls P f args w fun e w' => e = .returned (.bool x) ∧ Below w.heap.size w w') (e : x = y) : Calls P f args w fun e w' => e = .returned (.bool y) ∧ Below w.heap.size w w' := e ▸ h
theorem ret_bool {a b : Bool} (h : a = b) : Ending.returned (.bool a) = .returned (.bool b) := by rw [h]
theorem ret_int {a b : Int} (h : a = b) : Ending.returned (.int .i64 a) = .returned (.int .i64 b) := by rw [h]
/-! ### Small facts on lists -/
theorem all_take_succ {α : Type} (f : α → Bool) (xs : List α) (k : Nat) (x : α) (h : xs[k]? = some x) :
  (xs.take (k+1)).all f = ((xs.take k).all f && f x) := by
 rw [List.take_add_one, h]; simp
theorem all_false {α : Type} (f : α → Bool) (xs : List α) (k : Nat) (x : α) (h : xs[k]? = some x) (hf : f x = false) : xs.all f = false := by
 rw [List.all_eq_false]; exact ⟨x, List.mem_of_getElem? h, by simp [hf]⟩
theorem all_of_take {α : Type} (f : α → Bool) (xs : List α) (k : Nat) (h : (xs.take k).all f = true) (hk : xs.length ≤ k) : xs.all f = true := by
 rwa [List.take_of_length_le hk] at h
theorem get_of_lt {α : Type} {xs : List α} {k : Nat} (h : k < xs.length) : ∃ x, xs[k]? = some x := ⟨_, List.getElem?_eq_getElem h⟩
theorem IntsAt.here {w : World} {A : Option Addr} {xs : List Int} (h : IntsAt w A xs) {k : Nat} (hk : k < xs.length) :
  ∃ b o, A = some ⟨b, o, none⟩ ∧ ∀ k x, xs[k]? = some x → w.cell? ⟨b, o + k, none⟩ = some (.int .i64 x) := by
 rcases h with h | h
 ·simp [h] at hk
 ·exact h
theorem RowsAt.here {w : World} {A : Option Addr} {rows : List (List Int)} (h : RowsAt w A rows) {k : Nat} (hk : k < rows.length) :
  ∃ b o, A = some ⟨b, o, none⟩ ∧ ∀ k r, rows[k]? = some r → ∃ A' cap, w.cell? ⟨b, o + k, none⟩ = some (.slice A' r.length cap) ∧ IntsAt w A' r := by
 rcases h with h | h
 ·simp [h] at hk
 ·exact h
/-! ### What the two sides ask of numbers and rows -/
def inB (n lo hi : Int) : Bool := decide (lo ≤ n) && decide (n ≤ hi)
def elemB (p a : Int) : Bool := decide (0 ≤ a) && decide (a < p)
def vecB (p : Int) (xs : List Int) (n : Int) : Bool := decide ((xs.length : Int) = n) && xs.all (elemB p)
def rowsB (p : Int) (rows : List (List Int)) (n : Int) : Bool := rows.all fun r => vecB p r n
/-- p is a prime from 2 to 97. -/
def fieldB (p : Int) : Bool := inB p 2 97 && [(2 : Int), 3, 5, 7].all fun q => !(decide (p % q = 0) && decide (p ≠ q))
def sysB (p v h : Int) (rows : List (List Int)) : Bool := fieldB p && (inB v 0 24 && (inB h 0 100 && (decide (rows.length ≤ 160) && rowsB p rows (v + h))))
/-- The package's table of small primes. -/
structure Primes (w : World) : Prop where
 c0 : w.cell? ⟨0, 0, none⟩ = some (.int .i64 2)
 c1 : w.cell? ⟨0, 1, none⟩ = some (.int .i64 3)
 c2 : w.cell? ⟨0, 2, none⟩ = some (.int .i64 5)
 c3 : w.cell? ⟨0, 3, none⟩ = some (.int .i64 7)
theorem Primes.ext {w w' : World} (h : Primes w) (hb : Below w.heap.size w w') : Primes w' :=
 ⟨ext_cell hb h.c0, ext_cell hb h.c1, ext_cell hb h.c2, ext_cell hb h.c3⟩
theorem within_any (n lo hi : Int) (w : World) :
  Calls Tryz.prog 90 #[.int .i64 n, .int .i64 lo, .int .i64 hi] w fun e w' => e = .returned (.bool (inB n lo hi)) ∧ w = w' := by
 unfold inB
 by_cases h1 : lo ≤ n <;> by_cases h2 : n ≤ hi
 all_goals
  go_enter Tryz.func90, Tryz.ntmps90
  go_wp2
  go_ret
  exact ⟨by simp [h1, h2], rfl⟩
theorem l1In_any (n lo hi : Int) (w : World) :
  Calls Tryz.prog 79 #[.int .i64 n, .int .i64 lo, .int .i64 hi] w fun e w' => e = .returned (.bool (inB n lo hi)) ∧ w = w' := by
 unfold inB
 by_cases h1 : lo ≤ n <;> by_cases h2 : n ≤ hi
 all_goals
  go_enter Tryz.func79, Tryz.ntmps79
  go_wp2
  go_ret
  exact ⟨by simp [h1, h2], rfl⟩
theorem isElement_any (p a : Int) (w : World) :
  Calls Tryz.prog 125 #[.int .i64 p, .int .i64 a] w fun e w' => e = .returned (.bool (elemB p a)) ∧ w = w' := by
 unfold elemB
 by_cases h1 : 0 ≤ a <;> by_cases h2 : a < p
 all_goals
  go_enter Tryz.func125, Tryz.ntmps125
  go_wp2
  go_ret
  exact ⟨by simp [h1, h2], rfl⟩
set_option maxHeartbeats 400000 in
theorem isVector_any (p n : Int) (A : Option Addr) (cap : Nat) (xs : List Int) (w : World) (h : IntsAt w A xs) (hm : xs.length ≤ maxLen) :
  Calls Tryz.prog 110 #[.int .i64 p, .slice A xs.length cap, .int .i64 n] w fun e w' => e = .returned (.bool (vecB p xs n)) ∧ w = w' := by
 unfold maxLen at hm
 by_cases hn : (xs.length : Int) = n
 ·have hb : ((xs.length : Int) != n) = false := by simp [hn]
  have Hn := Lib.hid hn; clear hn
  go_enter Tryz.func110, Tryz.ntmps110
  go_wp2
  go_loop [15] (fun i => ∃ k : Nat, k ≤ xs.length ∧ i = .int .i64 k ∧ (xs.take k).all (elemB p) = true) (fun i => xs.length - (intOf i).toNat)
  case atStart => exact ⟨0, Nat.zero_le _, rfl, by simp⟩
  case round =>
   obtain ⟨k, hk, rfl, hall⟩ := hrel
   have Hall := Lib.hid hall; clear hall
   by_cases hlt : k < xs.length
   ·obtain ⟨x, hx⟩ := get_of_lt hlt
    obtain ⟨b, o, rfl, hc⟩ := h.here hlt
    have hck := hc k x hx
    have Hx := Lib.hid hx; clear hx hc h
    cases hf : elemB p x
    ·go_wp2_with (go_at_call 125; refine (isElement_any _ _ _).mono ?_; rintro e w' ⟨rfl, rfl⟩; rw [hf])
     go_ret
     exact ⟨by rw [vecB, all_false _ _ _ _ Hx.out hf]; simp, rfl⟩
    ·go_wp2_with (go_at_call 125; refine (isElement_any _ _ _).mono ?_; rintro e w' ⟨rfl, rfl⟩; rw [hf])
     go_round
     case rel => exact ⟨k+1, by omega, by go_num, by rw [all_take_succ _ _ _ _ Hx.out, Hall.out, hf]; rfl⟩
     case measure => simp [intOf]; omega
   ·go_wp2
    go_ret
    exact ⟨by rw [vecB, ← Hn.out, all_of_take _ _ _ Hall.out (by omega)]; simp, rfl⟩
 ·have hb : ((xs.length : Int) != n) = true := by simp [hn]
  go_enter Tryz.func110, Tryz.ntmps110
  go_wp2
  go_ret
  exact ⟨by simp [vecB, hn], rfl⟩
set_option maxHeartbeats 400000 in
theorem areVectors_any (p n : Int) (A : Option Addr) (cap : Nat) (rows : List (List Int)) (w : World) (h : RowsAt w A rows) (hm : rows.length ≤ maxLen) (hms : ∀ r ∈ rows, r.length ≤ maxLen) :
  Calls Tryz.prog 91 #[.int .i64 p, .slice A rows.length cap, .int .i64 n] w fun e w' => e = .returned (.bool (rowsB p rows n)) ∧ w = w' := by
 unfold maxLen at hm
 go_enter Tryz.func91, Tryz.ntmps91
 go_wp2
 go_loop [11] (fun i => ∃ k : Nat, k ≤ rows.length ∧ i = .int .i64 k ∧ (rows.take k).all (fun r => vecB p r n) = true) (fun i => rows.length - (intOf i).toNat)
 case atStart => exact ⟨0, Nat.zero_le _, rfl, by simp⟩
 case round =>
  obtain ⟨k, hk, rfl, hall⟩ := hrel
  have Hall := Lib.hid hall; clear hall
  by_cases hlt : k < rows.length
  ·obtain ⟨r, hr⟩ := get_of_lt hlt
   obtain ⟨b, o, rfl, hc⟩ := h.here hlt
   obtain ⟨A', cap', hck, hin⟩ := hc k r hr
   have hrm := hms r (List.mem_of_getElem? hr)
   have Hr := Lib.hid hr; clear hr hc h hms
   cases hf : vecB p r n
   ·go_wp2_with (go_at_call 110; refine (isVector_any _ _ _ _ _ _ hin hrm).mono ?_; rintro e w' ⟨rfl, rfl⟩; rw [hf])
    go_ret
    exact ⟨ret_bool (by rw [rowsB, all_false _ _ _ _ Hr.out hf]), rfl⟩
   ·go_wp2_with (go_at_call 110; refine (isVector_any _ _ _ _ _ _ hin hrm).mono ?_; rintro e w' ⟨rfl, rfl⟩; rw [hf])
    go_round
    case rel => exact ⟨k+1, by omega, by go_num, by rw [all_take_succ _ _ _ _ Hr.out, Hall.out, hf]; rfl⟩
    case measure => simp [intOf]; omega
  ·go_wp2
   go_ret
   exact ⟨ret_bool (by rw [rowsB, all_of_take _ _ _ Hall.out (by omega)]), rfl⟩
set_option maxHeartbeats 400000 in
theorem l1All_any (lo hi : Int) (A : Option Addr) (cap : Nat) (xs : List Int) (w : World) (h : IntsAt w A xs) (hm : xs.length ≤ maxLen) :
  Calls Tryz.prog 82 #[.slice A xs.length cap, .int .i64 lo, .int .i64 hi] w fun e w' => e = .returned (.bool (xs.all fun x => inB x lo hi)) ∧ w = w' := by
 unfold maxLen at hm
 go_enter Tryz.func82, Tryz.ntmps82
 go_wp2
 go_loop [11] (fun i => ∃ k : Nat, k ≤ xs.length ∧ i = .int .i64 k ∧ (xs.take k).all (fun x => inB x lo hi) = true) (fun i => xs.length - (intOf i).toNat)
 case atStart => exact ⟨0, Nat.zero_le _, rfl, by simp⟩
 case round =>
  obtain ⟨k, hk, rfl, hall⟩ := hrel
  have Hall := Lib.hid hall; clear hall
  by_cases hlt : k < xs.length
  ·obtain ⟨x, hx⟩ := get_of_lt hlt
   obtain ⟨b, o, rfl, hc⟩ := h.here hlt
   have hck := hc k x hx
   have Hx := Lib.hid hx; clear hx hc h
   cases hf : inB x lo hi
   ·go_wp2_with (go_at_call 79; refine (l1In_any _ _ _ _).mono ?_; rintro e w' ⟨rfl, rfl⟩; rw [hf])
    go_ret
    exact ⟨ret_bool (by rw [all_false _ _ _ _ Hx.out hf]), rfl⟩
   ·go_wp2_with (go_at_call 79; refine (l1In_any _ _ _ _).mono ?_; rintro e w' ⟨rfl, rfl⟩; rw [hf])
    go_round
    case rel => exact ⟨k+1, by omega, by go_num, by rw [all_take_succ _ _ _ _ Hx.out, Hall.out, hf]; rfl⟩
    case measure => simp [intOf]; omega
  ·go_wp2
   go_ret
   exact ⟨ret_bool (by rw [all_of_take _ _ _ Hall.out (by omega)]), rfl⟩
theorem fdIn_any (p : Int) (A : Option Addr) (cap : Nat) (xs : List Int) (w : World) (h : IntsAt w A xs) (hm : xs.length ≤ maxLen) (hp : 2 ≤ p) (hp' : p ≤ 97) :
  Calls Tryz.prog 85 #[.int .i64 p, .slice A xs.length cap] w fun e w' => e = .returned (.bool (xs.all (elemB p))) ∧ w = w' := by
 have e : ∀ x, inB x 0 (p - 1) = elemB p x := fun x => by
  unfold inB elemB
  congr 1
  exact decide_eq_decide.2 (by omega)
 have E := Lib.hid e; clear e
 go_enter Tryz.func85, Tryz.ntmps85
 go_wp2_with (go_at_call 82; refine (l1All_any _ _ _ _ _ _ h hm).mono ?_; rintro e w' ⟨rfl, rfl⟩)
 go_ret
 exact ⟨ret_bool (by congr 1; funext x; exact E.out x), rfl⟩
set_option maxHeartbeats 400000 in
theorem spRows_any (p n : Int) (A : Option Addr) (cap : Nat) (rows : List (List Int)) (w : World) (h : RowsAt w A rows) (hm : rows.length ≤ maxLen) (hms : ∀ r ∈ rows, r.length ≤ maxLen) (hp : 2 ≤ p) (hp' : p ≤ 97) :
  Calls Tryz.prog 80 #[.int .i64 p, .int .i64 n, .slice A rows.length cap] w fun e w' => e = .returned (.bool (rowsB p rows n)) ∧ w = w' := by
 unfold maxLen at hm
 go_enter Tryz.func80, Tryz.ntmps80
 go_wp2
 go_loop [11] (fun i => ∃ k : Nat, k ≤ rows.length ∧ i = .int .i64 k ∧ (rows.take k).all (fun r => vecB p r n) = true) (fun i => rows.length - (intOf i).toNat)
 case atStart => exact ⟨0, Nat.zero_le _, rfl, by simp⟩
 case round =>
  obtain ⟨k, hk, rfl, hall⟩ := hrel
  have Hall := Lib.hid hall; clear hall
  by_cases hlt : k < rows.length
  ·obtain ⟨r, hr⟩ := get_of_lt hlt
   obtain ⟨b, o, rfl, hc⟩ := h.here hlt
   obtain ⟨A', cap', hck, hin⟩ := hc k r hr
   have hrm := hms r (List.mem_of_getElem? hr)
   have Hr := Lib.hid hr; clear hr hc h hms
   by_cases hn : (r.length : Int) = n
   ·have hb : ((r.length : Int) != n) = false := by simp [hn]
    have Hn := Lib.hid hn; clear hn
    cases hf : r.all (elemB p)
    ·go_wp2_with (go_at_call 85; refine (fdIn_any _ _ _ _ _ hin hrm hp hp').mono ?_; rintro e w' ⟨rfl, rfl⟩; rw [hf])
     go_ret
     exact ⟨ret_bool (by rw [rowsB, all_false _ _ _ _ Hr.out (by rw [vecB, hf]; simp)]), rfl⟩
    ·go_wp2_with (go_at_call 85; refine (fdIn_any _ _ _ _ _ hin hrm hp hp').mono ?_; rintro e w' ⟨rfl, rfl⟩; rw [hf])
     go_round
     case rel => exact ⟨k+1, by omega, by go_num, by rw [all_take_succ _ _ _ _ Hr.out, Hall.out, vecB, hf, Hn.out]; simp⟩
     case measure => simp [intOf]; omega
   ·have hb : ((r.length : Int) != n) = true := by simp [hn]
    go_wp2
    go_ret
    exact ⟨ret_bool (by rw [rowsB, all_false _ _ _ _ Hr.out (by rw [vecB]; simp [hn])]), rfl⟩
  ·go_wp2
   go_ret
   exact ⟨ret_bool (by rw [rowsB, all_of_take _ _ _ Hall.out (by omega)]), rfl⟩
def badB (p q : Int) : Bool := decide (p % q = 0) && decide (p ≠ q)
theorem fieldB_bad {p : Int} (k : Nat) (hk : k < 4) (h : badB p ([(2 : Int), 3, 5, 7].getD k 0) = true) : fieldB p = false := by
 unfold fieldB badB at *
 rw [Bool.and_eq_false_iff]
 right
 rw [List.all_eq_false]
 match k, hk with
 | 0, _ => exact ⟨2, by simp, by simpa using h⟩
 | 1, _ => exact ⟨3, by simp, by simpa using h⟩
 | 2, _ => exact ⟨5, by simp, by simpa using h⟩
 | 3, _ => exact ⟨7, by simp, by simpa using h⟩
theorem fieldB_good {p : Int} (h1 : 2 ≤ p) (h2 : p ≤ 97) (h : ∀ j, j < 4 → badB p ([(2 : Int), 3, 5, 7].getD j 0) = false) : fieldB p = true := by
 have a0 := h 0 (by omega); have a1 := h 1 (by omega); have a2 := h 2 (by omega); have a3 := h 3 (by omega)
 simp only [badB, List.getD_cons_zero, List.getD_cons_succ] at a0 a1 a2 a3
 simp only [fieldB, inB, List.all_cons, List.all_nil, a0, a1, a2, a3]
 simp [h1, h2]
set_option maxHeartbeats 1000000 in
theorem isField_any (p : Int) (w : World) (h : Primes w) :
  Calls Tryz.prog 89 #[.int .i64 p] w fun e w' => e = .returned (.bool (fieldB p)) ∧ w = w' := by
 obtain ⟨c0, c1, c2, c3⟩ := h
 by_cases h1 : p < 2
 ·go_enter Tryz.func89, Tryz.ntmps89
  go_wp2
  go_ret
  exact ⟨ret_bool (by simp [fieldB, inB]; omega), rfl⟩
 by_cases h2 : 97 < p
 ·go_enter Tryz.func89, Tryz.ntmps89
  go_wp2
  go_ret
  exact ⟨ret_bool (by simp [fieldB, inB]; omega), rfl⟩
 go_enter Tryz.func89, Tryz.ntmps89
 go_wp2
 have i0 : ∀ w, (Instr.index 112 (.agg #[.int .i64 2, .int .i64 3, .int .i64 5, .int .i64 7]) (.int .i64 0)).run Tryz.prog w = .ok (.int .i64 2) w := fun _ => by kernel_rfl
 have i1 : ∀ w, (Instr.index 112 (.agg #[.int .i64 2, .int .i64 3, .int .i64 5, .int .i64 7]) (.int .i64 1)).run Tryz.prog w = .ok (.int .i64 3) w := fun _ => by kernel_rfl
 have i2 : ∀ w, (Instr.index 112 (.agg #[.int .i64 2, .int .i64 3, .int .i64 5, .int .i64 7]) (.int .i64 2)).run Tryz.prog w = .ok (.int .i64 5) w := fun _ => by kernel_rfl
 have i3 : ∀ w, (Instr.index 112 (.agg #[.int .i64 2, .int .i64 3, .int .i64 5, .int .i64 7]) (.int .i64 3)).run Tryz.prog w = .ok (.int .i64 7) w := fun _ => by kernel_rfl
 go_loop [12] (fun i => ∃ k : Nat, k ≤ 4 ∧ i = .int .i64 k ∧ ∀ j, j < k → badB p ([(2 : Int), 3, 5, 7].getD j 0) = false) (fun i => 4 - (intOf i).toNat)
 case atStart => exact ⟨0, by omega, rfl, fun j hj => by omega⟩
 case round =>
  obtain ⟨k, hk, rfl, hall⟩ := hrel
  have Hall := Lib.hid hall; clear hall
  have h3 : 0 ≤ p := by omega
  rcases (show k = 4 ∨ k = 0 ∨ k = 1 ∨ k = 2 ∨ k = 3 from by omega) with rfl | rfl | rfl | rfl | rfl
  ·go_wp2
   go_ret
   exact ⟨ret_bool (by rw [fieldB_good (by omega) (by omega) Hall.out]), rfl⟩
  ·by_cases m : p % 2 = 0
   ·have hb : (p % 2 == 0) = true := by simp [m]
    by_cases e : p = 2
    ·have Hb : badB p 2 = false := by simp [badB, e]
     have HB := Lib.hid Hb; clear Hb
     have he : (p != 2) = false := by simp [e]
     clear m e
     go_wp2
     go_round
     case rel => exact ⟨1, by omega, by go_num, fun j hj => by
      by_cases hj' : j < 0
      ·exact Hall.out j hj'
      ·obtain rfl : j = 0 := by omega
       exact HB.out⟩
     case measure => simp [intOf]
    ·have he : (p != 2) = true := by simp [e]
     have Hb : badB p 2 = true := by simp [badB, e, m]
     have HB := Lib.hid Hb; clear Hb m e
     go_wp2
     go_ret
     exact ⟨ret_bool (by rw [fieldB_bad 0 (by omega) HB.out]), rfl⟩
   ·have hb : (p % 2 == 0) = false := by simp [m]
    have Hb : badB p 2 = false := by simp [badB, m]
    have HB := Lib.hid Hb; clear Hb m
    go_wp2
    go_round
    case rel => exact ⟨1, by omega, by go_num, fun j hj => by
     by_cases hj' : j < 0
     ·exact Hall.out j hj'
     ·obtain rfl : j = 0 := by omega
      exact HB.out⟩
    case measure => simp [intOf]
  ·by_cases m : p % 3 = 0
   ·have hb : (p % 3 == 0) = true := by simp [m]
    by_cases e : p = 3
    ·have Hb : badB p 3 = false := by simp [badB, e]
     have HB := Lib.hid Hb; clear Hb
     have he : (p != 3) = false := by simp [e]
     clear m e
     go_wp2
     go_round
     case rel => exact ⟨2, by omega, by go_num, fun j hj => by
      by_cases hj' : j < 1
      ·exact Hall.out j hj'
      ·obtain rfl : j = 1 := by omega
       exact HB.out⟩
     case measure => simp [intOf]
    ·have he : (p != 3) = true := by simp [e]
     have Hb : badB p 3 = true := by simp [badB, e, m]
     have HB := Lib.hid Hb; clear Hb m e
     go_wp2
     go_ret
     exact ⟨ret_bool (by rw [fieldB_bad 1 (by omega) HB.out]), rfl⟩
   ·have hb : (p % 3 == 0) = false := by simp [m]
    have Hb : badB p 3 = false := by simp [badB, m]
    have HB := Lib.hid Hb; clear Hb m
    go_wp2
    go_round
    case rel => exact ⟨2, by omega, by go_num, fun j hj => by
     by_cases hj' : j < 1
     ·exact Hall.out j hj'
     ·obtain rfl : j = 1 := by omega
      exact HB.out⟩
    case measure => simp [intOf]
  ·by_cases m : p % 5 = 0
   ·have hb : (p % 5 == 0) = true := by simp [m]
    by_cases e : p = 5
    ·have Hb : badB p 5 = false := by simp [badB, e]
     have HB := Lib.hid Hb; clear Hb
     have he : (p != 5) = false := by simp [e]
     clear m e
     go_wp2
     go_round
     case rel => exact ⟨3, by omega, by go_num, fun j hj => by
      by_cases hj' : j < 2
      ·exact Hall.out j hj'
      ·obtain rfl : j = 2 := by omega
       exact HB.out⟩
     case measure => simp [intOf]
    ·have he : (p != 5) = true := by simp [e]
     have Hb : badB p 5 = true := by simp [badB, e, m]
     have HB := Lib.hid Hb; clear Hb m e
     go_wp2
     go_ret
     exact ⟨ret_bool (by rw [fieldB_bad 2 (by omega) HB.out]), rfl⟩
   ·have hb : (p % 5 == 0) = false := by simp [m]
    have Hb : badB p 5 = false := by simp [badB, m]
    have HB := Lib.hid Hb; clear Hb m
    go_wp2
    go_round
    case rel => exact ⟨3, by omega, by go_num, fun j hj => by
     by_cases hj' : j < 2
     ·exact Hall.out j hj'
     ·obtain rfl : j = 2 := by omega
      exact HB.out⟩
    case measure => simp [intOf]
  ·by_cases m : p % 7 = 0
   ·have hb : (p % 7 == 0) = true := by simp [m]
    by_cases e : p = 7
    ·have Hb : badB p 7 = false := by simp [badB, e]
     have HB := Lib.hid Hb; clear Hb
     have he : (p != 7) = false := by simp [e]
     clear m e
     go_wp2
     go_round
     case rel => exact ⟨4, by omega, by go_num, fun j hj => by
      by_cases hj' : j < 3
      ·exact Hall.out j hj'
      ·obtain rfl : j = 3 := by omega
       exact HB.out⟩
     case measure => simp [intOf]
    ·have he : (p != 7) = true := by simp [e]
     have Hb : badB p 7 = true := by simp [badB, e, m]
     have HB := Lib.hid Hb; clear Hb m e
     go_wp2
     go_ret
     exact ⟨ret_bool (by rw [fieldB_bad 3 (by omega) HB.out]), rfl⟩
   ·have hb : (p % 7 == 0) = false := by simp [m]
    have Hb : badB p 7 = false := by simp [badB, m]
    have HB := Lib.hid Hb; clear Hb m
    go_wp2
    go_round
    case rel => exact ⟨4, by omega, by go_num, fun j hj => by
     by_cases hj' : j < 3
     ·exact Hall.out j hj'
     ·obtain rfl : j = 3 := by omega
      exact HB.out⟩
    case measure => simp [intOf]
theorem field_div_all : ((List.range 98).all fun p => (List.range 10).all fun k => decide (p < 2) || decide (k < 2) || decide (p < k * k) || decide (p % k ≠ 0) || !fieldB (p : Nat)) = true := by decide +kernel
theorem field_prime_all : ((List.range 98).all fun p => (List.range 11).all fun k => decide (p < 2) || decide (k < 2) || decide (k * k ≤ p) || ((List.range k).any fun j => decide (2 ≤ j) && decide (p % j = 0)) || fieldB (p : Nat)) = true := by decide +kernel
theorem field_div_nat (p : Nat) (h1 : p < 98) (k : Nat) (h2 : k < 10) (h3 : 2 ≤ p) (h4 : 2 ≤ k) (h5 : k * k ≤ p) (h6 : p % k = 0) : fieldB (p : Nat) = false := by
 have := List.all_eq_true.1 (List.all_eq_true.1 field_div_all p (List.mem_range.2 h1)) k (List.mem_range.2 h2)
 simp only [Bool.or_eq_true, decide_eq_true_eq, Bool.not_eq_true'] at this
 rcases this with (((h | h) | h) | h) | h
 ·omega
 ·omega
 ·omega
 ·exact absurd h6 h
 ·exact h
theorem field_prime_nat (p : Nat) (h1 : p < 98) (k : Nat) (h2 : k < 11) (h3 : 2 ≤ p) (h4 : 2 ≤ k) (h5 : p < k * k) (h6 : ∀ j, j < k → 2 ≤ j → p % j ≠ 0) : fieldB (p : Nat) = true := by
 have := List.all_eq_true.1 (List.all_eq_true.1 field_prime_all p (List.mem_range.2 h1)) k (List.mem_range.2 h2)
 simp only [Bool.or_eq_true, decide_eq_true_eq, List.any_eq_true, Bool.and_eq_true, List.mem_range] at this
 rcases this with (((h | h) | h) | ⟨j, hj, h2, h⟩) | h
 ·omega
 ·omega
 ·omega
 ·exact absurd h (h6 j hj h2)
 ·exact h
theorem field_div {p k : Int} (h1 : 2 ≤ p) (h2 : p ≤ 97) (h3 : 2 ≤ k) (h4 : k ≤ 9) (h5 : k * k ≤ p) (h6 : p % k = 0) : fieldB p = false := by
 obtain ⟨p, rfl⟩ := Int.eq_ofNat_of_zero_le (show 0 ≤ p by omega)
 obtain ⟨k, rfl⟩ := Int.eq_ofNat_of_zero_le (show 0 ≤ k by omega)
 exact field_div_nat p (by omega) k (by omega) (by omega) (by omega) (by exact_mod_cast h5) (by exact_mod_cast h6)
theorem field_prime {p k : Int} (h1 : 2 ≤ p) (h2 : p ≤ 97) (h3 : 2 ≤ k) (h4 : k ≤ 10) (h5 : p < k * k) (h6 : ∀ j, 2 ≤ j → j < k → p % j ≠ 0) : fieldB p = true := by
 obtain ⟨p, rfl⟩ := Int.eq_ofNat_of_zero_le (show 0 ≤ p by omega)
 obtain ⟨k, rfl⟩ := Int.eq_ofNat_of_zero_le (show 0 ≤ k by omega)
 exact field_prime_nat p (by omega) k (by omega) (by omega) (by omega) (by exact_mod_cast h5) fun j hj hj2 => by
  have := h6 j (by omega) (by omega)
  exact_mod_cast this
theorem sq_le {k : Int} (h1 : 2 ≤ k) (h2 : k ≤ 10) : 0 ≤ k * k ∧ k * k ≤ 100 ∧ (k = 10 → k * k = 100) := by
 obtain ⟨k, rfl⟩ := Int.eq_ofNat_of_zero_le (show 0 ≤ k by omega)
 have h : k < 11 := by omega
 have : ∀ k, k < 11 → k * k ≤ 100 := by decide
 have := this k h
 refine ⟨by omega, by exact_mod_cast this, fun e => ?_⟩
 obtain rfl : k = 10 := by omega
 rfl
set_option maxHeartbeats 1000000 in
theorem fdGood_any (p : Int) (w : World) :
  Calls Tryz.prog 78 #[.int .i64 p] w fun e w' => e = .returned (.bool (fieldB p)) ∧ w = w' := by
 cases hi : inB p 2 97
 ·go_enter Tryz.func78, Tryz.ntmps78
  go_wp2_with (go_at_call 79; refine (l1In_any _ _ _ _).mono ?_; rintro e w' ⟨rfl, rfl⟩; rw [hi])
  go_ret
  exact ⟨ret_bool (by rw [fieldB, hi]; rfl), rfl⟩
 have hp : 2 ≤ p ∧ p ≤ 97 := by simpa [inB] using hi
 obtain ⟨hp1, hp2⟩ := hp
 go_enter Tryz.func78, Tryz.ntmps78
 go_wp2_with (go_at_call 79; refine (l1In_any _ _ _ _).mono ?_; rintro e w' ⟨rfl, rfl⟩; rw [hi])
 go_loop [3] (fun i => ∃ k : Int, 2 ≤ k ∧ k ≤ 10 ∧ i = .int .i64 k ∧ ∀ j, 2 ≤ j → j < k → p % j ≠ 0) (fun i => 10 - (intOf i).toNat)
 case atStart => exact ⟨2, by omega, by omega, rfl, fun j _ _ => by omega⟩
 case round =>
  obtain ⟨k, hk1, hk2, rfl, hall⟩ := hrel
  have Hall := Lib.hid hall; clear hall
  obtain ⟨q1, q2, q3⟩ := sq_le hk1 hk2
  by_cases hs : k * k ≤ p
  ·have hk3 : k ≤ 9 := by
    rcases (show k ≤ 9 ∨ k = 10 by omega) with h | h
    ·exact h
    ·have := q3 h; omega
   clear q3
   by_cases m : p % k = 0
   ·have hb : (p % k == 0) = true := by simp [m]
    have M := Lib.hid m; clear m
    go_wp2
    go_ret
    exact ⟨ret_bool (by rw [field_div hp1 hp2 hk1 hk3 hs M.out]), rfl⟩
   ·have hb : (p % k == 0) = false := by simp [m]
    have M := Lib.hid m; clear m
    go_wp2
    go_round
    case rel => exact ⟨k + 1, by omega, by omega, by go_num, fun j a b => by
     by_cases hj : j < k
     ·exact Hall.out j a hj
     ·obtain rfl : j = k := by omega
      exact M.out⟩
    case measure => simp [intOf]; omega
  ·clear q3
   go_wp2
   go_ret
   exact ⟨ret_bool (by rw [field_prime hp1 hp2 hk1 hk2 (by omega) Hall.out]), rfl⟩
end Go.Proofs.YtjdbfokbgmbphaaGreatDoor
