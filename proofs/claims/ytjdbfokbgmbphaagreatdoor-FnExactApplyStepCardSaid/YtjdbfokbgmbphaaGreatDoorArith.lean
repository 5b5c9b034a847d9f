/- The program's mod; a multiple of a row added to another row (addTimes). Conditions: numbers of moderate size; the row that is written is the call's own. -/
import Derived.Test.YtjdbfokbgmbphaaGreatDoorIns
namespace Go.Proofs.YtjdbfokbgmbphaaGreatDoor
set_option linter.unusedVariables false
set_option linter.unusedSimpArgs false
open Go.RowKit

theorem tmod_neg {a p : Int} (h : a < 0) (hp : 0 < p) : -p < a.tmod p ∧ a.tmod p ≤ 0 ∧ (a.tmod p < 0 → a % p = a.tmod p + p) ∧ (a.tmod p = 0 → a % p = 0) := by
  have e : a.tmod p = -((-a) % p) := by
    have := Int.neg_tmod (-a) p
    rw [Int.neg_neg] at this
    rw [this, Int.tmod_eq_emod_of_nonneg (by omega)]
  have h1 := Int.emod_nonneg (-a) (show p ≠ 0 by omega)
  have h2 := Int.emod_lt_of_pos (-a) hp
  refine ⟨by omega, by omega, fun hn => ?_, fun h0 => ?_⟩
  · have h3 : a % p = (a.tmod p + p) % p := by
      have := Int.tmod_add_mul_tdiv a p
      have h4 : a = a.tmod p + p * a.tdiv p := this.symm
      conv => lhs; rw [h4]
      simp
    rw [h3, Int.emod_eq_of_lt (by omega) (by omega)]
  · have h4 : a = a.tmod p + p * a.tdiv p := (Int.tmod_add_mul_tdiv a p).symm
    rw [h4, h0]
    simp

theorem mod_any (p a : Int) (w : World) (hp : 1 ≤ p) (hp' : p ≤ 1000) (ha : -9000000000000000000 ≤ a) (ha' : a ≤ 9000000000000000000) :
    Calls Tryz.prog 126 #[.int .i64 p, .int .i64 a] w fun e w' => e = .returned (.int .i64 (a % p)) ∧ w = w' := by
  by_cases h : 0 ≤ a
  · have h1 := Int.emod_nonneg a (show p ≠ 0 by omega)
    have h2 := Int.emod_lt_of_pos a (show 0 < p by omega)
    go_enter Tryz.func126, Tryz.ntmps126
    go_wp2
    go_ret
    exact ⟨rfl, rfl⟩
  · obtain ⟨m1, m2, m3, m4⟩ := tmod_neg (show a < 0 by omega) (show 0 < p by omega)
    obtain ⟨m, hm⟩ : ∃ m, m = a.tmod p := ⟨_, rfl⟩
    rw [← hm] at m1 m2 m3 m4
    have M3 := Lib.hid m3; have M4 := Lib.hid m4; clear m3 m4
    have hm' : a.tmod p = m := hm.symm
    clear hm
    by_cases hn : m < 0
    · go_enter Tryz.func126, Tryz.ntmps126
      go_wp2
      go_ret
      exact ⟨by rw [M3.out hn]; rfl, rfl⟩
    · obtain rfl : m = 0 := by omega
      go_enter Tryz.func126, Tryz.ntmps126
      go_wp2
      go_ret
      exact ⟨by rw [show a % p = 0 from by simpa using M4.out]; rfl, rfl⟩

theorem mul_bd {b y : Int} (h1 : -1000000 ≤ b) (h2 : b ≤ 1000000) (h3 : 0 ≤ y) (h4 : y ≤ 1000) : -1000000000 ≤ b * y ∧ b * y ≤ 1000000000 := by
  have a1 := Int.mul_le_mul_of_nonneg_right h1 h3
  have a2 := Int.mul_le_mul_of_nonneg_right h2 h3
  omega

/-- A cell of a block that lies in an earlier world. -/
theorem boxc {W w' : World} {b : Nat} {cs : Array Value} {t : TypeId} (hb : Below W.heap.size W w') (h : W.heap[b]? = some (.cells cs t (0, 0))) (j : Nat) : w'.cell? ⟨b, j, none⟩ = cs.toList[j]? :=
  blk_cell ((hb.block b (Array.getElem?_eq_some_iff.1 h).1).trans h) j
theorem boxf {W w' : World} {b : Nat} {cs : Array Value} {t : TypeId} (hb : Below W.heap.size W w') (h : W.heap[b]? = some (.cells cs t (0, 0))) (j : Nat) : w'.frozen? ⟨b, j, none⟩ = false :=
  blk_free ((hb.block b (Array.getElem?_eq_some_iff.1 h).1).trans h) j
/-- A block of an earlier world, in a later one. -/
theorem boxb {W w' : World} {b : Nat} {cs : Array Value} {t : TypeId} (hb : Below W.heap.size W w') (h : W.heap[b]? = some (.cells cs t (0, 0))) : w'.heap[b]? = some (.cells cs t (0, 0)) :=
  (hb.block b (Array.getElem?_eq_some_iff.1 h).1).trans h
theorem heap_at3 (w : World) (o1 o2 o3 : Obj) : (((w.alloc o1).alloc o2).alloc o3).heap[w.heap.size]? = some o1 ∧ (((w.alloc o1).alloc o2).alloc o3).heap[w.heap.size + 1]? = some o2 ∧ (((w.alloc o1).alloc o2).alloc o3).heap[w.heap.size + 1 + 1]? = some o3 :=
  ⟨(heap_past _ _ (by simp <;> omega)).trans ((heap_past _ _ (by simp)).trans (heap_at _ _ rfl)), (heap_past _ _ (by simp)).trans (heap_at _ _ (by simp)), heap_at _ _ (by simp)⟩
theorem below_alloc3 (w : World) (o1 o2 o3 : Obj) : Below w.heap.size w (((w.alloc o1).alloc o2).alloc o3) := ((Below.refl _ _).alloc (by simp) _ |>.alloc (by simp) _).alloc (by simp <;> omega) _

theorem cell_set_ne {w : World} {a p : Addr} {u : Value} (h : p.block ≠ a.block) : (w.setCell a u).cell? p = w.cell? p := World.cell?_of_block (w := w) (Below.heap_setCell _ _ _ _ h)
theorem cell_set_ne' {w : World} {a p : Addr} {u : Value} (h : p.block ≠ a.block) : (w.setCell a u).drew.cell? p = w.cell? p := cell_set_ne h
theorem cell_set_ne2 {w : World} {a p : Addr} {u : Value} (h : p.block ≠ a.block) : (w.drew.setCell a u).cell? p = w.cell? p := cell_set_ne h

/-- The multiples of ys added to xs, as far as place k. -/
def addTo (p b : Int) (xs ys : List Int) (k : Nat) : List Int := (List.zipWith (fun x y => (x + b * y) % p) xs ys).take k ++ xs.drop k
def addRow (p b : Int) (xs ys : List Int) : List Int := List.zipWith (fun x y => (x + b * y) % p) xs ys
theorem addTo_zero (p b : Int) (xs ys : List Int) : addTo p b xs ys 0 = xs := by simp [addTo]
theorem addTo_all (p b : Int) (xs ys : List Int) (h : xs.length = ys.length) (k : Nat) (hk : ys.length ≤ k) : addTo p b xs ys k = addRow p b xs ys := by
  unfold addTo addRow
  rw [List.take_of_length_le (by simp; omega), List.drop_of_length_le (by omega), List.append_nil]
theorem addTo_get (p b : Int) (xs ys : List Int) (k : Nat) (hk : k < ys.length) (h : xs.length = ys.length) : (addTo p b xs ys k)[k]? = xs[k]? := by
  unfold addTo
  rw [List.getElem?_append_right (by simp; omega), List.getElem?_drop]
  congr 1
  simp; omega
theorem addTo_set (p b : Int) (xs ys : List Int) (k : Nat) (x y : Int) (hx : xs[k]? = some x) (hy : ys[k]? = some y) : (addTo p b xs ys k).set k ((x + b * y) % p) = addTo p b xs ys (k + 1) := by
  have h1 := (List.getElem?_eq_some_iff.1 hx).1
  have h2 := (List.getElem?_eq_some_iff.1 hy).1
  have hz : (List.zipWith (fun x y => (x + b * y) % p) xs ys)[k]? = some ((x + b * y) % p) := by rw [List.getElem?_zipWith, hx, hy]
  unfold addTo
  rw [List.set_append_right _ _ (by simp; omega), List.take_add_one, hz]
  have e1 : xs.drop k = x :: xs.drop (k + 1) := by
    rw [List.drop_eq_getElem_cons h1]
    congr 1
    rw [List.getElem?_eq_getElem h1] at hx
    exact Option.some.inj hx
  have e2 : k - ((List.zipWith (fun x y => (x + b * y) % p) xs ys).take k).length = 0 := by simp; omega
  rw [e1, e2, List.set_cons_zero]
  simp
theorem addTo_len (p b : Int) (xs ys : List Int) (k : Nat) (h : xs.length = ys.length) (hk : k ≤ xs.length) : (addTo p b xs ys k).length = xs.length := by
  unfold addTo; simp; omega

set_option maxHeartbeats 2000000 in
theorem addTimes_any (p b : Int) (B g cap cap2 : Nat) (A2 : Option Addr) (xs ys : List Int) (w : World) (hp : 1 ≤ p) (hp' : p ≤ 1000) (hb : -1000000 ≤ b) (hb' : b ≤ 1000000)
    (h : w.ownsRow B 3 1 (.slice (some ⟨g, 0, none⟩) xs.length cap) xs.length (xs.map (Value.int .i64))) (h2 : IntsAt w A2 ys) (hap : ∀ b o, A2 = some ⟨b, o, none⟩ → b ≠ g) (hl : xs.length = ys.length)
    (hn : xs.length ≤ 1048576) (hx : ∀ x ∈ xs, 0 ≤ x ∧ x ≤ 1000) (hy : ∀ y ∈ ys, 0 ≤ y ∧ y ≤ 1000) :
    Calls Tryz.prog 145 #[.int .i64 p, .slice (some ⟨g, 0, none⟩) xs.length cap, .int .i64 b, .slice A2 ys.length cap2] w fun e w' => e = .returned (.tuple #[]) ∧
      w'.ownsRow B 3 1 (.slice (some ⟨g, 0, none⟩) xs.length cap) xs.length ((addRow p b xs ys).map (Value.int .i64)) ∧ w.grownBy w' (some g) := by
  have HO := Lib.hid h
  have HL := Lib.hid hl
  have HX := Lib.hid hx
  have HY := Lib.hid hy
  have hm : ys.length < 9223372036854775807 := by omega
  clear h hl hx hy hn
  go_enter Tryz.func145, Tryz.ntmps145
  go_wp2
  go_loopw [12] (fun i wr => ∃ k : Nat, k ≤ ys.length ∧ i = .int .i64 k ∧ wr.ownsRow B 3 1 (.slice (some ⟨g, 0, none⟩) xs.length cap) xs.length ((addTo p b xs ys k).map (Value.int .i64)) ∧ w.grownBy wr (some g))
    (fun i _ => ys.length - (intOf i).toNat)
  case atStart => exact ⟨0, Nat.zero_le _, rfl, by rw [addTo_zero]; exact HO.out, ⟨rfl, rfl, rfl, Nat.le_refl _, fun _ _ _ => rfl⟩⟩
  case round =>
    obtain ⟨k, hk, rfl, hown, hgr⟩ := hrel
    by_cases hlt : k < ys.length
    · have hltx : k < xs.length := by have := HL.out; omega
      obtain ⟨x, hx⟩ := get_of_lt hltx
      obtain ⟨y, hy⟩ := get_of_lt hlt
      obtain ⟨bb, o, rfl, hc⟩ := h2.here hlt
      have hcy : wr.cell? ⟨bb, o + k, none⟩ = some (.int .i64 y) := hgr.cell (hc _ _ hy) (by have := hap bb o rfl; simpa using this)
      have hcx : wr.cell? ⟨g, k, none⟩ = some (.int .i64 x) := by
        rw [hown.cellAt k (by omega), List.getElem?_map, addTo_get _ _ _ _ _ hlt HL.out, hx]; rfl
      have hfr := hown.frozenAt k
      obtain ⟨x1, x2⟩ := HX.out x (List.mem_of_getElem? hx)
      obtain ⟨y1, y2⟩ := HY.out y (List.mem_of_getElem? hy)
      obtain ⟨m1, m2⟩ := mul_bd hb hb' y1 y2
      have hst := hown.stored k (.int .i64 ((x + b * y) % p))
      rw [← List.map_set, addTo_set _ _ _ _ _ _ _ hx hy] at hst
      have HS := Lib.hid hst.1
      have HG := Lib.hid (grownBy_trans hgr hst.2)
      clear hst hx hy hc hown hgr h2 hap
      go_wp2_with (go_at_call 126; refine (mod_any _ _ _ hp hp' (by omega) (by omega)).mono ?_; rintro e w' ⟨rfl, rfl⟩)
      go_roundw
      case rel => exact ⟨k+1, by omega, by go_num, HS.out, HG.out⟩
      case measure => simp [intOf]; omega
    · go_wp2
      go_end0
      rw [addTo_all _ _ _ _ HL.out _ (by omega)] at hown
      exact ⟨rfl, hown, hgr⟩
end Go.Proofs.YtjdbfokbgmbphaaGreatDoor
