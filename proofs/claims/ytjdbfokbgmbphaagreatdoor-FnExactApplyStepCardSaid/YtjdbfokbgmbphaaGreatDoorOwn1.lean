/- Slices of integers that a call makes: append one by one (stColumn), copies (clone, l1Own, toIntS), zeros. Conditions: lengths of at most 2^40. -/
import Derived.Test.YtjdbfokbgmbphaaGreatDoorRead4
namespace Go.Proofs.YtjdbfokbgmbphaaGreatDoor
set_option linter.unusedVariables false
set_option linter.unusedSimpArgs false
open Go.RowKit

theorem infoInt : (Tryz.prog.info? 3).map (fun i => (i.zero, i.size, i.bytes)) = some (some (.int .i64 0), 1, 8) := by kernel_rfl

/-- The slice v is the call's own from block B on and holds the integers xs. -/
def OwnInts (w : World) (B : Nat) (v : Value) (xs : List Int) : Prop := w.ownsRow B 3 1 v xs.length (xs.map (Value.int .i64))

theorem OwnInts.view {w : World} {B : Nat} {v : Value} {xs : List Int} (h : OwnInts w B v xs) : ∃ A cap, v = .slice A xs.length cap ∧ IntsAt w A xs ∧ xs.length ≤ cap ∧ cap ≤ maxLen := by
  have hc := fun g => World.ownsRow.cells h (g := g)
  obtain ⟨h1, h2⟩ := h
  rcases h2 with ⟨rfl, hn⟩ | ⟨g, cap, cur, rfl, hb, hg, hn, hm, hr⟩
  · exact ⟨none, 0, by rw [hn], Or.inl (List.eq_nil_of_length_eq_zero hn), by omega, by decide⟩
  · refine ⟨_, cap, rfl, Or.inr ⟨g, 0, rfl, fun k x hk => ?_⟩, hn, hm⟩
    have := hc g rfl k (.int .i64 x) (by rw [List.getElem?_map, hk]; rfl)
    have e : (⟨g, 0, none⟩ : Addr).add k = ⟨g, 0 + k, none⟩ := by unfold Addr.add; split <;> simp_all
    rwa [e] at this

theorem OwnInts.nil (w : World) (B : Nat) : OwnInts w B (.slice none 0 0) [] := World.ownsRow_nil _ _ _ _

/-- What is owned is kept where nothing below the heap's end has turned. -/
theorem OwnInts.ext {w w' : World} {B : Nat} {v : Value} {xs : List Int} (h : OwnInts w B v xs) (hb : Below w.heap.size w w') : OwnInts w' B v xs := by
  refine World.ownsRow.kept h (row := none) ⟨hb.os, hb.tape, hb.output, hb.size, fun k hk _ => hb.block k hk⟩ ?_
  cases v.ownBlock <;> simp

/-- 'append(s, y)' of one number that lies in a block just made. -/
theorem wp_append1 {ops : Array Oper} {rest : List Oper} {o : Oper} {a : Act} {Q : Exit → Act → World → Prop} (hgd : o.guard = none) (s x : Operand)
    (ho : o.op = .call { callee := .builtin .append, args := #[s, x], argTypes := #[25, 25] }) (B : Nat) (W : World) (v : Value) (xs : List Int) (y : Int)
    (hs : a.eval s = v) (hx : a.eval x = .slice (some ⟨W.heap.size, 0, none⟩) 1 1) (hown : OwnInts W B v xs) (hlen : xs.length + 1 ≤ 1099511627776) (hB : B ≤ W.heap.size)
    (h : ∀ v' w', OwnInts w' B v' (xs ++ [y]) → W.grownBy w' v.ownBlock → Below B W w' → wpList Tryz.prog ops Q rest (a.put o.dst v') w') :
    wpList Tryz.prog ops Q (o :: rest) a (W.alloc (.cells #[.int .i64 y] 3)) := by
  obtain ⟨i0, hi, hz0, hz1, hz2⟩ := info_parts infoInt
  have ho1 := World.ownsRow.alloc hown (.cells #[.int .i64 y] 3)
  refine wpList_append_own _ hgd s x 25 ho B 3 i0 (.int .i64 0) 1 8 Tryz.underlying25 hi hz0 hz1 hz2 rfl (by decide) v _ _ hs ho1 ⟨W.heap.size, 0, none⟩ 1 1 [.int .i64 y] hx rfl ?_ ?_ ?_ ?_ ?_ ?_
  · intro j u hj
    match j, hj with
    | 0, hj => simp at hj; subst hj; simp [Addr.add]
    | j + 1, hj => simp at hj
  · intro u hu; simp at hu; subst hu; rfl
  · unfold maxLen; omega
  · omega
  · simp; omega
  · intro v' w' hown' hgrow _
    have hg : W.grownBy w' v.ownBlock := ⟨hgrow.os, hgrow.tape, hgrow.output, by have := hgrow.size; simp at this; omega, fun k hk hne => (hgrow.block k (by simp; omega) hne).trans (heap_alloc_old W _ hk)⟩
    refine h v' w' (by simpa [OwnInts] using hown') hg ?_
    exact (Below.refl _ _).grown hg hB fun k hk => (World.ownsRow.lt hown k hk).1

def colOf (rows : List (List Int)) (c : Nat) : List Int := rows.map fun r => r.getD c 0

theorem col_take_succ {rows : List (List Int)} {c k : Nat} {r : List Int} {x : Int} (hr : rows[k]? = some r) (hx : r[c]? = some x) : (colOf rows c).take (k + 1) = (colOf rows c).take k ++ [x] := by
  rw [List.take_add_one]
  simp [colOf, hr, hx]
theorem col_len (rows : List (List Int)) (c k : Nat) (hk : k ≤ rows.length) : ((colOf rows c).take k).length = k := by simp [colOf]; omega

set_option maxHeartbeats 1000000 in
theorem stColumn_any (v h b : Int) (A : Option Addr) (cap : Nat) (rows : List (List Int)) (w : World) (hR : RowsAt w A rows) (hm : rows.length ≤ 1000)
    (hv : 0 ≤ v) (hv' : v ≤ 24) (hh' : h ≤ 100) (hb : 0 ≤ b) (hb' : b < h) (hl : ∀ r ∈ rows, (r.length : Int) = v + h) :
    Calls Tryz.prog 84 #[.agg #[.int .i64 v, .int .i64 h, .slice A rows.length cap], .int .i64 b] w fun e w' =>
      ∃ u, e = .returned u ∧ OwnInts w' (w.heap.size + 1) u (colOf rows (v + b).toNat) ∧ Below w.heap.size w w' := by
  obtain ⟨i0, hi, hz0, hz1, hz2⟩ := info_parts infoInt
  have hB := (Below.refl w.heap.size w).alloc (Nat.le_refl _) (.cells #[.int .i64 v, .int .i64 h, .slice A rows.length cap] 30)
  go_enter Tryz.func84, Tryz.ntmps84
  go_wp2
  go_loopw [5, 11] (fun u i wr => ∃ k : Nat, k ≤ rows.length ∧ i = .int .i64 k ∧ OwnInts wr (w.heap.size + 1) u ((colOf rows (v + b).toNat).take k) ∧ Below (w.heap.size + 1) (w.alloc (.cells #[.int .i64 v, .int .i64 h, .slice A rows.length cap] 30)) wr)
    (fun _ i _ => rows.length - (intOf i).toNat)
  case atStart => exact ⟨0, Nat.zero_le _, rfl, by simpa using OwnInts.nil _ _, Below.refl _ _⟩
  case round =>
    obtain ⟨k, hk, rfl, hown, hbel⟩ := hrel
    have Hown := Lib.hid hown; clear hown
    have hx0 : wr.cell? ⟨w.heap.size, 0, none⟩ = some (.int .i64 v) := (hbel.cell (p := ⟨w.heap.size, 0, none⟩) (by simp)).trans (by simp)
    by_cases hlt : k < rows.length
    · obtain ⟨r, hr⟩ := get_of_lt hlt
      have hbw : Below w.heap.size w wr := hB.trans (hbel.mono (by omega))
      obtain ⟨bb, o, rfl, hc⟩ := (hR.ext hbw).here hlt
      obtain ⟨A', cap', hck, hin⟩ := hc k r hr
      have hrl := hl r (List.mem_of_getElem? hr)
      have hlt2 : (v + b).toNat < r.length := by omega
      obtain ⟨x, hx⟩ := get_of_lt hlt2
      obtain ⟨b2, o2, rfl, hc2⟩ := hin.here hlt2
      have hcx := hc2 _ _ hx
      have HS := Lib.hid (col_take_succ hr hx)
      clear hr hc hl hR hin hc2 hx
      have hi1 : 0 ≤ v + b := by omega
      have hi2 : v + b < (r.length : Int) := by omega
      have Hrl := Lib.hid hrl; clear hrl
      have HL := Lib.hid (col_len rows (v + b).toNat k hk)
      have hsz := hbel.size
      simp only [World.size_alloc] at hsz
      go_wp2_with ((at_builtin; refine wp_append1 rfl _ _ rfl _ wr _ _ _ rfl rfl Hown.out (by rw [HL.out]; omega) (by omega) ?_; intro u' w1 hown1 _ hbel1))
      go_roundw
      case rel => exact ⟨k+1, by omega, by go_num, by rw [HS.out]; exact hown1, hbel.trans hbel1⟩
      case measure => simp [intOf]; omega
    · go_wp2
      go_ret
      exact ⟨_, rfl, by have h := Hown.out; rwa [List.take_of_length_le (by simp [colOf]; omega)] at h, hB.trans (hbel.mono (by omega))⟩
end Go.Proofs.YtjdbfokbgmbphaaGreatDoor
