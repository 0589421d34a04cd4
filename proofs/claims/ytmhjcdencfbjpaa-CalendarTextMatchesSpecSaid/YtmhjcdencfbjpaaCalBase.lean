/-
  Faults as values, their comparison, the contracts of the makers of faults and of the test of a range.
-/
import Derived.Test.YtmhjcdencfbjpaaChecked
import Derived.Test.YtmhjcdencfbjpaaKit
import Derived.Test.YtmhjcdencfbjpaaCalMath
import Derived.Outline
import Derived.KernelRfl
import Derived.RegionTactic
import Derived.Deep.DeepCutAuto
namespace Go.Proofs.Ytmhjcdencfbjpaa
open Go.RowKit
set_option linter.unusedVariables false
set_option linter.unusedSimpArgs false

theorem fault_calls (c i : Int) (w : World) : Calls Try.prog 24 #[.int .i64 c, .int .i64 i] w fun e w' => e = .returned (.agg #[.int .i64 c, .int .i64 i]) ∧ w.alloc (.cells #[.int .i64 c, .int .i64 i] 24) = w' := by
  go_enter Try.func24, Try.ntmps24
  go_wp2
  exact bodyPost_ret (v := .agg #[.int .i64 c, .int .i64 i]) (by simp [results, Try.results24, go_sem]) rfl ⟨rfl, rfl⟩
theorem at_calls (c i : Int) (w : World) : Calls Try.prog 17 #[.int .i64 c, .int .i64 i] w fun e w' => e = .returned (.agg #[.int .i64 c, .int .i64 i]) ∧ w.alloc (.cells #[.int .i64 c, .int .i64 i] 24) = w' := by
  go_enter Try.func17, Try.ntmps17
  go_wp2
  exact bodyPost_ret (v := .agg #[.int .i64 c, .int .i64 i]) (by simp [results, Try.results17, go_sem]) rfl ⟨rfl, rfl⟩
theorem in_yes {n l h : Int} (w : World) (h1 : l ≤ n) (h2 : n ≤ h) :
    Calls Try.prog 16 #[.int .i64 n, .int .i64 l, .int .i64 h] w fun e w' => e = .returned (.bool true) ∧ w = w' := by
  go_enter Try.func16, Try.ntmps16
  go_wp2
  go_ret
  exact ⟨rfl, rfl⟩
theorem in_no {n l h : Int} (w : World) (hn : n < l ∨ h < n) :
    Calls Try.prog 16 #[.int .i64 n, .int .i64 l, .int .i64 h] w fun e w' => e = .returned (.bool false) ∧ w = w' := by
  by_cases h1 : l ≤ n
  · have h2 : ¬ n ≤ h := by omega
    clear hn
    go_enter Try.func16, Try.ntmps16
    go_wp2
    go_ret
    exact ⟨rfl, rfl⟩
  · clear hn
    go_enter Try.func16, Try.ntmps16
    go_wp2
    go_ret
    exact ⟨rfl, rfl⟩

/-- a chain of calls, each of which makes memory of its own -/
theorem chain {w w1 w2 : World} (h1 : Below w.heap.size w w1) (h2 : Below w1.heap.size w1 w2) : Below w.heap.size w w2 := h1.trans (h2.mono h1.size)
theorem chain_alloc {w w1 : World} (h1 : Below w.heap.size w w1) (o : Obj) : Below w.heap.size w (w1.alloc o) := h1.alloc h1.size o

/-- the leap years of both texts -/
def lpB (y : Int) : Bool := decide (y % 4 = 0 ∧ (y % 100 ≠ 0 ∨ y % 400 = 0))
theorem lpB_lp (y : Int) : lp y = if lpB y = true then 1 else 0 := by unfold lp lpB; simp only [decide_eq_true_eq]
theorem leap_calls (y : Int) (w : World) (h : 0 ≤ y) (h2 : y ≤ 1000000) : Calls Try.prog 32 #[.int .i64 y] w fun e w' => e = .returned (.bool (lpB y)) ∧ w = w' := by
  by_cases h4 : y % 4 = 0
  · have d4 : (y % 4 == 0) = true := by simp [h4]
    by_cases h100 : y % 100 = 0
    · have d100 : (y % 100 != 0) = false := by simp [h100]
      by_cases h400 : y % 400 = 0
      · have d400 : (y % 400 == 0) = true := by simp [h400]
        have HL := Lib.hid (show lpB y = true from decide_eq_true ⟨h4, .inr h400⟩)
        clear h4 h100 h400
        go_enter Try.func32, Try.ntmps32
        go_wp2
        go_ret
        exact ⟨by rw [HL.out]; rfl, rfl⟩
      · have d400 : (y % 400 == 0) = false := by simp [h400]
        have HL := Lib.hid (show lpB y = false from decide_eq_false (by omega))
        clear h4 h100 h400
        go_enter Try.func32, Try.ntmps32
        go_wp2
        go_ret
        exact ⟨by rw [HL.out]; rfl, rfl⟩
    · have d100 : (y % 100 != 0) = true := by simp [h100]
      have HL := Lib.hid (show lpB y = true from decide_eq_true ⟨h4, .inl h100⟩)
      clear h4 h100
      go_enter Try.func32, Try.ntmps32
      go_wp2
      go_ret
      exact ⟨by rw [HL.out]; rfl, rfl⟩
  · have d4 : (y % 4 == 0) = false := by simp [h4]
    have HL := Lib.hid (show lpB y = false from decide_eq_false (by omega))
    clear h4
    go_enter Try.func32, Try.ntmps32
    go_wp2
    go_ret
    exact ⟨by rw [HL.out]; rfl, rfl⟩
theorem refLeap_calls (y : Int) (w : World) (h : 0 ≤ y) (h2 : y ≤ 1000000) : Calls Try.prog 30 #[.int .i64 y] w fun e w' => e = .returned (.bool (lpB y)) ∧ w = w' := by
  by_cases h400 : y % 400 = 0
  · have d400 : (y % 400 == 0) = true := by simp [h400]
    have HL := Lib.hid (show lpB y = true from decide_eq_true (by omega))
    clear h400
    go_enter Try.func30, Try.ntmps30
    go_wp2
    go_ret
    exact ⟨by rw [HL.out]; rfl, rfl⟩
  · have d400 : (y % 400 == 0) = false := by simp [h400]
    by_cases h4 : y % 4 = 0
    · have d4 : (y % 4 == 0) = true := by simp [h4]
      by_cases h100 : y % 100 = 0
      · have d100 : (y % 100 != 0) = false := by simp [h100]
        have HL := Lib.hid (show lpB y = false from decide_eq_false (by omega))
        clear h4 h100 h400
        go_enter Try.func30, Try.ntmps30
        go_wp2
        go_ret
        exact ⟨by rw [HL.out]; rfl, rfl⟩
      · have d100 : (y % 100 != 0) = true := by simp [h100]
        have HL := Lib.hid (show lpB y = true from decide_eq_true ⟨h4, .inl h100⟩)
        clear h4 h100 h400
        go_enter Try.func30, Try.ntmps30
        go_wp2
        go_ret
        exact ⟨by rw [HL.out]; rfl, rfl⟩
    · have d4 : (y % 4 == 0) = false := by simp [h4]
      have HL := Lib.hid (show lpB y = false from decide_eq_false (by omega))
      clear h4 h400
      go_enter Try.func30, Try.ntmps30
      go_wp2
      go_ret
      exact ⟨by rw [HL.out]; rfl, rfl⟩
end Go.Proofs.Ytmhjcdencfbjpaa
