/-
  The contracts of the small functions of the calendar and of the reference's: days of months, days before years, numbers of days.
-/
import Derived.Test.YtmhjcdencfbjpaaCalBase
namespace Go.Proofs.Ytmhjcdencfbjpaa
open Go.RowKit
set_option linter.unusedVariables false
set_option linter.unusedSimpArgs false

theorem before_calls (y : Int) (w : World) (h1 : 1 ≤ y) (h2 : y ≤ 10000) : Calls Try.prog 29 #[.int .i64 y] w fun e w' => e = .returned (.int .i64 (bef y)) ∧ w = w' := by
  go_enter Try.func29, Try.ntmps29
  go_wp2
  go_ret
  exact ⟨rfl, rfl⟩

theorem monthDays_2 (y : Int) (w : World) (h : 0 ≤ y) (h2 : y ≤ 1000000) : Calls Try.prog 25 #[.int .i64 y, .int .i64 2] w fun e w' => e = .returned (.int .i64 (dim y 2)) ∧ w = w' := by
  have hd : dim y 2 = 28 + lp y := rfl
  cases hb : lpB y
  · have HD := Lib.hid (show dim y 2 = 28 by rw [hd, lpB_lp, hb]; rfl)
    have HB := Lib.hid hb
    clear hd hb
    have hix : ∀ W : World, (Instr.index 49 (.agg #[.int .i64 31, .int .i64 28, .int .i64 31, .int .i64 30, .int .i64 31, .int .i64 30, .int .i64 31, .int .i64 31, .int .i64 30, .int .i64 31, .int .i64 30, .int .i64 31]) (.int .i64 1)).run Try.prog W = .ok (.int .i64 28) W := fun _ => by kernel_rfl
    go_enter Try.func25, Try.ntmps25
    go_wp2_with fail
    refine (leap_calls y _ h h2).mono ?_
    rintro e w' ⟨rfl, rfl⟩
    rw [HB.out]
    go_wp2
    go_ret
    exact ⟨by rw [HD.out]; rfl, rfl⟩
  · have HD := Lib.hid (show dim y 2 = 29 by rw [hd, lpB_lp, hb]; rfl)
    have HB := Lib.hid hb
    clear hd hb
    go_enter Try.func25, Try.ntmps25
    go_wp2_with fail
    refine (leap_calls y _ h h2).mono ?_
    rintro e w' ⟨rfl, rfl⟩
    rw [HB.out]
    go_wp2
    go_ret
    exact ⟨by rw [HD.out]; rfl, rfl⟩
theorem monthDays_1 (y : Int) (w : World) : Calls Try.prog 25 #[.int .i64 y, .int .i64 1] w fun e w' => e = .returned (.int .i64 (dim y 1)) ∧ w = w' := by
  have hix : ∀ W : World, (Instr.index 49 (.agg #[.int .i64 31, .int .i64 28, .int .i64 31, .int .i64 30, .int .i64 31, .int .i64 30, .int .i64 31, .int .i64 31, .int .i64 30, .int .i64 31, .int .i64 30, .int .i64 31]) (.int .i64 0)).run Try.prog W = .ok (.int .i64 31) W := fun _ => by kernel_rfl
  go_enter Try.func25, Try.ntmps25
  go_wp2
  go_ret
  exact ⟨rfl, rfl⟩
theorem monthDays_3 (y : Int) (w : World) : Calls Try.prog 25 #[.int .i64 y, .int .i64 3] w fun e w' => e = .returned (.int .i64 (dim y 3)) ∧ w = w' := by
  have hix : ∀ W : World, (Instr.index 49 (.agg #[.int .i64 31, .int .i64 28, .int .i64 31, .int .i64 30, .int .i64 31, .int .i64 30, .int .i64 31, .int .i64 31, .int .i64 30, .int .i64 31, .int .i64 30, .int .i64 31]) (.int .i64 2)).run Try.prog W = .ok (.int .i64 31) W := fun _ => by kernel_rfl
  go_enter Try.func25, Try.ntmps25
  go_wp2
  go_ret
  exact ⟨rfl, rfl⟩
theorem monthDays_4 (y : Int) (w : World) : Calls Try.prog 25 #[.int .i64 y, .int .i64 4] w fun e w' => e = .returned (.int .i64 (dim y 4)) ∧ w = w' := by
  have hix : ∀ W : World, (Instr.index 49 (.agg #[.int .i64 31, .int .i64 28, .int .i64 31, .int .i64 30, .int .i64 31, .int .i64 30, .int .i64 31, .int .i64 31, .int .i64 30, .int .i64 31, .int .i64 30, .int .i64 31]) (.int .i64 3)).run Try.prog W = .ok (.int .i64 30) W := fun _ => by kernel_rfl
  go_enter Try.func25, Try.ntmps25
  go_wp2
  go_ret
  exact ⟨rfl, rfl⟩
theorem monthDays_5 (y : Int) (w : World) : Calls Try.prog 25 #[.int .i64 y, .int .i64 5] w fun e w' => e = .returned (.int .i64 (dim y 5)) ∧ w = w' := by
  have hix : ∀ W : World, (Instr.index 49 (.agg #[.int .i64 31, .int .i64 28, .int .i64 31, .int .i64 30, .int .i64 31, .int .i64 30, .int .i64 31, .int .i64 31, .int .i64 30, .int .i64 31, .int .i64 30, .int .i64 31]) (.int .i64 4)).run Try.prog W = .ok (.int .i64 31) W := fun _ => by kernel_rfl
  go_enter Try.func25, Try.ntmps25
  go_wp2
  go_ret
  exact ⟨rfl, rfl⟩
theorem monthDays_6 (y : Int) (w : World) : Calls Try.prog 25 #[.int .i64 y, .int .i64 6] w fun e w' => e = .returned (.int .i64 (dim y 6)) ∧ w = w' := by
  have hix : ∀ W : World, (Instr.index 49 (.agg #[.int .i64 31, .int .i64 28, .int .i64 31, .int .i64 30, .int .i64 31, .int .i64 30, .int .i64 31, .int .i64 31, .int .i64 30, .int .i64 31, .int .i64 30, .int .i64 31]) (.int .i64 5)).run Try.prog W = .ok (.int .i64 30) W := fun _ => by kernel_rfl
  go_enter Try.func25, Try.ntmps25
  go_wp2
  go_ret
  exact ⟨rfl, rfl⟩
theorem monthDays_7 (y : Int) (w : World) : Calls Try.prog 25 #[.int .i64 y, .int .i64 7] w fun e w' => e = .returned (.int .i64 (dim y 7)) ∧ w = w' := by
  have hix : ∀ W : World, (Instr.index 49 (.agg #[.int .i64 31, .int .i64 28, .int .i64 31, .int .i64 30, .int .i64 31, .int .i64 30, .int .i64 31, .int .i64 31, .int .i64 30, .int .i64 31, .int .i64 30, .int .i64 31]) (.int .i64 6)).run Try.prog W = .ok (.int .i64 31) W := fun _ => by kernel_rfl
  go_enter Try.func25, Try.ntmps25
  go_wp2
  go_ret
  exact ⟨rfl, rfl⟩
theorem monthDays_8 (y : Int) (w : World) : Calls Try.prog 25 #[.int .i64 y, .int .i64 8] w fun e w' => e = .returned (.int .i64 (dim y 8)) ∧ w = w' := by
  have hix : ∀ W : World, (Instr.index 49 (.agg #[.int .i64 31, .int .i64 28, .int .i64 31, .int .i64 30, .int .i64 31, .int .i64 30, .int .i64 31, .int .i64 31, .int .i64 30, .int .i64 31, .int .i64 30, .int .i64 31]) (.int .i64 7)).run Try.prog W = .ok (.int .i64 31) W := fun _ => by kernel_rfl
  go_enter Try.func25, Try.ntmps25
  go_wp2
  go_ret
  exact ⟨rfl, rfl⟩
theorem monthDays_9 (y : Int) (w : World) : Calls Try.prog 25 #[.int .i64 y, .int .i64 9] w fun e w' => e = .returned (.int .i64 (dim y 9)) ∧ w = w' := by
  have hix : ∀ W : World, (Instr.index 49 (.agg #[.int .i64 31, .int .i64 28, .int .i64 31, .int .i64 30, .int .i64 31, .int .i64 30, .int .i64 31, .int .i64 31, .int .i64 30, .int .i64 31, .int .i64 30, .int .i64 31]) (.int .i64 8)).run Try.prog W = .ok (.int .i64 30) W := fun _ => by kernel_rfl
  go_enter Try.func25, Try.ntmps25
  go_wp2
  go_ret
  exact ⟨rfl, rfl⟩
theorem monthDays_10 (y : Int) (w : World) : Calls Try.prog 25 #[.int .i64 y, .int .i64 10] w fun e w' => e = .returned (.int .i64 (dim y 10)) ∧ w = w' := by
  have hix : ∀ W : World, (Instr.index 49 (.agg #[.int .i64 31, .int .i64 28, .int .i64 31, .int .i64 30, .int .i64 31, .int .i64 30, .int .i64 31, .int .i64 31, .int .i64 30, .int .i64 31, .int .i64 30, .int .i64 31]) (.int .i64 9)).run Try.prog W = .ok (.int .i64 31) W := fun _ => by kernel_rfl
  go_enter Try.func25, Try.ntmps25
  go_wp2
  go_ret
  exact ⟨rfl, rfl⟩
theorem monthDays_11 (y : Int) (w : World) : Calls Try.prog 25 #[.int .i64 y, .int .i64 11] w fun e w' => e = .returned (.int .i64 (dim y 11)) ∧ w = w' := by
  have hix : ∀ W : World, (Instr.index 49 (.agg #[.int .i64 31, .int .i64 28, .int .i64 31, .int .i64 30, .int .i64 31, .int .i64 30, .int .i64 31, .int .i64 31, .int .i64 30, .int .i64 31, .int .i64 30, .int .i64 31]) (.int .i64 10)).run Try.prog W = .ok (.int .i64 30) W := fun _ => by kernel_rfl
  go_enter Try.func25, Try.ntmps25
  go_wp2
  go_ret
  exact ⟨rfl, rfl⟩
theorem monthDays_12 (y : Int) (w : World) : Calls Try.prog 25 #[.int .i64 y, .int .i64 12] w fun e w' => e = .returned (.int .i64 (dim y 12)) ∧ w = w' := by
  have hix : ∀ W : World, (Instr.index 49 (.agg #[.int .i64 31, .int .i64 28, .int .i64 31, .int .i64 30, .int .i64 31, .int .i64 30, .int .i64 31, .int .i64 31, .int .i64 30, .int .i64 31, .int .i64 30, .int .i64 31]) (.int .i64 11)).run Try.prog W = .ok (.int .i64 31) W := fun _ => by kernel_rfl
  go_enter Try.func25, Try.ntmps25
  go_wp2
  go_ret
  exact ⟨rfl, rfl⟩
theorem monthDays_calls (y m : Int) (w : World) (h : 0 ≤ y) (h2 : y ≤ 1000000) (h3 : 1 ≤ m) (h4 : m ≤ 12) : Calls Try.prog 25 #[.int .i64 y, .int .i64 m] w fun e w' => e = .returned (.int .i64 (dim y m)) ∧ w = w' := by
  rcases (show m = 1 ∨ m = 2 ∨ m = 3 ∨ m = 4 ∨ m = 5 ∨ m = 6 ∨ m = 7 ∨ m = 8 ∨ m = 9 ∨ m = 10 ∨ m = 11 ∨ m = 12 by omega) with rfl | rfl | rfl | rfl | rfl | rfl | rfl | rfl | rfl | rfl | rfl | rfl
  · exact monthDays_1 y w
  · exact monthDays_2 y w h h2
  · exact monthDays_3 y w
  · exact monthDays_4 y w
  · exact monthDays_5 y w
  · exact monthDays_6 y w
  · exact monthDays_7 y w
  · exact monthDays_8 y w
  · exact monthDays_9 y w
  · exact monthDays_10 y w
  · exact monthDays_11 y w
  · exact monthDays_12 y w

theorem refMonthDays_2 (y : Int) (w : World) (h : 0 ≤ y) (h2 : y ≤ 1000000) : Calls Try.prog 18 #[.int .i64 y, .int .i64 2] w fun e w' => e = .returned (.int .i64 (dim y 2)) ∧ w = w' := by
  have hd : dim y 2 = 28 + lp y := rfl
  cases hb : lpB y
  · have HD := Lib.hid (show dim y 2 = 28 by rw [hd, lpB_lp, hb]; rfl)
    have HB := Lib.hid hb
    clear hd hb
    go_enter Try.func18, Try.ntmps18
    go_wp2_with fail
    refine (refLeap_calls y _ h h2).mono ?_
    rintro e w' ⟨rfl, rfl⟩
    rw [HB.out]
    go_wp2
    go_ret
    exact ⟨by rw [HD.out]; rfl, rfl⟩
  · have HD := Lib.hid (show dim y 2 = 29 by rw [hd, lpB_lp, hb]; rfl)
    have HB := Lib.hid hb
    clear hd hb
    go_enter Try.func18, Try.ntmps18
    go_wp2_with fail
    refine (refLeap_calls y _ h h2).mono ?_
    rintro e w' ⟨rfl, rfl⟩
    rw [HB.out]
    go_wp2
    go_ret
    exact ⟨by rw [HD.out]; rfl, rfl⟩
theorem refMonthDays_1 (y : Int) (w : World) : Calls Try.prog 18 #[.int .i64 y, .int .i64 1] w fun e w' => e = .returned (.int .i64 (dim y 1)) ∧ w = w' := by
  go_enter Try.func18, Try.ntmps18
  go_wp2
  go_ret
  exact ⟨rfl, rfl⟩
theorem refMonthDays_3 (y : Int) (w : World) : Calls Try.prog 18 #[.int .i64 y, .int .i64 3] w fun e w' => e = .returned (.int .i64 (dim y 3)) ∧ w = w' := by
  go_enter Try.func18, Try.ntmps18
  go_wp2
  go_ret
  exact ⟨rfl, rfl⟩
theorem refMonthDays_4 (y : Int) (w : World) : Calls Try.prog 18 #[.int .i64 y, .int .i64 4] w fun e w' => e = .returned (.int .i64 (dim y 4)) ∧ w = w' := by
  go_enter Try.func18, Try.ntmps18
  go_wp2
  go_ret
  exact ⟨rfl, rfl⟩
theorem refMonthDays_5 (y : Int) (w : World) : Calls Try.prog 18 #[.int .i64 y, .int .i64 5] w fun e w' => e = .returned (.int .i64 (dim y 5)) ∧ w = w' := by
  go_enter Try.func18, Try.ntmps18
  go_wp2
  go_ret
  exact ⟨rfl, rfl⟩
theorem refMonthDays_6 (y : Int) (w : World) : Calls Try.prog 18 #[.int .i64 y, .int .i64 6] w fun e w' => e = .returned (.int .i64 (dim y 6)) ∧ w = w' := by
  go_enter Try.func18, Try.ntmps18
  go_wp2
  go_ret
  exact ⟨rfl, rfl⟩
theorem refMonthDays_7 (y : Int) (w : World) : Calls Try.prog 18 #[.int .i64 y, .int .i64 7] w fun e w' => e = .returned (.int .i64 (dim y 7)) ∧ w = w' := by
  go_enter Try.func18, Try.ntmps18
  go_wp2
  go_ret
  exact ⟨rfl, rfl⟩
theorem refMonthDays_8 (y : Int) (w : World) : Calls Try.prog 18 #[.int .i64 y, .int .i64 8] w fun e w' => e = .returned (.int .i64 (dim y 8)) ∧ w = w' := by
  go_enter Try.func18, Try.ntmps18
  go_wp2
  go_ret
  exact ⟨rfl, rfl⟩
theorem refMonthDays_9 (y : Int) (w : World) : Calls Try.prog 18 #[.int .i64 y, .int .i64 9] w fun e w' => e = .returned (.int .i64 (dim y 9)) ∧ w = w' := by
  go_enter Try.func18, Try.ntmps18
  go_wp2
  go_ret
  exact ⟨rfl, rfl⟩
theorem refMonthDays_10 (y : Int) (w : World) : Calls Try.prog 18 #[.int .i64 y, .int .i64 10] w fun e w' => e = .returned (.int .i64 (dim y 10)) ∧ w = w' := by
  go_enter Try.func18, Try.ntmps18
  go_wp2
  go_ret
  exact ⟨rfl, rfl⟩
theorem refMonthDays_11 (y : Int) (w : World) : Calls Try.prog 18 #[.int .i64 y, .int .i64 11] w fun e w' => e = .returned (.int .i64 (dim y 11)) ∧ w = w' := by
  go_enter Try.func18, Try.ntmps18
  go_wp2
  go_ret
  exact ⟨rfl, rfl⟩
theorem refMonthDays_12 (y : Int) (w : World) : Calls Try.prog 18 #[.int .i64 y, .int .i64 12] w fun e w' => e = .returned (.int .i64 (dim y 12)) ∧ w = w' := by
  go_enter Try.func18, Try.ntmps18
  go_wp2
  go_ret
  exact ⟨rfl, rfl⟩
theorem refMonthDays_calls (y m : Int) (w : World) (h : 0 ≤ y) (h2 : y ≤ 1000000) (h3 : 1 ≤ m) (h4 : m ≤ 12) : Calls Try.prog 18 #[.int .i64 y, .int .i64 m] w fun e w' => e = .returned (.int .i64 (dim y m)) ∧ w = w' := by
  rcases (show m = 1 ∨ m = 2 ∨ m = 3 ∨ m = 4 ∨ m = 5 ∨ m = 6 ∨ m = 7 ∨ m = 8 ∨ m = 9 ∨ m = 10 ∨ m = 11 ∨ m = 12 by omega) with rfl | rfl | rfl | rfl | rfl | rfl | rfl | rfl | rfl | rfl | rfl | rfl
  · exact refMonthDays_1 y w
  · exact refMonthDays_2 y w h h2
  · exact refMonthDays_3 y w
  · exact refMonthDays_4 y w
  · exact refMonthDays_5 y w
  · exact refMonthDays_6 y w
  · exact refMonthDays_7 y w
  · exact refMonthDays_8 y w
  · exact refMonthDays_9 y w
  · exact refMonthDays_10 y w
  · exact refMonthDays_11 y w
  · exact refMonthDays_12 y w

/-- what a sum over the months before one has come to -/
def SumRel (y : Int) (base : Int) (m : Nat) (n k : Value) : Prop := ∃ i : Nat, 1 ≤ i ∧ i ≤ m ∧ k = .int .i64 (i : Int) ∧ n = .int .i64 (base + cum y (i - 1))

set_option maxRecDepth 100000 in
theorem number_calls (y d : Int) (m : Nat) (w : World) (h1 : 1 ≤ y) (h2 : y ≤ 9999) (h3 : 1 ≤ m) (h4 : m ≤ 12) (h5 : -1000 ≤ d) (h6 : d ≤ 1000) :
    Calls Try.prog 26 #[.int .i64 y, .int .i64 (m : Int), .int .i64 d] w fun e w' => e = .returned (.int .i64 (num y m d)) ∧ w = w' := by
  have hb := bef_bd y h1 (by omega)
  go_enter Try.func26, Try.ntmps26
  go_wp2_with fail
  refine (before_calls y _ h1 (by omega)).mono ?_
  rintro e w' ⟨rfl, rfl⟩
  go_wp2_with fail
  go_loop [7, 8] (fun n k => SumRel y (bef y + d) m n k) (fun _ k => m - (intOf k).toNat)
  case atStart => exact ⟨1, by omega, h3, rfl, by simp [cum]⟩
  case round =>
    obtain ⟨i, hi1, hi2, rfl, rfl⟩ := hrel
    have hc := cum_bd y (i - 1) (by omega)
    by_cases hlt : i < m
    · have hli : (i : Int) < (m : Int) := by omega
      have HS := Lib.hid (cum_step y i hi1)
      have hdm := dim_bd y (i : Int)
      generalize cum y (i - 1) = q at *
      go_wp2_with fail
      refine (monthDays_calls y (i : Int) _ (by omega) (by omega) (by omega) (by omega)).mono ?_
      rintro e w' ⟨rfl, rfl⟩
      go_wp2_with fail
      go_round
      case rel => exact ⟨i + 1, by omega, by omega, by go_num, by rw [Nat.add_sub_cancel, HS.out]; go_num⟩
      case measure => simp [intOf]; omega
    · obtain rfl : i = m := by omega
      go_wp2_with fail
      go_ret
      exact ⟨by unfold num; rfl, rfl⟩
end Go.Proofs.Ytmhjcdencfbjpaa
