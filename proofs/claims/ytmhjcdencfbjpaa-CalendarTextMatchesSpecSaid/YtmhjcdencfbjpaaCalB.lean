/-
  The contracts of the reference's numbers of days, of calendar.Day, DateFault, check and Date.
-/
import Derived.Test.YtmhjcdencfbjpaaCalA
namespace Go.Proofs.Ytmhjcdencfbjpaa
open Go.RowKit
set_option linter.unusedVariables false
set_option linter.unusedSimpArgs false

def YearRel (y : Int) (n k : Value) : Prop := ∃ i : Int, 1 ≤ i ∧ i ≤ y ∧ k = .int .i64 i ∧ n = .int .i64 (bef i)
set_option maxRecDepth 100000 in
set_option maxHeartbeats 400000 in
theorem yearDays_calls (y : Int) (w : World) (h1 : 1 ≤ y) (h2 : y ≤ 10000) : Calls Try.prog 27 #[.int .i64 y] w fun e w' => e = .returned (.int .i64 (bef y)) ∧ w = w' := by
  go_enter Try.func27, Try.ntmps27
  go_wp2_with fail
  go_loop [3, 4] (fun n k => YearRel y n k) (fun _ k => (y - intOf k).toNat)
  case atStart => exact ⟨1, by omega, h1, rfl, rfl⟩
  case round =>
    obtain ⟨i, hi1, hi2, rfl, rfl⟩ := hrel
    by_cases hlt : i < y
    · have HS := Lib.hid (bef_succ i)
      have hb := bef_bd i hi1 (by omega)
      have hlp := lpB_lp i
      generalize bef i = q at *
      cases hl : lpB i
      · have HL := Lib.hid hl
        have HP := Lib.hid (show lp i = 0 by rw [hlp, hl]; rfl)
        clear hl hlp
        go_wp2_with fail
        refine (refLeap_calls i _ (by omega) (by omega)).mono ?_
        rintro e w' ⟨rfl, rfl⟩
        rw [HL.out]
        go_wp2_with fail
        go_round
        case rel => exact ⟨i + 1, by omega, by omega, by go_num, by rw [HS.out, HP.out]; try go_num⟩
        case measure => simp [intOf]; omega
      · have HL := Lib.hid hl
        have HP := Lib.hid (show lp i = 1 by rw [hlp, hl]; rfl)
        clear hl hlp
        go_wp2_with fail
        refine (refLeap_calls i _ (by omega) (by omega)).mono ?_
        rintro e w' ⟨rfl, rfl⟩
        rw [HL.out]
        go_wp2_with fail
        go_round
        case rel => exact ⟨i + 1, by omega, by omega, by go_num, by rw [HS.out, HP.out]; try go_num⟩
        case measure => simp [intOf]; omega
    · obtain rfl : i = y := by omega
      go_wp2_with fail
      go_ret
      exact ⟨rfl, rfl⟩

set_option maxRecDepth 100000 in
theorem dayOf_calls (y d : Int) (m : Nat) (w : World) (h1 : 1 ≤ y) (h2 : y ≤ 9999) (h3 : 1 ≤ m) (h4 : m ≤ 12) (h5 : -1000 ≤ d) (h6 : d ≤ 1000) :
    Calls Try.prog 14 #[.int .i64 y, .int .i64 (m : Int), .int .i64 d] w fun e w' => e = .returned (.int .i64 (num y m d)) ∧ w = w' := by
  have hb := bef_bd y h1 (by omega)
  go_enter Try.func14, Try.ntmps14
  go_wp2_with fail
  refine (yearDays_calls y _ h1 (by omega)).mono ?_
  rintro e w' ⟨rfl, rfl⟩
  go_wp2_with fail
  go_loop [7, 8] (fun n k => SumRel y (bef y + d) m n k) (fun _ k => m - (intOf k).toNat)
  case atStart => exact ⟨1, by omega, h3, rfl, by simp [cum]⟩
  case round =>
    obtain ⟨i, hi1, hi2, rfl, rfl⟩ := hrel
    have hc := cum_bd y (i - 1) (by omega)
    by_cases hlt : i < m
    · have hli : (i : Int) < (m : Int) := by omega
      have HS := Lib.hid (cum_step y i hi1)
      have hdm := dim_bd y (i : Int)
      generalize cum y (i - 1) = q at *
      go_wp2_with fail
      refine (refMonthDays_calls y (i : Int) _ (by omega) (by omega) (by omega) (by omega)).mono ?_
      rintro e w' ⟨rfl, rfl⟩
      go_wp2_with fail
      go_round
      case rel => exact ⟨i + 1, by omega, by omega, by go_num, by rw [Nat.add_sub_cancel, HS.out]; go_num⟩
      case measure => simp [intOf]; omega
    · obtain rfl : i = m := by omega
      go_wp2_with fail
      go_ret
      exact ⟨by unfold num; rfl, rfl⟩

/-- the fault of a date -/
def dateF (y m d : Int) : Int × Int :=
  if y < 1 ∨ 9999 < y then (4, -1) else if m < 1 ∨ 12 < m then (4, -2) else if d < 1 ∨ dim y m < d then (4, -3) else (0, 0)
theorem dateF_y {y m d : Int} (h : y < 1 ∨ 9999 < y) : dateF y m d = (4, -1) := by unfold dateF; rw [if_pos h]
theorem dateF_m {y m d : Int} (h : ¬ (y < 1 ∨ 9999 < y)) (hm : m < 1 ∨ 12 < m) : dateF y m d = (4, -2) := by unfold dateF; rw [if_neg h, if_pos hm]
theorem dateF_d {y m d : Int} (h : ¬ (y < 1 ∨ 9999 < y)) (hm : ¬ (m < 1 ∨ 12 < m)) (hd : d < 1 ∨ dim y m < d) : dateF y m d = (4, -3) := by unfold dateF; rw [if_neg h, if_neg hm, if_pos hd]
theorem dateF_ok {y m d : Int} (h : ¬ (y < 1 ∨ 9999 < y)) (hm : ¬ (m < 1 ∨ 12 < m)) (hd : ¬ (d < 1 ∨ dim y m < d)) : dateF y m d = (0, 0) := by unfold dateF; rw [if_neg h, if_neg hm, if_neg hd]
/-- what calendar.Day answers: a fault, or the number -/
def DayEnd (w : World) (y m d : Int) (e : Ending) (w' : World) : Prop :=
  e = .returned (.tuple #[.int .i64 (if (dateF y m d).1 = 0 then num y m.toNat d else 0), .agg #[.int .i64 (dateF y m d).1, .int .i64 (dateF y m d).2]]) ∧ Below w.heap.size w w'
theorem day_bad {w w' : World} {y m d c i : Int} (h : dateF y m d = (c, i)) (hc : c ≠ 0) (hb : Below w.heap.size w w') : DayEnd w y m d (.returned (.tuple #[.int .i64 0, .agg #[.int .i64 c, .int .i64 i]])) w' := by
  unfold DayEnd; rw [h]; simp only; rw [if_neg hc]; exact ⟨rfl, hb⟩
theorem day_good {w w' : World} {y d : Int} {m : Nat} (h : dateF y m d = (0, 0)) (hb : Below w.heap.size w w') : DayEnd w y m d (.returned (.tuple #[.int .i64 (num y m d), .agg #[.int .i64 0, .int .i64 0]])) w' := by
  unfold DayEnd; rw [h]; simp only; rw [if_pos trivial, Int.toNat_natCast]; exact ⟨rfl, hb⟩

set_option maxRecDepth 100000 in
set_option maxHeartbeats 400000 in
theorem day_calls (y m d : Int) (w : World) : Calls Try.prog 12 #[.int .i64 y, .int .i64 m, .int .i64 d] w (DayEnd w y m d) := by
  by_cases hy : y < 1 ∨ 9999 < y
  · have HF := Lib.hid (dateF_y (m := m) (d := d) hy)
    rcases hy with h | h
    · go_enter Try.func12, Try.ntmps12
      go_wp2_with (go_at_call 24; refine (fault_calls _ _ _).mono ?_; rintro e w' ⟨rfl, rfl⟩)
      refine bodyPost_ret (v := .tuple #[.int .i64 0, .agg #[.int .i64 4, .int .i64 (-1)]]) (by simp [results, Try.results12, go_sem]) rfl ?_
      exact day_bad HF.out (by decide) (((Below.refl _ _).alloc (Nat.le_refl _) _).alloc (by simp) _)
    · have h' : ¬ y < 1 := by omega
      go_enter Try.func12, Try.ntmps12
      go_wp2_with (go_at_call 24; refine (fault_calls _ _ _).mono ?_; rintro e w' ⟨rfl, rfl⟩)
      refine bodyPost_ret (v := .tuple #[.int .i64 0, .agg #[.int .i64 4, .int .i64 (-1)]]) (by simp [results, Try.results12, go_sem]) rfl ?_
      exact day_bad HF.out (by decide) (((Below.refl _ _).alloc (Nat.le_refl _) _).alloc (by simp) _)
  · have hy1 : ¬ y < 1 := by omega
    have hy2 : ¬ 9999 < y := by omega
    by_cases hm : m < 1 ∨ 12 < m
    · have HF := Lib.hid (dateF_m (d := d) hy hm)
      clear hy
      rcases hm with h | h
      · go_enter Try.func12, Try.ntmps12
        go_wp2_with (go_at_call 24; refine (fault_calls _ _ _).mono ?_; rintro e w' ⟨rfl, rfl⟩)
        refine bodyPost_ret (v := .tuple #[.int .i64 0, .agg #[.int .i64 4, .int .i64 (-2)]]) (by simp [results, Try.results12, go_sem]) rfl ?_
        exact day_bad HF.out (by decide) (((Below.refl _ _).alloc (Nat.le_refl _) _).alloc (by simp) _)
      · have h' : ¬ m < 1 := by omega
        go_enter Try.func12, Try.ntmps12
        go_wp2_with (go_at_call 24; refine (fault_calls _ _ _).mono ?_; rintro e w' ⟨rfl, rfl⟩)
        refine bodyPost_ret (v := .tuple #[.int .i64 0, .agg #[.int .i64 4, .int .i64 (-2)]]) (by simp [results, Try.results12, go_sem]) rfl ?_
        exact day_bad HF.out (by decide) (((Below.refl _ _).alloc (Nat.le_refl _) _).alloc (by simp) _)
    · have hm1 : ¬ m < 1 := by omega
      have hm2 : ¬ 12 < m := by omega
      by_cases hd : d < 1 ∨ dim y m < d
      · have HF := Lib.hid (dateF_d hy hm hd)
        clear hy hm
        by_cases h : d < 1
        · clear hd
          go_enter Try.func12, Try.ntmps12
          go_wp2_with (go_at_call 24; refine (fault_calls _ _ _).mono ?_; rintro e w' ⟨rfl, rfl⟩)
          refine bodyPost_ret (v := .tuple #[.int .i64 0, .agg #[.int .i64 4, .int .i64 (-3)]]) (by simp [results, Try.results12, go_sem]) rfl ?_
          exact day_bad HF.out (by decide) (((Below.refl _ _).alloc (Nat.le_refl _) _).alloc (by simp) _)
        · have hd' : dim y m < d := by omega
          clear hd
          go_enter Try.func12, Try.ntmps12
          go_wp2_with (first | (go_at_call 24; refine (fault_calls _ _ _).mono ?_; rintro e w' ⟨rfl, rfl⟩) | (go_at_call 25; refine (monthDays_calls y m _ (by omega) (by omega) (by omega) (by omega)).mono ?_; rintro e w' ⟨rfl, rfl⟩))
          refine bodyPost_ret (v := .tuple #[.int .i64 0, .agg #[.int .i64 4, .int .i64 (-3)]]) (by simp [results, Try.results12, go_sem]) rfl ?_
          exact day_bad HF.out (by decide) (((Below.refl _ _).alloc (Nat.le_refl _) _).alloc (by simp) _)
      · have HF := Lib.hid (dateF_ok hy hm hd)
        have h : ¬ d < 1 := by omega
        have hd' : ¬ dim y m < d := by omega
        have hdb := dim_bd y m
        clear hy hm hd
        obtain ⟨k, rfl⟩ := Int.eq_ofNat_of_zero_le (show 0 ≤ m by omega)
        go_enter Try.func12, Try.ntmps12
        go_wp2_with (first | (go_at_call 25; refine (monthDays_calls y k _ (by omega) (by omega) (by omega) (by omega)).mono ?_; rintro e w' ⟨rfl, rfl⟩) | (go_at_call 26; refine (number_calls y d k _ (by omega) (by omega) (by omega) (by omega) (by omega) (by omega)).mono ?_; rintro e w' ⟨rfl, rfl⟩))
        refine bodyPost_ret (v := .tuple #[.int .i64 (num y k d), .agg #[.int .i64 0, .int .i64 0]]) (by simp [results, Try.results12, go_sem]) rfl ?_
        exact day_good HF.out ((Below.refl _ _).alloc (Nat.le_refl _) _)

def DFEnd (w : World) (y m d : Int) (e : Ending) (w' : World) : Prop := e = .returned (.agg #[.int .i64 (dateF y m d).1, .int .i64 (dateF y m d).2]) ∧ Below w.heap.size w w'
theorem df_end {w w' : World} {y m d c i : Int} (h : dateF y m d = (c, i)) (hb : Below w.heap.size w w') : DFEnd w y m d (.returned (.agg #[.int .i64 c, .int .i64 i])) w' := by
  unfold DFEnd; rw [h]; exact ⟨rfl, hb⟩
set_option maxRecDepth 100000 in
set_option maxHeartbeats 400000 in
theorem dateFault_calls (y m d : Int) (w : World) : Calls Try.prog 13 #[.int .i64 y, .int .i64 m, .int .i64 d] w (DFEnd w y m d) := by
  by_cases hy : y < 1 ∨ 9999 < y
  · have HF := Lib.hid (dateF_y (m := m) (d := d) hy)
    go_enter Try.func13, Try.ntmps13
    go_wp2_with (first | (go_at_call 16; refine (in_no _ (by omega)).mono ?_; rintro e w' ⟨rfl, rfl⟩) | (go_at_call 17; refine (at_calls _ _ _).mono ?_; rintro e w' ⟨rfl, rfl⟩))
    refine bodyPost_ret (v := .agg #[.int .i64 4, .int .i64 (-1)]) (by simp [results, Try.results13, go_sem]) rfl ?_
    exact df_end HF.out (((Below.refl _ _).alloc (Nat.le_refl _) _).alloc (by simp) _)
  · by_cases hm : m < 1 ∨ 12 < m
    · have HF := Lib.hid (dateF_m (d := d) hy hm)
      go_enter Try.func13, Try.ntmps13
      go_wp2_with (first | (go_at_call 16; refine (in_yes _ (by omega) (by omega)).mono ?_; rintro e w' ⟨rfl, rfl⟩) | (go_at_call 16; refine (in_no _ (by omega)).mono ?_; rintro e w' ⟨rfl, rfl⟩) | (go_at_call 17; refine (at_calls _ _ _).mono ?_; rintro e w' ⟨rfl, rfl⟩))
      refine bodyPost_ret (v := .agg #[.int .i64 4, .int .i64 (-2)]) (by simp [results, Try.results13, go_sem]) rfl ?_
      exact df_end HF.out (((Below.refl _ _).alloc (Nat.le_refl _) _).alloc (by simp) _)
    · by_cases hd : d < 1 ∨ dim y m < d
      · have HF := Lib.hid (dateF_d hy hm hd)
        go_enter Try.func13, Try.ntmps13
        go_wp2_with (first | (go_at_call 16; refine (in_yes _ (by omega) (by omega)).mono ?_; rintro e w' ⟨rfl, rfl⟩) | (go_at_call 16; refine (in_no _ (by omega)).mono ?_; rintro e w' ⟨rfl, rfl⟩) | (go_at_call 17; refine (at_calls _ _ _).mono ?_; rintro e w' ⟨rfl, rfl⟩) | (go_at_call 18; refine (refMonthDays_calls y m _ (by omega) (by omega) (by omega) (by omega)).mono ?_; rintro e w' ⟨rfl, rfl⟩))
        refine bodyPost_ret (v := .agg #[.int .i64 4, .int .i64 (-3)]) (by simp [results, Try.results13, go_sem]) rfl ?_
        exact df_end HF.out (((Below.refl _ _).alloc (Nat.le_refl _) _).alloc (by simp) _)
      · have HF := Lib.hid (dateF_ok hy hm hd)
        go_enter Try.func13, Try.ntmps13
        go_wp2_with (first | (go_at_call 16; refine (in_yes _ (by omega) (by omega)).mono ?_; rintro e w' ⟨rfl, rfl⟩) | (go_at_call 18; refine (refMonthDays_calls y m _ (by omega) (by omega) (by omega) (by omega)).mono ?_; rintro e w' ⟨rfl, rfl⟩))
        refine bodyPost_ret (v := .agg #[.int .i64 0, .int .i64 0]) (by simp [results, Try.results13, go_sem]) rfl ?_
        exact df_end HF.out ((Below.refl _ _).alloc (Nat.le_refl _) _)
end Go.Proofs.Ytmhjcdencfbjpaa
