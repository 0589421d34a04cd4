/-
  The walk of the law on the day after a date.
-/
import Derived.Test.YtmhjcdencfbjpaaCalH
namespace Go.Proofs.Ytmhjcdencfbjpaa
open Go.RowKit
set_option linter.unusedVariables false
set_option linter.unusedSimpArgs false

theorem valid_of {y m d ix : Int} (hr : dateF y m d = (0, ix)) : Valid y m.toNat d ∧ ((m.toNat : Nat) : Int) = m := by
  by_cases hy : y < 1 ∨ 9999 < y
  · rw [dateF_y hy] at hr; simp at hr
  · by_cases hm : m < 1 ∨ 12 < m
    · rw [dateF_m hy hm] at hr; simp at hr
    · by_cases hd : d < 1 ∨ dim y m < d
      · rw [dateF_d hy hm hd] at hr; simp at hr
      · refine ⟨⟨by omega, by omega, by omega, by omega, by omega, ?_⟩, by omega⟩
        rw [show ((m.toNat : Nat) : Int) = m by omega]; omega

set_option maxRecDepth 100000 in
set_option maxHeartbeats 400000 in
theorem nextDay_in (y d : Int) (k : Nat) (w : World) (hv : Valid y k d) (h : d + 1 ≤ dim y k) :
    Calls Try.prog 5 #[.int .i64 y, .int .i64 (k : Int), .int .i64 d] w fun e w' => e = .returned (.bool true) ∧ Below w.heap.size w w' := by
  obtain ⟨v1, v2, v3, v4, v5, v6⟩ := hv
  have HV := Lib.hid (show Valid y k d from ⟨v1, v2, v3, v4, v5, v6⟩)
  have hdb := dim_bd y (k : Int)
  have hnr := num_range HV.out
  have HR := Lib.hid (show dateF y k d = (0, 0) from dateF_ok (by omega) (by omega) (by omega))
  have hN := Lib.hid (show num y k (d + 1) = num y k d + 1 by simp only [num]; omega)
  have hV := Lib.hid (show Valid y k (d + 1) from ⟨v1, v2, v3, v4, by omega, h⟩)
  have ht : decide (dim y (k : Int) < d + 1) = false := by simp; omega
  have ht1 : ((k : Int) == 13) = false := by simp; omega
  have ht2 : (y == 10000) = false := by simp; omega
  go_enter Try.func5, Try.ntmps5
  go_wp2_with fail
  refine (example_calls _).mono ?_
  rintro e w1 ⟨rfl, hb1⟩
  have HB1 := Lib.hid hb1
  clear hb1
  go_wp2_with fail
  refine (day_ok y d k _ HV.out).mono ?_
  rintro e w2 ⟨rfl, hb2⟩
  have HB2 := Lib.hid (chain HB1.out hb2)
  clear hb2
  go_wp2_with fail
  refine (dateFault_calls y k d _).mono ?_
  rintro e w3 ⟨rfl, hb3⟩
  rw [HR.out]
  have F1 := Lib.hid ((FK.new w2 0 0).on hb3)
  have HB3 := Lib.hid (chain (chain_alloc HB2.out _) hb3)
  clear hb3
  have hfld : ∀ W, (Instr.field 24 (.agg #[.int .i64 0, .int .i64 0]) 0).run Try.prog W = .ok (.int .i64 0) W := by intro W; kernel_rfl
  go_wp2_with fail
  refine (refMonthDays_calls y k _ (by omega) (by omega) (by omega) (by omega)).mono ?_
  rintro e w4 ⟨rfl, rfl⟩
  go_wp2_with fail
  have hdt := date_at hV.out w3
  rw [hN.out] at hdt
  refine hdt.mono ?_
  clear hdt
  rintro e w5 ⟨rfl, hb5⟩
  obtain ⟨z1, p1, p1'⟩ := F1.out.on hb5
  obtain ⟨z2, p2, p2'⟩ := FK.new w5 0 0
  have HB5 := Lib.hid (chain HB3.out hb5)
  clear hb5
  go_wp2_with fail
  go_ret
  exact ⟨rfl, chain_alloc HB5.out _⟩

set_option maxRecDepth 100000 in
set_option maxHeartbeats 400000 in
theorem nextDay_month (y d : Int) (k : Nat) (w : World) (hv : Valid y k d) (h : ¬ d + 1 ≤ dim y k) (h' : k < 12) :
    Calls Try.prog 5 #[.int .i64 y, .int .i64 (k : Int), .int .i64 d] w fun e w' => e = .returned (.bool true) ∧ Below w.heap.size w w' := by
  obtain ⟨v1, v2, v3, v4, v5, v6⟩ := hv
  have HV := Lib.hid (show Valid y k d from ⟨v1, v2, v3, v4, v5, v6⟩)
  have hdb := dim_bd y (k : Int)
  have hnr := num_range HV.out
  have HR := Lib.hid (show dateF y k d = (0, 0) from dateF_ok (by omega) (by omega) (by omega))
  have hN := Lib.hid (show num y (k + 1) 1 = num y k d + 1 by have := num_next HV.out; simp only [nextD, if_neg h, if_neg (show ¬ k + 1 = 13 by omega)] at this; exact this)
  have hV := Lib.hid (show Valid y (k + 1) 1 from ⟨v1, v2, by omega, by omega, by omega, by have := dim_bd y ((k + 1 : Nat) : Int); omega⟩)
  have ht : decide (dim y (k : Int) < d + 1) = true := by simp; omega
  have ht1 : ((k : Int) + 1 == 13) = false := by simp; omega
  have ht2 : (y == 10000) = false := by simp; omega
  have hc : ((k + 1 : Nat) : Int) = (k : Int) + 1 := by omega
  go_enter Try.func5, Try.ntmps5
  go_wp2_with fail
  refine (example_calls _).mono ?_
  rintro e w1 ⟨rfl, hb1⟩
  have HB1 := Lib.hid hb1
  clear hb1
  go_wp2_with fail
  refine (day_ok y d k _ HV.out).mono ?_
  rintro e w2 ⟨rfl, hb2⟩
  have HB2 := Lib.hid (chain HB1.out hb2)
  clear hb2
  go_wp2_with fail
  refine (dateFault_calls y k d _).mono ?_
  rintro e w3 ⟨rfl, hb3⟩
  rw [HR.out]
  have F1 := Lib.hid ((FK.new w2 0 0).on hb3)
  have HB3 := Lib.hid (chain (chain_alloc HB2.out _) hb3)
  clear hb3
  have hfld : ∀ W, (Instr.field 24 (.agg #[.int .i64 0, .int .i64 0]) 0).run Try.prog W = .ok (.int .i64 0) W := by intro W; kernel_rfl
  go_wp2_with fail
  refine (refMonthDays_calls y k _ (by omega) (by omega) (by omega) (by omega)).mono ?_
  rintro e w4 ⟨rfl, rfl⟩
  go_wp2_with fail
  have hdt := date_at hV.out w3
  rw [hN.out, hc] at hdt
  refine hdt.mono ?_
  clear hdt
  rintro e w5 ⟨rfl, hb5⟩
  obtain ⟨z1, p1, p1'⟩ := F1.out.on hb5
  obtain ⟨z2, p2, p2'⟩ := FK.new w5 0 0
  have HB5 := Lib.hid (chain HB3.out hb5)
  clear hb5
  go_wp2_with fail
  go_ret
  exact ⟨rfl, chain_alloc HB5.out _⟩

set_option maxRecDepth 100000 in
set_option maxHeartbeats 400000 in
theorem nextDay_year (y d : Int) (k : Nat) (w : World) (hv : Valid y k d) (h : ¬ d + 1 ≤ dim y k) (h' : k = 12) (h'' : y < 9999) :
    Calls Try.prog 5 #[.int .i64 y, .int .i64 (k : Int), .int .i64 d] w fun e w' => e = .returned (.bool true) ∧ Below w.heap.size w w' := by
  obtain ⟨v1, v2, v3, v4, v5, v6⟩ := hv
  have HV := Lib.hid (show Valid y k d from ⟨v1, v2, v3, v4, v5, v6⟩)
  have hdb := dim_bd y (k : Int)
  have hnr := num_range HV.out
  have HR := Lib.hid (show dateF y k d = (0, 0) from dateF_ok (by omega) (by omega) (by omega))
  have hN := Lib.hid (show num (y + 1) 1 1 = num y k d + 1 by have := num_next HV.out; simp only [nextD, if_neg h, if_pos (show k + 1 = 13 by omega)] at this; exact this)
  have hV := Lib.hid (show Valid (y + 1) 1 1 from ⟨by omega, by omega, by omega, by omega, by omega, by have := dim_bd (y + 1) ((1 : Nat) : Int); omega⟩)
  have ht : decide (dim y (k : Int) < d + 1) = true := by simp; omega
  have ht1 : ((k : Int) + 1 == 13) = true := by simp; omega
  have ht2 : (y + 1 == 10000) = false := by simp; omega
  have hc : ((1 : Nat) : Int) = 1 := rfl
  clear h' hc
  go_enter Try.func5, Try.ntmps5
  go_wp2_with fail
  refine (example_calls _).mono ?_
  rintro e w1 ⟨rfl, hb1⟩
  have HB1 := Lib.hid hb1
  clear hb1
  go_wp2_with fail
  refine (day_ok y d k _ HV.out).mono ?_
  rintro e w2 ⟨rfl, hb2⟩
  have HB2 := Lib.hid (chain HB1.out hb2)
  clear hb2
  go_wp2_with fail
  refine (dateFault_calls y k d _).mono ?_
  rintro e w3 ⟨rfl, hb3⟩
  rw [HR.out]
  have F1 := Lib.hid ((FK.new w2 0 0).on hb3)
  have HB3 := Lib.hid (chain (chain_alloc HB2.out _) hb3)
  clear hb3
  have hfld : ∀ W, (Instr.field 24 (.agg #[.int .i64 0, .int .i64 0]) 0).run Try.prog W = .ok (.int .i64 0) W := by intro W; kernel_rfl
  go_wp2_with fail
  refine (refMonthDays_calls y k _ (by omega) (by omega) (by omega) (by omega)).mono ?_
  rintro e w4 ⟨rfl, rfl⟩
  go_wp2_with fail
  have hdt := date_at hV.out w3
  rw [hN.out, show ((1 : Nat) : Int) = 1 from rfl] at hdt
  refine hdt.mono ?_
  clear hdt
  rintro e w5 ⟨rfl, hb5⟩
  obtain ⟨z1, p1, p1'⟩ := F1.out.on hb5
  obtain ⟨z2, p2, p2'⟩ := FK.new w5 0 0
  have HB5 := Lib.hid (chain HB3.out hb5)
  clear hb5
  go_wp2_with fail
  go_ret
  exact ⟨rfl, chain_alloc HB5.out _⟩

set_option maxRecDepth 100000 in
set_option maxHeartbeats 400000 in
theorem nextDay_last (y d : Int) (k : Nat) (w : World) (hv : Valid y k d) (h : ¬ d + 1 ≤ dim y k) (h' : k = 12) (h'' : y = 9999) :
    Calls Try.prog 5 #[.int .i64 y, .int .i64 (k : Int), .int .i64 d] w fun e w' => e = .returned (.bool true) ∧ Below w.heap.size w w' := by
  obtain ⟨v1, v2, v3, v4, v5, v6⟩ := hv
  have HV := Lib.hid (show Valid y k d from ⟨v1, v2, v3, v4, v5, v6⟩)
  have hdb := dim_bd y (k : Int)
  have hnr := num_range HV.out
  have HR := Lib.hid (show dateF y k d = (0, 0) from dateF_ok (by omega) (by omega) (by omega))
  have hN := Lib.hid (show num y k d + 1 = 3652060 by have := num_next HV.out; simp only [nextD, if_neg h, if_pos (show k + 1 = 13 by omega)] at this; rw [← show num 10000 1 1 = 3652060 by decide, ← this, h'']; rfl)
  have ht : decide (dim y (k : Int) < d + 1) = true := by simp; omega
  have ht1 : ((k : Int) + 1 == 13) = true := by simp; omega
  have ht2 : (y + 1 == 10000) = true := by simp; omega
  clear h' h''
  go_enter Try.func5, Try.ntmps5
  go_wp2_with fail
  refine (example_calls _).mono ?_
  rintro e w1 ⟨rfl, hb1⟩
  have HB1 := Lib.hid hb1
  clear hb1
  go_wp2_with fail
  refine (day_ok y d k _ HV.out).mono ?_
  rintro e w2 ⟨rfl, hb2⟩
  have HB2 := Lib.hid (chain HB1.out hb2)
  clear hb2
  go_wp2_with fail
  refine (dateFault_calls y k d _).mono ?_
  rintro e w3 ⟨rfl, hb3⟩
  rw [HR.out]
  have F1 := Lib.hid ((FK.new w2 0 0).on hb3)
  have HB3 := Lib.hid (chain (chain_alloc HB2.out _) hb3)
  clear hb3
  have hfld : ∀ W, (Instr.field 24 (.agg #[.int .i64 0, .int .i64 0]) 0).run Try.prog W = .ok (.int .i64 0) W := by intro W; kernel_rfl
  go_wp2_with fail
  refine (refMonthDays_calls y k _ (by omega) (by omega) (by omega) (by omega)).mono ?_
  rintro e w4 ⟨rfl, rfl⟩
  go_wp2_with fail
  have hdt := date_no (num y k d + 1) w3 (.inr (by have := hN.out; omega))
  refine hdt.mono ?_
  clear hdt
  rintro e w5 ⟨rfl, hb5⟩
  obtain ⟨z1, p1, p1'⟩ := (F1.out.on hb5).alloc (.cells #[.int .i64 4, .int .i64 (-1)] 24)
  obtain ⟨z2, p2, p2'⟩ := FK.new w5 4 (-1)
  have HB5 := Lib.hid (chain HB3.out hb5)
  clear hb5
  go_wp2_with fail
  go_region_held3 (fun w' => w'.cell? ⟨w2.heap.size, 0, none⟩ = some (.int .i64 0) ∧ w'.cell? ⟨w5.heap.size, 0, none⟩ = some (.int .i64 4) ∧ w'.cell? ⟨w5.heap.size, 1, none⟩ = some (.int .i64 (-1))) (go_keep) (first | (go_at_call 17; refine (at_calls _ _ _).mono ?_; rintro e w' ⟨rfl, rfl⟩))
  go_wp2
  go_ret
  exact ⟨rfl, (chain_alloc (chain_alloc HB5.out _) _).drew⟩

set_option maxRecDepth 100000 in
set_option maxHeartbeats 400000 in
theorem nextDay_bad (y m d cd ix : Int) (w : World) (hr : dateF y m d = (cd, ix)) (hcd : cd ≠ 0) :
    Calls Try.prog 5 #[.int .i64 y, .int .i64 m, .int .i64 d] w fun e w' => e = .returned (.bool true) ∧ Below w.heap.size w w' := by
  have HR := Lib.hid hr
  clear hr
  have hcd' : (cd != 0) = true := by simp [hcd]
  have hcd2 : (cd == 0) = false := by simp [hcd]
  have hfld : ∀ W, (Instr.field 24 (.agg #[.int .i64 cd, .int .i64 ix]) 0).run Try.prog W = .ok (.int .i64 cd) W := by intro W; kernel_rfl
  go_enter Try.func5, Try.ntmps5
  go_wp2_with fail
  refine (example_calls _).mono ?_
  rintro e w1 ⟨rfl, hb1⟩
  have HB1 := Lib.hid hb1
  clear hb1
  go_wp2_with fail
  refine (day_calls y m d _).mono ?_
  rintro e w2 ⟨rfl, hb2⟩
  have HB2 := Lib.hid (chain HB1.out hb2)
  clear hb2
  rw [HR.out]
  simp only [hcd, if_false]
  have HCD := Lib.hid hcd
  clear hcd
  go_wp2_with fail
  refine (dateFault_calls y m d _).mono ?_
  rintro e w3 ⟨rfl, hb3⟩
  rw [HR.out]
  obtain ⟨z1, p1, p1'⟩ := (FK.new w2 cd ix).on hb3
  have HB3 := Lib.hid (chain (chain_alloc HB2.out _) hb3)
  clear hb3
  go_wp2_with fail
  go_ret
  exact ⟨rfl, HB3.out⟩

theorem nextDay_calls (y m d : Int) (w : World) :
    Calls Try.prog 5 #[.int .i64 y, .int .i64 m, .int .i64 d] w fun e w' => e = .returned (.bool true) ∧ Below w.heap.size w w' := by
  obtain ⟨cd, ix, hr⟩ : ∃ cd ix, dateF y m d = (cd, ix) := ⟨_, _, rfl⟩
  by_cases hcd : cd = 0
  · subst hcd
    obtain ⟨hv, hm⟩ := valid_of hr
    generalize m.toNat = k at *
    subst hm
    by_cases h : d + 1 ≤ dim y k
    · exact nextDay_in y d k w hv h
    · by_cases h' : k < 12
      · exact nextDay_month y d k w hv h h'
      · have h12 : k = 12 := by have := hv.2.2.2.1; omega
        by_cases h'' : y < 9999
        · exact nextDay_year y d k w hv h h12 h''
        · exact nextDay_last y d k w hv h h12 (by have := hv.2.1; omega)
  · exact nextDay_bad y m d cd ix w hr hcd
end Go.Proofs.Ytmhjcdencfbjpaa
