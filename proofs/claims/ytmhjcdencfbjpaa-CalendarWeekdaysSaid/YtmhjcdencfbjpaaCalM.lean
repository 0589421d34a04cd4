/-
  The days of the week: the contract of calendar.Weekday, and the walk of the law.
-/
import Derived.Test.YtmhjcdencfbjpaaCalJ
namespace Go.Proofs.Ytmhjcdencfbjpaa
open Go.RowKit
set_option linter.unusedVariables false
set_option linter.unusedSimpArgs false

def WkBad (w : World) (e : Ending) (w' : World) : Prop := e = .returned (.tuple #[.int .i64 0, .agg #[.int .i64 4, .int .i64 (-1)]]) ∧ Below w.heap.size w w'
def WkOk (n : Int) (w : World) (e : Ending) (w' : World) : Prop := e = .returned (.tuple #[.int .i64 ((n - 1) % 7 + 1), .agg #[.int .i64 0, .int .i64 0]]) ∧ Below w.heap.size w w'
set_option maxRecDepth 100000 in
set_option maxHeartbeats 400000 in
theorem week_no (n : Int) (w : World) (h : n < 1 ∨ 3652059 < n) : Calls Try.prog 21 #[.int .i64 n] w (WkBad w) := by
  go_enter Try.func21, Try.ntmps21
  go_wp2_with (go_at_call 28; refine (check_no _ _ h).mono ?_; rintro e w' ⟨rfl, rfl⟩)
  go_region
  all_goals go_wp2
  refine bodyPost_ret (v := .tuple #[.int .i64 0, .agg #[.int .i64 4, .int .i64 (-1)]]) (by simp [results, Try.results21, go_sem]) rfl ?_
  exact ⟨rfl, by repeat (first | exact Below.refl _ _ | refine Below.drew ?_ | refine Below.alloc ?_ (by simp; try omega) _)⟩
set_option maxRecDepth 100000 in
set_option maxHeartbeats 400000 in
theorem week_yes (n : Int) (w : World) (h1 : 1 ≤ n) (h2 : n ≤ 3652059) : Calls Try.prog 21 #[.int .i64 n] w (WkOk n w) := by
  go_enter Try.func21, Try.ntmps21
  go_wp2_with (go_at_call 28; refine (check_yes _ _ h1 h2).mono ?_; rintro e w' ⟨rfl, rfl⟩)
  refine bodyPost_ret (v := .tuple #[.int .i64 ((n - 1) % 7 + 1), .agg #[.int .i64 0, .int .i64 0]]) (by simp [results, Try.results21, go_sem]) rfl ?_
  exact ⟨rfl, by repeat (first | exact Below.refl _ _ | refine Below.drew ?_ | refine Below.alloc ?_ (by simp; try omega) _)⟩

set_option maxRecDepth 100000 in
set_option maxHeartbeats 400000 in
theorem weeks_no (n : Int) (w : World) (h : n < 1 ∨ 3652059 < n) : Calls Try.prog 9 #[.int .i64 n] w fun e w' => e = .returned (.bool true) ∧ Below w.heap.size w w' := by
  go_enter Try.func9, Try.ntmps9
  go_wp2_with fail
  refine (example_calls _).mono ?_
  rintro e w1 ⟨rfl, hb1⟩
  have HB1 := Lib.hid hb1
  clear hb1
  go_wp2_with fail
  refine (week_no n _ h).mono ?_
  rintro e w2 ⟨rfl, hb2⟩
  have HB2 := Lib.hid (chain HB1.out hb2)
  clear hb2
  obtain ⟨z, q0, q1⟩ := FK.new w2 4 (-1)
  go_wp2_with (first | (go_at_call 16; first | (refine (in_yes _ (by omega) (by omega)).mono ?_; rintro e w' ⟨rfl, rfl⟩) | (refine (in_no _ (by omega)).mono ?_; rintro e w' ⟨rfl, rfl⟩)))
  go_region_held3 (fun w' => w'.cell? ⟨w2.heap.size, 0, none⟩ = some (.int .i64 4) ∧ w'.cell? ⟨w2.heap.size, 1, none⟩ = some (.int .i64 (-1))) (go_keep) (first | (go_at_call 17; refine (at_calls _ _ _).mono ?_; rintro e w' ⟨rfl, rfl⟩))
  go_wp2
  go_ret
  exact ⟨rfl, (chain_alloc (chain_alloc HB2.out _) _).drew⟩

set_option maxRecDepth 100000 in
set_option maxHeartbeats 400000 in
theorem weeks_late (n : Int) (w : World) (h1 : 3505962 < n) (h2 : n ≤ 3652059) : Calls Try.prog 9 #[.int .i64 n] w fun e w' => e = .returned (.bool true) ∧ Below w.heap.size w w' := by
  go_enter Try.func9, Try.ntmps9
  go_wp2_with fail
  refine (example_calls _).mono ?_
  rintro e w1 ⟨rfl, hb1⟩
  have HB1 := Lib.hid hb1
  clear hb1
  go_wp2_with fail
  refine (week_yes n _ (by omega) h2).mono ?_
  rintro e w2 ⟨rfl, hb2⟩
  have HB2 := Lib.hid (chain HB1.out hb2)
  clear hb2
  obtain ⟨z, q0, q1⟩ := FK.new w2 0 0
  go_wp2_with (first | (go_at_call 16; first | (refine (in_yes _ (by omega) (by omega)).mono ?_; rintro e w' ⟨rfl, rfl⟩) | (refine (in_no _ (by omega)).mono ?_; rintro e w' ⟨rfl, rfl⟩)))
  go_ret
  exact ⟨rfl, chain_alloc HB2.out _⟩

set_option maxRecDepth 100000 in
set_option maxHeartbeats 400000 in
theorem weeks_on {y d : Int} {m : Nat} (w : World) (hv : Valid y m d) (h2 : num y m d ≤ 3505962) : Calls Try.prog 9 #[.int .i64 (num y m d)] w fun e w' => e = .returned (.bool true) ∧ Below w.heap.size w w' := by
  have h1 := (num_range hv).1
  have hy : y < 9600 := by
    have := num_lt_iff hv (show Valid 9600 1 1 from ⟨by decide, by decide, by decide, by decide, by decide, by decide⟩)
    rw [show num 9600 1 1 = 3505963 by decide] at this
    have := this.1 (by omega)
    have := hv.2.2.1
    have := hv.2.2.2.2.1
    omega
  have HV := Lib.hid hv
  have hw : Valid (y + 400) m d := ⟨by have := hv.1; omega, by omega, hv.2.2.1, hv.2.2.2.1, hv.2.2.2.2.1, by rw [dim_400]; exact hv.2.2.2.2.2⟩
  have HW := Lib.hid hw
  have HN := Lib.hid (num_400 y m d)
  have v1 := hv.1
  clear hv hw
  go_enter Try.func9, Try.ntmps9
  go_wp2_with fail
  refine (example_calls _).mono ?_
  rintro e w1 ⟨rfl, hb1⟩
  have HB1 := Lib.hid hb1
  clear hb1
  go_wp2_with fail
  refine (week_yes _ _ h1 (by omega)).mono ?_
  rintro e w2 ⟨rfl, hb2⟩
  have HB2 := Lib.hid (chain HB1.out hb2)
  clear hb2
  obtain ⟨z, q0, q1⟩ := FK.new w2 0 0
  go_wp2_with (first | (go_at_call 16; first | (refine (in_yes _ (by omega) (by omega)).mono ?_; rintro e w' ⟨rfl, rfl⟩) | (refine (in_no _ (by omega)).mono ?_; rintro e w' ⟨rfl, rfl⟩)))
  have hk := week_yes (num y m d + 146097) (w2.alloc (.cells #[.int .i64 0, .int .i64 0] 24)) (by omega) (by omega)
  refine hk.mono ?_
  clear hk
  rintro e w3 ⟨rfl, hb3⟩
  rw [show (num y m d + 146097 - 1) % 7 + 1 = (num y m d - 1) % 7 + 1 by omega]
  have HB3 := Lib.hid (chain (chain_alloc HB2.out _) hb3)
  clear hb3 z q0 q1
  go_wp2_with fail
  refine (date_at HV.out _).mono ?_
  rintro e w4 ⟨rfl, hb4⟩
  have F1 := Lib.hid ((FK.new w3 0 0).on hb4)
  have HB4 := Lib.hid (chain (chain_alloc HB3.out _) hb4)
  clear hb4
  go_wp2_with fail
  have hk := date_at HW.out (w4.alloc (.cells #[.int .i64 0, .int .i64 0] 24))
  rw [HN.out] at hk
  refine hk.mono ?_
  clear hk
  rintro e w5 ⟨rfl, hb5⟩
  obtain ⟨z1, p1, p1'⟩ := ((F1.out.alloc (.cells #[.int .i64 0, .int .i64 0] 24)).on hb5).alloc (.cells #[.int .i64 0, .int .i64 0] 24)
  obtain ⟨z2, p2, p2'⟩ := ((FK.new w4 0 0).on hb5).alloc (.cells #[.int .i64 0, .int .i64 0] 24)
  obtain ⟨z3, p3, p3'⟩ := FK.new w5 0 0
  have HB5 := Lib.hid (chain (chain_alloc HB4.out _) hb5)
  clear hb5
  go_wp2_with fail
  go_ret
  exact ⟨rfl, chain_alloc HB5.out _⟩

theorem weeks_calls (n : Int) (w : World) : Calls Try.prog 9 #[.int .i64 n] w fun e w' => e = .returned (.bool true) ∧ Below w.heap.size w w' := by
  by_cases hn : 1 ≤ n ∧ n ≤ 3652059
  · by_cases hl : n ≤ 3505962
    · obtain ⟨y, m, d, hv, rfl⟩ := date_ofI n hn.1 hn.2
      exact weeks_on w hv hl
    · exact weeks_late n w (by omega) hn.2
  · exact weeks_no n w (by omega)
end Go.Proofs.Ytmhjcdencfbjpaa
