/-
  The walk of the law on months.
-/
import Derived.Test.YtmhjcdencfbjpaaCalJ
namespace Go.Proofs.Ytmhjcdencfbjpaa
open Go.RowKit
set_option linter.unusedVariables false
set_option linter.unusedSimpArgs false

theorem addF_k {y : Int} {m : Nat} {d k : Int} (hk : k < -120000 ∨ 120000 < k) : addF y m d k = (0, 4, -2) := by unfold addF; rw [if_pos hk]
theorem addF_q {y : Int} {m : Nat} {d k : Int} (hk : ¬ (k < -120000 ∨ 120000 < k)) (hq : 12 * y + (m : Int) - 1 + k < 12 ∨ 119999 < 12 * y + (m : Int) - 1 + k) : addF y m d k = (0, 4, -3) := by
  unfold addF; rw [if_neg hk, if_pos (by omega)]
theorem addF_ok {y : Int} {m : Nat} {d k : Int} (hk : ¬ (k < -120000 ∨ 120000 < k)) (hq : ¬ (12 * y + (m : Int) - 1 + k < 12 ∨ 119999 < 12 * y + (m : Int) - 1 + k)) :
    addF y m d k = (num ((12 * y + (m : Int) - 1 + k) / 12) ((12 * y + (m : Int) - 1 + k) % 12 + 1).toNat (mn d (dim ((12 * y + (m : Int) - 1 + k) / 12) ((12 * y + (m : Int) - 1 + k) % 12 + 1))), 0, 0) := by
  unfold addF; rw [if_neg hk, if_neg (by omega), show (12 * (y - 1) + (m : Int) - 1 + k) / 12 + 1 = (12 * y + (m : Int) - 1 + k) / 12 by omega, show (12 * (y - 1) + (m : Int) - 1 + k) % 12 + 1 = (12 * y + (m : Int) - 1 + k) % 12 + 1 by omega]

set_option maxRecDepth 100000 in
set_option maxHeartbeats 400000 in
theorem months_no (n k : Int) (w : World) (h : n < 1 ∨ 3652059 < n) : Calls Try.prog 7 #[.int .i64 n, .int .i64 k] w fun e w' => e = .returned (.bool true) ∧ Below w.heap.size w w' := by
  go_enter Try.func7, Try.ntmps7
  go_wp2_with fail
  refine (example_calls _).mono ?_
  rintro e w1 ⟨rfl, hb1⟩
  have HB1 := Lib.hid hb1
  clear hb1
  go_wp2_with fail
  refine (add_no n k _ h).mono ?_
  rintro e w2 ⟨rfl, hb2⟩
  have HB2 := Lib.hid (chain HB1.out hb2)
  clear hb2
  obtain ⟨z, q0, q1⟩ := FK.new w2 4 (-1)
  go_wp2_with (first | (go_at_call 16; first | (refine (in_yes _ (by omega) (by omega)).mono ?_; rintro e w' ⟨rfl, rfl⟩) | (refine (in_no _ (by omega)).mono ?_; rintro e w' ⟨rfl, rfl⟩)))
  go_region_held3 (fun w' => w'.cell? ⟨w2.heap.size, 0, none⟩ = some (.int .i64 4) ∧ w'.cell? ⟨w2.heap.size, 1, none⟩ = some (.int .i64 (-1))) (go_keep) (first | (go_at_call 17; refine (at_calls _ _ _).mono ?_; rintro e w' ⟨rfl, rfl⟩))
  go_wp2
  go_ret
  exact ⟨rfl, (chain_alloc (chain_alloc HB2.out _) _).drew⟩

set_option maxRecDepth 100000 in
set_option maxHeartbeats 400000 in
theorem months_k {y d : Int} {m : Nat} (k : Int) (w : World) (hv : Valid y m d) (hk : k < -120000 ∨ 120000 < k) : Calls Try.prog 7 #[.int .i64 (num y m d), .int .i64 k] w fun e w' => e = .returned (.bool true) ∧ Below w.heap.size w w' := by
  obtain ⟨v1, v2, v3, v4, v5, v6⟩ := hv
  have hnr := num_range (show Valid y m d from ⟨v1, v2, v3, v4, v5, v6⟩)
  have hdb := dim_bd y (m : Int)
  have HV := Lib.hid (show Valid y m d from ⟨v1, v2, v3, v4, v5, v6⟩)
  have HA := Lib.hid (addF_k (y := y) (m := m) (d := d) hk)
  go_enter Try.func7, Try.ntmps7
  go_wp2_with fail
  refine (example_calls _).mono ?_
  rintro e w1 ⟨rfl, hb1⟩
  have HB1 := Lib.hid hb1
  clear hb1
  go_wp2_with fail
  refine (add_at HV.out k _).mono ?_
  rw [HA.out]
  rintro e w2 ⟨rfl, hb2⟩
  have HB2 := Lib.hid (chain HB1.out hb2)
  clear hb2
  obtain ⟨z, q0, q1⟩ := FK.new w2 4 (-2)
  go_wp2_with (first | (go_at_call 16; first | (refine (in_yes _ (by omega) (by omega)).mono ?_; rintro e w' ⟨rfl, rfl⟩) | (refine (in_no _ (by omega)).mono ?_; rintro e w' ⟨rfl, rfl⟩)))
  go_region_held3 (fun w' => w'.cell? ⟨w2.heap.size, 0, none⟩ = some (.int .i64 4) ∧ w'.cell? ⟨w2.heap.size, 1, none⟩ = some (.int .i64 (-2))) (go_keep) (first | (go_at_call 17; refine (at_calls _ _ _).mono ?_; rintro e w' ⟨rfl, rfl⟩))
  go_wp2
  go_ret
  exact ⟨rfl, (chain_alloc (chain_alloc HB2.out _) _).drew⟩

set_option maxRecDepth 100000 in
set_option maxHeartbeats 400000 in
theorem months_q {y d : Int} {m : Nat} (k : Int) (w : World) (hv : Valid y m d) (hk1 : -120000 ≤ k) (hk2 : k ≤ 120000) (hq : 12 * y + (m : Int) - 1 + k < 12 ∨ 119999 < 12 * y + (m : Int) - 1 + k) : Calls Try.prog 7 #[.int .i64 (num y m d), .int .i64 k] w fun e w' => e = .returned (.bool true) ∧ Below w.heap.size w w' := by
  obtain ⟨v1, v2, v3, v4, v5, v6⟩ := hv
  have hnr := num_range (show Valid y m d from ⟨v1, v2, v3, v4, v5, v6⟩)
  have hdb := dim_bd y (m : Int)
  have HV := Lib.hid (show Valid y m d from ⟨v1, v2, v3, v4, v5, v6⟩)
  have HA := Lib.hid (addF_q (y := y) (m := m) (d := d) (show ¬ (k < -120000 ∨ 120000 < k) by omega) hq)
  go_enter Try.func7, Try.ntmps7
  go_wp2_with fail
  refine (example_calls _).mono ?_
  rintro e w1 ⟨rfl, hb1⟩
  have HB1 := Lib.hid hb1
  clear hb1
  go_wp2_with fail
  refine (add_at HV.out k _).mono ?_
  rw [HA.out]
  rintro e w2 ⟨rfl, hb2⟩
  have HB2 := Lib.hid (chain HB1.out hb2)
  clear hb2
  go_wp2_with (first | (go_at_call 16; first | (refine (in_yes _ (by omega) (by omega)).mono ?_; rintro e w' ⟨rfl, rfl⟩) | (refine (in_no _ (by omega)).mono ?_; rintro e w' ⟨rfl, rfl⟩)))
  refine (date_at HV.out _).mono ?_
  rintro e w3 ⟨rfl, hb3⟩
  obtain ⟨z, q0, q1⟩ := ((FK.new w2 4 (-3)).on hb3).alloc (.cells #[.int .i64 0, .int .i64 0] 24)
  obtain ⟨z', q0', q1'⟩ := FK.new w3 0 0
  have HB3 := Lib.hid (chain (chain_alloc HB2.out _) hb3)
  clear hb3
  go_wp2_with (first | (go_at_call 16; first | (refine (in_yes _ (by omega) (by omega)).mono ?_; rintro e w' ⟨rfl, rfl⟩) | (refine (in_no _ (by omega)).mono ?_; rintro e w' ⟨rfl, rfl⟩)))
  go_region_held3 (fun w' => w'.cell? ⟨w2.heap.size, 0, none⟩ = some (.int .i64 4) ∧ w'.cell? ⟨w2.heap.size, 1, none⟩ = some (.int .i64 (-3))) (go_keep) (first | (go_at_call 17; refine (at_calls _ _ _).mono ?_; rintro e w' ⟨rfl, rfl⟩))
  go_wp2
  go_ret
  exact ⟨rfl, (chain_alloc (chain_alloc HB3.out _) _).drew⟩

set_option maxRecDepth 100000 in
set_option maxHeartbeats 400000 in
theorem months_in {y d : Int} {m : Nat} (k yy : Int) (mm : Nat) (w : World) (hv : Valid y m d) (hk1 : -120000 ≤ k) (hk2 : k ≤ 120000) (hq1 : 12 ≤ 12 * y + (m : Int) - 1 + k) (hq2 : 12 * y + (m : Int) - 1 + k ≤ 119999)
    (hy : (12 * y + (m : Int) - 1 + k) / 12 = yy) (hm : (12 * y + (m : Int) - 1 + k) % 12 + 1 = (mm : Int)) (hmn : d ≤ dim yy (mm : Int)) : Calls Try.prog 7 #[.int .i64 (num y m d), .int .i64 k] w fun e w' => e = .returned (.bool true) ∧ Below w.heap.size w w' := by
  obtain ⟨v1, v2, v3, v4, v5, v6⟩ := hv
  have hnr := num_range (show Valid y m d from ⟨v1, v2, v3, v4, v5, v6⟩)
  have hdb := dim_bd y (m : Int)
  have HV := Lib.hid (show Valid y m d from ⟨v1, v2, v3, v4, v5, v6⟩)
  have hA := addF_ok (y := y) (m := m) (d := d) (show ¬ (k < -120000 ∨ 120000 < k) by omega) (by omega)
  rw [hy, hm, Int.toNat_natCast, show mn d (dim yy (mm : Int)) = d by unfold mn; split <;> omega] at hA
  have HA := Lib.hid hA
  clear hA
  have hdd := dim_bd yy (mm : Int)
  have hyb : 1 ≤ yy ∧ yy ≤ 9999 := by omega
  have hmb : 1 ≤ mm ∧ mm ≤ 12 := by omega
  have HY := Lib.hid hy
  have HM := Lib.hid hm
  clear hy hm
  go_enter Try.func7, Try.ntmps7
  go_wp2_with fail
  refine (example_calls _).mono ?_
  rintro e w1 ⟨rfl, hb1⟩
  have HB1 := Lib.hid hb1
  clear hb1
  go_wp2_with fail
  refine (add_at HV.out k _).mono ?_
  rw [HA.out]
  rintro e w2 ⟨rfl, hb2⟩
  have HB2 := Lib.hid (chain HB1.out hb2)
  clear hb2
  go_wp2_with (first | (go_at_call 16; first | (refine (in_yes _ (by omega) (by omega)).mono ?_; rintro e w' ⟨rfl, rfl⟩) | (refine (in_no _ (by omega)).mono ?_; rintro e w' ⟨rfl, rfl⟩)))
  refine (date_at HV.out _).mono ?_
  rintro e w3 ⟨rfl, hb3⟩
  obtain ⟨z, q0, q1⟩ := ((FK.new w2 0 0).on hb3).alloc (.cells #[.int .i64 0, .int .i64 0] 24)
  obtain ⟨z', q0', q1'⟩ := FK.new w3 0 0
  have HB3 := Lib.hid (chain (chain_alloc HB2.out _) hb3)
  clear hb3
  go_wp2_with (first | (go_at_call 16; first | (refine (in_yes _ (by omega) (by omega)).mono ?_; rintro e w' ⟨rfl, rfl⟩) | (refine (in_no _ (by omega)).mono ?_; rintro e w' ⟨rfl, rfl⟩)))
  rw [HY.out, HM.out]
  refine (refMonthDays_calls yy mm _ (by omega) (by omega) (by omega) (by omega)).mono ?_
  rintro e w4 ⟨rfl, rfl⟩
  go_wp2_with fail
  try rw [HY.out]
  try rw [HM.out]
  refine (dayOf_calls yy d mm _ (by omega) (by omega) (by omega) (by omega) (by omega) (by omega)).mono ?_
  rintro e w4 ⟨rfl, rfl⟩
  go_wp2_with fail
  go_ret
  exact ⟨rfl, chain_alloc HB3.out _⟩

set_option maxRecDepth 100000 in
set_option maxHeartbeats 400000 in
theorem months_cut {y d : Int} {m : Nat} (k yy : Int) (mm : Nat) (w : World) (hv : Valid y m d) (hk1 : -120000 ≤ k) (hk2 : k ≤ 120000) (hq1 : 12 ≤ 12 * y + (m : Int) - 1 + k) (hq2 : 12 * y + (m : Int) - 1 + k ≤ 119999)
    (hy : (12 * y + (m : Int) - 1 + k) / 12 = yy) (hm : (12 * y + (m : Int) - 1 + k) % 12 + 1 = (mm : Int)) (hmn : dim yy (mm : Int) < d) : Calls Try.prog 7 #[.int .i64 (num y m d), .int .i64 k] w fun e w' => e = .returned (.bool true) ∧ Below w.heap.size w w' := by
  obtain ⟨v1, v2, v3, v4, v5, v6⟩ := hv
  have hnr := num_range (show Valid y m d from ⟨v1, v2, v3, v4, v5, v6⟩)
  have hdb := dim_bd y (m : Int)
  have HV := Lib.hid (show Valid y m d from ⟨v1, v2, v3, v4, v5, v6⟩)
  have hA := addF_ok (y := y) (m := m) (d := d) (show ¬ (k < -120000 ∨ 120000 < k) by omega) (by omega)
  rw [hy, hm, Int.toNat_natCast, show mn d (dim yy (mm : Int)) = (dim yy (mm : Int)) by unfold mn; split <;> omega] at hA
  have HA := Lib.hid hA
  clear hA
  have hdd := dim_bd yy (mm : Int)
  have hyb : 1 ≤ yy ∧ yy ≤ 9999 := by omega
  have hmb : 1 ≤ mm ∧ mm ≤ 12 := by omega
  have HY := Lib.hid hy
  have HM := Lib.hid hm
  clear hy hm
  go_enter Try.func7, Try.ntmps7
  go_wp2_with fail
  refine (example_calls _).mono ?_
  rintro e w1 ⟨rfl, hb1⟩
  have HB1 := Lib.hid hb1
  clear hb1
  go_wp2_with fail
  refine (add_at HV.out k _).mono ?_
  rw [HA.out]
  rintro e w2 ⟨rfl, hb2⟩
  have HB2 := Lib.hid (chain HB1.out hb2)
  clear hb2
  go_wp2_with (first | (go_at_call 16; first | (refine (in_yes _ (by omega) (by omega)).mono ?_; rintro e w' ⟨rfl, rfl⟩) | (refine (in_no _ (by omega)).mono ?_; rintro e w' ⟨rfl, rfl⟩)))
  refine (date_at HV.out _).mono ?_
  rintro e w3 ⟨rfl, hb3⟩
  obtain ⟨z, q0, q1⟩ := ((FK.new w2 0 0).on hb3).alloc (.cells #[.int .i64 0, .int .i64 0] 24)
  obtain ⟨z', q0', q1'⟩ := FK.new w3 0 0
  have HB3 := Lib.hid (chain (chain_alloc HB2.out _) hb3)
  clear hb3
  go_wp2_with (first | (go_at_call 16; first | (refine (in_yes _ (by omega) (by omega)).mono ?_; rintro e w' ⟨rfl, rfl⟩) | (refine (in_no _ (by omega)).mono ?_; rintro e w' ⟨rfl, rfl⟩)))
  rw [HY.out, HM.out]
  refine (refMonthDays_calls yy mm _ (by omega) (by omega) (by omega) (by omega)).mono ?_
  rintro e w4 ⟨rfl, rfl⟩
  go_wp2_with fail
  try rw [HY.out]
  try rw [HM.out]
  refine (dayOf_calls yy (dim yy (mm : Int)) mm _ (by omega) (by omega) (by omega) (by omega) (by omega) (by omega)).mono ?_
  rintro e w4 ⟨rfl, rfl⟩
  go_wp2_with fail
  go_ret
  exact ⟨rfl, chain_alloc HB3.out _⟩

theorem months_calls (n k : Int) (w : World) : Calls Try.prog 7 #[.int .i64 n, .int .i64 k] w fun e w' => e = .returned (.bool true) ∧ Below w.heap.size w w' := by
  by_cases hn : 1 ≤ n ∧ n ≤ 3652059
  · obtain ⟨y, m, d, hv, rfl⟩ := date_ofI n hn.1 hn.2
    by_cases hk : k < -120000 ∨ 120000 < k
    · exact months_k k w hv hk
    · by_cases hq : 12 * y + (m : Int) - 1 + k < 12 ∨ 119999 < 12 * y + (m : Int) - 1 + k
      · exact months_q k w hv (by omega) (by omega) hq
      · obtain ⟨mm, hmm⟩ := Int.eq_ofNat_of_zero_le (show 0 ≤ (12 * y + (m : Int) - 1 + k) % 12 + 1 by omega)
        by_cases hd : d ≤ dim ((12 * y + (m : Int) - 1 + k) / 12) (mm : Int)
        · exact months_in k _ mm w hv (by omega) (by omega) (by omega) (by omega) rfl hmm hd
        · exact months_cut k _ mm w hv (by omega) (by omega) (by omega) (by omega) rfl hmm (by omega)
  · exact months_no n k w (by omega)
end Go.Proofs.Ytmhjcdencfbjpaa
