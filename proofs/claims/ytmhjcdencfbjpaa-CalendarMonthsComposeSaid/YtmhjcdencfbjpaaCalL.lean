/-
  The walk of the law on months that are added in two steps.
-/
import Derived.Test.YtmhjcdencfbjpaaCalK
namespace Go.Proofs.Ytmhjcdencfbjpaa
open Go.RowKit
set_option linter.unusedVariables false
set_option linter.unusedSimpArgs false

theorem addF_two {y : Int} {m : Nat} {d a b yy : Int} {mm : Nat} (ha : -60000 ≤ a ∧ a ≤ 60000) (hb : -60000 ≤ b ∧ b ≤ 60000) (hy : (12 * y + (m : Int) - 1 + a) / 12 = yy) (hm : (12 * y + (m : Int) - 1 + a) % 12 + 1 = (mm : Int)) :
    addF yy mm d b = addF y m d (a + b) := by
  unfold addF
  rw [if_neg (show ¬ (b < -120000 ∨ 120000 < b) by omega), if_neg (show ¬ (a + b < -120000 ∨ 120000 < a + b) by omega), show 12 * (yy - 1) + (mm : Int) - 1 + b = 12 * (y - 1) + (m : Int) - 1 + (a + b) by omega]

set_option maxRecDepth 100000 in
set_option maxHeartbeats 400000 in
theorem compose_no (n a b : Int) (w : World) (h : n < 1 ∨ 3652059 < n) : Calls Try.prog 8 #[.int .i64 n, .int .i64 a, .int .i64 b] w fun e w' => e = .returned (.bool true) ∧ Below w.heap.size w w' := by
  go_enter Try.func8, Try.ntmps8
  go_wp2_with fail
  refine (example_calls _).mono ?_
  rintro e w1 ⟨rfl, hb1⟩
  have HB1 := Lib.hid hb1
  clear hb1
  go_wp2_with fail
  refine (date_no n _ h).mono ?_
  rintro e w2 ⟨rfl, hb2⟩
  have HB2 := Lib.hid (chain HB1.out hb2)
  clear hb2
  go_wp2_with (first | (go_at_call 16; first | (refine (in_yes _ (by omega) (by omega)).mono ?_; rintro e w' ⟨rfl, rfl⟩) | (refine (in_no _ (by omega)).mono ?_; rintro e w' ⟨rfl, rfl⟩)))
  go_ret
  exact ⟨rfl, chain_alloc HB2.out _⟩

set_option maxRecDepth 100000 in
set_option maxHeartbeats 400000 in
theorem compose_a {y d : Int} {m : Nat} (a b : Int) (w : World) (hv : Valid y m d) (ha : a < -60000 ∨ 60000 < a) : Calls Try.prog 8 #[.int .i64 (num y m d), .int .i64 a, .int .i64 b] w fun e w' => e = .returned (.bool true) ∧ Below w.heap.size w w' := by
  obtain ⟨v1, v2, v3, v4, v5, v6⟩ := hv
  have hnr := num_range (show Valid y m d from ⟨v1, v2, v3, v4, v5, v6⟩)
  have hdb := dim_bd y (m : Int)
  have HV := Lib.hid (show Valid y m d from ⟨v1, v2, v3, v4, v5, v6⟩)
  go_enter Try.func8, Try.ntmps8
  go_wp2_with fail
  refine (example_calls _).mono ?_
  rintro e w1 ⟨rfl, hb1⟩
  have HB1 := Lib.hid hb1
  clear hb1
  go_wp2_with fail
  refine (date_at HV.out _).mono ?_
  rintro e w2 ⟨rfl, hb2⟩
  have HB2 := Lib.hid (chain HB1.out hb2)
  clear hb2
  go_wp2_with (first | (go_at_call 16; first | (refine (in_yes _ (by omega) (by omega)).mono ?_; rintro e w' ⟨rfl, rfl⟩) | (refine (in_no _ (by omega)).mono ?_; rintro e w' ⟨rfl, rfl⟩)))
  go_ret
  exact ⟨rfl, chain_alloc HB2.out _⟩

set_option maxRecDepth 100000 in
set_option maxHeartbeats 400000 in
theorem compose_b {y d : Int} {m : Nat} (a b : Int) (w : World) (hv : Valid y m d) (ha1 : -60000 ≤ a) (ha2 : a ≤ 60000) (hb : b < -60000 ∨ 60000 < b) : Calls Try.prog 8 #[.int .i64 (num y m d), .int .i64 a, .int .i64 b] w fun e w' => e = .returned (.bool true) ∧ Below w.heap.size w w' := by
  obtain ⟨v1, v2, v3, v4, v5, v6⟩ := hv
  have hnr := num_range (show Valid y m d from ⟨v1, v2, v3, v4, v5, v6⟩)
  have hdb := dim_bd y (m : Int)
  have HV := Lib.hid (show Valid y m d from ⟨v1, v2, v3, v4, v5, v6⟩)
  go_enter Try.func8, Try.ntmps8
  go_wp2_with fail
  refine (example_calls _).mono ?_
  rintro e w1 ⟨rfl, hb1⟩
  have HB1 := Lib.hid hb1
  clear hb1
  go_wp2_with fail
  refine (date_at HV.out _).mono ?_
  rintro e w2 ⟨rfl, hb2⟩
  have HB2 := Lib.hid (chain HB1.out hb2)
  clear hb2
  go_wp2_with (first | (go_at_call 16; first | (refine (in_yes _ (by omega) (by omega)).mono ?_; rintro e w' ⟨rfl, rfl⟩) | (refine (in_no _ (by omega)).mono ?_; rintro e w' ⟨rfl, rfl⟩)))
  go_ret
  exact ⟨rfl, chain_alloc HB2.out _⟩

set_option maxRecDepth 100000 in
set_option maxHeartbeats 400000 in
theorem compose_far {y d : Int} {m : Nat} (a b x c i x' c' i' : Int) (w : World) (hv : Valid y m d) (ha1 : -60000 ≤ a) (ha2 : a ≤ 60000) (hb1 : -60000 ≤ b) (hb2 : b ≤ 60000) (hA : addF y m d a = (x, c, i)) (hC : addF y m d (a + b) = (x', c', i')) (hd : 28 < d) : Calls Try.prog 8 #[.int .i64 (num y m d), .int .i64 a, .int .i64 b] w fun e w' => e = .returned (.bool true) ∧ Below w.heap.size w w' := by
  obtain ⟨v1, v2, v3, v4, v5, v6⟩ := hv
  have hnr := num_range (show Valid y m d from ⟨v1, v2, v3, v4, v5, v6⟩)
  have hdb := dim_bd y (m : Int)
  have HV := Lib.hid (show Valid y m d from ⟨v1, v2, v3, v4, v5, v6⟩)
  have HA := Lib.hid hA
  have HC := Lib.hid hC
  clear hA hC
  go_enter Try.func8, Try.ntmps8
  go_wp2_with fail
  refine (example_calls _).mono ?_
  rintro e w1 ⟨rfl, hb1⟩
  have HB1 := Lib.hid hb1
  clear hb1
  go_wp2_with fail
  refine (date_at HV.out _).mono ?_
  rintro e w2 ⟨rfl, hb2⟩
  have HB2 := Lib.hid (chain HB1.out hb2)
  clear hb2
  go_wp2_with (first | (go_at_call 16; first | (refine (in_yes _ (by omega) (by omega)).mono ?_; rintro e w' ⟨rfl, rfl⟩) | (refine (in_no _ (by omega)).mono ?_; rintro e w' ⟨rfl, rfl⟩)))
  refine (add_at HV.out a _).mono ?_
  rw [HA.out]
  rintro e w3 ⟨rfl, hb3⟩
  have F1 := Lib.hid ((FK.new w2 0 0).on hb3)
  have HB3 := Lib.hid (chain (chain_alloc HB2.out _) hb3)
  clear hb3
  go_wp2_with fail
  refine (add_at HV.out (a + b) _).mono ?_
  rw [HC.out]
  rintro e w4 ⟨rfl, hb4⟩
  have F2 := Lib.hid (((F1.out.alloc (.cells #[.int .i64 c, .int .i64 i] 24)).on hb4).alloc (.cells #[.int .i64 c', .int .i64 i'] 24))
  have F3 := Lib.hid (((FK.new w3 c i).on hb4).alloc (.cells #[.int .i64 c', .int .i64 i'] 24))
  have F4 := Lib.hid (FK.new w4 c' i')
  have HB4 := Lib.hid (chain (chain_alloc HB3.out _) hb4)
  clear hb4
  obtain ⟨z2, p2, p2'⟩ := F2.out
  obtain ⟨z3, p3, p3'⟩ := F3.out
  obtain ⟨z4, p4, p4'⟩ := F4.out
  go_wp2_with fail
  go_ret
  exact ⟨rfl, chain_alloc HB4.out _⟩

set_option maxRecDepth 100000 in
set_option maxHeartbeats 400000 in
theorem compose_stop {y d : Int} {m : Nat} (a b x c i x' c' i' : Int) (w : World) (hv : Valid y m d) (ha1 : -60000 ≤ a) (ha2 : a ≤ 60000) (hb1 : -60000 ≤ b) (hb2 : b ≤ 60000) (hA : addF y m d a = (x, c, i)) (hC : addF y m d (a + b) = (x', c', i')) (hd : d ≤ 28) (hc : (c != 0) = true) : Calls Try.prog 8 #[.int .i64 (num y m d), .int .i64 a, .int .i64 b] w fun e w' => e = .returned (.bool true) ∧ Below w.heap.size w w' := by
  obtain ⟨v1, v2, v3, v4, v5, v6⟩ := hv
  have hnr := num_range (show Valid y m d from ⟨v1, v2, v3, v4, v5, v6⟩)
  have hdb := dim_bd y (m : Int)
  have HV := Lib.hid (show Valid y m d from ⟨v1, v2, v3, v4, v5, v6⟩)
  have HA := Lib.hid hA
  have HC := Lib.hid hC
  clear hA hC
  go_enter Try.func8, Try.ntmps8
  go_wp2_with fail
  refine (example_calls _).mono ?_
  rintro e w1 ⟨rfl, hb1⟩
  have HB1 := Lib.hid hb1
  clear hb1
  go_wp2_with fail
  refine (date_at HV.out _).mono ?_
  rintro e w2 ⟨rfl, hb2⟩
  have HB2 := Lib.hid (chain HB1.out hb2)
  clear hb2
  go_wp2_with (first | (go_at_call 16; first | (refine (in_yes _ (by omega) (by omega)).mono ?_; rintro e w' ⟨rfl, rfl⟩) | (refine (in_no _ (by omega)).mono ?_; rintro e w' ⟨rfl, rfl⟩)))
  refine (add_at HV.out a _).mono ?_
  rw [HA.out]
  rintro e w3 ⟨rfl, hb3⟩
  have F1 := Lib.hid ((FK.new w2 0 0).on hb3)
  have HB3 := Lib.hid (chain (chain_alloc HB2.out _) hb3)
  clear hb3
  go_wp2_with fail
  refine (add_at HV.out (a + b) _).mono ?_
  rw [HC.out]
  rintro e w4 ⟨rfl, hb4⟩
  have F2 := Lib.hid (((F1.out.alloc (.cells #[.int .i64 c, .int .i64 i] 24)).on hb4).alloc (.cells #[.int .i64 c', .int .i64 i'] 24))
  have F3 := Lib.hid (((FK.new w3 c i).on hb4).alloc (.cells #[.int .i64 c', .int .i64 i'] 24))
  have F4 := Lib.hid (FK.new w4 c' i')
  have HB4 := Lib.hid (chain (chain_alloc HB3.out _) hb4)
  clear hb4
  obtain ⟨z2, p2, p2'⟩ := F2.out
  obtain ⟨z3, p3, p3'⟩ := F3.out
  obtain ⟨z4, p4, p4'⟩ := F4.out
  go_wp2_with fail
  go_ret
  exact ⟨rfl, chain_alloc HB4.out _⟩

set_option maxRecDepth 100000 in
set_option maxHeartbeats 400000 in
theorem compose_on {y d : Int} {m : Nat} (a b c i x' c' i' yy : Int) (mm : Nat) (w : World) (hv : Valid y m d) (hv' : Valid yy mm d) (ha1 : -60000 ≤ a) (ha2 : a ≤ 60000) (hb1 : -60000 ≤ b) (hb2 : b ≤ 60000) (hA : addF y m d a = (num yy mm d, c, i)) (hC : addF y m d (a + b) = (x', c', i')) (hE : addF yy mm d b = (x', c', i')) (hd : d ≤ 28) (hc : c = 0) : Calls Try.prog 8 #[.int .i64 (num y m d), .int .i64 a, .int .i64 b] w fun e w' => e = .returned (.bool true) ∧ Below w.heap.size w w' := by
  obtain ⟨v1, v2, v3, v4, v5, v6⟩ := hv
  have hnr := num_range (show Valid y m d from ⟨v1, v2, v3, v4, v5, v6⟩)
  have hdb := dim_bd y (m : Int)
  have HV := Lib.hid (show Valid y m d from ⟨v1, v2, v3, v4, v5, v6⟩)
  subst hc
  have HW := Lib.hid hv'
  clear hv'
  have HA := Lib.hid hA
  have HC := Lib.hid hC
  have HE := Lib.hid hE
  clear hA hC hE
  go_enter Try.func8, Try.ntmps8
  go_wp2_with fail
  refine (example_calls _).mono ?_
  rintro e w1 ⟨rfl, hb1⟩
  have HB1 := Lib.hid hb1
  clear hb1
  go_wp2_with fail
  refine (date_at HV.out _).mono ?_
  rintro e w2 ⟨rfl, hb2⟩
  have HB2 := Lib.hid (chain HB1.out hb2)
  clear hb2
  go_wp2_with (first | (go_at_call 16; first | (refine (in_yes _ (by omega) (by omega)).mono ?_; rintro e w' ⟨rfl, rfl⟩) | (refine (in_no _ (by omega)).mono ?_; rintro e w' ⟨rfl, rfl⟩)))
  refine (add_at HV.out a _).mono ?_
  rw [HA.out]
  rintro e w3 ⟨rfl, hb3⟩
  have F1 := Lib.hid ((FK.new w2 0 0).on hb3)
  have HB3 := Lib.hid (chain (chain_alloc HB2.out _) hb3)
  clear hb3
  go_wp2_with fail
  refine (add_at HV.out (a + b) _).mono ?_
  rw [HC.out]
  rintro e w4 ⟨rfl, hb4⟩
  have F2 := Lib.hid (((F1.out.alloc (.cells #[.int .i64 0, .int .i64 i] 24)).on hb4).alloc (.cells #[.int .i64 c', .int .i64 i'] 24))
  have F3 := Lib.hid (((FK.new w3 0 i).on hb4).alloc (.cells #[.int .i64 c', .int .i64 i'] 24))
  have F4 := Lib.hid (FK.new w4 c' i')
  have HB4 := Lib.hid (chain (chain_alloc HB3.out _) hb4)
  clear hb4
  obtain ⟨z2, p2, p2'⟩ := F2.out
  obtain ⟨z3, p3, p3'⟩ := F3.out
  obtain ⟨z4, p4, p4'⟩ := F4.out
  go_wp2_with fail
  refine (add_at HW.out b _).mono ?_
  rw [HE.out]
  rintro e w5 ⟨rfl, hb5⟩
  clear z2 p2 p2' z3 p3 p3' z4 p4 p4'
  obtain ⟨z4, p4, p4'⟩ := (F4.out.on hb5).alloc (.cells #[.int .i64 c', .int .i64 i'] 24)
  obtain ⟨z5, p5, p5'⟩ := FK.new w5 c' i'
  have HB5 := Lib.hid (chain (chain_alloc HB4.out _) hb5)
  clear hb5
  go_wp2_with fail
  go_ret
  exact ⟨rfl, chain_alloc HB5.out _⟩

theorem compose_calls (n a b : Int) (w : World) : Calls Try.prog 8 #[.int .i64 n, .int .i64 a, .int .i64 b] w fun e w' => e = .returned (.bool true) ∧ Below w.heap.size w w' := by
  by_cases hn : 1 ≤ n ∧ n ≤ 3652059
  · obtain ⟨y, m, d, hv, rfl⟩ := date_ofI n hn.1 hn.2
    by_cases ha : a < -60000 ∨ 60000 < a
    · exact compose_a a b w hv ha
    · by_cases hb : b < -60000 ∨ 60000 < b
      · exact compose_b a b w hv (by omega) (by omega) hb
      · by_cases hd : 28 < d
        · exact compose_far a b _ _ _ _ _ _ w hv (by omega) (by omega) (by omega) (by omega) rfl rfl hd
        · by_cases hq : 12 * y + (m : Int) - 1 + a < 12 ∨ 119999 < 12 * y + (m : Int) - 1 + a
          · exact compose_stop a b _ _ _ _ _ _ w hv (by omega) (by omega) (by omega) (by omega) (addF_q (by omega) hq) rfl (by omega) rfl
          · obtain ⟨mm, hmm⟩ := Int.eq_ofNat_of_zero_le (show 0 ≤ (12 * y + (m : Int) - 1 + a) % 12 + 1 by omega)
            have hA := addF_ok (y := y) (m := m) (d := d) (show ¬ (a < -120000 ∨ 120000 < a) by omega) hq
            have hdd := dim_bd ((12 * y + (m : Int) - 1 + a) / 12) (mm : Int)
            rw [hmm, Int.toNat_natCast, show mn d (dim ((12 * y + (m : Int) - 1 + a) / 12) (mm : Int)) = d by unfold mn; rw [if_pos (by omega)]] at hA
            exact compose_on a b _ _ _ _ _ _ mm w hv ⟨by omega, by omega, by omega, by omega, hv.2.2.2.2.1, by omega⟩ (by omega) (by omega) (by omega) (by omega) hA rfl (addF_two ⟨by omega, by omega⟩ ⟨by omega, by omega⟩ rfl hmm) (by omega) rfl
  · exact compose_no n a b w (by omega)
end Go.Proofs.Ytmhjcdencfbjpaa
