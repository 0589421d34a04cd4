/-
  The walks of the laws on dates.
-/
import Derived.Test.YtmhjcdencfbjpaaCalG
namespace Go.Proofs.Ytmhjcdencfbjpaa
open Go.RowKit
set_option linter.unusedVariables false
set_option linter.unusedSimpArgs false

set_option maxRecDepth 100000 in
set_option maxHeartbeats 400000 in
theorem dateInverse_calls (n : Int) (w : World) :
    Calls Try.prog 4 #[.int .i64 n] w fun e w' => e = .returned (.bool true) ∧ Below w.heap.size w w' := by
  by_cases hn : 1 ≤ n ∧ n ≤ 3652059
  · obtain ⟨y, m, d, hv, rfl⟩ := date_ofI n hn.1 hn.2
    obtain ⟨v1, v2, v3, v4, v5, v6⟩ := hv
    have HV := Lib.hid (show Valid y m d from ⟨v1, v2, v3, v4, v5, v6⟩)
    have hdb := dim_bd y (m : Int)
    have HR := Lib.hid (show dateF y m d = (0, 0) from dateF_ok (by omega) (by omega) (by omega))
    obtain ⟨hn1, hn2⟩ := hn
    go_enter Try.func4, Try.ntmps4
    go_wp2_with fail
    refine (example_calls _).mono ?_
    rintro e w1 ⟨rfl, hb1⟩
    have HB1 := Lib.hid hb1
    clear hb1
    go_wp2_with fail
    refine (date_at HV.out _).mono ?_
    rintro e w2 ⟨rfl, hb2⟩
    have HB2 := Lib.hid (chain HB1.out hb2)
    clear hb2
    obtain ⟨z, q0, q1⟩ := FK.new w2 0 0
    have hfld : ∀ W, (Instr.field 24 (.agg #[.int .i64 0, .int .i64 0]) 0).run Try.prog W = .ok (.int .i64 0) W := by intro W; kernel_rfl
    go_wp2_with (first | (go_at_call 16; refine (in_yes _ (by omega) (by omega)).mono ?_; rintro e w' ⟨rfl, rfl⟩))
    refine (dateFault_calls y m d _).mono ?_
    rintro e w3 ⟨rfl, hb3⟩
    rw [HR.out]
    have HB3 := Lib.hid (chain (chain_alloc HB2.out _) hb3)
    clear hb3
    go_wp2_with fail
    refine (dayOf_calls y d m _ v1 v2 v3 v4 (by omega) (by omega)).mono ?_
    rintro e w4 ⟨rfl, rfl⟩
    go_wp2_with fail
    go_ret
    exact ⟨rfl, HB3.out⟩
  · have hn' : n < 1 ∨ 3652059 < n := by omega
    clear hn
    go_enter Try.func4, Try.ntmps4
    go_wp2_with fail
    refine (example_calls _).mono ?_
    rintro e w1 ⟨rfl, hb1⟩
    have HB1 := Lib.hid hb1
    clear hb1
    go_wp2_with fail
    refine (date_no n _ hn').mono ?_
    rintro e w2 ⟨rfl, hb2⟩
    have HB2 := Lib.hid (chain HB1.out hb2)
    clear hb2
    obtain ⟨z, q0, q1⟩ := FK.new w2 4 (-1)
    go_wp2_with (first | (go_at_call 16; refine (in_no _ (by omega)).mono ?_; rintro e w' ⟨rfl, rfl⟩))
    go_region_held3 (fun w' => w'.cell? ⟨w2.heap.size, 0, none⟩ = some (.int .i64 4) ∧ w'.cell? ⟨w2.heap.size, 1, none⟩ = some (.int .i64 (-1))) (go_keep) (first | (go_at_call 17; refine (at_calls _ _ _).mono ?_; rintro e w' ⟨rfl, rfl⟩))
    go_wp2
    go_ret
    exact ⟨rfl, (chain_alloc (chain_alloc HB2.out _) _).drew⟩
end Go.Proofs.Ytmhjcdencfbjpaa
