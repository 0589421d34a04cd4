/-
  The law on value.Validate.
-/
import Derived.Test.YtolognhjdmkohaaKRefH
import Derived.Test.YtolognhjdmkohaaJ15
namespace Go.Proofs.Ytolognhjdmkohaa
open Go.RowKit
set_option linter.unusedVariables false
set_option linter.unusedSimpArgs false

set_option maxRecDepth 100000 in
set_option maxHeartbeats 4000000 in
theorem lawValidate_calls {w : World} {v : Value} {d : Nd} {p : VF} (hv : VIn w w.heap.size v d p) (hm : Mod d p) :
    Calls Try.prog 3 #[v] w fun e w' => e = .returned (.bool true) ∧ Below w.heap.size w w' := by
  have HV := Lib.hid hv
  have HM := Lib.hid hm
  obtain ⟨sb, sn, sp, rfl, hd0⟩ := hv
  obtain ⟨Ab, nb, cb, An, nn, cn, Ap, cp, rfl, rfl, rfl, _⟩ := hd0
  clear hm
  go_enter Try.func3, Try.ntmps3
  go_upto_region 1 with (fail)
  obtain ⟨a, b, hab⟩ : ∃ a b, valF d p = (a, b) := ⟨_, _, rfl⟩
  have HAB := Lib.hid hab
  have heq := flt_eql a b a b
  have haa : (a == a && b == b) = true := by simp
  clear hab
  obtain ⟨W1, hW1⟩ : ∃ W1, w.alloc (.cells #[.int .i64 d.k, .int .i64 d.n, .slice Ab nb cb, .slice An nn cn, .slice Ap p.len cp] 26) = W1 := ⟨_, rfl⟩
  have HBX := Lib.hid (show Bx W1 w.heap.size (.int .i64 d.k) (.int .i64 d.n) (.slice Ab nb cb) (.slice An nn cn) (.slice Ap p.len cp) by rw [← hW1]; exact Bx.new _ _ _ _ _ _)
  have HB1 := Lib.hid (show Below w.heap.size w W1 by rw [← hW1]; exact bel1 _ _)
  rw [hW1]
  clear hW1
  go_region_with (first
    | (go_at_call 13; refine (example_calls _).mono ?_; rintro e w2 ⟨rfl, hb2⟩; have HB2 := Lib.hid (chain HB1.out (beldrew hb2)); have HX2 := Lib.hid (HBX.out.on (beldrew hb2)); have x2c := HX2.out.cells; obtain ⟨q0, q1, q2, q3, q4⟩ := x2c; clear hb2)
    | (go_at_call 14; refine (validate_calls HM.out (HV.out.on HB5.out)).mono ?_; rintro e w6 ⟨rfl, hb6⟩; have HB6 := Lib.hid (chain HB5.out hb6); rw [HAB.out]; clear hb6)
    | (go_at_call 14; refine (validate_calls HM.out (HV.out.on HB2.out)).mono ?_; rintro e w3 ⟨rfl, hb3⟩; have HB3 := Lib.hid (chain HB2.out hb3); have x3c := (HX2.out.on hb3).cells; obtain ⟨r0, r1, r2, r3, r4⟩ := x3c; rw [HAB.out]; clear hb3)
    | (go_at_call 15; refine (valueFault_calls (HV.out.on HB3.out) HM.out).mono ?_; rintro e w4 ⟨rfl, hb4⟩; have HB6 := Lib.hid (chain HB3.out hb4); rw [HAB.out]; clear hb4)
    | (go_at_call 15; refine (valueFault_calls (HV.out.on HB2.out) HM.out).mono ?_; rintro e w5 ⟨rfl, hb5⟩; have HB5 := Lib.hid (chain HB2.out hb5); have x5c := (HX2.out.on hb5).cells; obtain ⟨s0, s1, s2, s3, s4⟩ := x5c; rw [HAB.out]; clear hb5))
  all_goals go_wp2_with fail
  all_goals go_ret
  all_goals exact ⟨rfl, HB6.out⟩
end Go.Proofs.Ytolognhjdmkohaa
