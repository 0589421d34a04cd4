/-
  The law on value.Compare.
-/
import Derived.Test.YtolognhjdmkohaaKCmpB
import Derived.Test.YtolognhjdmkohaaKRefH
import Derived.Test.YtolognhjdmkohaaJ19
import Derived.Test.YtolognhjdmkohaaJ15
namespace Go.Proofs.Ytolognhjdmkohaa
open Go.RowKit
set_option linter.unusedVariables false
set_option linter.unusedSimpArgs false

theorem flt_field (c i : Int) : ∀ W, (Instr.field 29 (.agg #[.int .i64 c, .int .i64 i]) 0).run Try.prog W = .ok (.int .i64 c) W := by intro W; kernel_rfl
/-- three values in variables of their own -/
structure Tri (W : World) (g : Nat) (d1 : Nd) (p1 : VF) (d2 : Nd) (p2 : VF) (d3 : Nd) (p3 : VF) (Ab1 : Option Addr) (nb1 cb1 : Nat) (An1 : Option Addr) (nn1 cn1 : Nat) (Ap1 : Option Addr) (cp1 : Nat) (Ab2 : Option Addr) (nb2 cb2 : Nat) (An2 : Option Addr) (nn2 cn2 : Nat) (Ap2 : Option Addr) (cp2 : Nat) (Ab3 : Option Addr) (nb3 cb3 : Nat) (An3 : Option Addr) (nn3 cn3 : Nat) (Ap3 : Option Addr) (cp3 : Nat) : Prop where
  x1 : Bx W (g) (.int .i64 d1.k) (.int .i64 d1.n) (.slice Ab1 nb1 cb1) (.slice An1 nn1 cn1) (.slice Ap1 p1.len cp1)
  v1 : VIn W W.heap.size (.agg #[.int .i64 d1.k, .int .i64 d1.n, .slice Ab1 nb1 cb1, .slice An1 nn1 cn1, .slice Ap1 p1.len cp1]) d1 p1
  m1 : Mod d1 p1
  x2 : Bx W (g + 1) (.int .i64 d2.k) (.int .i64 d2.n) (.slice Ab2 nb2 cb2) (.slice An2 nn2 cn2) (.slice Ap2 p2.len cp2)
  v2 : VIn W W.heap.size (.agg #[.int .i64 d2.k, .int .i64 d2.n, .slice Ab2 nb2 cb2, .slice An2 nn2 cn2, .slice Ap2 p2.len cp2]) d2 p2
  m2 : Mod d2 p2
  x3 : Bx W (g + 1 + 1) (.int .i64 d3.k) (.int .i64 d3.n) (.slice Ab3 nb3 cb3) (.slice An3 nn3 cn3) (.slice Ap3 p3.len cp3)
  v3 : VIn W W.heap.size (.agg #[.int .i64 d3.k, .int .i64 d3.n, .slice Ab3 nb3 cb3, .slice An3 nn3 cn3, .slice Ap3 p3.len cp3]) d3 p3
  m3 : Mod d3 p3
theorem Tri.on {W W' : World} {g : Nat} {d1 : Nd} {p1 : VF} {d2 : Nd} {p2 : VF} {d3 : Nd} {p3 : VF} {Ab1 : Option Addr} {nb1 cb1 : Nat} {An1 : Option Addr} {nn1 cn1 : Nat} {Ap1 : Option Addr} {cp1 : Nat} {Ab2 : Option Addr} {nb2 cb2 : Nat} {An2 : Option Addr} {nn2 cn2 : Nat} {Ap2 : Option Addr} {cp2 : Nat} {Ab3 : Option Addr} {nb3 cb3 : Nat} {An3 : Option Addr} {nn3 cn3 : Nat} {Ap3 : Option Addr} {cp3 : Nat}
    (h : Tri W g d1 p1 d2 p2 d3 p3 Ab1 nb1 cb1 An1 nn1 cn1 Ap1 cp1 Ab2 nb2 cb2 An2 nn2 cn2 Ap2 cp2 Ab3 nb3 cb3 An3 nn3 cn3 Ap3 cp3) (hb : Below W.heap.size W W') : Tri W' g d1 p1 d2 p2 d3 p3 Ab1 nb1 cb1 An1 nn1 cn1 Ap1 cp1 Ab2 nb2 cb2 An2 nn2 cn2 Ap2 cp2 Ab3 nb3 cb3 An3 nn3 cn3 Ap3 cp3 :=
  ⟨h.x1.on hb, h.v1.on hb, h.m1, h.x2.on hb, h.v2.on hb, h.m2, h.x3.on hb, h.v3.on hb, h.m3⟩
set_option maxRecDepth 100000 in
set_option maxHeartbeats 4000000 in
theorem lawCompare_a {w : World} {v1 v2 v3 : Value} {d1 d2 d3 : Nd} {p1 p2 p3 : VF} (hv1 : VIn w w.heap.size v1 d1 p1) (hv2 : VIn w w.heap.size v2 d2 p2) (hv3 : VIn w w.heap.size v3 d3 p3) (hm1 : Mod d1 p1) (hm2 : Mod d2 p2) (hm3 : Mod d3 p3) {ca ia : Int} (hva : valF d1 p1 = (ca, ia)) (hca : ca ≠ 0) :
    Calls Try.prog 11 #[v1, v2, v3] w fun e w' => e = .returned (.bool true) ∧ Below w.heap.size w w' := by
  have HV1 := Lib.hid hv1
  have HV2 := Lib.hid hv2
  have HV3 := Lib.hid hv3
  have HM1 := Lib.hid hm1
  have HM2 := Lib.hid hm2
  have HM3 := Lib.hid hm3
  obtain ⟨sb1, sn1, sp1, rfl, Ab1, nb1, cb1, An1, nn1, cn1, Ap1, cp1, rfl, rfl, rfl, _⟩ := hv1
  obtain ⟨sb2, sn2, sp2, rfl, Ab2, nb2, cb2, An2, nn2, cn2, Ap2, cp2, rfl, rfl, rfl, _⟩ := hv2
  obtain ⟨sb3, sn3, sp3, rfl, Ab3, nb3, cb3, An3, nn3, cn3, Ap3, cp3, rfl, rfl, rfl, _⟩ := hv3
  clear hm1 hm2 hm3
  go_enter Try.func11, Try.ntmps11
  go_wp2_with fail
  obtain ⟨W1, hW1⟩ : ∃ W1, ((w.alloc (.cells #[.int .i64 d1.k, .int .i64 d1.n, .slice Ab1 nb1 cb1, .slice An1 nn1 cn1, .slice Ap1 p1.len cp1] 26)).alloc (.cells #[.int .i64 d2.k, .int .i64 d2.n, .slice Ab2 nb2 cb2, .slice An2 nn2 cn2, .slice Ap2 p2.len cp2] 26)).alloc (.cells #[.int .i64 d3.k, .int .i64 d3.n, .slice Ab3 nb3 cb3, .slice An3 nn3 cn3, .slice Ap3 p3.len cp3] 26) = W1 := ⟨_, rfl⟩
  have HB1 := Lib.hid (show Below w.heap.size w W1 by rw [← hW1]; exact bel3 _ _ _ _)
  have HX1 := Lib.hid (show Bx W1 w.heap.size (.int .i64 d1.k) (.int .i64 d1.n) (.slice Ab1 nb1 cb1) (.slice An1 nn1 cn1) (.slice Ap1 p1.len cp1) by rw [← hW1]; exact (Bx.new _ _ _ _ _ _).on (bel2 _ _ _))
  have HX2 := Lib.hid (show Bx W1 (w.heap.size + 1) (.int .i64 d2.k) (.int .i64 d2.n) (.slice Ab2 nb2 cb2) (.slice An2 nn2 cn2) (.slice Ap2 p2.len cp2) by rw [← hW1]; have h := (Bx.new (w.alloc (.cells #[.int .i64 d1.k, .int .i64 d1.n, .slice Ab1 nb1 cb1, .slice An1 nn1 cn1, .slice Ap1 p1.len cp1] 26)) (.int .i64 d2.k) (.int .i64 d2.n) (.slice Ab2 nb2 cb2) (.slice An2 nn2 cn2) (.slice Ap2 p2.len cp2)).on (bel1 _ (.cells #[.int .i64 d3.k, .int .i64 d3.n, .slice Ab3 nb3 cb3, .slice An3 nn3 cn3, .slice Ap3 p3.len cp3] 26)); rw [alloc_size] at h; exact h)
  have HX3 := Lib.hid (show Bx W1 (w.heap.size + 1 + 1) (.int .i64 d3.k) (.int .i64 d3.n) (.slice Ab3 nb3 cb3) (.slice An3 nn3 cn3) (.slice Ap3 p3.len cp3) by rw [← hW1]; have h := Bx.new ((w.alloc (.cells #[.int .i64 d1.k, .int .i64 d1.n, .slice Ab1 nb1 cb1, .slice An1 nn1 cn1, .slice Ap1 p1.len cp1] 26)).alloc (.cells #[.int .i64 d2.k, .int .i64 d2.n, .slice Ab2 nb2 cb2, .slice An2 nn2 cn2, .slice Ap2 p2.len cp2] 26)) (.int .i64 d3.k) (.int .i64 d3.n) (.slice Ab3 nb3 cb3) (.slice An3 nn3 cn3) (.slice Ap3 p3.len cp3); simp only [alloc_size] at h; exact h)
  rw [hW1]
  clear hW1
  have HT1 := Lib.hid (show Tri W1 w.heap.size d1 p1 d2 p2 d3 p3 Ab1 nb1 cb1 An1 nn1 cn1 Ap1 cp1 Ab2 nb2 cb2 An2 nn2 cn2 Ap2 cp2 Ab3 nb3 cb3 An3 nn3 cn3 Ap3 cp3 from ⟨HX1.out, HV1.out.on HB1.out, HM1.out, HX2.out, HV2.out.on HB1.out, HM2.out, HX3.out, HV3.out.on HB1.out, HM3.out⟩)
  clear HX1 HX2 HX3 HV1 HV2 HV3 HM1 HM2 HM3
  refine (example_calls _).mono ?_
  rintro e w2 ⟨rfl, hb2⟩
  have HT2 := Lib.hid (HT1.out.on hb2)
  have HB2 := Lib.hid (chain HB1.out hb2)
  clear hb2 HT1 HB1
  obtain ⟨q0, q1, q2, q3, q4⟩ := HT2.out.x1.cells
  obtain ⟨t0, t1, t2, t3, t4⟩ := HT2.out.x2.cells
  go_wp2_with fail
  refine (compare_calls HT2.out.m1 HT2.out.m2 HT2.out.v1 HT2.out.v2).mono ?_
  rintro e w3 ⟨rfl, hb3⟩
  clear q0 q1 q2 q3 q4 t0 t1 t2 t3 t4
  rw [cmpR_a hva hca]
  have HVA := Lib.hid hva
  have hc' : (ca != 0) = true := by simpa using hca
  have heq := flt_eql ca ia ca ia
  have haa : (ca == ca && ia == ia) = true := by simp
  clear hva hca
  have hb3' := chain hb3 (bel1 _ (.cells #[.int .i64 ca, .int .i64 ia] 29))
  have HT3 := Lib.hid (HT2.out.on hb3')
  have HB3 := Lib.hid (chain HB2.out hb3')
  clear hb3' hb3 HT2 HB2
  obtain ⟨r0, r1, r2, r3, r4⟩ := HT3.out.x1.cells
  go_wp2_with fail
  refine (valueFault_calls HT3.out.v1 HT3.out.m1).mono ?_
  rintro e w4 ⟨rfl, hb4⟩
  have HB4 := Lib.hid (chain HB3.out hb4)
  obtain ⟨z4, a0, a1, f0, f1⟩ := (FC.new w3 ca ia).on hb4
  have a0' := fun ob => cell_up (o := ob) a0
  have a1' := fun ob => cell_up (o := ob) a1
  rw [HVA.out]
  clear hb4 r0 r1 r2 r3 r4
  go_wp2_with fail
  go_ret
  exact ⟨rfl, bel_up HB4.out _⟩
set_option maxRecDepth 100000 in
set_option maxHeartbeats 4000000 in
theorem lawCompare_b {w : World} {v1 v2 v3 : Value} {d1 d2 d3 : Nd} {p1 p2 p3 : VF} (hv1 : VIn w w.heap.size v1 d1 p1) (hv2 : VIn w w.heap.size v2 d2 p2) (hv3 : VIn w w.heap.size v3 d3 p3) (hm1 : Mod d1 p1) (hm2 : Mod d2 p2) (hm3 : Mod d3 p3) {cb ib : Int} (hva : valF d1 p1 = (0, 0)) (hvb : valF d2 p2 = (cb, ib)) (hcb : cb ≠ 0) :
    Calls Try.prog 11 #[v1, v2, v3] w fun e w' => e = .returned (.bool true) ∧ Below w.heap.size w w' := by
  have HV1 := Lib.hid hv1
  have HV2 := Lib.hid hv2
  have HV3 := Lib.hid hv3
  have HM1 := Lib.hid hm1
  have HM2 := Lib.hid hm2
  have HM3 := Lib.hid hm3
  obtain ⟨sb1, sn1, sp1, rfl, Ab1, nb1, cb1, An1, nn1, cn1, Ap1, cp1, rfl, rfl, rfl, _⟩ := hv1
  obtain ⟨sb2, sn2, sp2, rfl, Ab2, nb2, cb2, An2, nn2, cn2, Ap2, cp2, rfl, rfl, rfl, _⟩ := hv2
  obtain ⟨sb3, sn3, sp3, rfl, Ab3, nb3, cb3, An3, nn3, cn3, Ap3, cp3, rfl, rfl, rfl, _⟩ := hv3
  clear hm1 hm2 hm3
  go_enter Try.func11, Try.ntmps11
  go_wp2_with fail
  obtain ⟨W1, hW1⟩ : ∃ W1, ((w.alloc (.cells #[.int .i64 d1.k, .int .i64 d1.n, .slice Ab1 nb1 cb1, .slice An1 nn1 cn1, .slice Ap1 p1.len cp1] 26)).alloc (.cells #[.int .i64 d2.k, .int .i64 d2.n, .slice Ab2 nb2 cb2, .slice An2 nn2 cn2, .slice Ap2 p2.len cp2] 26)).alloc (.cells #[.int .i64 d3.k, .int .i64 d3.n, .slice Ab3 nb3 cb3, .slice An3 nn3 cn3, .slice Ap3 p3.len cp3] 26) = W1 := ⟨_, rfl⟩
  have HB1 := Lib.hid (show Below w.heap.size w W1 by rw [← hW1]; exact bel3 _ _ _ _)
  have HX1 := Lib.hid (show Bx W1 w.heap.size (.int .i64 d1.k) (.int .i64 d1.n) (.slice Ab1 nb1 cb1) (.slice An1 nn1 cn1) (.slice Ap1 p1.len cp1) by rw [← hW1]; exact (Bx.new _ _ _ _ _ _).on (bel2 _ _ _))
  have HX2 := Lib.hid (show Bx W1 (w.heap.size + 1) (.int .i64 d2.k) (.int .i64 d2.n) (.slice Ab2 nb2 cb2) (.slice An2 nn2 cn2) (.slice Ap2 p2.len cp2) by rw [← hW1]; have h := (Bx.new (w.alloc (.cells #[.int .i64 d1.k, .int .i64 d1.n, .slice Ab1 nb1 cb1, .slice An1 nn1 cn1, .slice Ap1 p1.len cp1] 26)) (.int .i64 d2.k) (.int .i64 d2.n) (.slice Ab2 nb2 cb2) (.slice An2 nn2 cn2) (.slice Ap2 p2.len cp2)).on (bel1 _ (.cells #[.int .i64 d3.k, .int .i64 d3.n, .slice Ab3 nb3 cb3, .slice An3 nn3 cn3, .slice Ap3 p3.len cp3] 26)); rw [alloc_size] at h; exact h)
  have HX3 := Lib.hid (show Bx W1 (w.heap.size + 1 + 1) (.int .i64 d3.k) (.int .i64 d3.n) (.slice Ab3 nb3 cb3) (.slice An3 nn3 cn3) (.slice Ap3 p3.len cp3) by rw [← hW1]; have h := Bx.new ((w.alloc (.cells #[.int .i64 d1.k, .int .i64 d1.n, .slice Ab1 nb1 cb1, .slice An1 nn1 cn1, .slice Ap1 p1.len cp1] 26)).alloc (.cells #[.int .i64 d2.k, .int .i64 d2.n, .slice Ab2 nb2 cb2, .slice An2 nn2 cn2, .slice Ap2 p2.len cp2] 26)) (.int .i64 d3.k) (.int .i64 d3.n) (.slice Ab3 nb3 cb3) (.slice An3 nn3 cn3) (.slice Ap3 p3.len cp3); simp only [alloc_size] at h; exact h)
  rw [hW1]
  clear hW1
  have HT1 := Lib.hid (show Tri W1 w.heap.size d1 p1 d2 p2 d3 p3 Ab1 nb1 cb1 An1 nn1 cn1 Ap1 cp1 Ab2 nb2 cb2 An2 nn2 cn2 Ap2 cp2 Ab3 nb3 cb3 An3 nn3 cn3 Ap3 cp3 from ⟨HX1.out, HV1.out.on HB1.out, HM1.out, HX2.out, HV2.out.on HB1.out, HM2.out, HX3.out, HV3.out.on HB1.out, HM3.out⟩)
  clear HX1 HX2 HX3 HV1 HV2 HV3 HM1 HM2 HM3
  refine (example_calls _).mono ?_
  rintro e w2 ⟨rfl, hb2⟩
  have HT2 := Lib.hid (HT1.out.on hb2)
  have HB2 := Lib.hid (chain HB1.out hb2)
  clear hb2 HT1 HB1
  obtain ⟨q0, q1, q2, q3, q4⟩ := HT2.out.x1.cells
  obtain ⟨t0, t1, t2, t3, t4⟩ := HT2.out.x2.cells
  go_wp2_with fail
  refine (compare_calls HT2.out.m1 HT2.out.m2 HT2.out.v1 HT2.out.v2).mono ?_
  rintro e w3 ⟨rfl, hb3⟩
  clear q0 q1 q2 q3 q4 t0 t1 t2 t3 t4
  rw [cmpR_b hva hvb hcb]
  have HVA := Lib.hid hva
  have HVB := Lib.hid hvb
  have hc' : (cb != 0) = true := by simpa using hcb
  have heq := flt_eql cb ib cb ib
  have haa : (cb == cb && ib == ib) = true := by simp
  clear hva hvb hcb
  have hb3' := chain hb3 (bel1 _ (.cells #[.int .i64 cb, .int .i64 ib] 29))
  have HT3 := Lib.hid (HT2.out.on hb3')
  have HB3 := Lib.hid (chain HB2.out hb3')
  have HF3 := Lib.hid (FC.new w3 cb ib)
  clear hb3' hb3 HT2 HB2
  obtain ⟨r0, r1, r2, r3, r4⟩ := HT3.out.x1.cells
  go_wp2_with fail
  refine (valueFault_calls HT3.out.v1 HT3.out.m1).mono ?_
  rintro e w4 ⟨rfl, hb4⟩
  have hb4' := chain hb4 (bel1 _ (.cells #[.int .i64 0, .int .i64 0] 29))
  have HT4 := Lib.hid (HT3.out.on hb4')
  have HB4 := Lib.hid (chain HB3.out hb4')
  have HF4 := Lib.hid (HF3.out.on hb4')
  clear hb4' hb4 HT3 HB3 HF3 r0 r1 r2 r3 r4
  rw [HVA.out]
  obtain ⟨r0, r1, r2, r3, r4⟩ := HT4.out.x2.cells
  go_wp2_with fail
  refine (valueFault_calls HT4.out.v2 HT4.out.m2).mono ?_
  rintro e w5 ⟨rfl, hb5⟩
  have HB5 := Lib.hid (chain HB4.out hb5)
  obtain ⟨z4, a0, a1, f0, f1⟩ := HF4.out.on hb5
  have a0' := fun ob => cell_up (o := ob) a0
  have a1' := fun ob => cell_up (o := ob) a1
  rw [HVB.out]
  clear hb5 r0 r1 r2 r3 r4
  go_wp2_with fail
  go_ret
  exact ⟨rfl, bel_up HB5.out _⟩
set_option maxRecDepth 100000 in
set_option maxHeartbeats 8000000 in
theorem lawCompare_m {w : World} {v1 v2 v3 : Value} {d1 d2 d3 : Nd} {p1 p2 p3 : VF} (hv1 : VIn w w.heap.size v1 d1 p1) (hv2 : VIn w w.heap.size v2 d2 p2) (hv3 : VIn w w.heap.size v3 d3 p3) (hm1 : Mod d1 p1) (hm2 : Mod d2 p2) (hm3 : Mod d3 p3) (hva : valF d1 p1 = (0, 0)) (hvb : valF d2 p2 = (0, 0)) (hx : Lib.compareBytes (encV d1 p1) (encV d2 p2) = -1) :
    Calls Try.prog 11 #[v1, v2, v3] w fun e w' => e = .returned (.bool true) ∧ Below w.heap.size w w' := by
  have HY := Lib.hid (show Lib.compareBytes (encV d2 p2) (encV d1 p1) = 1 by rw [cmp_swap, hx]; rfl)
  have HS := Lib.hid (show sameV d1 p1 d2 p2 = false by rw [Bool.eq_false_iff]; intro h; obtain ⟨rfl, rfl⟩ := (sameV_iff d1 p1 d2 p2).1 h; rw [(cmp_zero _ _).2 rfl] at hx; exact absurd hx (by decide))
  have hls : Op.bytesLess (encV d1 p1) (encV d2 p2) = true := by rw [less_cmp, hx]; rfl
  have HVA := Lib.hid hva
  have HVB := Lib.hid hvb
  have HXX := Lib.hid hx
  have HLS := Lib.hid hls
  clear hls
  have hc1 := cmpR_c hva hvb
  rw [hx] at hc1
  have hc2 := cmpR_c hvb hva
  rw [HY.out] at hc2
  have HC1 := Lib.hid hc1
  have HC2 := Lib.hid hc2
  clear hc1 hc2 hx hva hvb
  have HV1 := Lib.hid hv1
  have HV2 := Lib.hid hv2
  have HV3 := Lib.hid hv3
  have HM1 := Lib.hid hm1
  have HM2 := Lib.hid hm2
  have HM3 := Lib.hid hm3
  obtain ⟨sb1, sn1, sp1, rfl, Ab1, nb1, cb1, An1, nn1, cn1, Ap1, cp1, rfl, rfl, rfl, _⟩ := hv1
  obtain ⟨sb2, sn2, sp2, rfl, Ab2, nb2, cb2, An2, nn2, cn2, Ap2, cp2, rfl, rfl, rfl, _⟩ := hv2
  obtain ⟨sb3, sn3, sp3, rfl, Ab3, nb3, cb3, An3, nn3, cn3, Ap3, cp3, rfl, rfl, rfl, _⟩ := hv3
  clear hm1 hm2 hm3
  go_enter Try.func11, Try.ntmps11
  go_wp2_with fail
  obtain ⟨W1, hW1⟩ : ∃ W1, ((w.alloc (.cells #[.int .i64 d1.k, .int .i64 d1.n, .slice Ab1 nb1 cb1, .slice An1 nn1 cn1, .slice Ap1 p1.len cp1] 26)).alloc (.cells #[.int .i64 d2.k, .int .i64 d2.n, .slice Ab2 nb2 cb2, .slice An2 nn2 cn2, .slice Ap2 p2.len cp2] 26)).alloc (.cells #[.int .i64 d3.k, .int .i64 d3.n, .slice Ab3 nb3 cb3, .slice An3 nn3 cn3, .slice Ap3 p3.len cp3] 26) = W1 := ⟨_, rfl⟩
  have HB1 := Lib.hid (show Below w.heap.size w W1 by rw [← hW1]; exact bel3 _ _ _ _)
  have HX1 := Lib.hid (show Bx W1 w.heap.size (.int .i64 d1.k) (.int .i64 d1.n) (.slice Ab1 nb1 cb1) (.slice An1 nn1 cn1) (.slice Ap1 p1.len cp1) by rw [← hW1]; exact (Bx.new _ _ _ _ _ _).on (bel2 _ _ _))
  have HX2 := Lib.hid (show Bx W1 (w.heap.size + 1) (.int .i64 d2.k) (.int .i64 d2.n) (.slice Ab2 nb2 cb2) (.slice An2 nn2 cn2) (.slice Ap2 p2.len cp2) by rw [← hW1]; have h := (Bx.new (w.alloc (.cells #[.int .i64 d1.k, .int .i64 d1.n, .slice Ab1 nb1 cb1, .slice An1 nn1 cn1, .slice Ap1 p1.len cp1] 26)) (.int .i64 d2.k) (.int .i64 d2.n) (.slice Ab2 nb2 cb2) (.slice An2 nn2 cn2) (.slice Ap2 p2.len cp2)).on (bel1 _ (.cells #[.int .i64 d3.k, .int .i64 d3.n, .slice Ab3 nb3 cb3, .slice An3 nn3 cn3, .slice Ap3 p3.len cp3] 26)); rw [alloc_size] at h; exact h)
  have HX3 := Lib.hid (show Bx W1 (w.heap.size + 1 + 1) (.int .i64 d3.k) (.int .i64 d3.n) (.slice Ab3 nb3 cb3) (.slice An3 nn3 cn3) (.slice Ap3 p3.len cp3) by rw [← hW1]; have h := Bx.new ((w.alloc (.cells #[.int .i64 d1.k, .int .i64 d1.n, .slice Ab1 nb1 cb1, .slice An1 nn1 cn1, .slice Ap1 p1.len cp1] 26)).alloc (.cells #[.int .i64 d2.k, .int .i64 d2.n, .slice Ab2 nb2 cb2, .slice An2 nn2 cn2, .slice Ap2 p2.len cp2] 26)) (.int .i64 d3.k) (.int .i64 d3.n) (.slice Ab3 nb3 cb3) (.slice An3 nn3 cn3) (.slice Ap3 p3.len cp3); simp only [alloc_size] at h; exact h)
  rw [hW1]
  clear hW1
  have HT1 := Lib.hid (show Tri W1 w.heap.size d1 p1 d2 p2 d3 p3 Ab1 nb1 cb1 An1 nn1 cn1 Ap1 cp1 Ab2 nb2 cb2 An2 nn2 cn2 Ap2 cp2 Ab3 nb3 cb3 An3 nn3 cn3 Ap3 cp3 from ⟨HX1.out, HV1.out.on HB1.out, HM1.out, HX2.out, HV2.out.on HB1.out, HM2.out, HX3.out, HV3.out.on HB1.out, HM3.out⟩)
  clear HX1 HX2 HX3 HV1 HV2 HV3 HM1 HM2 HM3
  refine (example_calls _).mono ?_
  rintro e w2 ⟨rfl, hb2⟩
  have HT2 := Lib.hid (HT1.out.on hb2)
  have HB2 := Lib.hid (chain HB1.out hb2)
  clear hb2 HT1 HB1
  obtain ⟨q0, q1, q2, q3, q4⟩ := HT2.out.x1.cells
  obtain ⟨t0, t1, t2, t3, t4⟩ := HT2.out.x2.cells
  go_wp2_with fail
  refine (compare_calls HT2.out.m1 HT2.out.m2 HT2.out.v1 HT2.out.v2).mono ?_
  rintro e w3 ⟨rfl, hb3⟩
  clear q0 q1 q2 q3 q4 t0 t1 t2 t3 t4
  rw [HC1.out]
  have hb3' := chain hb3 (bel1 _ (.cells #[.int .i64 0, .int .i64 0] 29))
  have HT3 := Lib.hid (HT2.out.on hb3')
  have HB3 := Lib.hid (chain HB2.out hb3')
  have HF3 := Lib.hid (FC.new w3 0 0)
  clear hb3' hb3 HT2 HB2
  obtain ⟨r0, r1, r2, r3, r4⟩ := HT3.out.x1.cells
  go_wp2_with fail
  refine (valueFault_calls HT3.out.v1 HT3.out.m1).mono ?_
  rintro e w4 ⟨rfl, hb4⟩
  have hb4' := chain hb4 (bel1 _ (.cells #[.int .i64 0, .int .i64 0] 29))
  have HT4 := Lib.hid (HT3.out.on hb4')
  have HB4 := Lib.hid (chain HB3.out hb4')
  have HF4 := Lib.hid (HF3.out.on hb4')
  clear hb4' hb4 HT3 HB3 HF3 r0 r1 r2 r3 r4
  rw [HVA.out]
  obtain ⟨r0, r1, r2, r3, r4⟩ := HT4.out.x2.cells
  go_wp2_with fail
  refine (valueFault_calls HT4.out.v2 HT4.out.m2).mono ?_
  rintro e w5 ⟨rfl, hb5⟩
  have hb5' := chain hb5 (bel1 _ (.cells #[.int .i64 0, .int .i64 0] 29))
  have HT5 := Lib.hid (HT4.out.on hb5')
  have HB5 := Lib.hid (chain HB4.out hb5')
  have HF5 := Lib.hid (HF4.out.on hb5')
  clear hb5' hb5 HT4 HB4 HF4 r0 r1 r2 r3 r4
  rw [HVB.out]
  obtain ⟨r0, r1, r2, r3, r4⟩ := HT5.out.x2.cells
  obtain ⟨q0, q1, q2, q3, q4⟩ := HT5.out.x1.cells
  go_wp2_with fail
  refine (compare_calls HT5.out.m2 HT5.out.m1 HT5.out.v2 HT5.out.v1).mono ?_
  rintro e w6 ⟨rfl, hb6⟩
  rw [HC2.out]
  have hb6' := chain hb6 (bel1 _ (.cells #[.int .i64 0, .int .i64 0] 29))
  have HT6 := Lib.hid (HT5.out.on hb6')
  have HB6 := Lib.hid (chain HB5.out hb6')
  obtain ⟨z4, a0, a1, f0, f1⟩ := HF5.out.on hb6'
  clear hb6' hb6 HT5 HB5 HF5 r0 r1 r2 r3 r4 q0 q1 q2 q3 q4
  obtain ⟨r0, r1, r2, r3, r4⟩ := HT6.out.x2.cells
  obtain ⟨q0, q1, q2, q3, q4⟩ := HT6.out.x1.cells
  go_upto_region 13 with (first
    | (go_at_call 23; refine (in_calls _ _ _ _).mono ?_; rintro e w' ⟨rfl, rfl⟩)
    | (go_at_call 21; refine (same_calls HT6.out.m1.pl HT6.out.m1.fp HT6.out.m1.nd.2.2.1 HT6.out.m2.pl HT6.out.m2.fp HT6.out.v1 HT6.out.v2).mono ?_; rintro e w7 ⟨rfl, hb7⟩; have HT7 := Lib.hid (HT6.out.on hb7); have HB7 := Lib.hid (chain HB6.out hb7); rw [HS.out]; clear hb7))
  clear HT6 HB6 z4 a0 a1 f0 f1 r0 r1 r2 r3 r4 q0 q1 q2 q3 q4
  obtain ⟨r0, r1, r2, r3, r4⟩ := HT7.out.x2.cells
  obtain ⟨q0, q1, q2, q3, q4⟩ := HT7.out.x1.cells
  obtain ⟨e1, he1⟩ : ∃ e1, encV d1 p1 = e1 := ⟨_, rfl⟩
  obtain ⟨e2, he2⟩ : ∃ e2, encV d2 p2 = e2 := ⟨_, rfl⟩
  have hls : Op.bytesLess e1 e2 = true := by rw [← he1, ← he2]; exact HLS.out
  obtain ⟨mk1, hck1, _⟩ := valF_zero HVA.out
  obtain ⟨mk2, hck2, _⟩ := valF_zero HVB.out
  have HE1 := Lib.hid (show ∀ (w : World), VIn w w.heap.size (.agg #[.int .i64 d1.k, .int .i64 d1.n, .slice Ab1 nb1 cb1, .slice An1 nn1 cn1, .slice Ap1 p1.len cp1]) d1 p1 → Calls Try.prog 18 #[.agg #[.int .i64 d1.k, .int .i64 d1.n, .slice Ab1 nb1 cb1, .slice An1 nn1 cn1, .slice Ap1 p1.len cp1]] w (Made w e1) from fun w h => by rw [← he1]; exact encoding_calls HT7.out.m1 h hck1)
  have HE2 := Lib.hid (show ∀ (w : World), VIn w w.heap.size (.agg #[.int .i64 d2.k, .int .i64 d2.n, .slice Ab2 nb2 cb2, .slice An2 nn2 cn2, .slice Ap2 p2.len cp2]) d2 p2 → Calls Try.prog 18 #[.agg #[.int .i64 d2.k, .int .i64 d2.n, .slice Ab2 nb2 cb2, .slice An2 nn2 cn2, .slice Ap2 p2.len cp2]] w (Made w e2) from fun w h => by rw [← he2]; exact encoding_calls HT7.out.m2 h hck2)
  clear he1 he2 hck1 hck2 HLS
  go_cut [91] (fun a wx => a = .bool false ∧ Below w7.heap.size w7 wx)
  case first =>
    go_region_with (first
      | (go_at_call 18; refine (HE2.out _ (HT81.out.v2)).mono ?_; rintro e w9 ⟨A9, c9, rfl, hown9, hb9⟩; have rs2 := run_str (c := c9) (Rd.of_own hown9); have rs1 := run_str (c := c8) (HR8.out.on hb9); have HB9 := Lib.hid (chain HB8.out hb9); clear hown9 hb9)
      | (go_at_call 18; refine (HE1.out _ (HT82.out.v1)).mono ?_; rintro e w9 ⟨A9, c9, rfl, hown9, hb9⟩; have rs1 := run_str (c := c9) (Rd.of_own hown9); have rs2 := run_str (c := c8) (HR8.out.on hb9); have HB9 := Lib.hid (chain HB8.out hb9); clear hown9 hb9)
      | (go_at_call 18; refine (HE1.out _ (HT7.out.v1.on ((Below.refl _ _).drew))).mono ?_; rintro e w8 ⟨A8, c8, rfl, hown8, hb8⟩; have rs8 := run_str (c := c8) (Rd.of_own hown8); have HR8 := Lib.hid (Rd.of_own hown8); have HB8 := Lib.hid (beldrew hb8); have HT81 := Lib.hid (HT7.out.on HB8.out); obtain ⟨s0, s1, s2, s3, s4⟩ := HT81.out.x2.cells; clear hown8 hb8)
      | (go_at_call 18; refine (HE2.out _ (HT7.out.v2.on ((Below.refl _ _).drew))).mono ?_; rintro e w8 ⟨A8, c8, rfl, hown8, hb8⟩; have rs8 := run_str (c := c8) (Rd.of_own hown8); have HR8 := Lib.hid (Rd.of_own hown8); have HB8 := Lib.hid (beldrew hb8); have HT82 := Lib.hid (HT7.out.on HB8.out); obtain ⟨s0, s1, s2, s3, s4⟩ := HT82.out.x1.cells; clear hown8 hb8))
    all_goals go_wp2_with fail
    all_goals go_meet
    all_goals exact ⟨rfl, HB9.out⟩
  case rest =>
    obtain ⟨rfl, hb10⟩ := hcut
    have HT10 := Lib.hid (HT7.out.on hb10)
    have HB10 := Lib.hid (chain HB7.out hb10)
    clear hb10 HT7 HB7 r0 r1 r2 r3 r4 q0 q1 q2 q3 q4 hls HE1 HE2
    obtain ⟨r0, r1, r2, r3, r4⟩ := HT10.out.x3.cells
    go_wp2_with fail
    refine (valueFault_calls HT10.out.v3 HT10.out.m3).mono ?_
    rintro e w11 ⟨rfl, hb11⟩
    have HT11 := Lib.hid (HT10.out.on hb11)
    have HB11 := Lib.hid (chain HB10.out hb11)
    clear hb11 HT10 HB10 r0 r1 r2 r3 r4
    rcases valF_code d3 p3 with hv3 | hv3
    · have HV3 := Lib.hid hv3
      rw [HV3.out]
      clear hv3
      have hfld := flt_field 0 0
      obtain ⟨r0, r1, r2, r3, r4⟩ := HT11.out.x2.cells
      obtain ⟨q0, q1, q2, q3, q4⟩ := HT11.out.x3.cells
      obtain ⟨z, hz⟩ : ∃ z, Lib.compareBytes (encV d2 p2) (encV d3 p3) = z := ⟨_, rfl⟩
      obtain ⟨u, hu⟩ : ∃ u, Lib.compareBytes (encV d1 p1) (encV d3 p3) = u := ⟨_, rfl⟩
      have hc3 := cmpR_c HVB.out HV3.out
      rw [hz] at hc3
      have hc4 := cmpR_c HVA.out HV3.out
      rw [hu] at hc4
      have HC3 := Lib.hid hc3
      have HC4 := Lib.hid hc4
      have HZU := Lib.hid (show 0 < z ∨ u ≤ 0 from by by_cases h : 0 < z; exact .inl h; exact .inr (by rw [← hu]; exact cmp_trans _ (encV d2 p2) _ (by rw [HXX.out]; decide) (by rw [hz]; omega)))
      clear hc3 hc4 hz hu
      go_wp2_with fail
      refine (compare_calls HT11.out.m2 HT11.out.m3 HT11.out.v2 HT11.out.v3).mono ?_
      rintro e w12 ⟨rfl, hb12⟩
      rw [HC3.out]
      have hb12' := chain hb12 (bel1 _ (.cells #[.int .i64 0, .int .i64 0] 29))
      have HT12 := Lib.hid (HT11.out.on hb12')
      have HB12 := Lib.hid (chain HB11.out hb12')
      have HF12 := Lib.hid (FC.new w12 0 0)
      clear hb12' hb12 HT11 HB11 r0 r1 r2 r3 r4 q0 q1 q2 q3 q4
      obtain ⟨r0, r1, r2, r3, r4⟩ := HT12.out.x1.cells
      obtain ⟨q0, q1, q2, q3, q4⟩ := HT12.out.x3.cells
      go_wp2_with fail
      refine (compare_calls HT12.out.m1 HT12.out.m3 HT12.out.v1 HT12.out.v3).mono ?_
      rintro e w13 ⟨rfl, hb13⟩
      rw [HC4.out]
      have HB13 := Lib.hid (chain HB12.out hb13)
      obtain ⟨z4, a0, a1, f0, f1⟩ := HF12.out.on hb13
      have a0' := fun ob => cell_up (o := ob) a0
      clear hb13 HT12 HB12 r0 r1 r2 r3 r4 q0 q1 q2 q3 q4
      by_cases hz0 : 0 < z
      · go_wp2_with fail
        go_ret
        exact ⟨rfl, bel_up HB13.out _⟩
      · have hu0 : u ≤ 0 := HZU.out.resolve_left hz0
        go_wp2_with fail
        go_ret
        exact ⟨rfl, bel_up HB13.out _⟩
    · obtain ⟨c3, i3, h3⟩ : ∃ a b, valF d3 p3 = (a, b) := ⟨_, _, rfl⟩
      rw [h3] at hv3 ⊢
      have hc' : (c3 != 0) = true := by simpa using hv3
      have hfld := flt_field c3 i3
      clear h3 hv3
      go_wp2_with fail
      go_ret
      exact ⟨rfl, HB11.out⟩
set_option maxRecDepth 100000 in
set_option maxHeartbeats 8000000 in
theorem lawCompare_z {w : World} {v1 v2 v3 : Value} {d1 d2 d3 : Nd} {p1 p2 p3 : VF} (hv1 : VIn w w.heap.size v1 d1 p1) (hv2 : VIn w w.heap.size v2 d2 p2) (hv3 : VIn w w.heap.size v3 d3 p3) (hm1 : Mod d1 p1) (hm2 : Mod d2 p2) (hm3 : Mod d3 p3) (hva : valF d1 p1 = (0, 0)) (hvb : valF d2 p2 = (0, 0)) (hx : Lib.compareBytes (encV d1 p1) (encV d2 p2) = 0) :
    Calls Try.prog 11 #[v1, v2, v3] w fun e w' => e = .returned (.bool true) ∧ Below w.heap.size w w' := by
  have HY := Lib.hid (show Lib.compareBytes (encV d2 p2) (encV d1 p1) = 0 by rw [cmp_swap, hx]; rfl)
  have HS := Lib.hid (show sameV d1 p1 d2 p2 = true by have h := enc_inj hm1 hva hm2 hvb ((cmp_zero _ _).1 hx); exact (sameV_iff d1 p1 d2 p2).2 h)
  have hls : Op.bytesLess (encV d1 p1) (encV d2 p2) = false := by rw [less_cmp, hx]; rfl
  have HVA := Lib.hid hva
  have HVB := Lib.hid hvb
  have HXX := Lib.hid hx
  have HLS := Lib.hid hls
  clear hls
  have hc1 := cmpR_c hva hvb
  rw [hx] at hc1
  have hc2 := cmpR_c hvb hva
  rw [HY.out] at hc2
  have HC1 := Lib.hid hc1
  have HC2 := Lib.hid hc2
  clear hc1 hc2 hx hva hvb
  have HV1 := Lib.hid hv1
  have HV2 := Lib.hid hv2
  have HV3 := Lib.hid hv3
  have HM1 := Lib.hid hm1
  have HM2 := Lib.hid hm2
  have HM3 := Lib.hid hm3
  obtain ⟨sb1, sn1, sp1, rfl, Ab1, nb1, cb1, An1, nn1, cn1, Ap1, cp1, rfl, rfl, rfl, _⟩ := hv1
  obtain ⟨sb2, sn2, sp2, rfl, Ab2, nb2, cb2, An2, nn2, cn2, Ap2, cp2, rfl, rfl, rfl, _⟩ := hv2
  obtain ⟨sb3, sn3, sp3, rfl, Ab3, nb3, cb3, An3, nn3, cn3, Ap3, cp3, rfl, rfl, rfl, _⟩ := hv3
  clear hm1 hm2 hm3
  go_enter Try.func11, Try.ntmps11
  go_wp2_with fail
  obtain ⟨W1, hW1⟩ : ∃ W1, ((w.alloc (.cells #[.int .i64 d1.k, .int .i64 d1.n, .slice Ab1 nb1 cb1, .slice An1 nn1 cn1, .slice Ap1 p1.len cp1] 26)).alloc (.cells #[.int .i64 d2.k, .int .i64 d2.n, .slice Ab2 nb2 cb2, .slice An2 nn2 cn2, .slice Ap2 p2.len cp2] 26)).alloc (.cells #[.int .i64 d3.k, .int .i64 d3.n, .slice Ab3 nb3 cb3, .slice An3 nn3 cn3, .slice Ap3 p3.len cp3] 26) = W1 := ⟨_, rfl⟩
  have HB1 := Lib.hid (show Below w.heap.size w W1 by rw [← hW1]; exact bel3 _ _ _ _)
  have HX1 := Lib.hid (show Bx W1 w.heap.size (.int .i64 d1.k) (.int .i64 d1.n) (.slice Ab1 nb1 cb1) (.slice An1 nn1 cn1) (.slice Ap1 p1.len cp1) by rw [← hW1]; exact (Bx.new _ _ _ _ _ _).on (bel2 _ _ _))
  have HX2 := Lib.hid (show Bx W1 (w.heap.size + 1) (.int .i64 d2.k) (.int .i64 d2.n) (.slice Ab2 nb2 cb2) (.slice An2 nn2 cn2) (.slice Ap2 p2.len cp2) by rw [← hW1]; have h := (Bx.new (w.alloc (.cells #[.int .i64 d1.k, .int .i64 d1.n, .slice Ab1 nb1 cb1, .slice An1 nn1 cn1, .slice Ap1 p1.len cp1] 26)) (.int .i64 d2.k) (.int .i64 d2.n) (.slice Ab2 nb2 cb2) (.slice An2 nn2 cn2) (.slice Ap2 p2.len cp2)).on (bel1 _ (.cells #[.int .i64 d3.k, .int .i64 d3.n, .slice Ab3 nb3 cb3, .slice An3 nn3 cn3, .slice Ap3 p3.len cp3] 26)); rw [alloc_size] at h; exact h)
  have HX3 := Lib.hid (show Bx W1 (w.heap.size + 1 + 1) (.int .i64 d3.k) (.int .i64 d3.n) (.slice Ab3 nb3 cb3) (.slice An3 nn3 cn3) (.slice Ap3 p3.len cp3) by rw [← hW1]; have h := Bx.new ((w.alloc (.cells #[.int .i64 d1.k, .int .i64 d1.n, .slice Ab1 nb1 cb1, .slice An1 nn1 cn1, .slice Ap1 p1.len cp1] 26)).alloc (.cells #[.int .i64 d2.k, .int .i64 d2.n, .slice Ab2 nb2 cb2, .slice An2 nn2 cn2, .slice Ap2 p2.len cp2] 26)) (.int .i64 d3.k) (.int .i64 d3.n) (.slice Ab3 nb3 cb3) (.slice An3 nn3 cn3) (.slice Ap3 p3.len cp3); simp only [alloc_size] at h; exact h)
  rw [hW1]
  clear hW1
  have HT1 := Lib.hid (show Tri W1 w.heap.size d1 p1 d2 p2 d3 p3 Ab1 nb1 cb1 An1 nn1 cn1 Ap1 cp1 Ab2 nb2 cb2 An2 nn2 cn2 Ap2 cp2 Ab3 nb3 cb3 An3 nn3 cn3 Ap3 cp3 from ⟨HX1.out, HV1.out.on HB1.out, HM1.out, HX2.out, HV2.out.on HB1.out, HM2.out, HX3.out, HV3.out.on HB1.out, HM3.out⟩)
  clear HX1 HX2 HX3 HV1 HV2 HV3 HM1 HM2 HM3
  refine (example_calls _).mono ?_
  rintro e w2 ⟨rfl, hb2⟩
  have HT2 := Lib.hid (HT1.out.on hb2)
  have HB2 := Lib.hid (chain HB1.out hb2)
  clear hb2 HT1 HB1
  obtain ⟨q0, q1, q2, q3, q4⟩ := HT2.out.x1.cells
  obtain ⟨t0, t1, t2, t3, t4⟩ := HT2.out.x2.cells
  go_wp2_with fail
  refine (compare_calls HT2.out.m1 HT2.out.m2 HT2.out.v1 HT2.out.v2).mono ?_
  rintro e w3 ⟨rfl, hb3⟩
  clear q0 q1 q2 q3 q4 t0 t1 t2 t3 t4
  rw [HC1.out]
  have hb3' := chain hb3 (bel1 _ (.cells #[.int .i64 0, .int .i64 0] 29))
  have HT3 := Lib.hid (HT2.out.on hb3')
  have HB3 := Lib.hid (chain HB2.out hb3')
  have HF3 := Lib.hid (FC.new w3 0 0)
  clear hb3' hb3 HT2 HB2
  obtain ⟨r0, r1, r2, r3, r4⟩ := HT3.out.x1.cells
  go_wp2_with fail
  refine (valueFault_calls HT3.out.v1 HT3.out.m1).mono ?_
  rintro e w4 ⟨rfl, hb4⟩
  have hb4' := chain hb4 (bel1 _ (.cells #[.int .i64 0, .int .i64 0] 29))
  have HT4 := Lib.hid (HT3.out.on hb4')
  have HB4 := Lib.hid (chain HB3.out hb4')
  have HF4 := Lib.hid (HF3.out.on hb4')
  clear hb4' hb4 HT3 HB3 HF3 r0 r1 r2 r3 r4
  rw [HVA.out]
  obtain ⟨r0, r1, r2, r3, r4⟩ := HT4.out.x2.cells
  go_wp2_with fail
  refine (valueFault_calls HT4.out.v2 HT4.out.m2).mono ?_
  rintro e w5 ⟨rfl, hb5⟩
  have hb5' := chain hb5 (bel1 _ (.cells #[.int .i64 0, .int .i64 0] 29))
  have HT5 := Lib.hid (HT4.out.on hb5')
  have HB5 := Lib.hid (chain HB4.out hb5')
  have HF5 := Lib.hid (HF4.out.on hb5')
  clear hb5' hb5 HT4 HB4 HF4 r0 r1 r2 r3 r4
  rw [HVB.out]
  obtain ⟨r0, r1, r2, r3, r4⟩ := HT5.out.x2.cells
  obtain ⟨q0, q1, q2, q3, q4⟩ := HT5.out.x1.cells
  go_wp2_with fail
  refine (compare_calls HT5.out.m2 HT5.out.m1 HT5.out.v2 HT5.out.v1).mono ?_
  rintro e w6 ⟨rfl, hb6⟩
  rw [HC2.out]
  have hb6' := chain hb6 (bel1 _ (.cells #[.int .i64 0, .int .i64 0] 29))
  have HT6 := Lib.hid (HT5.out.on hb6')
  have HB6 := Lib.hid (chain HB5.out hb6')
  obtain ⟨z4, a0, a1, f0, f1⟩ := HF5.out.on hb6'
  clear hb6' hb6 HT5 HB5 HF5 r0 r1 r2 r3 r4 q0 q1 q2 q3 q4
  obtain ⟨r0, r1, r2, r3, r4⟩ := HT6.out.x2.cells
  obtain ⟨q0, q1, q2, q3, q4⟩ := HT6.out.x1.cells
  go_upto_region 13 with (first
    | (go_at_call 23; refine (in_calls _ _ _ _).mono ?_; rintro e w' ⟨rfl, rfl⟩)
    | (go_at_call 21; refine (same_calls HT6.out.m1.pl HT6.out.m1.fp HT6.out.m1.nd.2.2.1 HT6.out.m2.pl HT6.out.m2.fp HT6.out.v1 HT6.out.v2).mono ?_; rintro e w7 ⟨rfl, hb7⟩; have HT7 := Lib.hid (HT6.out.on hb7); have HB7 := Lib.hid (chain HB6.out hb7); rw [HS.out]; clear hb7))
  clear HT6 HB6 z4 a0 a1 f0 f1 r0 r1 r2 r3 r4 q0 q1 q2 q3 q4
  obtain ⟨r0, r1, r2, r3, r4⟩ := HT7.out.x2.cells
  obtain ⟨q0, q1, q2, q3, q4⟩ := HT7.out.x1.cells
  obtain ⟨e1, he1⟩ : ∃ e1, encV d1 p1 = e1 := ⟨_, rfl⟩
  obtain ⟨e2, he2⟩ : ∃ e2, encV d2 p2 = e2 := ⟨_, rfl⟩
  have hls : Op.bytesLess e1 e2 = false := by rw [← he1, ← he2]; exact HLS.out
  obtain ⟨mk1, hck1, _⟩ := valF_zero HVA.out
  obtain ⟨mk2, hck2, _⟩ := valF_zero HVB.out
  have HE1 := Lib.hid (show ∀ (w : World), VIn w w.heap.size (.agg #[.int .i64 d1.k, .int .i64 d1.n, .slice Ab1 nb1 cb1, .slice An1 nn1 cn1, .slice Ap1 p1.len cp1]) d1 p1 → Calls Try.prog 18 #[.agg #[.int .i64 d1.k, .int .i64 d1.n, .slice Ab1 nb1 cb1, .slice An1 nn1 cn1, .slice Ap1 p1.len cp1]] w (Made w e1) from fun w h => by rw [← he1]; exact encoding_calls HT7.out.m1 h hck1)
  have HE2 := Lib.hid (show ∀ (w : World), VIn w w.heap.size (.agg #[.int .i64 d2.k, .int .i64 d2.n, .slice Ab2 nb2 cb2, .slice An2 nn2 cn2, .slice Ap2 p2.len cp2]) d2 p2 → Calls Try.prog 18 #[.agg #[.int .i64 d2.k, .int .i64 d2.n, .slice Ab2 nb2 cb2, .slice An2 nn2 cn2, .slice Ap2 p2.len cp2]] w (Made w e2) from fun w h => by rw [← he2]; exact encoding_calls HT7.out.m2 h hck2)
  clear he1 he2 hck1 hck2 HLS
  go_cut [91] (fun a wx => a = .bool false ∧ Below w7.heap.size w7 wx)
  case first =>
    go_region_with (first
      | (go_at_call 18; refine (HE2.out _ (HT81.out.v2)).mono ?_; rintro e w9 ⟨A9, c9, rfl, hown9, hb9⟩; have rs2 := run_str (c := c9) (Rd.of_own hown9); have rs1 := run_str (c := c8) (HR8.out.on hb9); have HB9 := Lib.hid (chain HB8.out hb9); clear hown9 hb9)
      | (go_at_call 18; refine (HE1.out _ (HT82.out.v1)).mono ?_; rintro e w9 ⟨A9, c9, rfl, hown9, hb9⟩; have rs1 := run_str (c := c9) (Rd.of_own hown9); have rs2 := run_str (c := c8) (HR8.out.on hb9); have HB9 := Lib.hid (chain HB8.out hb9); clear hown9 hb9)
      | (go_at_call 18; refine (HE1.out _ (HT7.out.v1.on ((Below.refl _ _).drew))).mono ?_; rintro e w8 ⟨A8, c8, rfl, hown8, hb8⟩; have rs8 := run_str (c := c8) (Rd.of_own hown8); have HR8 := Lib.hid (Rd.of_own hown8); have HB8 := Lib.hid (beldrew hb8); have HT81 := Lib.hid (HT7.out.on HB8.out); obtain ⟨s0, s1, s2, s3, s4⟩ := HT81.out.x2.cells; clear hown8 hb8)
      | (go_at_call 18; refine (HE2.out _ (HT7.out.v2.on ((Below.refl _ _).drew))).mono ?_; rintro e w8 ⟨A8, c8, rfl, hown8, hb8⟩; have rs8 := run_str (c := c8) (Rd.of_own hown8); have HR8 := Lib.hid (Rd.of_own hown8); have HB8 := Lib.hid (beldrew hb8); have HT82 := Lib.hid (HT7.out.on HB8.out); obtain ⟨s0, s1, s2, s3, s4⟩ := HT82.out.x1.cells; clear hown8 hb8))
    all_goals go_wp2_with fail
    all_goals go_meet
    all_goals exact ⟨rfl, HB9.out⟩
  case rest =>
    obtain ⟨rfl, hb10⟩ := hcut
    have HT10 := Lib.hid (HT7.out.on hb10)
    have HB10 := Lib.hid (chain HB7.out hb10)
    clear hb10 HT7 HB7 r0 r1 r2 r3 r4 q0 q1 q2 q3 q4 hls HE1 HE2
    obtain ⟨r0, r1, r2, r3, r4⟩ := HT10.out.x3.cells
    go_wp2_with fail
    refine (valueFault_calls HT10.out.v3 HT10.out.m3).mono ?_
    rintro e w11 ⟨rfl, hb11⟩
    have HT11 := Lib.hid (HT10.out.on hb11)
    have HB11 := Lib.hid (chain HB10.out hb11)
    clear hb11 HT10 HB10 r0 r1 r2 r3 r4
    rcases valF_code d3 p3 with hv3 | hv3
    · have HV3 := Lib.hid hv3
      rw [HV3.out]
      clear hv3
      have hfld := flt_field 0 0
      obtain ⟨r0, r1, r2, r3, r4⟩ := HT11.out.x2.cells
      obtain ⟨q0, q1, q2, q3, q4⟩ := HT11.out.x3.cells
      obtain ⟨z, hz⟩ : ∃ z, Lib.compareBytes (encV d2 p2) (encV d3 p3) = z := ⟨_, rfl⟩
      obtain ⟨u, hu⟩ : ∃ u, Lib.compareBytes (encV d1 p1) (encV d3 p3) = u := ⟨_, rfl⟩
      have hc3 := cmpR_c HVB.out HV3.out
      rw [hz] at hc3
      have hc4 := cmpR_c HVA.out HV3.out
      rw [hu] at hc4
      have HC3 := Lib.hid hc3
      have HC4 := Lib.hid hc4
      have HZU := Lib.hid (show 0 < z ∨ u ≤ 0 from by by_cases h : 0 < z; exact .inl h; exact .inr (by rw [← hu]; exact cmp_trans _ (encV d2 p2) _ (by rw [HXX.out]; decide) (by rw [hz]; omega)))
      clear hc3 hc4 hz hu
      go_wp2_with fail
      refine (compare_calls HT11.out.m2 HT11.out.m3 HT11.out.v2 HT11.out.v3).mono ?_
      rintro e w12 ⟨rfl, hb12⟩
      rw [HC3.out]
      have hb12' := chain hb12 (bel1 _ (.cells #[.int .i64 0, .int .i64 0] 29))
      have HT12 := Lib.hid (HT11.out.on hb12')
      have HB12 := Lib.hid (chain HB11.out hb12')
      have HF12 := Lib.hid (FC.new w12 0 0)
      clear hb12' hb12 HT11 HB11 r0 r1 r2 r3 r4 q0 q1 q2 q3 q4
      obtain ⟨r0, r1, r2, r3, r4⟩ := HT12.out.x1.cells
      obtain ⟨q0, q1, q2, q3, q4⟩ := HT12.out.x3.cells
      go_wp2_with fail
      refine (compare_calls HT12.out.m1 HT12.out.m3 HT12.out.v1 HT12.out.v3).mono ?_
      rintro e w13 ⟨rfl, hb13⟩
      rw [HC4.out]
      have HB13 := Lib.hid (chain HB12.out hb13)
      obtain ⟨z4, a0, a1, f0, f1⟩ := HF12.out.on hb13
      have a0' := fun ob => cell_up (o := ob) a0
      clear hb13 HT12 HB12 r0 r1 r2 r3 r4 q0 q1 q2 q3 q4
      by_cases hz0 : 0 < z
      · go_wp2_with fail
        go_ret
        exact ⟨rfl, bel_up HB13.out _⟩
      · have hu0 : u ≤ 0 := HZU.out.resolve_left hz0
        go_wp2_with fail
        go_ret
        exact ⟨rfl, bel_up HB13.out _⟩
    · obtain ⟨c3, i3, h3⟩ : ∃ a b, valF d3 p3 = (a, b) := ⟨_, _, rfl⟩
      rw [h3] at hv3 ⊢
      have hc' : (c3 != 0) = true := by simpa using hv3
      have hfld := flt_field c3 i3
      clear h3 hv3
      go_wp2_with fail
      go_ret
      exact ⟨rfl, HB11.out⟩
set_option maxRecDepth 100000 in
set_option maxHeartbeats 8000000 in
theorem lawCompare_p {w : World} {v1 v2 v3 : Value} {d1 d2 d3 : Nd} {p1 p2 p3 : VF} (hv1 : VIn w w.heap.size v1 d1 p1) (hv2 : VIn w w.heap.size v2 d2 p2) (hv3 : VIn w w.heap.size v3 d3 p3) (hm1 : Mod d1 p1) (hm2 : Mod d2 p2) (hm3 : Mod d3 p3) (hva : valF d1 p1 = (0, 0)) (hvb : valF d2 p2 = (0, 0)) (hx : Lib.compareBytes (encV d1 p1) (encV d2 p2) = 1) :
    Calls Try.prog 11 #[v1, v2, v3] w fun e w' => e = .returned (.bool true) ∧ Below w.heap.size w w' := by
  have HY := Lib.hid (show Lib.compareBytes (encV d2 p2) (encV d1 p1) = -1 by rw [cmp_swap, hx])
  have HS := Lib.hid (show sameV d1 p1 d2 p2 = false by rw [Bool.eq_false_iff]; intro h; obtain ⟨rfl, rfl⟩ := (sameV_iff d1 p1 d2 p2).1 h; rw [(cmp_zero _ _).2 rfl] at hx; exact absurd hx (by decide))
  have hls : Op.bytesLess (encV d1 p1) (encV d2 p2) = false := by rw [less_cmp, hx]; rfl
  have HVA := Lib.hid hva
  have HVB := Lib.hid hvb
  have HXX := Lib.hid hx
  have HLS := Lib.hid hls
  clear hls
  have hc1 := cmpR_c hva hvb
  rw [hx] at hc1
  have hc2 := cmpR_c hvb hva
  rw [HY.out] at hc2
  have HC1 := Lib.hid hc1
  have HC2 := Lib.hid hc2
  clear hc1 hc2 hx hva hvb
  have HV1 := Lib.hid hv1
  have HV2 := Lib.hid hv2
  have HV3 := Lib.hid hv3
  have HM1 := Lib.hid hm1
  have HM2 := Lib.hid hm2
  have HM3 := Lib.hid hm3
  obtain ⟨sb1, sn1, sp1, rfl, Ab1, nb1, cb1, An1, nn1, cn1, Ap1, cp1, rfl, rfl, rfl, _⟩ := hv1
  obtain ⟨sb2, sn2, sp2, rfl, Ab2, nb2, cb2, An2, nn2, cn2, Ap2, cp2, rfl, rfl, rfl, _⟩ := hv2
  obtain ⟨sb3, sn3, sp3, rfl, Ab3, nb3, cb3, An3, nn3, cn3, Ap3, cp3, rfl, rfl, rfl, _⟩ := hv3
  clear hm1 hm2 hm3
  go_enter Try.func11, Try.ntmps11
  go_wp2_with fail
  obtain ⟨W1, hW1⟩ : ∃ W1, ((w.alloc (.cells #[.int .i64 d1.k, .int .i64 d1.n, .slice Ab1 nb1 cb1, .slice An1 nn1 cn1, .slice Ap1 p1.len cp1] 26)).alloc (.cells #[.int .i64 d2.k, .int .i64 d2.n, .slice Ab2 nb2 cb2, .slice An2 nn2 cn2, .slice Ap2 p2.len cp2] 26)).alloc (.cells #[.int .i64 d3.k, .int .i64 d3.n, .slice Ab3 nb3 cb3, .slice An3 nn3 cn3, .slice Ap3 p3.len cp3] 26) = W1 := ⟨_, rfl⟩
  have HB1 := Lib.hid (show Below w.heap.size w W1 by rw [← hW1]; exact bel3 _ _ _ _)
  have HX1 := Lib.hid (show Bx W1 w.heap.size (.int .i64 d1.k) (.int .i64 d1.n) (.slice Ab1 nb1 cb1) (.slice An1 nn1 cn1) (.slice Ap1 p1.len cp1) by rw [← hW1]; exact (Bx.new _ _ _ _ _ _).on (bel2 _ _ _))
  have HX2 := Lib.hid (show Bx W1 (w.heap.size + 1) (.int .i64 d2.k) (.int .i64 d2.n) (.slice Ab2 nb2 cb2) (.slice An2 nn2 cn2) (.slice Ap2 p2.len cp2) by rw [← hW1]; have h := (Bx.new (w.alloc (.cells #[.int .i64 d1.k, .int .i64 d1.n, .slice Ab1 nb1 cb1, .slice An1 nn1 cn1, .slice Ap1 p1.len cp1] 26)) (.int .i64 d2.k) (.int .i64 d2.n) (.slice Ab2 nb2 cb2) (.slice An2 nn2 cn2) (.slice Ap2 p2.len cp2)).on (bel1 _ (.cells #[.int .i64 d3.k, .int .i64 d3.n, .slice Ab3 nb3 cb3, .slice An3 nn3 cn3, .slice Ap3 p3.len cp3] 26)); rw [alloc_size] at h; exact h)
  have HX3 := Lib.hid (show Bx W1 (w.heap.size + 1 + 1) (.int .i64 d3.k) (.int .i64 d3.n) (.slice Ab3 nb3 cb3) (.slice An3 nn3 cn3) (.slice Ap3 p3.len cp3) by rw [← hW1]; have h := Bx.new ((w.alloc (.cells #[.int .i64 d1.k, .int .i64 d1.n, .slice Ab1 nb1 cb1, .slice An1 nn1 cn1, .slice Ap1 p1.len cp1] 26)).alloc (.cells #[.int .i64 d2.k, .int .i64 d2.n, .slice Ab2 nb2 cb2, .slice An2 nn2 cn2, .slice Ap2 p2.len cp2] 26)) (.int .i64 d3.k) (.int .i64 d3.n) (.slice Ab3 nb3 cb3) (.slice An3 nn3 cn3) (.slice Ap3 p3.len cp3); simp only [alloc_size] at h; exact h)
  rw [hW1]
  clear hW1
  have HT1 := Lib.hid (show Tri W1 w.heap.size d1 p1 d2 p2 d3 p3 Ab1 nb1 cb1 An1 nn1 cn1 Ap1 cp1 Ab2 nb2 cb2 An2 nn2 cn2 Ap2 cp2 Ab3 nb3 cb3 An3 nn3 cn3 Ap3 cp3 from ⟨HX1.out, HV1.out.on HB1.out, HM1.out, HX2.out, HV2.out.on HB1.out, HM2.out, HX3.out, HV3.out.on HB1.out, HM3.out⟩)
  clear HX1 HX2 HX3 HV1 HV2 HV3 HM1 HM2 HM3
  refine (example_calls _).mono ?_
  rintro e w2 ⟨rfl, hb2⟩
  have HT2 := Lib.hid (HT1.out.on hb2)
  have HB2 := Lib.hid (chain HB1.out hb2)
  clear hb2 HT1 HB1
  obtain ⟨q0, q1, q2, q3, q4⟩ := HT2.out.x1.cells
  obtain ⟨t0, t1, t2, t3, t4⟩ := HT2.out.x2.cells
  go_wp2_with fail
  refine (compare_calls HT2.out.m1 HT2.out.m2 HT2.out.v1 HT2.out.v2).mono ?_
  rintro e w3 ⟨rfl, hb3⟩
  clear q0 q1 q2 q3 q4 t0 t1 t2 t3 t4
  rw [HC1.out]
  have hb3' := chain hb3 (bel1 _ (.cells #[.int .i64 0, .int .i64 0] 29))
  have HT3 := Lib.hid (HT2.out.on hb3')
  have HB3 := Lib.hid (chain HB2.out hb3')
  have HF3 := Lib.hid (FC.new w3 0 0)
  clear hb3' hb3 HT2 HB2
  obtain ⟨r0, r1, r2, r3, r4⟩ := HT3.out.x1.cells
  go_wp2_with fail
  refine (valueFault_calls HT3.out.v1 HT3.out.m1).mono ?_
  rintro e w4 ⟨rfl, hb4⟩
  have hb4' := chain hb4 (bel1 _ (.cells #[.int .i64 0, .int .i64 0] 29))
  have HT4 := Lib.hid (HT3.out.on hb4')
  have HB4 := Lib.hid (chain HB3.out hb4')
  have HF4 := Lib.hid (HF3.out.on hb4')
  clear hb4' hb4 HT3 HB3 HF3 r0 r1 r2 r3 r4
  rw [HVA.out]
  obtain ⟨r0, r1, r2, r3, r4⟩ := HT4.out.x2.cells
  go_wp2_with fail
  refine (valueFault_calls HT4.out.v2 HT4.out.m2).mono ?_
  rintro e w5 ⟨rfl, hb5⟩
  have hb5' := chain hb5 (bel1 _ (.cells #[.int .i64 0, .int .i64 0] 29))
  have HT5 := Lib.hid (HT4.out.on hb5')
  have HB5 := Lib.hid (chain HB4.out hb5')
  have HF5 := Lib.hid (HF4.out.on hb5')
  clear hb5' hb5 HT4 HB4 HF4 r0 r1 r2 r3 r4
  rw [HVB.out]
  obtain ⟨r0, r1, r2, r3, r4⟩ := HT5.out.x2.cells
  obtain ⟨q0, q1, q2, q3, q4⟩ := HT5.out.x1.cells
  go_wp2_with fail
  refine (compare_calls HT5.out.m2 HT5.out.m1 HT5.out.v2 HT5.out.v1).mono ?_
  rintro e w6 ⟨rfl, hb6⟩
  rw [HC2.out]
  have hb6' := chain hb6 (bel1 _ (.cells #[.int .i64 0, .int .i64 0] 29))
  have HT6 := Lib.hid (HT5.out.on hb6')
  have HB6 := Lib.hid (chain HB5.out hb6')
  obtain ⟨z4, a0, a1, f0, f1⟩ := HF5.out.on hb6'
  clear hb6' hb6 HT5 HB5 HF5 r0 r1 r2 r3 r4 q0 q1 q2 q3 q4
  obtain ⟨r0, r1, r2, r3, r4⟩ := HT6.out.x2.cells
  obtain ⟨q0, q1, q2, q3, q4⟩ := HT6.out.x1.cells
  go_upto_region 13 with (first
    | (go_at_call 23; refine (in_calls _ _ _ _).mono ?_; rintro e w' ⟨rfl, rfl⟩)
    | (go_at_call 21; refine (same_calls HT6.out.m1.pl HT6.out.m1.fp HT6.out.m1.nd.2.2.1 HT6.out.m2.pl HT6.out.m2.fp HT6.out.v1 HT6.out.v2).mono ?_; rintro e w7 ⟨rfl, hb7⟩; have HT7 := Lib.hid (HT6.out.on hb7); have HB7 := Lib.hid (chain HB6.out hb7); rw [HS.out]; clear hb7))
  clear HT6 HB6 z4 a0 a1 f0 f1 r0 r1 r2 r3 r4 q0 q1 q2 q3 q4
  obtain ⟨r0, r1, r2, r3, r4⟩ := HT7.out.x2.cells
  obtain ⟨q0, q1, q2, q3, q4⟩ := HT7.out.x1.cells
  obtain ⟨e1, he1⟩ : ∃ e1, encV d1 p1 = e1 := ⟨_, rfl⟩
  obtain ⟨e2, he2⟩ : ∃ e2, encV d2 p2 = e2 := ⟨_, rfl⟩
  have hls : Op.bytesLess e1 e2 = false := by rw [← he1, ← he2]; exact HLS.out
  obtain ⟨mk1, hck1, _⟩ := valF_zero HVA.out
  obtain ⟨mk2, hck2, _⟩ := valF_zero HVB.out
  have HE1 := Lib.hid (show ∀ (w : World), VIn w w.heap.size (.agg #[.int .i64 d1.k, .int .i64 d1.n, .slice Ab1 nb1 cb1, .slice An1 nn1 cn1, .slice Ap1 p1.len cp1]) d1 p1 → Calls Try.prog 18 #[.agg #[.int .i64 d1.k, .int .i64 d1.n, .slice Ab1 nb1 cb1, .slice An1 nn1 cn1, .slice Ap1 p1.len cp1]] w (Made w e1) from fun w h => by rw [← he1]; exact encoding_calls HT7.out.m1 h hck1)
  have HE2 := Lib.hid (show ∀ (w : World), VIn w w.heap.size (.agg #[.int .i64 d2.k, .int .i64 d2.n, .slice Ab2 nb2 cb2, .slice An2 nn2 cn2, .slice Ap2 p2.len cp2]) d2 p2 → Calls Try.prog 18 #[.agg #[.int .i64 d2.k, .int .i64 d2.n, .slice Ab2 nb2 cb2, .slice An2 nn2 cn2, .slice Ap2 p2.len cp2]] w (Made w e2) from fun w h => by rw [← he2]; exact encoding_calls HT7.out.m2 h hck2)
  clear he1 he2 hck1 hck2 HLS
  go_cut [91] (fun a wx => a = .bool false ∧ Below w7.heap.size w7 wx)
  case first =>
    go_region_with (first
      | (go_at_call 18; refine (HE2.out _ (HT81.out.v2)).mono ?_; rintro e w9 ⟨A9, c9, rfl, hown9, hb9⟩; have rs2 := run_str (c := c9) (Rd.of_own hown9); have rs1 := run_str (c := c8) (HR8.out.on hb9); have HB9 := Lib.hid (chain HB8.out hb9); clear hown9 hb9)
      | (go_at_call 18; refine (HE1.out _ (HT82.out.v1)).mono ?_; rintro e w9 ⟨A9, c9, rfl, hown9, hb9⟩; have rs1 := run_str (c := c9) (Rd.of_own hown9); have rs2 := run_str (c := c8) (HR8.out.on hb9); have HB9 := Lib.hid (chain HB8.out hb9); clear hown9 hb9)
      | (go_at_call 18; refine (HE1.out _ (HT7.out.v1.on ((Below.refl _ _).drew))).mono ?_; rintro e w8 ⟨A8, c8, rfl, hown8, hb8⟩; have rs8 := run_str (c := c8) (Rd.of_own hown8); have HR8 := Lib.hid (Rd.of_own hown8); have HB8 := Lib.hid (beldrew hb8); have HT81 := Lib.hid (HT7.out.on HB8.out); obtain ⟨s0, s1, s2, s3, s4⟩ := HT81.out.x2.cells; clear hown8 hb8)
      | (go_at_call 18; refine (HE2.out _ (HT7.out.v2.on ((Below.refl _ _).drew))).mono ?_; rintro e w8 ⟨A8, c8, rfl, hown8, hb8⟩; have rs8 := run_str (c := c8) (Rd.of_own hown8); have HR8 := Lib.hid (Rd.of_own hown8); have HB8 := Lib.hid (beldrew hb8); have HT82 := Lib.hid (HT7.out.on HB8.out); obtain ⟨s0, s1, s2, s3, s4⟩ := HT82.out.x1.cells; clear hown8 hb8))
    all_goals go_wp2_with fail
    all_goals go_meet
    all_goals exact ⟨rfl, HB9.out⟩
  case rest =>
    obtain ⟨rfl, hb10⟩ := hcut
    have HT10 := Lib.hid (HT7.out.on hb10)
    have HB10 := Lib.hid (chain HB7.out hb10)
    clear hb10 HT7 HB7 r0 r1 r2 r3 r4 q0 q1 q2 q3 q4 hls HE1 HE2
    obtain ⟨r0, r1, r2, r3, r4⟩ := HT10.out.x3.cells
    go_wp2_with fail
    refine (valueFault_calls HT10.out.v3 HT10.out.m3).mono ?_
    rintro e w11 ⟨rfl, hb11⟩
    have HT11 := Lib.hid (HT10.out.on hb11)
    have HB11 := Lib.hid (chain HB10.out hb11)
    clear hb11 HT10 HB10 r0 r1 r2 r3 r4
    rcases valF_code d3 p3 with hv3 | hv3
    · have HV3 := Lib.hid hv3
      rw [HV3.out]
      clear hv3
      have hfld := flt_field 0 0
      obtain ⟨r0, r1, r2, r3, r4⟩ := HT11.out.x2.cells
      obtain ⟨q0, q1, q2, q3, q4⟩ := HT11.out.x3.cells
      obtain ⟨z, hz⟩ : ∃ z, Lib.compareBytes (encV d2 p2) (encV d3 p3) = z := ⟨_, rfl⟩
      obtain ⟨u, hu⟩ : ∃ u, Lib.compareBytes (encV d1 p1) (encV d3 p3) = u := ⟨_, rfl⟩
      have hc3 := cmpR_c HVB.out HV3.out
      rw [hz] at hc3
      have hc4 := cmpR_c HVA.out HV3.out
      rw [hu] at hc4
      have HC3 := Lib.hid hc3
      have HC4 := Lib.hid hc4
      clear hc3 hc4 hz hu
      go_wp2_with fail
      refine (compare_calls HT11.out.m2 HT11.out.m3 HT11.out.v2 HT11.out.v3).mono ?_
      rintro e w12 ⟨rfl, hb12⟩
      rw [HC3.out]
      have hb12' := chain hb12 (bel1 _ (.cells #[.int .i64 0, .int .i64 0] 29))
      have HT12 := Lib.hid (HT11.out.on hb12')
      have HB12 := Lib.hid (chain HB11.out hb12')
      have HF12 := Lib.hid (FC.new w12 0 0)
      clear hb12' hb12 HT11 HB11 r0 r1 r2 r3 r4 q0 q1 q2 q3 q4
      obtain ⟨r0, r1, r2, r3, r4⟩ := HT12.out.x1.cells
      obtain ⟨q0, q1, q2, q3, q4⟩ := HT12.out.x3.cells
      go_wp2_with fail
      refine (compare_calls HT12.out.m1 HT12.out.m3 HT12.out.v1 HT12.out.v3).mono ?_
      rintro e w13 ⟨rfl, hb13⟩
      rw [HC4.out]
      have HB13 := Lib.hid (chain HB12.out hb13)
      obtain ⟨z4, a0, a1, f0, f1⟩ := HF12.out.on hb13
      have a0' := fun ob => cell_up (o := ob) a0
      clear hb13 HT12 HB12 r0 r1 r2 r3 r4 q0 q1 q2 q3 q4
      go_wp2_with fail
      go_ret
      exact ⟨rfl, bel_up HB13.out _⟩
    · obtain ⟨c3, i3, h3⟩ : ∃ a b, valF d3 p3 = (a, b) := ⟨_, _, rfl⟩
      rw [h3] at hv3 ⊢
      have hc' : (c3 != 0) = true := by simpa using hv3
      have hfld := flt_field c3 i3
      clear h3 hv3
      go_wp2_with fail
      go_ret
      exact ⟨rfl, HB11.out⟩
theorem lawCompare_calls {w : World} {v1 v2 v3 : Value} {d1 d2 d3 : Nd} {p1 p2 p3 : VF} (hv1 : VIn w w.heap.size v1 d1 p1) (hv2 : VIn w w.heap.size v2 d2 p2) (hv3 : VIn w w.heap.size v3 d3 p3) (hm1 : Mod d1 p1) (hm2 : Mod d2 p2) (hm3 : Mod d3 p3) :
    Calls Try.prog 11 #[v1, v2, v3] w fun e w' => e = .returned (.bool true) ∧ Below w.heap.size w w' := by
  rcases valF_code d1 p1 with h1 | h1
  · rcases valF_code d2 p2 with h2 | h2
    · rcases cmp_range (encV d1 p1) (encV d2 p2) with h | h | h
      · exact lawCompare_m hv1 hv2 hv3 hm1 hm2 hm3 h1 h2 h
      · exact lawCompare_z hv1 hv2 hv3 hm1 hm2 hm3 h1 h2 h
      · exact lawCompare_p hv1 hv2 hv3 hm1 hm2 hm3 h1 h2 h
    · exact lawCompare_b hv1 hv2 hv3 hm1 hm2 hm3 h1 rfl h2
  · exact lawCompare_a hv1 hv2 hv3 hm1 hm2 hm3 rfl h1
end Go.Proofs.Ytolognhjdmkohaa
