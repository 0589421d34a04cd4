/-
  The law on value.Find.
-/
import Derived.Test.YtolognhjdmkohaaKRefL
import Derived.Test.YtolognhjdmkohaaJ16
import Derived.Test.YtolognhjdmkohaaJ15
import Derived.Test.YtolognhjdmkohaaJ14
import Derived.Test.YtolognhjdmkohaaKAbv
namespace Go.Proofs.Ytolognhjdmkohaa
open Go.RowKit
set_option linter.unusedVariables false
set_option linter.unusedSimpArgs false

theorem findV_short {d : Nd} {p : VF} {name : List UInt8} (hv : valF d p = (0, 0)) : ∀ x ∈ findV d p name, x.length ≤ 140737488355328 := by
  intro x hx
  unfold findV selP at hx
  obtain ⟨h1, _⟩ := List.mem_filter.1 hx
  obtain ⟨g, hg, rfl⟩ := List.mem_map.1 h1
  rcases walkV_entry hg with h | ⟨h, _⟩
  · rw [h]; simp
  · have := pathV_ht g.1 d p 0 _ _ h
    have := valF_ht (d := d) (p := p) (by rw [hv])
    omega
theorem findV_len (d : Nd) (p : VF) (name : List UInt8) : (findV d p name).length ≤ 600 := Nat.le_trans (selP_len d p name (walkV d p)) (walkV_len d p)
set_option maxRecDepth 100000 in
set_option maxHeartbeats 8000000 in
theorem lawFind_calls {w : World} {v : Value} {d : Nd} {p : VF} {s : ByteArray} (hv : VIn w w.heap.size v d p) (hm : Mod d p) (hs : s.size ≤ 9223372036854775807) :
    Calls Try.prog 9 #[v, .string s] w fun e w' => e = .returned (.bool true) ∧ Below w.heap.size w w' := by
  have HV := Lib.hid hv
  have HM := Lib.hid hm
  obtain ⟨sb, sn, sp, rfl, hd0⟩ := hv
  obtain ⟨Ab, nb, cb, An, nn, cn, Ap, cp, rfl, rfl, rfl, _⟩ := hd0
  clear hm
  obtain ⟨nm, hnm⟩ : ∃ nm, isName s.data.toList = nm := ⟨_, rfl⟩
  have HNM := Lib.hid hnm
  have hnn : (nm != nm) = false := by simp
  clear hnm
  go_enter Try.func9, Try.ntmps9
  go_wp2_with fail
  refine (example_calls _).mono ?_
  rintro e w2 ⟨rfl, hb2⟩
  have HX2 := Lib.hid ((Bx.new w (.int .i64 d.k) (.int .i64 d.n) (.slice Ab nb cb) (.slice An nn cn) (.slice Ap p.len cp)).on hb2)
  have HB2 := Lib.hid (belA hb2)
  obtain ⟨q0, q1, q2, q3, q4⟩ := HX2.out.cells
  clear hb2
  go_wp2_with fail
  refine (findF_calls HM.out (HV.out.on HB2.out) hs).mono ?_
  rintro e w3 ⟨hb3, hres⟩
  have HX3 := Lib.hid (HX2.out.on hb3)
  have HB3 := Lib.hid (chain HB2.out hb3)
  clear hb3 q0 q1 q2 q3 q4 HX2 HB2
  rcases hres with ⟨cd, ix, hc, hvf, rfl⟩ | ⟨hvf, hin, rfl⟩ | ⟨A3, c3, hvf, hin, rfl, hown3⟩
  · have HVF := Lib.hid hvf
    have hc' : (cd != 0) = true := by simpa using hc
    have heq := flt_eql cd ix cd ix
    have haa : (cd == cd && ix == ix) = true := by simp
    have HF3 := Lib.hid (FC.new w3 cd ix)
    have HX4 := Lib.hid (HX3.out.on (bel1 _ (.cells #[.int .i64 cd, .int .i64 ix] 29)))
    have HB4 := Lib.hid (bel_up HB3.out (.cells #[.int .i64 cd, .int .i64 ix] 29))
    clear hvf hc HX3 HB3
    go_wp2_with fail
    refine (name_calls s _ hs).mono ?_
    rintro e w5 ⟨rfl, hb5⟩
    rw [HNM.out]
    have HX5 := Lib.hid (HX4.out.on hb5)
    have HB5 := Lib.hid (chain HB4.out hb5)
    have HF5 := Lib.hid (HF3.out.on hb5)
    obtain ⟨r0, r1, r2, r3, r4⟩ := HX5.out.cells
    clear hb5 HX4 HB4 HF3
    go_wp2_with (go_at_call 29; refine (refName_calls s _ hs).mono ?_; rintro e w' ⟨rfl, rfl⟩; rw [HNM.out])
    refine (valueFault_calls (HV.out.on HB5.out) HM.out).mono ?_
    rintro e w6 ⟨rfl, hb6⟩
    have HB6 := Lib.hid (chain HB5.out hb6)
    obtain ⟨z4, a0, a1, f0, f1⟩ := HF5.out.on hb6
    have a0' := fun ob => cell_up (o := ob) a0
    have a1' := fun ob => cell_up (o := ob) a1
    rw [HVF.out]
    clear hb6 r0 r1 r2 r3 r4
    go_wp2_with fail
    go_ret
    exact ⟨rfl, bel_up HB6.out _⟩
  · have HVF := Lib.hid hvf
    have HIN := Lib.hid hin
    have heq := flt_eql 7 (-2) 7 (-2)
    have HF3 := Lib.hid (FC.new w3 7 (-2))
    have HX4 := Lib.hid (HX3.out.on (bel1 _ (.cells #[.int .i64 7, .int .i64 (-2)] 29)))
    have HB4 := Lib.hid (bel_up HB3.out (.cells #[.int .i64 7, .int .i64 (-2)] 29))
    clear hvf hin HX3 HB3
    go_wp2_with fail
    refine (name_calls s _ hs).mono ?_
    rintro e w5 ⟨rfl, hb5⟩
    rw [HIN.out]
    have HX5 := Lib.hid (HX4.out.on hb5)
    have HB5 := Lib.hid (chain HB4.out hb5)
    have HF5 := Lib.hid (HF3.out.on hb5)
    obtain ⟨r0, r1, r2, r3, r4⟩ := HX5.out.cells
    go_wp2_with (go_at_call 29; refine (refName_calls s _ hs).mono ?_; rintro e w' ⟨rfl, rfl⟩; rw [HIN.out])
    refine (valueFault_calls (HV.out.on HB5.out) HM.out).mono ?_
    rintro e w6 ⟨rfl, hb6⟩
    have hb6' := chain hb6 (bel1 _ (.cells #[.int .i64 0, .int .i64 0] 29))
    have HX6 := Lib.hid (HX5.out.on hb6')
    have HB6 := Lib.hid (chain HB5.out hb6')
    obtain ⟨z4, a0, a1, f0, f1⟩ := HF5.out.on hb6'
    rw [HVF.out]
    have a0' := fun ob => cell_up (o := ob) a0
    have a1' := fun ob => cell_up (o := ob) a1
    clear hb6 hb6' r0 r1 r2 r3 r4 hb5 HX4 HB4 HF3
    go_upto_region 10 with (go_at_call 29; refine (refName_calls s _ hs).mono ?_; rintro e w' ⟨rfl, rfl⟩; rw [HIN.out])
    have b0 := fun y : Abv (w6.alloc (.cells #[.int .i64 0, .int .i64 0] 29)) => Abv.cell a0 y
    have b1 := fun y : Abv (w6.alloc (.cells #[.int .i64 0, .int .i64 0] 29)) => Abv.cell a1 y
    refine region_above (by kernel_rfl) (by kernel_rfl) ?_
    repeat (quiet_step ((go_at_call 20; exact at_above _ _ _)))
    refine wpQuiet_nil ?_
    intro W9 hw9
    obtain ⟨y, rfl⟩ := hw9
    go_wp2_with fail
    go_ret
    exact ⟨rfl, chain HB6.out y.b⟩
  · have HVF := Lib.hid hvf
    have HIN := Lib.hid hin
    have heq := flt_eql 0 0 0 0
    have HF3 := Lib.hid (FC.new w3 0 0)
    have HX4 := Lib.hid (HX3.out.on (bel1 _ (.cells #[.int .i64 0, .int .i64 0] 29)))
    have HB4 := Lib.hid (bel_up HB3.out (.cells #[.int .i64 0, .int .i64 0] 29))
    have HO3 := Lib.hid (hown3.kp0 (KpM.below (bel1 _ (.cells #[.int .i64 0, .int .i64 0] 29))))
    clear hvf hin hown3 HX3 HB3
    go_wp2_with fail
    refine (name_calls s _ hs).mono ?_
    rintro e w5 ⟨rfl, hb5⟩
    rw [HIN.out]
    have HX5 := Lib.hid (HX4.out.on hb5)
    have HB5 := Lib.hid (chain HB4.out hb5)
    have HF5 := Lib.hid (HF3.out.on hb5)
    obtain ⟨r0, r1, r2, r3, r4⟩ := HX5.out.cells
    go_wp2_with (go_at_call 29; refine (refName_calls s _ hs).mono ?_; rintro e w' ⟨rfl, rfl⟩; rw [HIN.out])
    refine (valueFault_calls (HV.out.on HB5.out) HM.out).mono ?_
    rintro e w6 ⟨rfl, hb6⟩
    have hb6' := chain hb6 (bel1 _ (.cells #[.int .i64 0, .int .i64 0] 29))
    have HX6 := Lib.hid (HX5.out.on hb6')
    have HB6 := Lib.hid (chain HB5.out hb6')
    obtain ⟨z4, a0, a1, f0, f1⟩ := HF5.out.on hb6'
    rw [HVF.out]
    have HO6 := Lib.hid ((HO3.out.kp0 (KpM.below hb5)).kp0 (KpM.below hb6'))
    clear hb6 hb6' r0 r1 r2 r3 r4 hb5 HX4 HB4 HF3
    obtain ⟨r0, r1, r2, r3, r4⟩ := HX6.out.cells
    go_wp2_with (first
      | (go_at_call 29; refine (refName_calls s _ hs).mono ?_; rintro e w' ⟨rfl, rfl⟩; rw [HIN.out])
      | (go_at_call 31; refine (named_calls (HV.out.on HB6.out) HM.out HVF.out).mono ?_; rintro e w7 ⟨A7, n7, c7, rfl, hls7, hb7⟩; have HL7 := Lib.hid hls7; have HB7 := Lib.hid (chain HB6.out hb7); have HO7 := Lib.hid (HO6.out.kp0 (KpM.below hb7)); clear hls7 hb7)
      | (go_at_call 30; refine (lists_calls (HO7.out.lss (findV_short HVF.out)) HL7.out (Nat.le_trans (findV_len _ _ _) (by decide))).mono ?_; rintro e w8 ⟨rfl, nq, rfl⟩))
    go_ret
    exact ⟨by simp, chain HB7.out (below_drewN _ _)⟩
end Go.Proofs.Ytolognhjdmkohaa
