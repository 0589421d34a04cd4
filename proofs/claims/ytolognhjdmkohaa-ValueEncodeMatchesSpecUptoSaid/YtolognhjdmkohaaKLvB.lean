/-
  The law on value.Encode.
-/
import Derived.Test.YtolognhjdmkohaaKRefH
import Derived.Test.YtolognhjdmkohaaKRefI
import Derived.Test.YtolognhjdmkohaaJ15
namespace Go.Proofs.Ytolognhjdmkohaa
open Go.RowKit
set_option linter.unusedVariables false
set_option linter.unusedSimpArgs false

theorem bytes_same {w : World} {B B' : Nat} {A A' : Option Addr} {n n' c c' : Nat} {a : List UInt8} (ha : Rd w B 1 A n (bv a)) (hb : Rd w B' 1 A' n' (bv a)) :
    Calls Try.prog 17 #[.slice A n c, .slice A' n' c'] w fun e w' => e = .returned (.bool true) ∧ w = w' :=
  (bytes_calls ha hb).mono fun e w' h => ⟨h.1.trans (by simp), h.2⟩
set_option maxRecDepth 100000 in
set_option maxHeartbeats 4000000 in
theorem lawEncode_calls {w : World} {v : Value} {d : Nd} {p : VF} (hv : VIn w w.heap.size v d p) (hm : Mod d p) :
    Calls Try.prog 4 #[v] w fun e w' => e = .returned (.bool true) ∧ Below w.heap.size w w' := by
  have HV := Lib.hid hv
  have HM := Lib.hid hm
  obtain ⟨sb, sn, sp, rfl, hd0⟩ := hv
  obtain ⟨Ab, nb, cb, An, nn, cn, Ap, cp, rfl, rfl, rfl, _⟩ := hd0
  clear hm
  go_enter Try.func4, Try.ntmps4
  go_wp2_with fail
  refine (example_calls _).mono ?_
  rintro e w2 ⟨rfl, hb2⟩
  have HX2 := Lib.hid ((Bx.new w (.int .i64 d.k) (.int .i64 d.n) (.slice Ab nb cb) (.slice An nn cn) (.slice Ap p.len cp)).on hb2)
  have HB2 := Lib.hid (belA hb2)
  obtain ⟨q0, q1, q2, q3, q4⟩ := HX2.out.cells
  clear hb2
  go_wp2_with fail
  refine (encodeE_calls HM.out (HV.out.on HB2.out)).mono ?_
  rintro e w3 ⟨hb3, hres⟩
  have HX3 := Lib.hid (HX2.out.on hb3)
  have HB3 := Lib.hid (chain HB2.out hb3)
  clear hb3 q0 q1 q2 q3 q4
  rcases hres with ⟨cd, ix, hc, hvf, rfl⟩ | ⟨A3, c3, m, hck, hvf, hle, rfl, hown3⟩
  · have HVF := Lib.hid hvf
    have hc' : (cd != 0) = true := by simpa using hc
    have heq := flt_eql cd ix cd ix
    have haa : (cd == cd && ix == ix) = true := by simp
    have x3c := (HX3.out.on (bel1 _ (.cells #[.int .i64 cd, .int .i64 ix] 29))).cells
    obtain ⟨r0, r1, r2, r3, r4⟩ := x3c
    clear hvf hc
    go_wp2_with fail
    refine (valueFault_calls (HV.out.on (bel_up HB3.out _)) HM.out).mono ?_
    rintro e w4 ⟨rfl, hb4⟩
    have HB4 := Lib.hid (chain (bel_up HB3.out _) hb4)
    obtain ⟨z4, a0, a1, f0, f1⟩ := (FC.new w3 cd ix).on hb4
    have a0' := fun ob => cell_up (o := ob) a0
    have a1' := fun ob => cell_up (o := ob) a1
    rw [HVF.out]
    clear hb4 r0 r1 r2 r3 r4
    go_wp2_with fail
    go_ret
    exact ⟨rfl, bel_up HB4.out _⟩
  · have HVF := Lib.hid hvf
    have HCK := Lib.hid hck
    have HO3 := Lib.hid hown3
    have x3c := (HX3.out.on (bel1 _ (.cells #[.int .i64 0, .int .i64 0] 29))).cells
    obtain ⟨r0, r1, r2, r3, r4⟩ := x3c
    obtain ⟨ln, hln⟩ : ∃ ln, (encV d p).length = ln := ⟨_, rfl⟩
    rw [hln] at hle ⊢
    have HLN := Lib.hid hln
    clear hvf hck hown3 hln
    go_wp2_with fail
    refine (valueFault_calls (HV.out.on (bel_up HB3.out _)) HM.out).mono ?_
    rintro e w4 ⟨rfl, hb4⟩
    have HB4 := Lib.hid (chain (bel_up HB3.out _) hb4)
    have HR4 := Lib.hid (show Rd w4 w4.heap.size 1 A3 ln (bv (encV d p)) by have h := (Rd.of_own HO3.out).on (chain (bel1 _ _) hb4); rw [HLN.out] at h; exact h)
    obtain ⟨z4, a0, a1, f0, f1⟩ := (FC.new w3 0 0).on hb4
    have a0' := fun ob => cell_up (o := ob) a0
    have a1' := fun ob => cell_up (o := ob) a1
    have x4c := (((HX3.out.on (bel1 _ _)).on hb4).on (bel1 _ (.cells #[.int .i64 0, .int .i64 0] 29))).cells
    obtain ⟨s0, s1, s2, s3, s4⟩ := x4c
    rw [HVF.out]
    clear hb4 r0 r1 r2 r3 r4
    go_wp2_with (first
      | (go_at_call 18; refine (encoding_calls HM.out (HV.out.on (bel_up HB4.out _)) HCK.out).mono ?_; rintro e w5 ⟨A5, c5, rfl, hown5, hb5⟩; have HB5 := Lib.hid (chain (bel_up HB4.out _) hb5); have HR5 := Lib.hid (HR4.out.on (chain (bel1 _ _) hb5)); have HO5 := Lib.hid hown5; clear hown5 hb5)
      | (go_at_call 17; refine (bytes_same HR5.out (Rd.of_own HO5.out)).mono ?_; rintro e w' ⟨rfl, rfl⟩))
    go_ret
    exact ⟨rfl, HB5.out⟩
end Go.Proofs.Ytolognhjdmkohaa
