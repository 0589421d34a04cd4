/-
  The law on value.At.
-/
import Derived.Test.YtolognhjdmkohaaKRefH
import Derived.Test.YtolognhjdmkohaaJ19
import Derived.Test.YtolognhjdmkohaaJ15
namespace Go.Proofs.Ytolognhjdmkohaa
open Go.RowKit
set_option linter.unusedVariables false
set_option linter.unusedSimpArgs false

/-- the value of nothing -/
def nd0 : Nd := ⟨0, 0, [], []⟩
theorem vin0 (w : World) (B : Nat) : VIn w B (.agg #[.int .i64 0, .int .i64 0, .slice none 0 0, .slice none 0 0, .slice none 0 0]) nd0 .nil :=
  ⟨_, _, _, rfl, none, 0, 0, none, 0, 0, none, 0, rfl, rfl, rfl, Nat.le_refl _, Nat.le_refl _, Nat.le_refl _, by decide, ⟨rfl, fun h => absurd h (by omega)⟩, ⟨rfl, fun h => absurd h (by omega)⟩, fun h => absurd h (by simp [VF.len])⟩
theorem same0 (w : World) : Calls Try.prog 21 #[.agg #[.int .i64 0, .int .i64 0, .slice none 0 0, .slice none 0 0, .slice none 0 0], .agg #[.int .i64 0, .int .i64 0, .slice none 0 0, .slice none 0 0, .slice none 0 0]] w fun e w' => e = .returned (.bool true) ∧ Below w.heap.size w w' :=
  (same_calls (d := nd0) (d' := nd0) (p := .nil) (p' := .nil) (by simp [VF.len]) trivial (by simp [nd0]) (by simp [VF.len]) trivial (vin0 w _) (vin0 w _)).mono fun e w' h => ⟨h.1.trans (by rw [(sameV_iff nd0 .nil nd0 .nil).2 ⟨rfl, rfl⟩]), h.2⟩
set_option maxRecDepth 100000 in
set_option maxHeartbeats 4000000 in
theorem lawAt_calls {w : World} {v : Value} {d : Nd} {p : VF} {A : Option Addr} {n c : Nat} {path : List Int} (hv : VIn w w.heap.size v d p) (hm : Mod d p) (hr : Rd w w.heap.size 1 A n (iv path)) (hn : n ≤ 1048576) :
    Calls Try.prog 7 #[v, .slice A n c] w fun e w' => e = .returned (.bool true) ∧ Below w.heap.size w w' := by
  have HV := Lib.hid hv
  have HM := Lib.hid hm
  have HR := Lib.hid hr
  obtain ⟨sb, sn, sp, rfl, hd0⟩ := hv
  obtain ⟨Ab, nb, cb, An, nn, cn, Ap, cp, rfl, rfl, rfl, _⟩ := hd0
  clear hm hr
  go_enter Try.func7, Try.ntmps7
  go_wp2_with fail
  refine (example_calls _).mono ?_
  rintro e w2 ⟨rfl, hb2⟩
  have HX2 := Lib.hid ((Bx.new w (.int .i64 d.k) (.int .i64 d.n) (.slice Ab nb cb) (.slice An nn cn) (.slice Ap p.len cp)).on hb2)
  have HB2 := Lib.hid (belA hb2)
  obtain ⟨q0, q1, q2, q3, q4⟩ := HX2.out.cells
  clear hb2
  go_wp2_with fail
  refine (at_calls2 HM.out (HV.out.on HB2.out) (HR.out.on HB2.out) hn).mono ?_
  rintro e w3 ⟨hb3, hres⟩
  have HX3 := Lib.hid (HX2.out.on hb3)
  have HB3 := Lib.hid (chain HB2.out hb3)
  clear hb3 q0 q1 q2 q3 q4
  rcases hres with ⟨cd, ix, hc, hvf, rfl⟩ | ⟨j, hvf, hpt, rfl⟩ | ⟨d', p', v', hvf, hpt, rfl, hv'⟩
  · have HVF := Lib.hid hvf
    have hc' : (cd != 0) = true := by simpa using hc
    have heq := flt_eql cd ix cd ix
    have haa : (cd == cd && ix == ix) = true := by simp
    have x3c := (HX3.out.on (bel2 _ (.cells #[.int .i64 0, .int .i64 0, .slice none 0 0, .slice none 0 0, .slice none 0 0] 26) (.cells #[.int .i64 cd, .int .i64 ix] 29))).cells
    obtain ⟨r0, r1, r2, r3, r4⟩ := x3c
    clear hvf hc
    go_wp2_with fail
    refine (valueFault_calls (HV.out.on (chain HB3.out (bel2 _ _ _))) HM.out).mono ?_
    rintro e w4 ⟨rfl, hb4⟩
    have HB4 := Lib.hid (chain (chain HB3.out (bel2 _ _ _)) hb4)
    obtain ⟨z4, a0, a1, f0, f1⟩ := (FC.new (w3.alloc (.cells #[.int .i64 0, .int .i64 0, .slice none 0 0, .slice none 0 0, .slice none 0 0] 26)) cd ix).on hb4
    rw [alloc_size] at a0 a1 z4 f0 f1
    have a0' := fun ob => cell_up (o := ob) a0
    have a1' := fun ob => cell_up (o := ob) a1
    have x4c := (((Bx.new w3 (.int .i64 0) (.int .i64 0) (.slice none 0 0) (.slice none 0 0) (.slice none 0 0)).on (bel1 _ (.cells #[.int .i64 cd, .int .i64 ix] 29))).on hb4).cells
    obtain ⟨s0, s1, s2, s3, s4⟩ := x4c
    have s0' := fun ob => cell_up (o := ob) s0
    have s1' := fun ob => cell_up (o := ob) s1
    have s2' := fun ob => cell_up (o := ob) s2
    have s3' := fun ob => cell_up (o := ob) s3
    have s4' := fun ob => cell_up (o := ob) s4
    rw [HVF.out]
    clear hb4 r0 r1 r2 r3 r4
    go_wp2_with (go_at_call 21; refine (same0 _).mono ?_; rintro e w5 ⟨rfl, hb5⟩; have HB5 := Lib.hid (chain (bel_up HB4.out _) hb5))
    go_ret
    exact ⟨rfl, HB5.out⟩
  · have HVF := Lib.hid hvf
    have HPT := Lib.hid hpt
    have heq := flt_eql 12 j 12 j
    have haa : ((12 : Int) == 12 && (j : Int) == (j : Int)) = true := by simp
    have hj0 : (0 : Int) ≤ (j : Int) := by omega
    have x3c := (HX3.out.on (bel2 _ (.cells #[.int .i64 0, .int .i64 0, .slice none 0 0, .slice none 0 0, .slice none 0 0] 26) (.cells #[.int .i64 12, .int .i64 (j : Int)] 29))).cells
    obtain ⟨r0, r1, r2, r3, r4⟩ := x3c
    clear hvf hpt
    go_wp2_with fail
    refine (valueFault_calls (HV.out.on (chain HB3.out (bel2 _ _ _))) HM.out).mono ?_
    rintro e w4 ⟨rfl, hb4⟩
    have HB4 := Lib.hid (bel_up (chain (chain HB3.out (bel2 _ _ _)) hb4) (.cells #[.int .i64 0, .int .i64 0] 29))
    have HX4 := Lib.hid (((HX3.out.on (bel2 _ (.cells #[.int .i64 0, .int .i64 0, .slice none 0 0, .slice none 0 0, .slice none 0 0] 26) (.cells #[.int .i64 12, .int .i64 (j : Int)] 29))).on hb4).on (bel1 _ (.cells #[.int .i64 0, .int .i64 0] 29)))
    have HZ4 := Lib.hid ((((Bx.new w3 (.int .i64 0) (.int .i64 0) (.slice none 0 0) (.slice none 0 0) (.slice none 0 0)).on (bel1 _ (.cells #[.int .i64 12, .int .i64 (j : Int)] 29))).on hb4).on (bel1 _ (.cells #[.int .i64 0, .int .i64 0] 29)))
    have hfc := ((FC.new (w3.alloc (.cells #[.int .i64 0, .int .i64 0, .slice none 0 0, .slice none 0 0, .slice none 0 0] 26)) 12 (j : Int)).on hb4).on (bel1 _ (.cells #[.int .i64 0, .int .i64 0] 29))
    rw [alloc_size] at hfc
    have HFC := Lib.hid hfc
    obtain ⟨r0, r1, r2, r3, r4⟩ := HX4.out.cells
    rw [HVF.out]
    clear hb4 hfc
    go_wp2_with fail
    refine (part_calls (HV.out.on HB4.out) HM.out.pl HM.out.fp (HR.out.on HB4.out) hn).mono ?_
    rintro e w5 ⟨hb5, hres⟩
    rcases hres with ⟨i, hi, rfl⟩ | ⟨d', p', v', hi, _⟩
    · have hij : i = j := by have h := HPT.out; rw [h] at hi; cases hi; rfl
      subst hij
      clear hi r0 r1 r2 r3 r4
      have HB5 := Lib.hid (bel_up (chain HB4.out hb5) (.cells #[.int .i64 0, .int .i64 0, .slice none 0 0, .slice none 0 0, .slice none 0 0] 26))
      obtain ⟨z4, a0, a1, f0, f1⟩ := (HFC.out.on hb5).on (bel1 _ (.cells #[.int .i64 0, .int .i64 0, .slice none 0 0, .slice none 0 0, .slice none 0 0] 26))
      obtain ⟨s0, s1, s2, s3, s4⟩ := ((HZ4.out.on hb5).on (bel1 _ (.cells #[.int .i64 0, .int .i64 0, .slice none 0 0, .slice none 0 0, .slice none 0 0] 26))).cells
      clear hb5
      go_upto_region 9 with (fail)
      obtain ⟨W6, hW6⟩ : ∃ W6, w5.alloc (.cells #[.int .i64 0, .int .i64 0, .slice none 0 0, .slice none 0 0, .slice none 0 0] 26) = W6 := ⟨_, rfl⟩
      rw [hW6] at HB5 s0 s1 s2 s3 s4 a0 a1 z4 f0 f1 ⊢
      clear hW6
      have s0' := fun ob => cell_up (o := ob) s0
      have s1' := fun ob => cell_up (o := ob) s1
      have s2' := fun ob => cell_up (o := ob) s2
      have s3' := fun ob => cell_up (o := ob) s3
      have s4' := fun ob => cell_up (o := ob) s4
      have a0' := fun ob => cell_up (o := ob) a0
      have a1' := fun ob => cell_up (o := ob) a1
      go_region_with (first
        | (go_at_call 20; refine (at_calls _ _ _).mono ?_; rintro e w' ⟨rfl, rfl⟩)
        | (go_at_call 21; refine (same0 _).mono ?_; rintro e w7 ⟨rfl, hb7⟩; have HB7 := Lib.hid (chain (bel_up HB5.out.drew _) hb7); clear hb7))
      all_goals go_wp2_with fail
      all_goals go_ret
      all_goals exact ⟨rfl, HB7.out⟩
    · rw [HPT.out] at hi
      cases hi
  · have HVF := Lib.hid hvf
    have HPT := Lib.hid hpt
    have hv3 : VIn w3 w3.heap.size v' d' p' := hv'.vin (fun b h => h.2)
    have HV3 := Lib.hid hv3
    obtain ⟨sb3, sn3, sp3, rfl, Ab3, nb3, cb3, An3, nn3, cn3, Ap3, cp3, rfl, rfl, rfl, _⟩ := hv3
    have x3c := (HX3.out.on (bel2 _ (.cells #[.int .i64 d'.k, .int .i64 d'.n, .slice Ab3 nb3 cb3, .slice An3 nn3 cn3, .slice Ap3 p'.len cp3] 26) (.cells #[.int .i64 0, .int .i64 0] 29))).cells
    obtain ⟨r0, r1, r2, r3, r4⟩ := x3c
    clear hvf hpt hv'
    go_wp2_with fail
    refine (valueFault_calls (HV.out.on (chain HB3.out (bel2 _ _ _))) HM.out).mono ?_
    rintro e w4 ⟨rfl, hb4⟩
    have HB4 := Lib.hid (bel_up (chain (chain HB3.out (bel2 _ _ _)) hb4) (.cells #[.int .i64 0, .int .i64 0] 29))
    have HV4 := Lib.hid (HV3.out.on (bel_up (chain (bel2 _ (.cells #[.int .i64 d'.k, .int .i64 d'.n, .slice Ab3 nb3 cb3, .slice An3 nn3 cn3, .slice Ap3 p'.len cp3] 26) (.cells #[.int .i64 0, .int .i64 0] 29)) hb4) (.cells #[.int .i64 0, .int .i64 0] 29)))
    have HX4 := Lib.hid (((HX3.out.on (bel2 _ (.cells #[.int .i64 d'.k, .int .i64 d'.n, .slice Ab3 nb3 cb3, .slice An3 nn3 cn3, .slice Ap3 p'.len cp3] 26) (.cells #[.int .i64 0, .int .i64 0] 29))).on hb4).on (bel1 _ (.cells #[.int .i64 0, .int .i64 0] 29)))
    have HZ4 := Lib.hid ((((Bx.new w3 (.int .i64 d'.k) (.int .i64 d'.n) (.slice Ab3 nb3 cb3) (.slice An3 nn3 cn3) (.slice Ap3 p'.len cp3)).on (bel1 _ (.cells #[.int .i64 0, .int .i64 0] 29))).on hb4).on (bel1 _ (.cells #[.int .i64 0, .int .i64 0] 29)))
    have hfc := ((FC.new (w3.alloc (.cells #[.int .i64 d'.k, .int .i64 d'.n, .slice Ab3 nb3 cb3, .slice An3 nn3 cn3, .slice Ap3 p'.len cp3] 26)) 0 0).on hb4).on (bel1 _ (.cells #[.int .i64 0, .int .i64 0] 29))
    rw [alloc_size] at hfc
    have HFC := Lib.hid hfc
    obtain ⟨r0, r1, r2, r3, r4⟩ := HX4.out.cells
    rw [HVF.out]
    clear hb4 hfc
    go_wp2_with fail
    refine (part_calls (HV.out.on HB4.out) HM.out.pl HM.out.fp (HR.out.on HB4.out) hn).mono ?_
    rintro e w5 ⟨hb5, hres⟩
    rcases hres with ⟨i, hi, rfl⟩ | ⟨d5, p5, v5, hi, rfl, hv5⟩
    · rw [HPT.out] at hi
      cases hi
    · have hij : d' = d5 ∧ p' = p5 := by have h := HPT.out; rw [h] at hi; cases hi; exact ⟨rfl, rfl⟩
      obtain ⟨rfl, rfl⟩ := hij
      clear hi r0 r1 r2 r3 r4
      have HV5 := Lib.hid (hv5.on hb5)
      obtain ⟨sb5, sn5, sp5, rfl, Ab5, nb5, cb5, An5, nn5, cn5, Ap5, cp5, rfl, rfl, rfl, _⟩ := hv5
      have HB5 := Lib.hid (bel_up (chain HB4.out hb5) (.cells #[.int .i64 d'.k, .int .i64 d'.n, .slice Ab5 nb5 cb5, .slice An5 nn5 cn5, .slice Ap5 p'.len cp5] 26))
      have HV6 := Lib.hid (HV5.out.on (bel1 _ (.cells #[.int .i64 d'.k, .int .i64 d'.n, .slice Ab5 nb5 cb5, .slice An5 nn5 cn5, .slice Ap5 p'.len cp5] 26)))
      have HV7 := Lib.hid ((HV4.out.on hb5).on (bel1 _ (.cells #[.int .i64 d'.k, .int .i64 d'.n, .slice Ab5 nb5 cb5, .slice An5 nn5 cn5, .slice Ap5 p'.len cp5] 26)))
      obtain ⟨z4, a0, a1, f0, f1⟩ := (HFC.out.on hb5).on (bel1 _ (.cells #[.int .i64 d'.k, .int .i64 d'.n, .slice Ab5 nb5 cb5, .slice An5 nn5 cn5, .slice Ap5 p'.len cp5] 26))
      obtain ⟨s0, s1, s2, s3, s4⟩ := ((HZ4.out.on hb5).on (bel1 _ (.cells #[.int .i64 d'.k, .int .i64 d'.n, .slice Ab5 nb5 cb5, .slice An5 nn5 cn5, .slice Ap5 p'.len cp5] 26))).cells
      have HFT := Lib.hid (path_fits path d p 0 d' p' HM.out.nd HM.out.fp HM.out.pl HPT.out)
      clear hb5
      go_wp2_with (go_at_call 21; refine (same_calls HFT.out.2.2 HFT.out.2.1 HFT.out.1.2.2.1 HFT.out.2.2 HFT.out.2.1 HV7.out HV6.out).mono ?_; rintro e w7 ⟨rfl, hb7⟩; have HB7 := Lib.hid (chain HB5.out hb7); clear hb7)
      go_ret
      exact ⟨by rw [(sameV_iff d' p' d' p').2 ⟨rfl, rfl⟩]; rfl, HB7.out⟩
end Go.Proofs.Ytolognhjdmkohaa
