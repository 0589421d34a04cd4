/-
  The law on value.Replace.
-/
import Derived.Test.YtolognhjdmkohaaKWith
import Derived.Test.YtolognhjdmkohaaKRpE
import Derived.Test.YtolognhjdmkohaaKLvC
namespace Go.Proofs.Ytolognhjdmkohaa
open Go.RowKit
set_option linter.unusedVariables false
set_option linter.unusedSimpArgs false

/-- the law's variables: the two values, the result and its fault -/
structure Rs (w W : World) (gX gF : Nat) (a0 a1 a2 a3 a4 b0 b1 b2 b3 b4 x0 x1 x2 x3 x4 : Value) (cd ix : Int) : Prop where
  a : Bx W w.heap.size a0 a1 a2 a3 a4
  b : Bx W (w.heap.size + 1) b0 b1 b2 b3 b4
  x : Bx W gX x0 x1 x2 x3 x4
  f : FC W gF cd ix
  bl : Below w.heap.size w W
theorem Rs.on {w W W' : World} {gX gF : Nat} {a0 a1 a2 a3 a4 b0 b1 b2 b3 b4 x0 x1 x2 x3 x4 : Value} {cd ix : Int} (h : Rs w W gX gF a0 a1 a2 a3 a4 b0 b1 b2 b3 b4 x0 x1 x2 x3 x4 cd ix) (hb : Below W.heap.size W W') : Rs w W' gX gF a0 a1 a2 a3 a4 b0 b1 b2 b3 b4 x0 x1 x2 x3 x4 cd ix :=
  ⟨h.a.on hb, h.b.on hb, h.x.on hb, h.f.on hb, chain h.bl hb⟩
theorem Rs.put {w W : World} {gX gF g : Nat} {a0 a1 a2 a3 a4 b0 b1 b2 b3 b4 x0 x1 x2 x3 x4 : Value} {cd ix c i : Int} (h : Rs w W gX gF a0 a1 a2 a3 a4 b0 b1 b2 b3 b4 x0 x1 x2 x3 x4 cd ix) (h1 : w.heap.size + 2 ≤ g) (h2 : gX ≠ g) (h3 : gF ≠ g) :
    Rs w ((W.setCell ⟨g, 0, none⟩ (.int .i64 c)).setCell ⟨g, 1, none⟩ (.int .i64 i)) gX gF a0 a1 a2 a3 a4 b0 b1 b2 b3 b4 x0 x1 x2 x3 x4 cd ix :=
  ⟨(h.a.far (by omega)).far (by omega), (h.b.far (by omega)).far (by omega), (h.x.far h2).far h2, (h.f.far (fun e => h3 e.symm)).far (fun e => h3 e.symm), below_put h.bl (by omega) _ _⟩
set_option maxRecDepth 100000 in
set_option maxHeartbeats 4000000 in
theorem lawReplace_calls {w : World} {v vw : Value} {d e : Nd} {p q : VF} {A : Option Addr} {n c : Nat} {path : List Int} (hv : VIn w w.heap.size v d p) (hm : Mod d p) (hr : Rd w w.heap.size 1 A n (iv path)) (hn : n ≤ 1048576) (hnc : n ≤ c) (hvw : VIn w w.heap.size vw e q) (he : Mod e q) :
    Calls Try.prog 12 #[v, .slice A n c, vw] w fun e w' => e = .returned (.bool true) ∧ Below w.heap.size w w' := by
  have HV := Lib.hid hv
  have HE := Lib.hid hvw
  have HM := Lib.hid hm
  have HME := Lib.hid he
  have HR := Lib.hid hr
  obtain ⟨sb, sn, sp, rfl, hd⟩ := hv
  obtain ⟨Ab, nb, cb, An, nn, cn, Ap, cp, rfl, rfl, rfl, _⟩ := hd
  obtain ⟨tb, tn, tp, rfl, hd⟩ := hvw
  obtain ⟨Eb, mb, db, En, mn, dn, Ep, dp, rfl, rfl, rfl, _⟩ := hd
  clear hm he hr
  go_enter Try.func12, Try.ntmps12
  go_wp2_with fail
  refine (example_calls _).mono ?_
  rintro ev w2 ⟨rfl, hb2⟩
  have HA2 := Lib.hid (((Bx.new w (.int .i64 d.k) (.int .i64 d.n) (.slice Ab nb cb) (.slice An nn cn) (.slice Ap p.len cp)).on (bel1 _ (.cells #[.int .i64 e.k, .int .i64 e.n, .slice Eb mb db, .slice En mn dn, .slice Ep q.len dp] 26))).on hb2)
  have hbb := (Bx.new (w.alloc (.cells #[.int .i64 d.k, .int .i64 d.n, .slice Ab nb cb, .slice An nn cn, .slice Ap p.len cp] 26)) (.int .i64 e.k) (.int .i64 e.n) (.slice Eb mb db) (.slice En mn dn) (.slice Ep q.len dp)).on hb2
  rw [alloc_size] at hbb
  have HBb2 := Lib.hid hbb
  have HB2 := Lib.hid (chain (bel2 _ _ _) hb2)
  obtain ⟨q0, q1, q2, q3, q4⟩ := HA2.out.cells
  obtain ⟨r0, r1, r2, r3, r4⟩ := HBb2.out.cells
  clear hb2 hbb
  go_wp2_with fail
  refine (replace_calls (path := path) HM.out HME.out (HV.out.on HB2.out) (HE.out.on HB2.out) (HR.out.on HB2.out) hn).mono ?_
  rintro ev w3 ⟨hb3, hres⟩
  have hz3 : w.heap.size + 2 ≤ w3.heap.size := by have := HBb2.out.lt; have := hb3.size; omega
  have HB3 := Lib.hid hb3
  clear hb3 q0 q1 q2 q3 q4 r0 r1 r2 r3 r4
  obtain ⟨X, hX⟩ : ∃ X, repV path d p e q = X := ⟨_, rfl⟩
  rcases hres with ⟨cd, ix, ⟨hcd, hrf⟩, rfl⟩ | ⟨v', hvd, hve, ⟨x, hpt⟩, hvx, rfl, hv'⟩
  · have hc' : (cd != 0) = true := by simpa using hcd
    have hc0 : (cd == 0) = false := by simpa using hcd
    have heq := flt_eql cd ix cd ix
    have haa : (cd == cd && ix == ix) = true := by simp
    have hww : Below w3.heap.size w3 ((w3.alloc (.cells #[.int .i64 0, .int .i64 0, .slice none 0 0, .slice none 0 0, .slice none 0 0] 26)).alloc (.cells #[.int .i64 cd, .int .i64 ix] 29)) := bel2 _ _ _
    have hff := FC.new (w3.alloc (.cells #[.int .i64 0, .int .i64 0, .slice none 0 0, .slice none 0 0, .slice none 0 0] 26)) cd ix
    rw [alloc_size] at hff
    have HS := Lib.hid (show Rs w ((w3.alloc (.cells #[.int .i64 0, .int .i64 0, .slice none 0 0, .slice none 0 0, .slice none 0 0] 26)).alloc (.cells #[.int .i64 cd, .int .i64 ix] 29)) w3.heap.size (w3.heap.size + 1) _ _ _ _ _ _ _ _ _ _ _ _ _ _ _ cd ix from ⟨(HA2.out.on HB3.out).on hww, (HBb2.out.on HB3.out).on hww, (Bx.new w3 (.int .i64 0) (.int .i64 0) (.slice none 0 0) (.slice none 0 0) (.slice none 0 0)).on (bel1 _ _), hff, chain (chain HB2.out HB3.out) hww⟩)
    clear hff
    go_upto_region 4 with (fail)
    obtain ⟨W3, hW3⟩ : ∃ W3, (w3.alloc (.cells #[.int .i64 0, .int .i64 0, .slice none 0 0, .slice none 0 0, .slice none 0 0] 26)).alloc (.cells #[.int .i64 cd, .int .i64 ix] 29) = W3 := ⟨_, rfl⟩
    have hzW3 : W3.heap.size = w3.heap.size + 2 := by rw [← hW3]; simp
    rw [hW3] at HS hww
    (try rw [hW3])
    have HWW := Lib.hid hww
    clear hW3 hww
    obtain ⟨q0, q1, q2, q3, q4⟩ := HS.out.a.cells
    go_wp2_with fail
    refine (valueFault_calls (HV.out.on HS.out.bl) HM.out).mono ?_
    rintro ev w4 ⟨rfl, hb4⟩
    have hz4 := hb4.size
    rcases hrf with hvd | ⟨hvd, hve⟩ | ⟨hvd, hve, j, hpt, rfl, rfl⟩ | ⟨hvd, hve, ⟨x, hpt⟩, hvx⟩
    · -- the first value is bad
      rw [hvd]
      clear hvd
      have HS4 := Lib.hid ((HS.out.on hb4).on (bel1 _ (.cells #[.int .i64 cd, .int .i64 ix] 29)))
      have HW4 := Lib.hid (FC.new w4 cd ix)
      have HU4 := Lib.hid (bel_up hb4 (.cells #[.int .i64 cd, .int .i64 ix] 29))
      clear q0 q1 q2 q3 q4 hb4
      go_upto_region 5 with (fail)
      obtain ⟨W4, hW4⟩ : ∃ W4, w4.alloc (.cells #[.int .i64 cd, .int .i64 ix] 29) = W4 := ⟨_, rfl⟩
      have hzW4 : W4.heap.size = w4.heap.size + 1 := by rw [← hW4]; simp
      rw [hW4] at HS4 HW4 HU4
      (try rw [hW4])
      clear hW4
      obtain ⟨_, b0, b1, _, _⟩ := HW4.out

      obtain ⟨_, a0, a1, _, _⟩ := HS4.out.f
      obtain ⟨_, b0, b1, _, _⟩ := HW4.out
      obtain ⟨s0, s1, s2, s3, s4⟩ := HS4.out.x.cells
      go_wp2_with (go_at_call 21; refine (same0 _).mono ?_; rintro ev w9 ⟨rfl, hb9⟩; have HB9 := Lib.hid (chain HS4.out.bl hb9); clear hb9)
      go_ret
      exact ⟨rfl, HB9.out⟩
    · -- the second value is bad
      rw [hvd]
      have HVD := Lib.hid hvd
      clear hvd
      have HS4 := Lib.hid ((HS.out.on hb4).on (bel1 _ (.cells #[.int .i64 0, .int .i64 0] 29)))
      have HW4 := Lib.hid (FC.new w4 0 0)
      have HU4 := Lib.hid (bel_up hb4 (.cells #[.int .i64 0, .int .i64 0] 29))
      clear q0 q1 q2 q3 q4 hb4
      go_upto_region 5 with (fail)
      obtain ⟨W4, hW4⟩ : ∃ W4, w4.alloc (.cells #[.int .i64 0, .int .i64 0] 29) = W4 := ⟨_, rfl⟩
      have hzW4 : W4.heap.size = w4.heap.size + 1 := by rw [← hW4]; simp
      rw [hW4] at HS4 HW4 HU4
      (try rw [hW4])
      clear hW4

      obtain ⟨_, b0, b1, f0, f1⟩ := HW4.out
      obtain ⟨t0, t1, t2, t3, t4⟩ := HS4.out.b.cells
      go_upto_region 6 with (fail)
      go_wp2_with fail
      refine (valueFault_calls (HE.out.on HS4.out.bl) HME.out).mono ?_
      rintro ev w5 ⟨rfl, hb5⟩
      rw [hve]
      have hz5 := hb5.size
      have HS5 := Lib.hid ((HS4.out.on hb5).put (c := cd) (i := ix) (g := w4.heap.size) (by omega) (by omega) (by omega))
      have HW5 := Lib.hid ((HW4.out.on hb5).put cd ix)
      have HD5 := Lib.hid (below_put (g := w4.heap.size) (chain (chain HWW.out HU4.out) hb5) (by omega) (.int .i64 cd) (.int .i64 ix))
      obtain ⟨_, c0, c1, g0, g1⟩ := HW4.out.on hb5
      clear b0 b1 f0 f1 t0 t1 t2 t3 t4
      go_upto_region 7 with (fail)
      obtain ⟨W5, hW5⟩ : ∃ W5, (w5.setCell ⟨w4.heap.size, 0, none⟩ (.int .i64 cd)).setCell ⟨w4.heap.size, 1, none⟩ (.int .i64 ix) = W5 := ⟨_, rfl⟩
      have hzW5 : W5.heap.size = w5.heap.size := by rw [← hW5]; simp
      rw [hW5] at HS5 HW5 HD5
      (try rw [hW5])
      clear hW5 c0 c1 g0 g1 hb5

      obtain ⟨_, a0, a1, _, _⟩ := HS5.out.f
      obtain ⟨_, b0, b1, _, _⟩ := HW5.out
      obtain ⟨s0, s1, s2, s3, s4⟩ := HS5.out.x.cells
      go_wp2_with (go_at_call 21; refine (same0 _).mono ?_; rintro ev w9 ⟨rfl, hb9⟩; have HB9 := Lib.hid (chain HS5.out.bl hb9); clear hb9)
      go_ret
      exact ⟨rfl, HB9.out⟩
    · -- there is no such node
      rw [hvd]
      have HVD := Lib.hid hvd
      clear hvd
      have HS4 := Lib.hid ((HS.out.on hb4).on (bel1 _ (.cells #[.int .i64 0, .int .i64 0] 29)))
      have HW4 := Lib.hid (FC.new w4 0 0)
      have HU4 := Lib.hid (bel_up hb4 (.cells #[.int .i64 0, .int .i64 0] 29))
      clear q0 q1 q2 q3 q4 hb4
      go_upto_region 5 with (fail)
      obtain ⟨W4, hW4⟩ : ∃ W4, w4.alloc (.cells #[.int .i64 0, .int .i64 0] 29) = W4 := ⟨_, rfl⟩
      have hzW4 : W4.heap.size = w4.heap.size + 1 := by rw [← hW4]; simp
      rw [hW4] at HS4 HW4 HU4
      (try rw [hW4])
      clear hW4

      obtain ⟨_, b0, b1, f0, f1⟩ := HW4.out
      obtain ⟨t0, t1, t2, t3, t4⟩ := HS4.out.b.cells
      go_upto_region 6 with (fail)
      go_wp2_with fail
      refine (valueFault_calls (HE.out.on HS4.out.bl) HME.out).mono ?_
      rintro ev w5 ⟨rfl, hb5⟩
      rw [hve]
      have hz5 := hb5.size
      have HS5 := Lib.hid ((HS4.out.on hb5).put (c := 0) (i := 0) (g := w4.heap.size) (by omega) (by omega) (by omega))
      have HW5 := Lib.hid ((HW4.out.on hb5).put 0 0)
      have HD5 := Lib.hid (below_put (g := w4.heap.size) (chain (chain HWW.out HU4.out) hb5) (by omega) (.int .i64 0) (.int .i64 0))
      obtain ⟨_, c0, c1, g0, g1⟩ := HW4.out.on hb5
      clear b0 b1 f0 f1 t0 t1 t2 t3 t4
      go_upto_region 7 with (fail)
      obtain ⟨W5, hW5⟩ : ∃ W5, (w5.setCell ⟨w4.heap.size, 0, none⟩ (.int .i64 0)).setCell ⟨w4.heap.size, 1, none⟩ (.int .i64 0) = W5 := ⟨_, rfl⟩
      have hzW5 : W5.heap.size = w5.heap.size := by rw [← hW5]; simp
      rw [hW5] at HS5 HW5 HD5
      (try rw [hW5])
      clear hW5 c0 c1 g0 g1 hb5

      have HPT := Lib.hid hpt
      obtain ⟨_, b0, b1, f0, f1⟩ := HW5.out
      obtain ⟨q0, q1, q2, q3, q4⟩ := HS5.out.a.cells
      clear hpt
      go_upto_region 8 with (fail)
      go_wp2_with fail
      refine (part_calls (path := path) (HV.out.on HS5.out.bl) HM.out.pl HM.out.fp (HR.out.on HS5.out.bl) hn).mono ?_
      rintro ev w6 ⟨hb6, hres⟩
      have hz6 := hb6.size
      clear q0 q1 q2 q3 q4 b0 b1 f0 f1

      rcases hres with ⟨i, hi, rfl⟩ | ⟨d', p', v', hi, _⟩
      · have hij : i = j := by have h := HPT.out; rw [h] at hi; cases hi; rfl
        subst hij
        have hj0 : (0 : Int) ≤ (i : Int) := by omega
        have hwa : Below w6.heap.size w6 ((w6.alloc (.cells #[.int .i64 0, .int .i64 0, .slice none 0 0, .slice none 0 0, .slice none 0 0] 26)).alloc (.cells #[.int .i64 12, .int .i64 (i : Int)] 29)) := bel2 _ _ _
        have HS6 := Lib.hid (((HS5.out.on hb6).on hwa).put (c := 12) (i := (i : Int)) (g := w4.heap.size) (by omega) (by omega) (by omega))
        have HW6 := Lib.hid (((HW5.out.on hb6).on hwa).put 12 (i : Int))
        obtain ⟨_, c0, c1, g0, g1⟩ := (HW5.out.on hb6).on hwa
        clear hi hwa
        go_upto_region 11 with (go_at_call 20; refine (at_calls _ _ _).mono ?_; rintro ev w' ⟨rfl, rfl⟩)
        obtain ⟨W6, hW6⟩ : ∃ W6, (((w6.alloc (.cells #[.int .i64 0, .int .i64 0, .slice none 0 0, .slice none 0 0, .slice none 0 0] 26)).alloc (.cells #[.int .i64 12, .int .i64 (i : Int)] 29)).setCell ⟨w4.heap.size, 0, none⟩ (.int .i64 12)).setCell ⟨w4.heap.size, 1, none⟩ (.int .i64 (i : Int)) = W6 := ⟨_, rfl⟩
        rw [hW6] at HS6 HW6
        (try rw [hW6])
        clear hW6 c0 c1 g0 g1 hb6
        obtain ⟨_, a0, a1, _, _⟩ := HS6.out.f
        obtain ⟨_, b0, b1, _, _⟩ := HW6.out
        obtain ⟨s0, s1, s2, s3, s4⟩ := HS6.out.x.cells
        go_wp2_with (go_at_call 21; refine (same0 _).mono ?_; rintro ev w9 ⟨rfl, hb9⟩; have HB9 := Lib.hid (chain HS6.out.bl hb9); clear hb9)
        go_ret
        exact ⟨rfl, HB9.out⟩
      · rw [HPT.out] at hi
        cases hi
    · -- the result is bad
      have HX := Lib.hid hX
      rw [hX] at hvx
      have HVX := Lib.hid hvx
      have HMX : Hid (Mod X.1 X.2) := Lib.hid (by rw [← hX]; exact rep_mod path HM.out HME.out hvd hve)
      clear hX hvx

      rw [hvd]
      have HVD := Lib.hid hvd
      clear hvd
      have HS4 := Lib.hid ((HS.out.on hb4).on (bel1 _ (.cells #[.int .i64 0, .int .i64 0] 29)))
      have HW4 := Lib.hid (FC.new w4 0 0)
      have HU4 := Lib.hid (bel_up hb4 (.cells #[.int .i64 0, .int .i64 0] 29))
      clear q0 q1 q2 q3 q4 hb4
      go_upto_region 5 with (fail)
      obtain ⟨W4, hW4⟩ : ∃ W4, w4.alloc (.cells #[.int .i64 0, .int .i64 0] 29) = W4 := ⟨_, rfl⟩
      have hzW4 : W4.heap.size = w4.heap.size + 1 := by rw [← hW4]; simp
      rw [hW4] at HS4 HW4 HU4
      (try rw [hW4])
      clear hW4

      obtain ⟨_, b0, b1, f0, f1⟩ := HW4.out
      obtain ⟨t0, t1, t2, t3, t4⟩ := HS4.out.b.cells
      go_upto_region 6 with (fail)
      go_wp2_with fail
      refine (valueFault_calls (HE.out.on HS4.out.bl) HME.out).mono ?_
      rintro ev w5 ⟨rfl, hb5⟩
      rw [hve]
      have hz5 := hb5.size
      have HS5 := Lib.hid ((HS4.out.on hb5).put (c := 0) (i := 0) (g := w4.heap.size) (by omega) (by omega) (by omega))
      have HW5 := Lib.hid ((HW4.out.on hb5).put 0 0)
      have HD5 := Lib.hid (below_put (g := w4.heap.size) (chain (chain HWW.out HU4.out) hb5) (by omega) (.int .i64 0) (.int .i64 0))
      obtain ⟨_, c0, c1, g0, g1⟩ := HW4.out.on hb5
      clear b0 b1 f0 f1 t0 t1 t2 t3 t4
      go_upto_region 7 with (fail)
      obtain ⟨W5, hW5⟩ : ∃ W5, (w5.setCell ⟨w4.heap.size, 0, none⟩ (.int .i64 0)).setCell ⟨w4.heap.size, 1, none⟩ (.int .i64 0) = W5 := ⟨_, rfl⟩
      have hzW5 : W5.heap.size = w5.heap.size := by rw [← hW5]; simp
      rw [hW5] at HS5 HW5 HD5
      (try rw [hW5])
      clear hW5 c0 c1 g0 g1 hb5

      have HPT := Lib.hid hpt
      obtain ⟨_, b0, b1, f0, f1⟩ := HW5.out
      obtain ⟨q0, q1, q2, q3, q4⟩ := HS5.out.a.cells
      clear hpt
      go_upto_region 8 with (fail)
      go_wp2_with fail
      refine (part_calls (path := path) (HV.out.on HS5.out.bl) HM.out.pl HM.out.fp (HR.out.on HS5.out.bl) hn).mono ?_
      rintro ev w6 ⟨hb6, hres⟩
      have hz6 := hb6.size
      clear q0 q1 q2 q3 q4 b0 b1 f0 f1

      rcases hres with ⟨i, hi, _⟩ | ⟨d', p', v6, hi, rfl, hv6⟩
      · rw [HPT.out] at hi
        cases hi
      · clear hi
        obtain ⟨sb6, sn6, sp6, rfl, Ab6, nb6, cb6, An6, nn6, cn6, Ap6, cp6, rfl, rfl, rfl, _⟩ := hv6
        have HS6 := Lib.hid ((HS5.out.on hb6).on (bel1 _ (.cells #[.int .i64 d'.k, .int .i64 d'.n, .slice Ab6 nb6 cb6, .slice An6 nn6 cn6, .slice Ap6 p'.len cp6] 26)))
        have HW6 := Lib.hid ((HW5.out.on hb6).on (bel1 _ (.cells #[.int .i64 d'.k, .int .i64 d'.n, .slice Ab6 nb6 cb6, .slice An6 nn6 cn6, .slice Ap6 p'.len cp6] 26)))
        have HU6 := Lib.hid (bel_up hb6 (.cells #[.int .i64 d'.k, .int .i64 d'.n, .slice Ab6 nb6 cb6, .slice An6 nn6 cn6, .slice Ap6 p'.len cp6] 26))
        go_upto_region 9 with (fail)
        obtain ⟨W6, hW6⟩ : ∃ W6, w6.alloc (.cells #[.int .i64 d'.k, .int .i64 d'.n, .slice Ab6 nb6 cb6, .slice An6 nn6 cn6, .slice Ap6 p'.len cp6] 26) = W6 := ⟨_, rfl⟩
        have hzW6 : W6.heap.size = w6.heap.size + 1 := by rw [← hW6]; simp
        rw [hW6] at HS6 HW6 HU6
        (try rw [hW6])
        clear hW6 hb6
        obtain ⟨_, b0, b1, _, _⟩ := HW6.out
        obtain ⟨q0, q1, q2, q3, q4⟩ := HS6.out.a.cells
        obtain ⟨r0, r1, r2, r3, r4⟩ := HS6.out.b.cells
        go_wp2_with fail
        refine (with_calls (B0 := W6.heap.size) path W6 _ _ d e p q A n c 0 x (Nat.le_refl _) (HV.out.on HS6.out.bl) (HE.out.on HS6.out.bl) HM.out.pl HM.out.fp (HR.out.on HS6.out.bl) hnc hn HPT.out).mono ?_
        rintro ev w7 ⟨vy, rfl, hvy, hb7⟩
        have hz7 := hb7.size
        rw [HX.out] at hvy
        obtain ⟨sb7, sn7, sp7, rfl, hdy⟩ := hvy
        have HDY := Lib.hid hdy
        obtain ⟨Ab7, nb7, cb7, An7, nn7, cn7, Ap7, cp7, rfl, rfl, rfl, _⟩ := hdy
        have HVY0 : Hid (VIn w7 w7.heap.size (.agg #[.int .i64 X.1.k, .int .i64 X.1.n, .slice Ab7 nb7 cb7, .slice An7 nn7 cn7, .slice Ap7 X.2.len cp7]) X.1 X.2) := Lib.hid (VInS.vin ⟨_, _, _, rfl, HDY.out⟩ (fun b h => h.2))
        have HS7 := Lib.hid ((HS6.out.on hb7).on (bel1 _ (.cells #[.int .i64 X.1.k, .int .i64 X.1.n, .slice Ab7 nb7 cb7, .slice An7 nn7 cn7, .slice Ap7 X.2.len cp7] 26)))
        have HY7 := Lib.hid (Bx.new w7 (.int .i64 X.1.k) (.int .i64 X.1.n) (.slice Ab7 nb7 cb7) (.slice An7 nn7 cn7) (.slice Ap7 X.2.len cp7))
        have HVY := Lib.hid (HVY0.out.on (bel1 _ (.cells #[.int .i64 X.1.k, .int .i64 X.1.n, .slice Ab7 nb7 cb7, .slice An7 nn7 cn7, .slice Ap7 X.2.len cp7] 26)))
        have HU7 := Lib.hid (chain HU6.out (bel_up hb7 (.cells #[.int .i64 X.1.k, .int .i64 X.1.n, .slice Ab7 nb7 cb7, .slice An7 nn7 cn7, .slice Ap7 X.2.len cp7] 26)))
        clear b0 b1 q0 q1 q2 q3 q4 r0 r1 r2 r3 r4 hb7
        go_upto_region 14 with (fail)
        obtain ⟨W7, hW7⟩ : ∃ W7, w7.alloc (.cells #[.int .i64 X.1.k, .int .i64 X.1.n, .slice Ab7 nb7 cb7, .slice An7 nn7 cn7, .slice Ap7 X.2.len cp7] 26) = W7 := ⟨_, rfl⟩
        have hzW7 : W7.heap.size = w7.heap.size + 1 := by rw [← hW7]; simp
        rw [hW7] at HS7 HY7 HVY HU7
        (try rw [hW7])
        clear hW7
        obtain ⟨q0, q1, q2, q3, q4⟩ := HY7.out.cells
        go_wp2_with fail
        refine (valueFault_calls HVY.out HMX.out).mono ?_
        rintro ev w8 ⟨rfl, hb8⟩
        rw [HVX.out]
        have hz8 := hb8.size
        have HS8 := Lib.hid ((HS7.out.on hb8).on (bel1 _ (.cells #[.int .i64 cd, .int .i64 ix] 29)))
        have HY8 := Lib.hid ((HY7.out.on hb8).on (bel1 _ (.cells #[.int .i64 cd, .int .i64 ix] 29)))
        have HW8 := Lib.hid (FC.new w8 cd ix)
        have HU8 := Lib.hid (bel_up hb8 (.cells #[.int .i64 cd, .int .i64 ix] 29))
        clear q0 q1 q2 q3 q4 hb8
        go_upto_region 15 with (fail)
        obtain ⟨W8, hW8⟩ : ∃ W8, w8.alloc (.cells #[.int .i64 cd, .int .i64 ix] 29) = W8 := ⟨_, rfl⟩
        rw [hW8] at HS8 HY8 HW8 HU8
        (try rw [hW8])
        clear hW8
        obtain ⟨_, a0, a1, _, _⟩ := HS8.out.f
        obtain ⟨_, b0, b1, _, _⟩ := HW8.out
        obtain ⟨s0, s1, s2, s3, s4⟩ := HS8.out.x.cells
        go_wp2_with (go_at_call 21; refine (same0 _).mono ?_; rintro ev w9 ⟨rfl, hb9⟩; have HB9 := Lib.hid (chain HS8.out.bl hb9); clear hb9)
        go_ret
        exact ⟨rfl, HB9.out⟩
  · -- there is a result
    have HX := Lib.hid hX
    rw [hX] at hvx hv'
    have HVX := Lib.hid hvx
    have HMX : Hid (Mod X.1 X.2) := Lib.hid (by rw [← hX]; exact rep_mod path HM.out HME.out hvd hve)
    have hv3 : VIn w3 w3.heap.size v' X.1 X.2 := hv'.vin (fun b h => h.2)
    have HV3 := Lib.hid hv3
    obtain ⟨sb3, sn3, sp3, rfl, Ab3, nb3, cb3, An3, nn3, cn3, Ap3, cp3, rfl, rfl, rfl, _⟩ := hv3
    clear hX hvx hv'

    have hww : Below w3.heap.size w3 ((w3.alloc (.cells #[.int .i64 X.1.k, .int .i64 X.1.n, .slice Ab3 nb3 cb3, .slice An3 nn3 cn3, .slice Ap3 X.2.len cp3] 26)).alloc (.cells #[.int .i64 0, .int .i64 0] 29)) := bel2 _ _ _
    have hff := FC.new (w3.alloc (.cells #[.int .i64 X.1.k, .int .i64 X.1.n, .slice Ab3 nb3 cb3, .slice An3 nn3 cn3, .slice Ap3 X.2.len cp3] 26)) 0 0
    rw [alloc_size] at hff
    have HS := Lib.hid (show Rs w ((w3.alloc (.cells #[.int .i64 X.1.k, .int .i64 X.1.n, .slice Ab3 nb3 cb3, .slice An3 nn3 cn3, .slice Ap3 X.2.len cp3] 26)).alloc (.cells #[.int .i64 0, .int .i64 0] 29)) w3.heap.size (w3.heap.size + 1) _ _ _ _ _ _ _ _ _ _ _ _ _ _ _ 0 0 from ⟨(HA2.out.on HB3.out).on hww, (HBb2.out.on HB3.out).on hww, (Bx.new w3 (.int .i64 X.1.k) (.int .i64 X.1.n) (.slice Ab3 nb3 cb3) (.slice An3 nn3 cn3) (.slice Ap3 X.2.len cp3)).on (bel1 _ _), hff, chain (chain HB2.out HB3.out) hww⟩)
    clear hff
    go_upto_region 4 with (fail)
    obtain ⟨W3, hW3⟩ : ∃ W3, (w3.alloc (.cells #[.int .i64 X.1.k, .int .i64 X.1.n, .slice Ab3 nb3 cb3, .slice An3 nn3 cn3, .slice Ap3 X.2.len cp3] 26)).alloc (.cells #[.int .i64 0, .int .i64 0] 29) = W3 := ⟨_, rfl⟩
    have hzW3 : W3.heap.size = w3.heap.size + 2 := by rw [← hW3]; simp
    rw [hW3] at HS hww
    (try rw [hW3])
    have HWW := Lib.hid hww
    clear hW3 hww
    obtain ⟨q0, q1, q2, q3, q4⟩ := HS.out.a.cells
    go_wp2_with fail
    refine (valueFault_calls (HV.out.on HS.out.bl) HM.out).mono ?_
    rintro ev w4 ⟨rfl, hb4⟩
    have hz4 := hb4.size

    rw [hvd]
    have HVD := Lib.hid hvd
    clear hvd
    have HS4 := Lib.hid ((HS.out.on hb4).on (bel1 _ (.cells #[.int .i64 0, .int .i64 0] 29)))
    have HW4 := Lib.hid (FC.new w4 0 0)
    have HU4 := Lib.hid (bel_up hb4 (.cells #[.int .i64 0, .int .i64 0] 29))
    clear q0 q1 q2 q3 q4 hb4
    go_upto_region 5 with (fail)
    obtain ⟨W4, hW4⟩ : ∃ W4, w4.alloc (.cells #[.int .i64 0, .int .i64 0] 29) = W4 := ⟨_, rfl⟩
    have hzW4 : W4.heap.size = w4.heap.size + 1 := by rw [← hW4]; simp
    rw [hW4] at HS4 HW4 HU4
    (try rw [hW4])
    clear hW4

    obtain ⟨_, b0, b1, f0, f1⟩ := HW4.out
    obtain ⟨t0, t1, t2, t3, t4⟩ := HS4.out.b.cells
    go_upto_region 6 with (fail)
    go_wp2_with fail
    refine (valueFault_calls (HE.out.on HS4.out.bl) HME.out).mono ?_
    rintro ev w5 ⟨rfl, hb5⟩
    rw [hve]
    have hz5 := hb5.size
    have HS5 := Lib.hid ((HS4.out.on hb5).put (c := 0) (i := 0) (g := w4.heap.size) (by omega) (by omega) (by omega))
    have HW5 := Lib.hid ((HW4.out.on hb5).put 0 0)
    have HD5 := Lib.hid (below_put (g := w4.heap.size) (chain (chain HWW.out HU4.out) hb5) (by omega) (.int .i64 0) (.int .i64 0))
    obtain ⟨_, c0, c1, g0, g1⟩ := HW4.out.on hb5
    clear b0 b1 f0 f1 t0 t1 t2 t3 t4
    go_upto_region 7 with (fail)
    obtain ⟨W5, hW5⟩ : ∃ W5, (w5.setCell ⟨w4.heap.size, 0, none⟩ (.int .i64 0)).setCell ⟨w4.heap.size, 1, none⟩ (.int .i64 0) = W5 := ⟨_, rfl⟩
    have hzW5 : W5.heap.size = w5.heap.size := by rw [← hW5]; simp
    rw [hW5] at HS5 HW5 HD5
    (try rw [hW5])
    clear hW5 c0 c1 g0 g1 hb5

    have HPT := Lib.hid hpt
    obtain ⟨_, b0, b1, f0, f1⟩ := HW5.out
    obtain ⟨q0, q1, q2, q3, q4⟩ := HS5.out.a.cells
    clear hpt
    go_upto_region 8 with (fail)
    go_wp2_with fail
    refine (part_calls (path := path) (HV.out.on HS5.out.bl) HM.out.pl HM.out.fp (HR.out.on HS5.out.bl) hn).mono ?_
    rintro ev w6 ⟨hb6, hres⟩
    have hz6 := hb6.size
    clear q0 q1 q2 q3 q4 b0 b1 f0 f1

    rcases hres with ⟨i, hi, _⟩ | ⟨d', p', v6, hi, rfl, hv6⟩
    · rw [HPT.out] at hi
      cases hi
    · clear hi
      obtain ⟨sb6, sn6, sp6, rfl, Ab6, nb6, cb6, An6, nn6, cn6, Ap6, cp6, rfl, rfl, rfl, _⟩ := hv6
      have HS6 := Lib.hid ((HS5.out.on hb6).on (bel1 _ (.cells #[.int .i64 d'.k, .int .i64 d'.n, .slice Ab6 nb6 cb6, .slice An6 nn6 cn6, .slice Ap6 p'.len cp6] 26)))
      have HW6 := Lib.hid ((HW5.out.on hb6).on (bel1 _ (.cells #[.int .i64 d'.k, .int .i64 d'.n, .slice Ab6 nb6 cb6, .slice An6 nn6 cn6, .slice Ap6 p'.len cp6] 26)))
      have HU6 := Lib.hid (bel_up hb6 (.cells #[.int .i64 d'.k, .int .i64 d'.n, .slice Ab6 nb6 cb6, .slice An6 nn6 cn6, .slice Ap6 p'.len cp6] 26))
      go_upto_region 9 with (fail)
      obtain ⟨W6, hW6⟩ : ∃ W6, w6.alloc (.cells #[.int .i64 d'.k, .int .i64 d'.n, .slice Ab6 nb6 cb6, .slice An6 nn6 cn6, .slice Ap6 p'.len cp6] 26) = W6 := ⟨_, rfl⟩
      have hzW6 : W6.heap.size = w6.heap.size + 1 := by rw [← hW6]; simp
      rw [hW6] at HS6 HW6 HU6
      (try rw [hW6])
      clear hW6 hb6
      obtain ⟨_, b0, b1, _, _⟩ := HW6.out
      obtain ⟨q0, q1, q2, q3, q4⟩ := HS6.out.a.cells
      obtain ⟨r0, r1, r2, r3, r4⟩ := HS6.out.b.cells
      go_wp2_with fail
      refine (with_calls (B0 := W6.heap.size) path W6 _ _ d e p q A n c 0 x (Nat.le_refl _) (HV.out.on HS6.out.bl) (HE.out.on HS6.out.bl) HM.out.pl HM.out.fp (HR.out.on HS6.out.bl) hnc hn HPT.out).mono ?_
      rintro ev w7 ⟨vy, rfl, hvy, hb7⟩
      have hz7 := hb7.size
      rw [HX.out] at hvy
      obtain ⟨sb7, sn7, sp7, rfl, hdy⟩ := hvy
      have HDY := Lib.hid hdy
      obtain ⟨Ab7, nb7, cb7, An7, nn7, cn7, Ap7, cp7, rfl, rfl, rfl, _⟩ := hdy
      have HVY0 : Hid (VIn w7 w7.heap.size (.agg #[.int .i64 X.1.k, .int .i64 X.1.n, .slice Ab7 nb7 cb7, .slice An7 nn7 cn7, .slice Ap7 X.2.len cp7]) X.1 X.2) := Lib.hid (VInS.vin ⟨_, _, _, rfl, HDY.out⟩ (fun b h => h.2))
      have HS7 := Lib.hid ((HS6.out.on hb7).on (bel1 _ (.cells #[.int .i64 X.1.k, .int .i64 X.1.n, .slice Ab7 nb7 cb7, .slice An7 nn7 cn7, .slice Ap7 X.2.len cp7] 26)))
      have HY7 := Lib.hid (Bx.new w7 (.int .i64 X.1.k) (.int .i64 X.1.n) (.slice Ab7 nb7 cb7) (.slice An7 nn7 cn7) (.slice Ap7 X.2.len cp7))
      have HVY := Lib.hid (HVY0.out.on (bel1 _ (.cells #[.int .i64 X.1.k, .int .i64 X.1.n, .slice Ab7 nb7 cb7, .slice An7 nn7 cn7, .slice Ap7 X.2.len cp7] 26)))
      have HU7 := Lib.hid (chain HU6.out (bel_up hb7 (.cells #[.int .i64 X.1.k, .int .i64 X.1.n, .slice Ab7 nb7 cb7, .slice An7 nn7 cn7, .slice Ap7 X.2.len cp7] 26)))
      clear b0 b1 q0 q1 q2 q3 q4 r0 r1 r2 r3 r4 hb7
      go_upto_region 14 with (fail)
      obtain ⟨W7, hW7⟩ : ∃ W7, w7.alloc (.cells #[.int .i64 X.1.k, .int .i64 X.1.n, .slice Ab7 nb7 cb7, .slice An7 nn7 cn7, .slice Ap7 X.2.len cp7] 26) = W7 := ⟨_, rfl⟩
      have hzW7 : W7.heap.size = w7.heap.size + 1 := by rw [← hW7]; simp
      rw [hW7] at HS7 HY7 HVY HU7
      (try rw [hW7])
      clear hW7
      obtain ⟨q0, q1, q2, q3, q4⟩ := HY7.out.cells
      go_wp2_with fail
      refine (valueFault_calls HVY.out HMX.out).mono ?_
      rintro ev w8 ⟨rfl, hb8⟩
      rw [HVX.out]
      have hz8 := hb8.size
      have HS8 := Lib.hid ((HS7.out.on hb8).on (bel1 _ (.cells #[.int .i64 0, .int .i64 0] 29)))
      have HY8 := Lib.hid ((HY7.out.on hb8).on (bel1 _ (.cells #[.int .i64 0, .int .i64 0] 29)))
      have HW8 := Lib.hid (FC.new w8 0 0)
      have HU8 := Lib.hid (bel_up hb8 (.cells #[.int .i64 0, .int .i64 0] 29))
      clear q0 q1 q2 q3 q4 hb8
      go_upto_region 15 with (fail)
      obtain ⟨W8, hW8⟩ : ∃ W8, w8.alloc (.cells #[.int .i64 0, .int .i64 0] 29) = W8 := ⟨_, rfl⟩
      rw [hW8] at HS8 HY8 HW8 HU8
      (try rw [hW8])
      clear hW8

      obtain ⟨_, a0, a1, _, _⟩ := HS8.out.f
      obtain ⟨_, b0, b1, _, _⟩ := HW8.out
      obtain ⟨s0, s1, s2, s3, s4⟩ := HS8.out.x.cells
      obtain ⟨q0, q1, q2, q3, q4⟩ := HY8.out.cells
      have HVA := Lib.hid (HV3.out.on (chain HD5.out (chain HU7.out HU8.out)))
      have HVB := Lib.hid (HVY.out.on HU8.out)
      go_wp2_with (go_at_call 21; refine (same_calls HMX.out.pl HMX.out.fp HMX.out.nd.2.2.1 HMX.out.pl HMX.out.fp HVA.out HVB.out).mono ?_; rintro ev w9 ⟨rfl, hb9⟩; have HB9 := Lib.hid (chain HS8.out.bl hb9); clear hb9)
      go_ret
      exact ⟨by rw [(sameV_iff X.1 X.2 X.1 X.2).2 ⟨rfl, rfl⟩]; rfl, HB9.out⟩
end Go.Proofs.Ytolognhjdmkohaa
