/-
  The law on value.Decode.
-/
import Derived.Test.YtolognhjdmkohaaKParW
import Derived.Test.YtolognhjdmkohaaKRefH
import Derived.Test.YtolognhjdmkohaaJ19
import Derived.Test.YtolognhjdmkohaaJ15
import Derived.Test.YtolognhjdmkohaaKLvC
import Derived.Test.YtolognhjdmkohaaKAbv
namespace Go.Proofs.Ytolognhjdmkohaa
open Go.RowKit
set_option linter.unusedVariables false
set_option linter.unusedSimpArgs false

/-- the field of a fault -/
theorem flt_fieldI (c i : Int) : ∀ W, (Instr.field 29 (.agg #[.int .i64 c, .int .i64 i]) 0).run Try.prog W = .ok (.int .i64 c) W := by intro W; kernel_rfl
/-- what Decoded answers -/
def DdEnd (w : World) (bs : List UInt8) (e : Ending) (w' : World) : Prop :=
  Below w.heap.size w w' ∧ (((∀ d p, decV bs ≠ .inr (d, p)) ∧ e = .returned (.tuple #[.agg #[.int .i64 0, .int .i64 0, .slice none 0 0, .slice none 0 0, .slice none 0 0], .bool false])) ∨
    (∃ d p v, decV bs = .inr (d, p) ∧ e = .returned (.tuple #[v, .bool true]) ∧ VIn w' w'.heap.size v d p))
theorem dd_ret {w : World} {tmps : Array Value} {g : Nat} {a b c d e z : Value} {R : Ending → World → Prop} (h2 : tmps.getD 2 undef = .pointer (some ⟨g, 0, none⟩)) (h3 : tmps.getD 3 undef = z) (hb : Bx w g a b c d e)
    (hR : R (.returned (.tuple #[.agg #[a, b, c, d, e], z])) w) : bodyPost Try.prog Try.f22 R .ret { tmps := tmps, defers := [] } w := by
  obtain ⟨y0, y1, y2, y3, y4⟩ := hb.cells
  have hl := hb.lt
  rw [Array.getD_eq_getD_getElem?] at h2 h3
  exact bodyPost_ret (by simp [results, Try.results22, go_sem, h2, h3, y0, y1, y2, y3, y4, hl]) rfl hR
/-- there is none -/
theorem dd_bad {w W : World} {tmps : Array Value} {a b c d e : Value} {bs : List UInt8} (hr : ∀ d p, decV bs ≠ .inr (d, p)) (h2 : tmps.getD 2 undef = .pointer (some ⟨w.heap.size, 0, none⟩)) (h3 : tmps.getD 3 undef = .bool false) (hb : Bx W w.heap.size a b c d e) (hbl : Below w.heap.size w W) :
    bodyPost Try.prog Try.f22 (DdEnd w bs) .ret { tmps := tmps, defers := [] } (((((W.setCell ⟨w.heap.size, 0, none⟩ (.int .i64 0)).setCell ⟨w.heap.size, 1, none⟩ (.int .i64 0)).setCell ⟨w.heap.size, 2, none⟩ (.slice none 0 0)).setCell ⟨w.heap.size, 3, none⟩ (.slice none 0 0)).setCell ⟨w.heap.size, 4, none⟩ (.slice none 0 0)) :=
  dd_ret h2 h3 (hb.set5 (.int .i64 0) (.int .i64 0) (.slice none 0 0) (.slice none 0 0) (.slice none 0 0)) ⟨below5 hbl (Nat.le_refl _) _ _ _ _ _, .inl ⟨hr, rfl⟩⟩
set_option maxRecDepth 100000 in
set_option maxHeartbeats 2000000 in
theorem decoded_calls {w : World} {A : Option Addr} {n c : Nat} {bs : List UInt8} (hr : Rd w w.heap.size 1 A n (bv bs)) (hn : n ≤ 4000) (hnc : n ≤ c) : Calls Try.prog 22 #[.slice A n c] w (DdEnd w bs) := by
  have HR := Lib.hid hr
  have hl : bs.length = n := by have := hr.len; rw [bv_len] at this; exact this
  have HL := Lib.hid hl
  clear hr hl
  go_enter Try.func22, Try.ntmps22
  go_wp2_with fail
  refine (parse_calls hn hnc 10 (Nat.le_refl _) 1 (by decide) _ 0 600 (HR.out.on (bel1 _ _)) (Nat.le_refl _)).mono ?_
  rintro e w2 ⟨hb2, hres⟩
  have HS2 := Lib.hid ((Bx.new w (.int .i64 0) (.int .i64 0) (.slice none 0 0) (.slice none 0 0) (.slice none 0 0)).on hb2)
  have hz2 : w.heap.size < w2.heap.size := HS2.out.lt
  have HB2 := Lib.hid (belA hb2)
  rcases hres with ⟨hp0, k6, x6, y6, A6, c6, rfl⟩ | ⟨d, p, z, q, v, hp1, rfl, hv⟩
  · have HN := Lib.hid (show ∀ d p, decV bs ≠ .inr (d, p) from fun d p h => by obtain ⟨k, h1⟩ := dec_par h; rw [h1] at hp0; cases hp0)
    have HS3 := Lib.hid (HS2.out.on (bel1 _ (.cells #[.int .i64 k6, .int .i64 0, .slice A6 0 c6, .slice none 0 0, .slice none 0 0] 26)))
    have HB3 := Lib.hid (bel_up HB2.out (.cells #[.int .i64 k6, .int .i64 0, .slice A6 0 c6, .slice none 0 0, .slice none 0 0] 26))
    clear hp0 hb2
    go_upto_region 2 with (fail)
    obtain ⟨W3, hW3⟩ : ∃ W3, w2.alloc (.cells #[.int .i64 k6, .int .i64 0, .slice A6 0 c6, .slice none 0 0, .slice none 0 0] 26) = W3 := ⟨_, rfl⟩
    rw [hW3] at HS3 HB3 ⊢
    clear hW3
    obtain ⟨s0, s1, s2, s3, s4⟩ := HS3.out.cells
    have f0 := HS3.out.free 0
    have f1 := HS3.out.free 1
    have f2 := HS3.out.free 2
    have f3 := HS3.out.free 3
    have f4 := HS3.out.free 4
    go_wp2_with fail
    exact dd_bad HN.out rfl rfl HS3.out HB3.out
  · have HP := Lib.hid hp1
    have hsd := parV_sound (by rw [HL.out]; exact hn) _ _ _ _ _ _ _ hp1
    have HM := Lib.hid ((rdV_got (by rw [HL.out]; exact hn) _ _ _ _ _ hsd.1).mod (by rw [HL.out]; exact hn))
    have hv' : VIn w2 w2.heap.size v d p := hv.vin (fun b h => h.2)
    have HV := Lib.hid hv'
    have HVS := Lib.hid hv
    obtain ⟨sb, sn, sp, rfl, Ab, nb, cb, An, nn, cn, Ap, cp, rfl, rfl, rfl, _⟩ := hv'
    have hw : Below w2.heap.size w2 (w2.alloc (.cells #[.int .i64 d.k, .int .i64 d.n, .slice Ab nb cb, .slice An nn cn, .slice Ap p.len cp] 26)) := bel1 _ _
    have HS3 := Lib.hid (HS2.out.on hw)
    have HB3 := Lib.hid (chain HB2.out hw)
    have HV3 := Lib.hid (HV.out.on hw)
    have HW3 := Lib.hid hw
    have HX3 := Lib.hid (Bx.new w2 (.int .i64 d.k) (.int .i64 d.n) (.slice Ab nb cb) (.slice An nn cn) (.slice Ap p.len cp))
    clear hp1 hb2 hw hv hsd
    go_upto_region 2 with (fail)
    obtain ⟨W3, hW3⟩ : ∃ W3, w2.alloc (.cells #[.int .i64 d.k, .int .i64 d.n, .slice Ab nb cb, .slice An nn cn, .slice Ap p.len cp] 26) = W3 := ⟨_, rfl⟩
    rw [hW3] at HS3 HB3 HV3 HX3 HW3 ⊢
    clear hW3
    obtain ⟨s0, s1, s2, s3, s4⟩ := HS3.out.cells
    have f0 := HS3.out.free 0
    have f1 := HS3.out.free 1
    have f2 := HS3.out.free 2
    have f3 := HS3.out.free 3
    have f4 := HS3.out.free 4
    by_cases hz : z = (n : Int)
    · subst hz
      have hnn : ((n : Int) != (n : Int)) = false := by simp
      obtain ⟨t0, t1, t2, t3, t4⟩ := HX3.out.cells
      obtain ⟨vc, vi, hvf⟩ : ∃ vc vi, valF d p = (vc, vi) := ⟨_, _, rfl⟩
      have HVF := Lib.hid hvf
      have hfld := flt_fieldI vc vi
      clear hvf s0 s1 s2 s3 s4 f0 f1 f2 f3 f4
      go_wp2_with fail
      refine (valueFault_calls HV3.out HM.out).mono ?_
      rintro e w4 ⟨rfl, hb4⟩
      rw [HVF.out]
      have HS4 := Lib.hid (HS3.out.on hb4)
      have HX4 := Lib.hid (HX3.out.on hb4)
      have HB4 := Lib.hid (chain HB3.out hb4)
      have HW4 := Lib.hid (chain HW3.out hb4)
      clear hb4 t0 t1 t2 t3 t4
      obtain ⟨s0, s1, s2, s3, s4⟩ := HS4.out.cells
      obtain ⟨t0, t1, t2, t3, t4⟩ := HX4.out.cells
      have f0 := HS4.out.free 0
      have f1 := HS4.out.free 1
      have f2 := HS4.out.free 2
      have f3 := HS4.out.free 3
      have f4 := HS4.out.free 4
      by_cases hvc : vc = 0
      · subst hvc
        have HDV := Lib.hid (show decV bs = .inr (d, p) from par_dec (by rw [HL.out]; exact hn) (by rw [HL.out]; exact HP.out) (by
          rcases valF_cases d p with ⟨cd, ix, hcd, h⟩ | h
          · have h' := HVF.out; rw [h] at h'; cases h'; exact absurd rfl hcd
          · exact h))
        go_wp2_with fail
        obtain ⟨W9, hW9⟩ : ∃ W9, (((((w4.setCell ⟨w.heap.size, 0, none⟩ (.int .i64 d.k)).setCell ⟨w.heap.size, 1, none⟩ (.int .i64 d.n)).setCell ⟨w.heap.size, 2, none⟩ (.slice Ab nb cb)).setCell ⟨w.heap.size, 3, none⟩ (.slice An nn cn)).setCell ⟨w.heap.size, 4, none⟩ (.slice Ap p.len cp)) = W9 := ⟨_, rfl⟩
        have HX9 : Bx W9 w.heap.size (.int .i64 d.k) (.int .i64 d.n) (.slice Ab nb cb) (.slice An nn cn) (.slice Ap p.len cp) := by rw [← hW9]; exact HS4.out.set5 _ _ _ _ _
        have HB9 : Below w.heap.size w W9 := by rw [← hW9]; exact below5 HB4.out (Nat.le_refl _) _ _ _ _ _
        have HZ9 : W9.heap.size = w4.heap.size := by rw [← hW9]; simp
        have HC9 : ∀ q : Addr, w.heap.size ≠ q.block → W9.cell? q = w4.cell? q := by rw [← hW9]; exact fun q hq => cell_set5 q hq
        rw [hW9]
        clear hW9
        refine dd_ret rfl rfl HX9 ⟨HB9, .inr ⟨d, p, _, HDV.out, rfl, ?_⟩⟩
        refine VInS.vin (S := fun b => b < W9.heap.size) (HVS.out.keep (fun q hq => ?_) (fun b hb => ?_)) (fun b h => h)
        · have h1 := hq.1
          simp only [alloc_size] at h1
          exact (HC9 q (by omega)).trans (HW4.out.cell hq.2)
        · have := HW4.out.size
          have := hb.2
          omega
      · have hvc' : (vc != 0) = true := by simpa using hvc
        have HN := Lib.hid (show ∀ d p, decV bs ≠ .inr (d, p) from fun d' p' h => by
          obtain ⟨k, h1⟩ := dec_par h
          have h2 := HP.out
          rw [h1] at h2
          simp only [Option.some.injEq, Prod.mk.injEq] at h2
          obtain ⟨rfl, rfl, _⟩ := h2
          have h3 := (decV_inv h).2.2.1
          rw [HVF.out] at h3
          cases h3
          exact hvc rfl)
        clear hvc
        go_wp2_with fail
        exact dd_bad HN.out rfl rfl HS4.out HB4.out
    · have hzn : (z != (n : Int)) = true := by simpa using hz
      have HN := Lib.hid (show ∀ d p, decV bs ≠ .inr (d, p) from fun d' p' h => by
        obtain ⟨k, h1⟩ := dec_par h
        have h2 := HP.out
        rw [h1] at h2
        simp only [Option.some.injEq, Prod.mk.injEq] at h2
        exact hz (by rw [← h2.2.2.1, HL.out]))
      clear hz
      go_wp2_with fail
      exact dd_bad HN.out rfl rfl HS3.out HB3.out
theorem same0_above {w : World} (x : Abv w) : Calls Try.prog 21 #[.agg #[.int .i64 0, .int .i64 0, .slice none 0 0, .slice none 0 0, .slice none 0 0], .agg #[.int .i64 0, .int .i64 0, .slice none 0 0, .slice none 0 0, .slice none 0 0]] x.w fun e w'' => e = .returned (.bool true) ∧ ∃ y : Abv w, w'' = y.w := Calls.above (same0 x.w)
theorem decV_inl {bs : List UInt8} {c i : Int} (h : decV bs = .inl (c, i)) : (4000 < bs.length ∧ c = 3 ∧ i = -1) ∨ (bs.length ≤ 4000 ∧ c = 16 ∧ i = -1) := by
  unfold decV at h
  split at h
  · simp only [Sum.inl.injEq, Prod.mk.injEq] at h; exact .inl ⟨by assumption, by omega, by omega⟩
  · split at h
    · simp only [Sum.inl.injEq, Prod.mk.injEq] at h; exact .inr ⟨by omega, by omega, by omega⟩
    · split at h
      · cases h
      · simp only [Sum.inl.injEq, Prod.mk.injEq] at h; exact .inr ⟨by omega, by omega, by omega⟩
set_option maxRecDepth 100000 in
set_option maxHeartbeats 4000000 in
theorem lawDecode_calls {w : World} {A : Option Addr} {n c : Nat} {bs : List UInt8} (hr : Rd w w.heap.size 1 A n (bv bs)) (hnc : n ≤ c) :
    Calls Try.prog 5 #[.slice A n c] w fun e w' => e = .returned (.bool true) ∧ Below w.heap.size w w' := by
  have HR := Lib.hid hr
  have HL := Lib.hid (show bs.length = n by have := hr.len; rw [bv_len] at this; exact this)
  clear hr
  go_enter Try.func5, Try.ntmps5
  go_wp2_with fail
  refine (example_calls _).mono ?_
  rintro e w2 ⟨rfl, hb2⟩
  have HB2 := Lib.hid hb2
  clear hb2
  go_wp2_with fail
  refine (decode_calls (HR.out.on HB2.out) hnc).mono ?_
  rintro e w3 ⟨hb3, hres⟩
  have HB3 := Lib.hid (chain HB2.out hb3)
  clear hb3
  rcases hres with ⟨cd, ix, hc, hdv, rfl⟩ | ⟨d, p, v, hdv, rfl, hv⟩
  · have HDV := Lib.hid hdv
    have hfc := FC.new (w3.alloc (.cells #[.int .i64 0, .int .i64 0, .slice none 0 0, .slice none 0 0, .slice none 0 0] 26)) cd ix
    rw [alloc_size] at hfc
    have HF4 := Lib.hid hfc
    have HX4 := Lib.hid ((Bx.new w3 (.int .i64 0) (.int .i64 0) (.slice none 0 0) (.slice none 0 0) (.slice none 0 0)).on (bel1 _ (.cells #[.int .i64 cd, .int .i64 ix] 29)))
    have HB4 := Lib.hid (bel_up2 HB3.out (.cells #[.int .i64 0, .int .i64 0, .slice none 0 0, .slice none 0 0, .slice none 0 0] 26) (.cells #[.int .i64 cd, .int .i64 ix] 29))
    clear hfc
    go_upto_region 4 with (fail)
    obtain ⟨W4, hW4⟩ : ∃ W4, (w3.alloc (.cells #[.int .i64 0, .int .i64 0, .slice none 0 0, .slice none 0 0, .slice none 0 0] 26)).alloc (.cells #[.int .i64 cd, .int .i64 ix] 29) = W4 := ⟨_, rfl⟩
    rw [hW4] at HF4 HX4 HB4 ⊢
    clear hW4
    rcases decV_inl hdv with ⟨hl, rfl, rfl⟩ | ⟨hl, rfl, rfl⟩
    · rw [HL.out] at hl
      have hd1 : decide (4000 < n) = true := by simpa using hl
      have hd2 : decide ((4000 : Int) < (n : Int)) = true := by simp; omega
      have heq := flt_eql 3 (-1) 3 (-1)
      clear hdv hc
      go_upto_region 5 with (fail)
      obtain ⟨_, a0, a1, _, _⟩ := HF4.out
      obtain ⟨t0, t1, t2, t3, t4⟩ := HX4.out.cells
      have b0 := fun y : Abv W4 => Abv.cell a0 y
      have b1 := fun y : Abv W4 => Abv.cell a1 y
      have k0 := fun y : Abv W4 => Abv.cell t0 y
      have k1 := fun y : Abv W4 => Abv.cell t1 y
      have k2 := fun y : Abv W4 => Abv.cell t2 y
      have k3 := fun y : Abv W4 => Abv.cell t3 y
      have k4 := fun y : Abv W4 => Abv.cell t4 y
      clear a0 a1 t0 t1 t2 t3 t4
      refine region_above (by kernel_rfl) (by kernel_rfl) ?_
      repeat (quiet_step ((first | (go_at_call 20; exact at_above _ _ _) | (go_at_call 21; exact same0_above _))))
      refine wpQuiet_nil ?_
      intro W9 hw9
      obtain ⟨y, rfl⟩ := hw9
      go_wp2_with fail
      go_ret
      exact ⟨rfl, chain HB4.out y.b⟩
    · rw [HL.out] at hl
      have hd1 : decide (4000 < n) = false := by simp; omega
      have hd2 : decide ((4000 : Int) < (n : Int)) = false := by simp; omega
      have heq := flt_eql 16 (-1) 16 (-1)
      clear hdv hc
      go_wp2_with fail
      refine (decoded_calls (HR.out.on HB4.out) hl hnc).mono ?_
      rintro e w5 ⟨hb5, hres⟩
      have HF5 := Lib.hid (HF4.out.on hb5)
      have HX5 := Lib.hid (HX4.out.on hb5)
      have HB5 := Lib.hid (chain HB4.out hb5)
      clear hb5
      rcases hres with ⟨hno, rfl⟩ | ⟨d, p, v, hdv, _⟩
      · have HF6 := Lib.hid (HF5.out.on (bel1 _ (.cells #[.int .i64 0, .int .i64 0, .slice none 0 0, .slice none 0 0, .slice none 0 0] 26)))
        have HX6 := Lib.hid (HX5.out.on (bel1 _ (.cells #[.int .i64 0, .int .i64 0, .slice none 0 0, .slice none 0 0, .slice none 0 0] 26)))
        have HB6 := Lib.hid (bel_up HB5.out (.cells #[.int .i64 0, .int .i64 0, .slice none 0 0, .slice none 0 0, .slice none 0 0] 26))
        clear hno
        go_upto_region 8 with (fail)
        obtain ⟨W6, hW6⟩ : ∃ W6, w5.alloc (.cells #[.int .i64 0, .int .i64 0, .slice none 0 0, .slice none 0 0, .slice none 0 0] 26) = W6 := ⟨_, rfl⟩
        rw [hW6] at HF6 HX6 HB6 ⊢
        clear hW6
        obtain ⟨_, a0, a1, _, _⟩ := HF6.out
        obtain ⟨t0, t1, t2, t3, t4⟩ := HX6.out.cells
        have b0 := fun y : Abv W6 => Abv.cell a0 y
        have b1 := fun y : Abv W6 => Abv.cell a1 y
        have k0 := fun y : Abv W6 => Abv.cell t0 y
        have k1 := fun y : Abv W6 => Abv.cell t1 y
        have k2 := fun y : Abv W6 => Abv.cell t2 y
        have k3 := fun y : Abv W6 => Abv.cell t3 y
        have k4 := fun y : Abv W6 => Abv.cell t4 y
        clear a0 a1 t0 t1 t2 t3 t4
        refine region_above (by kernel_rfl) (by kernel_rfl) ?_
        repeat (quiet_step ((first | (go_at_call 20; exact at_above _ _ _) | (go_at_call 21; exact same0_above _))))
        refine wpQuiet_nil ?_
        intro W9 hw9
        obtain ⟨y, rfl⟩ := hw9
        go_wp2_with fail
        go_ret
        exact ⟨rfl, chain HB6.out y.b⟩
      · rw [HDV.out] at hdv
        cases hdv
  · have HDV := Lib.hid hdv
    have hl : n ≤ 4000 := by have := (decV_inv hdv).1; rw [HL.out] at this; exact this
    have HM := Lib.hid (decV_inv hdv).2.1
    have hd1 : decide (4000 < n) = false := by simp; omega
    have hd2 : decide ((4000 : Int) < (n : Int)) = false := by simp; omega
    have hv3 : VIn w3 w3.heap.size v d p := hv.vin (fun b h => h.2)
    have HV3 := Lib.hid hv3
    obtain ⟨sb3, sn3, sp3, rfl, Ab3, nb3, cb3, An3, nn3, cn3, Ap3, cp3, rfl, rfl, rfl, _⟩ := hv3
    have hw : Below w3.heap.size w3 ((w3.alloc (.cells #[.int .i64 d.k, .int .i64 d.n, .slice Ab3 nb3 cb3, .slice An3 nn3 cn3, .slice Ap3 p.len cp3] 26)).alloc (.cells #[.int .i64 0, .int .i64 0] 29)) := bel2 _ _ _
    have hfc := FC.new (w3.alloc (.cells #[.int .i64 d.k, .int .i64 d.n, .slice Ab3 nb3 cb3, .slice An3 nn3 cn3, .slice Ap3 p.len cp3] 26)) 0 0
    rw [alloc_size] at hfc
    have HF4 := Lib.hid hfc
    have HX4 := Lib.hid ((Bx.new w3 (.int .i64 d.k) (.int .i64 d.n) (.slice Ab3 nb3 cb3) (.slice An3 nn3 cn3) (.slice Ap3 p.len cp3)).on (bel1 _ (.cells #[.int .i64 0, .int .i64 0] 29)))
    have HV4 := Lib.hid (HV3.out.on hw)
    have HB4 := Lib.hid (chain HB3.out hw)
    clear hfc hw hdv hv
    go_upto_region 4 with (fail)
    obtain ⟨W4, hW4⟩ : ∃ W4, (w3.alloc (.cells #[.int .i64 d.k, .int .i64 d.n, .slice Ab3 nb3 cb3, .slice An3 nn3 cn3, .slice Ap3 p.len cp3] 26)).alloc (.cells #[.int .i64 0, .int .i64 0] 29) = W4 := ⟨_, rfl⟩
    rw [hW4] at HF4 HX4 HB4 HV4 ⊢
    clear hW4
    go_wp2_with fail
    refine (decoded_calls (HR.out.on HB4.out) hl hnc).mono ?_
    rintro e w5 ⟨hb5, hres⟩
    have HF5 := Lib.hid (HF4.out.on hb5)
    have HX5 := Lib.hid (HX4.out.on hb5)
    have HB5 := Lib.hid (chain HB4.out hb5)
    have HV5 := Lib.hid (HV4.out.on hb5)
    clear hb5
    rcases hres with ⟨hno, _⟩ | ⟨d', p', v', hdv, rfl, hv'⟩
    · exact absurd HDV.out (hno d p)
    · obtain ⟨rfl, rfl⟩ : d = d' ∧ p = p' := by have h := HDV.out; rw [hdv] at h; cases h; exact ⟨rfl, rfl⟩
      have HVW := Lib.hid hv'
      obtain ⟨sb5, sn5, sp5, rfl, Ab5, nb5, cb5, An5, nn5, cn5, Ap5, cp5, rfl, rfl, rfl, _⟩ := hv'
      have hw : Below w5.heap.size w5 (w5.alloc (.cells #[.int .i64 d.k, .int .i64 d.n, .slice Ab5 nb5 cb5, .slice An5 nn5 cn5, .slice Ap5 p.len cp5] 26)) := bel1 _ _
      have HF6 := Lib.hid (HF5.out.on hw)
      have HX6 := Lib.hid (HX5.out.on hw)
      have HB6 := Lib.hid (chain HB5.out hw)
      have HV6 := Lib.hid (HV5.out.on hw)
      have HVW6 := Lib.hid (HVW.out.on hw)
      have HY6 := Lib.hid (Bx.new w5 (.int .i64 d.k) (.int .i64 d.n) (.slice Ab5 nb5 cb5) (.slice An5 nn5 cn5) (.slice Ap5 p.len cp5))
      clear hw hdv
      go_upto_region 9 with (fail)
      obtain ⟨W6, hW6⟩ : ∃ W6, w5.alloc (.cells #[.int .i64 d.k, .int .i64 d.n, .slice Ab5 nb5 cb5, .slice An5 nn5 cn5, .slice Ap5 p.len cp5] 26) = W6 := ⟨_, rfl⟩
      rw [hW6] at HF6 HX6 HB6 HV6 HVW6 HY6 ⊢
      clear hW6
      obtain ⟨_, a0, a1, _, _⟩ := HF6.out
      obtain ⟨t0, t1, t2, t3, t4⟩ := HX6.out.cells
      obtain ⟨s0, s1, s2, s3, s4⟩ := HY6.out.cells
      go_wp2_with (go_at_call 21; refine (same_calls HM.out.pl HM.out.fp HM.out.nd.2.2.1 HM.out.pl HM.out.fp HV6.out HVW6.out).mono ?_; rintro e w7 ⟨rfl, hb7⟩; rw [(sameV_iff d p d p).2 ⟨rfl, rfl⟩]; have HB7 := Lib.hid (chain HB6.out hb7); clear hb7)
      go_ret
      exact ⟨rfl, HB7.out⟩
end Go.Proofs.Ytolognhjdmkohaa
