/-
  The contract of value.Compare.
-/
import Derived.Test.YtolognhjdmkohaaKEncM
import Derived.Lib.BytesEntry
namespace Go.Proofs.Ytolognhjdmkohaa
open Go.RowKit
set_option linter.unusedVariables false
set_option linter.unusedSimpArgs false

open Go.Lib in
theorem less_cmp : ∀ (a b : List UInt8), Op.bytesLess a b = decide (compareBytes a b < 0)
  | [], [] => by simp [Op.bytesLess, compareBytes]
  | [], _ :: _ => by simp [Op.bytesLess, compareBytes]
  | _ :: _, [] => by simp [Op.bytesLess, compareBytes]
  | x :: a, y :: b => by
    have ih := less_cmp a b
    unfold Op.bytesLess compareBytes
    by_cases h1 : x < y
    · simp [h1]
    · by_cases h2 : y < x
      · have h3 : ¬ x = y := fun h => by subst h; exact absurd h2 (UInt8.lt_irrefl _)
        simp [h1, h2, h3]
      · have : x = y := UInt8.le_antisymm (UInt8.not_lt.1 h2) (UInt8.not_lt.1 h1)
        subst this
        simp [h1, ih]
theorem valF_code (d : Nd) (p : VF) : valF d p = (0, 0) ∨ (valF d p).1 ≠ 0 := by
  cases hc : chkF (.cons d p .nil) 0 1 with
  | inl f => obtain ⟨c, i⟩ := f; rw [valF_inl hc]; exact .inr (chkF_code _ _ _ _ _ hc)
  | inr m =>
    by_cases hl : 4000 < (encV d p).length
    · rw [valF_big hc hl]; exact .inr (by decide)
    · exact .inl (valF_ok hc hl)
/-- what value.Compare answers: the order, the code and the index -/
def cmpR (d : Nd) (p : VF) (d' : Nd) (p' : VF) : Int × Int × Int :=
  if (valF d p).1 ≠ 0 then (0, valF d p) else if (valF d' p').1 ≠ 0 then (0, valF d' p') else (Lib.compareBytes (encV d p) (encV d' p'), 0, 0)
theorem cmpR_a {d d' : Nd} {p p' : VF} {c i : Int} (h : valF d p = (c, i)) (hc : c ≠ 0) : cmpR d p d' p' = (0, c, i) := by unfold cmpR; rw [h]; simp [hc]
theorem cmpR_b {d d' : Nd} {p p' : VF} {c i : Int} (h0 : valF d p = (0, 0)) (h : valF d' p' = (c, i)) (hc : c ≠ 0) : cmpR d p d' p' = (0, c, i) := by unfold cmpR; rw [h, h0]; simp [hc]
theorem cmpR_c {d d' : Nd} {p p' : VF} (h0 : valF d p = (0, 0)) (h : valF d' p' = (0, 0)) : cmpR d p d' p' = (Lib.compareBytes (encV d p) (encV d' p'), 0, 0) := by unfold cmpR; rw [h, h0]; simp
theorem run_bytesOf {P : Program} {w : World} {B : Nat} {A : Option Addr} {n c : Nat} {bs : List UInt8} (h : Rd w B 1 A n (bv bs)) : (Extern.Bytes.bytesOf (.slice A n c)).run P w = .ok ⟨bs.toArray⟩ w := by
  have hl := h.len
  rw [bv_len] at hl
  rcases A with _ | ad
  · have hn : n = 0 := by
      rcases Nat.eq_zero_or_pos n with h0 | h0
      · exact h0
      · obtain ⟨b, o, e, _⟩ := h.2 h0
        cases e
    subst hn
    obtain rfl : bs = [] := List.eq_nil_of_length_eq_zero hl
    rfl
  · have hm : ∀ j (x : Int), (bs.map fun b => (b.toNat : Int))[j]? = some x → w.cell? (ad.add j) = some (.int .u8 x) := by
      intro j x hx
      have hj : j < bs.length := by have := (List.getElem?_eq_some_iff.1 hx).1; simpa using this
      obtain ⟨b, o, e, _, hc⟩ := h.2 (by omega)
      injection e with e
      subst e
      have e : (⟨b, o, none⟩ : Addr).add j = ⟨b, o + j, none⟩ := by unfold Addr.add; split <;> simp_all
      rw [e]
      refine hc j _ ?_
      unfold bv
      simp only [List.getElem?_map] at hx ⊢
      cases hb : bs[j]? with
      | none => rw [hb] at hx; cases hx
      | some u => rw [hb] at hx; simp at hx ⊢; exact hx
    have hr := Lib.run_loadBytesX (P := P) w (bs.map fun b => (b.toNat : Int)) ad .empty hm
    simp only [List.length_map] at hr
    have e1 : Lib.bytesOf (bs.map fun b => (b.toNat : Int)) = bs := by
      unfold Lib.bytesOf
      rw [List.map_map]
      conv => rhs; rw [← List.map_id bs]
      exact List.map_congr_left fun b _ => by simp
    have e0 : ByteArray.empty.data = #[] := rfl
    rw [e1, e0, Array.empty_append, hl] at hr
    exact hr
theorem bcmp_run {w : World} {B B' : Nat} {A A' : Option Addr} {n n' c c' : Nat} {a b : List UInt8} (ha : Rd w B 1 A n (bv a)) (hb : Rd w B' 1 A' n' (bv b)) :
    (callFunc 75 #[.slice A n c, .slice A' n' c']).run Try.prog w = .ok (.value (.int .i64 (Lib.compareBytes a b))) w := by
  rw [run_callFunc_extern Try.func75 (e := Extern.BytealgCompare.compare) (by kernel_rfl) (by kernel_rfl) (by kernel_rfl) (by kernel_rfl)]
  have e : (Extern.BytealgCompare.compare #[.slice A n c, .slice A' n' c']).run Try.prog w = .ok (.int .i64 (Lib.compareBytes a b)) w := by
    change Sem.run Try.prog (do pure (goInt (Extern.BytealgCompare.cmp (← Extern.Bytes.bytesOf (.slice A n c)) (← Extern.Bytes.bytesOf (.slice A' n' c'))))) w = _
    simp only [Sem.run_bind, Sem.run_pure, run_bytesOf ha, run_bytesOf hb, Result.andThen, Lib.cmp_eq]
    rfl
  rw [e]
  rfl
theorem bcompare_calls {w : World} {B B' : Nat} {A A' : Option Addr} {n n' c c' : Nat} {a b : List UInt8} (ha : Rd w B 1 A n (bv a)) (hb : Rd w B' 1 A' n' (bv b)) :
    Calls Try.prog 61 #[.slice A n c, .slice A' n' c'] w fun e w' => e = .returned (.int .i64 (Lib.compareBytes a b)) ∧ w = w' := by
  have hr := bcmp_run (c := c) (c' := c') ha hb
  go_enter Try.func61, Try.ntmps61
  go_wp2
  go_ret
  exact ⟨rfl, rfl⟩
set_option maxRecDepth 100000 in
set_option maxHeartbeats 2000000 in
theorem compare_calls {d d' : Nd} {p p' : VF} {w : World} {v v' : Value} (hm : Mod d p) (hm' : Mod d' p') (hv : VIn w w.heap.size v d p) (hv' : VIn w w.heap.size v' d' p') :
    Calls Try.prog 35 #[v, v'] w fun e w' => e = .returned (.tuple #[.int .i64 (cmpR d p d' p').1, .agg #[.int .i64 (cmpR d p d' p').2.1, .int .i64 (cmpR d p d' p').2.2]]) ∧ Below w.heap.size w w' := by
  have HV := Lib.hid hv
  have HM := Lib.hid hm
  have HV' := Lib.hid hv'
  have HM' := Lib.hid hm'
  obtain ⟨sb, sn, sp, rfl, Ab, nb, cb, An, nn, cn, Ap, cp, rfl, rfl, rfl, _⟩ := hv
  obtain ⟨sb', sn', sp', rfl, Ab', nb', cb', An', nn', cn', Ap', cp', rfl, rfl, rfl, _⟩ := hv'
  clear hm hm'
  go_enter Try.func35, Try.ntmps35
  go_wp2_with fail
  refine (encodeE_calls HM.out (HV.out.on (bel3 _ _ _ _))).mono ?_
  rintro e w2 ⟨hb2, hres⟩
  have F1 := (FC.new ((w.alloc (.cells #[.int .i64 d.k, .int .i64 d.n, .slice Ab nb cb, .slice An nn cn, .slice Ap p.len cp] 26)).alloc (.cells #[.int .i64 d'.k, .int .i64 d'.n, .slice Ab' nb' cb', .slice An' nn' cn', .slice Ap' p'.len cp'] 26)) 0 0).on hb2
  simp only [alloc_size] at F1
  have X1 := ((Bx.new (w.alloc (.cells #[.int .i64 d.k, .int .i64 d.n, .slice Ab nb cb, .slice An nn cn, .slice Ap p.len cp] 26)) (.int .i64 d'.k) (.int .i64 d'.n) (.slice Ab' nb' cb') (.slice An' nn' cn') (.slice Ap' p'.len cp')).on (bel1 _ _)).on hb2
  simp only [alloc_size] at X1
  have HX1 := Lib.hid X1
  have HF1 := Lib.hid F1
  have HB2 := Lib.hid (show Below w.heap.size w w2 from chain (bel3 _ _ _ _) hb2)
  have hz2 : w.heap.size + 1 + 1 < w2.heap.size := F1.1
  clear hb2 F1 X1
  rcases hres with ⟨c, ix, hc, hvf, rfl⟩ | ⟨A2, c2, m, hck, hvf, hle, rfl, hown2⟩
  · have hc0 : (c == 0) = false := by simpa using hc
    have hneq := flt_neq c ix 0 0
    have P2 := HF1.out.alloc (.cells #[.int .i64 c, .int .i64 ix] 29)
    have P1 := FC.new w2 c ix
    have PB := bel_up HB2.out (.cells #[.int .i64 c, .int .i64 ix] 29)
    have HCR := Lib.hid (cmpR_a (d' := d') (p' := p') hvf hc)
    clear hvf hc
    go_wp2_with fail
    obtain ⟨W4, hW4⟩ : ∃ W4, w2.alloc (.cells #[.int .i64 c, .int .i64 ix] 29) = W4 := ⟨_, rfl⟩
    rw [hW4] at P1 P2 PB ⊢
    have HPB := Lib.hid PB
    clear hW4 PB
    obtain ⟨z3, a0, a1, g0, g1⟩ := P1
    obtain ⟨z4, r0, r1, e0, e1⟩ := P2
    go_region
    go_wp2_with fail
    refine bodyPost_ret (v := .tuple #[.int .i64 0, .agg #[.int .i64 c, .int .i64 ix]]) (by simp [results, Try.results35, go_sem, r0, r1, z4]) rfl ?_
    exact ⟨by rw [HCR.out], (below_put HPB.out (by omega) _ _).drew⟩
  · have hneq := flt_neq 0 0 0 0
    have HVF := Lib.hid hvf
    have HO2 := Lib.hid hown2
    obtain ⟨x0, x1, x2, x3, x4⟩ := HX1.out.cells
    have y0 := fun ob => cell_up (o := ob) x0
    have y1 := fun ob => cell_up (o := ob) x1
    have y2 := fun ob => cell_up (o := ob) x2
    have y3 := fun ob => cell_up (o := ob) x3
    have y4 := fun ob => cell_up (o := ob) x4
    obtain ⟨ln, hln⟩ : ∃ ln, (encV d p).length = ln := ⟨_, rfl⟩
    have HO2' := Lib.hid (show Rd w2 w2.heap.size 1 A2 ln (bv (encV d p)) by rw [← hln]; exact Rd.of_own hown2)
    rw [hln]
    clear hvf hown2 hck hle hln HO2
    go_wp2_with fail
    refine (encodeE_calls HM'.out (HV'.out.on (bel_up HB2.out _))).mono ?_
    rintro e w3 ⟨hb3, hres⟩
    have HB3 := Lib.hid (show Below w2.heap.size w2 w3 from chain (bel1 _ _) hb3)
    have P1 := (FC.new w2 0 0).on hb3
    have P2 := (HF1.out.alloc (.cells #[.int .i64 0, .int .i64 0] 29)).on hb3
    have hz3 : w2.heap.size < w3.heap.size := P1.1
    have HP1 := Lib.hid P1
    have HP2 := Lib.hid P2
    clear x0 x1 x2 x3 x4 y0 y1 y2 y3 y4
    rcases hres with ⟨c, ix, hc, hvf, rfl⟩ | ⟨A3, c3, m3, hck, hvf, hle, rfl, hown3⟩
    · have hc0 : (c == 0) = false := by simpa using hc
      have hneq' := flt_neq c ix 0 0
      have HCR := Lib.hid (cmpR_b HVF.out hvf hc)
      obtain ⟨z3, a0, a1, g0, g1⟩ := P1
      clear P2 hb3 hvf hc
      go_wp2_with fail
      obtain ⟨W4, hW4⟩ : ∃ W4, (w3.setCell ⟨w2.heap.size, 0, none⟩ (.int .i64 c)).setCell ⟨w2.heap.size, 1, none⟩ (.int .i64 ix) = W4 := ⟨_, rfl⟩
      have Q1 : FC W4 w2.heap.size c ix := by rw [← hW4]; exact HP1.out.put c ix
      have Q2 : FC W4 (w.heap.size + 1 + 1) 0 0 := by rw [← hW4]; exact (HP2.out.far (by omega)).far (by omega)
      have HQB := Lib.hid (show Below w.heap.size w W4 by rw [← hW4]; exact below_put (chain HB2.out HB3.out) (by omega) _ _)
      rw [hW4]
      clear hW4 a0 a1 g0 g1 z3
      obtain ⟨z3, a0, a1, g0, g1⟩ := Q1
      obtain ⟨z4, r0, r1, e0, e1⟩ := Q2
      go_region
      go_wp2_with fail
      refine bodyPost_ret (v := .tuple #[.int .i64 0, .agg #[.int .i64 c, .int .i64 ix]]) (by simp [results, Try.results35, go_sem, r0, r1, z4]) rfl ?_
      exact ⟨by rw [HCR.out], (below_put HQB.out (by omega) _ _).drew⟩
    · have HCR := Lib.hid (cmpR_c HVF.out hvf)
      have HO3 := Lib.hid hown3
      obtain ⟨z3, a0, a1, g0, g1⟩ := P1
      clear P2 hb3 hvf hck hle hown3
      go_upto_region 7 with (fail)
      obtain ⟨W4, hW4⟩ : ∃ W4, (w3.setCell ⟨w2.heap.size, 0, none⟩ (.int .i64 0)).setCell ⟨w2.heap.size, 1, none⟩ (.int .i64 0) = W4 := ⟨_, rfl⟩
      have Q2 : FC W4 (w.heap.size + 1 + 1) 0 0 := by rw [← hW4]; exact (HP2.out.far (by omega)).far (by omega)
      have HQB := Lib.hid (show Below w.heap.size w W4 by rw [← hW4]; exact below_put (chain HB2.out HB3.out) (by omega) _ _)
      have HR2 := Lib.hid (show Rd W4 w2.heap.size 1 A2 ln (bv (encV d p)) by rw [← hW4]; exact HO2'.out.below (below_put HB3.out (Nat.le_refl _) _ _))
      have HR3 := Lib.hid (show Rd W4 W4.heap.size 1 A3 (encV d' p').length (bv (encV d' p')) by rw [← hW4]; exact Rd.of_own (own_set (own_set HO3.out (by simp only [alloc_size]; omega)) (by simp only [alloc_size]; omega)))
      rw [hW4]
      clear hW4 a0 a1 g0 g1 z3
      obtain ⟨z4, r0, r1, e0, e1⟩ := Q2
      go_wp2_with (go_at_call 61; refine (bcompare_calls HR2.out HR3.out).mono ?_; rintro e w' ⟨rfl, rfl⟩)
      refine bodyPost_ret (v := .tuple #[.int .i64 (Lib.compareBytes (encV d p) (encV d' p')), .agg #[.int .i64 0, .int .i64 0]]) (by simp [results, Try.results35, go_sem, r0, r1, z4]) rfl ?_
      exact ⟨by rw [HCR.out], below_put HQB.out (by omega) _ _⟩
end Go.Proofs.Ytolognhjdmkohaa
