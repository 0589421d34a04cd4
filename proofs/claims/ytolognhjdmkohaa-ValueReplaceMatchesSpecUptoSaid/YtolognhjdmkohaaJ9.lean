/-
  The contract of value.clone.
-/
/-
  The contract of value.At.
-/
import Derived.Test.YtolognhjdmkohaaJ8
import Derived.Deep.RegionLaw
namespace Go.Proofs.Ytolognhjdmkohaa
open Go.RowKit
set_option linter.unusedVariables false
set_option linter.unusedSimpArgs false

set_option maxRecDepth 100000 in
set_option maxHeartbeats 2000000 in
theorem clone_step (d : Nd) (p : VF) (hall : VF.All CloC p) : CloC d p := by
  intro hf hfp hpl w v hv
  have HV := Lib.hid hv
  obtain ⟨sb, sn, sp, rfl, Ab, nb, cb, An, nn, cn, Ap, cp, rfl, rfl, rfl, hbc, hnc, hpc, hpm, hrb, hrn, hp⟩ := hv
  have hnb : nb ≤ 1048576 := by have := hrb.len; rw [bv_len] at this; have := hf.2.1; omega
  have hnn : nn ≤ 1048576 := by have := hrn.len; rw [sv_len] at this; have := hf.2.2.1; omega
  have HP := Lib.hid hp
  have HFP := Lib.hid hfp
  have HALL := Lib.hid hall
  have HRB := Lib.hid hrb
  have HRN := Lib.hid hrn
  clear hrb hrn hp hf hfp hall
  obtain ⟨np, hnp⟩ : ∃ np, p.len = np := ⟨_, rfl⟩
  have HNP := Lib.hid hnp
  rw [hnp] at hpl hpc ⊢
  clear hnp
  go_enter Try.func55, Try.ntmps55
  go_wp2_with fail
  obtain ⟨W2, hW2⟩ : ∃ W2, (w.alloc (.cells #[.int .i64 d.k, .int .i64 d.n, .slice Ab nb cb, .slice An nn cn, .slice Ap np cp] 26)).alloc (.cells #[.int .i64 0, .int .i64 0, .slice none 0 0, .slice none 0 0, .slice none 0 0] 26) = W2 := ⟨_, rfl⟩
  have HB0 := Lib.hid (show Bx W2 w.heap.size (.int .i64 d.k) (.int .i64 d.n) (.slice Ab nb cb) (.slice An nn cn) (.slice Ap np cp) by rw [← hW2]; exact (Bx.new _ _ _ _ _ _).on (bel1 _ _))
  have HB1 := Lib.hid (show Bx W2 (w.heap.size + 1) (.int .i64 0) (.int .i64 0) (.slice none 0 0) (.slice none 0 0) (.slice none 0 0) by rw [← hW2, ← alloc_size w (.cells #[.int .i64 d.k, .int .i64 d.n, .slice Ab nb cb, .slice An nn cn, .slice Ap np cp] 26)]; exact Bx.new _ _ _ _ _ _)
  have HBW := Lib.hid (show Below w.heap.size w W2 by rw [← hW2]; exact bel2 _ _ _)
  have hz2 : w.heap.size + 2 ≤ W2.heap.size := by rw [← hW2]; simp
  rw [hW2]
  clear hW2
  obtain ⟨q0, q1, q2, q3, q4⟩ := HB0.out.cells
  go_upto_region 1 with (fail)
  go_cut [3] (fun t wx => ∃ g A1 c1 A2 c2, t = .pointer (some ⟨g, 0, none⟩) ∧ W2.heap.size ≤ g ∧ Bx wx g (.int .i64 d.k) (.int .i64 d.n) (.slice A1 nb c1) (.slice A2 nn c2) (.slice none 0 0) ∧ wx.ownsRow W2.heap.size 5 1 (.slice A1 nb c1) nb (bv d.bs) ∧ wx.ownsRow W2.heap.size 9 1 (.slice A2 nn c2) nn (sv d.ns) ∧ Below W2.heap.size W2 wx)
  case first =>
    have hc4 : C4 W2 w.heap.size (.int .i64 d.k) (.int .i64 d.n) (.slice Ab nb cb) (.slice An nn cn) := ⟨q0, q1, q2, q3⟩
    go_region_held3 (fun w' => w'.cell? ⟨w.heap.size, 0, none⟩ = some (.int .i64 d.k) ∧ w'.cell? ⟨w.heap.size, 1, none⟩ = some (.int .i64 d.n) ∧ w'.cell? ⟨w.heap.size, 2, none⟩ = some (.slice Ab nb cb) ∧ w'.cell? ⟨w.heap.size, 3, none⟩ = some (.slice An nn cn))
      (first
        | (with_reducible exact ⟨hc4.1, hc4.2.1, hc4.2.2.1, hc4.2.2.2⟩)
        | (with_reducible exact ⟨cell_drew (hc4.1), cell_drew (hc4.2.1), cell_drew (hc4.2.2.1), cell_drew (hc4.2.2.2)⟩)
        | (with_reducible exact ⟨cell_up (hc4.1), cell_up (hc4.2.1), cell_up (hc4.2.2.1), cell_up (hc4.2.2.2)⟩)
        | (with_reducible exact ⟨cell_drew (cell_up (hc4.1)), cell_drew (cell_up (hc4.2.1)), cell_drew (cell_up (hc4.2.2.1)), cell_drew (cell_up (hc4.2.2.2))⟩)
        | (with_reducible exact ⟨hc5.1, hc5.2.1, hc5.2.2.1, hc5.2.2.2⟩)
        | (with_reducible exact ⟨cell_drew (hc5.1), cell_drew (hc5.2.1), cell_drew (hc5.2.2.1), cell_drew (hc5.2.2.2)⟩)
        | (with_reducible exact ⟨cell_up (hc5.1), cell_up (hc5.2.1), cell_up (hc5.2.2.1), cell_up (hc5.2.2.2)⟩)
        | (with_reducible exact ⟨cell_drew (cell_up (hc5.1)), cell_drew (cell_up (hc5.2.1)), cell_drew (cell_up (hc5.2.2.1)), cell_drew (cell_up (hc5.2.2.2))⟩)
        | (with_reducible exact ⟨hc6.1, hc6.2.1, hc6.2.2.1, hc6.2.2.2⟩)
        | (with_reducible exact ⟨cell_drew (hc6.1), cell_drew (hc6.2.1), cell_drew (hc6.2.2.1), cell_drew (hc6.2.2.2)⟩)
        | (with_reducible exact ⟨cell_up (hc6.1), cell_up (hc6.2.1), cell_up (hc6.2.2.1), cell_up (hc6.2.2.2)⟩)
        | (with_reducible exact ⟨cell_drew (cell_up (hc6.1)), cell_drew (cell_up (hc6.2.1)), cell_drew (cell_up (hc6.2.2.1)), cell_drew (cell_up (hc6.2.2.2))⟩)
        | (have k6 := hc6.far5 (h := W2.heap.size) (x0 := .int .i64 d.k) (x1 := .int .i64 d.n) (x2 := .slice A3 nb c3) (x3 := .slice A4 nn c4) (x4 := .slice none 0 0) (by omega); with_reducible exact ⟨k6.1, k6.2.1, k6.2.2.1, k6.2.2.2⟩)
        | (have k6 := hc6.far5 (h := W2.heap.size) (x0 := .int .i64 d.k) (x1 := .int .i64 d.n) (x2 := .slice A3 nb c3) (x3 := .slice A4 nn c4) (x4 := .slice none 0 0) (by omega); with_reducible exact ⟨cell_drew (k6.1), cell_drew (k6.2.1), cell_drew (k6.2.2.1), cell_drew (k6.2.2.2)⟩)
        | (have k6 := hc6.far5 (h := w3.heap.size) (x0 := .int .i64 d.k) (x1 := .int .i64 d.n) (x2 := .slice A3 nb c3) (x3 := .slice A4 nn c4) (x4 := .slice none 0 0) (by omega); with_reducible exact ⟨k6.1, k6.2.1, k6.2.2.1, k6.2.2.2⟩)
        | (have k6 := hc6.far5 (h := w3.heap.size) (x0 := .int .i64 d.k) (x1 := .int .i64 d.n) (x2 := .slice A3 nb c3) (x3 := .slice A4 nn c4) (x4 := .slice none 0 0) (by omega); with_reducible exact ⟨cell_drew (k6.1), cell_drew (k6.2.1), cell_drew (k6.2.2.1), cell_drew (k6.2.2.2)⟩))
      (first
        | (go_at_call 70; refine (cloneB_calls (xs := d.bs) (by exact HRB.out.on (by repeat (first | exact HBW.out | refine Below.drew ?_ | refine bel_up ?_ _))) hnb).mono ?_; rintro e w3 ⟨A3, c3, rfl, hown3, hb3⟩; have hB3 : Below W2.heap.size W2 w3 := (by first | (with_reducible exact beldrewA hb3) | (with_reducible exact beldrew hb3)); have hc5 := c4_below hc4 hB3 (by omega); have hz3 := hB3.size; (first | ((with_reducible have o3 := bx_last hb3); have o3c := o3.cells; obtain ⟨v0, v1, v2, v3, v4⟩ := o3c; have o3f := o3.free) | skip))
        | (go_at_call 71; refine (cloneS_calls (xs := d.ns) (by exact HRN.out.on (chain HBW.out (by first | (with_reducible exact hB3) | exact bel_up hB3 _))) hnn).mono ?_; rintro e w4 ⟨A4, c4, rfl, hown4, hb4⟩; have hB4 : Below w3.heap.size w3 w4 := (by first | (with_reducible exact belA hb4) | (with_reducible exact hb4)); have hc6 := c4_below hc5 hB4 (by omega); have hz4 := hB4.size; (first | ((with_reducible have o4 := bx_last' hb4); have o4c := o4.cells; obtain ⟨u0, u1, u2, u3, u4⟩ := o4c; have o4f := o4.free) | (have o4 := o3.on hb4; have o4c := o4.cells; obtain ⟨u0, u1, u2, u3, u4⟩ := o4c; have o4f := o4.free) | skip)))
    all_goals go_wp2_with fail
    · go_meet
      exact ⟨w4.heap.size, A3, c3, A4, c4, rfl, by omega, Bx.new _ _ _ _ _ _, (own_below (own_mono hown3 (by exact Nat.le_refl _)) hB4 (Nat.le_refl _)).alloc _, (own_mono hown4 hz3).alloc _, (hB3.trans (hB4.mono hz3)).alloc (by omega) _⟩
    · go_meet
      exact ⟨w3.heap.size, A3, c3, A4, c4, rfl, hz3, o4.set5 _ _ _ _ _, own_ty5 (own_below (own_mono hown3 (by exact Nat.le_refl _)) hB4 (Nat.le_refl _)) o4.ty (by decide), own_ty5 (own_mono hown4 (by simp only [alloc_size]; omega)) o4.ty (by decide), below5 (hB3.trans (hB4.mono hz3)) hz3 _ _ _ _ _⟩
    · go_meet
      exact ⟨W2.heap.size, A3, c3, A4, c4, rfl, Nat.le_refl _, o4.set5 _ _ _ _ _, own_ty5 (own_below (own_mono hown3 (by simp only [World.size_drew, alloc_size]; omega)) hB4 (Nat.le_refl _)) o4.ty (by decide), own_ty5 (own_mono hown4 hz3) o4.ty (by decide), below5 (hB3.trans (hB4.mono hz3)) (Nat.le_refl _) _ _ _ _ _⟩
  case rest =>
    obtain ⟨g, A1, c1, A2, c2, rfl, hg, hbx, hob, hon, hbel⟩ := hcut
    have HBX := Lib.hid hbx
    have HOB := Lib.hid hob
    have HON := Lib.hid hon
    have HBE := Lib.hid hbel
    obtain ⟨_, _, _, _, r4⟩ := (HB0.out.below hbel (by omega)).cells
    have HRS := Lib.hid (HB1.out.below hbel (by omega))
    have hzc := hbel.size
    clear hbx hob hon hbel
    go_wp2_with fail
    go_loopw [20] (CloRel W2 wc g d (.slice A1 nb c1) (.slice A2 nn c2) nb nn p) (fun k _ => np - (intOf k).toNat)
    case atStart => exact ⟨0, none, 0, [], rfl, Nat.zero_le _, HBX.out, World.ownsRow_nil _ _ _ _, by rw [VF.take_zero]; rfl, HOB.out, HON.out, HBE.out, Nat.le_refl _⟩
    case round =>
      obtain ⟨i, A, c, cs, rfl, hi, hbx, hrow, hfc, hob, hon, hbel, hzcr⟩ := hrel
      rw [HNP.out] at hi
      have hbxlt := hbx.lt
      have hgc : g < wc.heap.size := HBX.out.lt
      have H1 := Lib.hid hbx
      have H2 := Lib.hid hrow
      have H3 := Lib.hid hfc
      have H4 := Lib.hid hob
      have H5 := Lib.hid hon
      have H6 := Lib.hid hbel
      have HWR := Lib.hid (show Below w.heap.size w wr from chain HBW.out hbel)
      have hzr := hbel.size
      clear hbx hrow hfc hob hon hbel r4
      by_cases hlt : i < np
      · obtain ⟨b, o, hAp, hb, hfin⟩ := HP.out (by rw [HNP.out]; omega)
        subst hAp
        obtain ⟨d', p', hdr⟩ := VF.drop_cons (F := p) (i := i) (by rw [HNP.out]; exact hlt)
        obtain ⟨sb', sn', sp', ⟨k0, k1, k2, k3, k4⟩, hd'⟩ := hfin.at_ hdr
        have HV' : Hid (VIn w w.heap.size (.agg #[.int .i64 d'.k, .int .i64 d'.n, sb', sn', sp']) d' p') := Lib.hid ⟨sb', sn', sp', rfl, hd'⟩
        obtain ⟨Ab', nb', cb', An', nn', cn', Ap', cp', rfl, rfl, rfl, _⟩ := hd'
        have q0 := (HWR.out.cell (by exact hb)).trans k0
        have q1 := (HWR.out.cell (by exact hb)).trans k1
        have q2 := (HWR.out.cell (by exact hb)).trans k2
        have q3 := (HWR.out.cell (by exact hb)).trans k3
        have q4 := (HWR.out.cell (by exact hb)).trans k4
        have HCT := Lib.hid (clo_pick (VF.all_drop HALL.out i) hdr (Fits.drop p i HFP.out))
        have HDR := Lib.hid hdr
        clear k0 k1 k2 k3 k4 hfin hdr
        have hli : (i : Int) < (np : Int) := by omega
        have h0 : (0 : Int) ≤ (i : Int) := by omega
        obtain ⟨_, _, _, _, t4⟩ := H1.out.cells
        go_upto_region 5 with (fail)
        obtain ⟨W5, hW5⟩ : ∃ W5, wr.alloc (.cells #[.int .i64 d'.k, .int .i64 d'.n, .slice Ab' nb' cb', .slice An' nn' cn', .slice Ap' p'.len cp'] 26) = W5 := ⟨_, rfl⟩
        have hz5 : W5.heap.size = wr.heap.size + 1 := by rw [← hW5]; simp
        have HB5 := Lib.hid (show Below wr.heap.size wr W5 by rw [← hW5]; exact bel1 _ _)
        obtain ⟨x0, x1, x2, x3, x4⟩ := (show Bx W5 wr.heap.size (.int .i64 d'.k) (.int .i64 d'.n) (.slice Ab' nb' cb') (.slice An' nn' cn') (.slice Ap' p'.len cp') by rw [← hW5]; exact Bx.new _ _ _ _ _ _).cells
        have t5 : W5.cell? ⟨g, 4, none⟩ = some (.slice A i c) := by rw [← hW5]; exact cell_up t4
        rw [hW5]
        have HZ5 := Lib.hid hz5
        clear hW5 hz5 q0 q1 q2 q3 q4 t4
        go_region_law (first
          | (refine step_app5 slV rfl (.tmp 25) (.tmp 28) rfl wc.heap.size A i c cs (by simp [Act.eval, Act.put]) (by exact (own_below H2.out HB6.out (Nat.le_refl _)).alloc _) w6.heap.size [.int .i64 d'.k, .int .i64 d'.n, .slice Ab6 nb6 cb6, .slice An6 nn6 cn6, .slice Ap6 p'.len cp6] (by simp [Act.eval, Act.put]) rfl (by exact news5 _ _ _ _ _ _ _) (by simp [Value.oneCell']) (by omega) (by simp only [alloc_size]; omega) (w6.heap.size + 1) (by simp only [alloc_size]) ?_; intro g' c' w7 hown7 hg7 hat hlt7; have hb7 := bx_grown (H1.out.on HB6.out) hg7 (fun e => by have := (H2.out.lt g e).1; omega); have hc7 := hb7.cells; obtain ⟨_, _, _, _, t7⟩ := hc7; have f7 := hb7.free 4)
          | (go_simp; go_at_call 55; refine (HCT.out _ _ (by exact (HV'.out.on (chain HWR.out HB5.out.drew)))).mono ?_; rintro e w6 ⟨v6, rfl, ⟨sb6, sn6, sp6, rfl, hd6⟩, hb6⟩; have HD6 := Lib.hid hd6; obtain ⟨Ab6, nb6, cb6, An6, nn6, cn6, Ap6, cp6, rfl, rfl, rfl, _⟩ := hd6; have HB6 := Lib.hid (show Below wr.heap.size wr w6 from chain HB5.out (beldrew hb6)); have hz6 : wr.heap.size + 1 ≤ w6.heap.size := (by have := hb6.size; have := HZ5.out; simp only [World.size_drew] at *; omega); have t6 := (hb6.cell (p := ⟨g, 4, none⟩) (by have := HZ5.out; simp only [World.size_drew]; omega)).trans t5; have t6' := fun ob => cell_up (o := ob) t6; clear hb6))
        all_goals go_wp2_with fail
        all_goals exact ⟨clo_next H1.out H2.out H3.out H4.out H5.out H6.out hzcr hgc hg HDR.out (by rw [HNP.out]; exact hlt) HB6.out hz6 (by have h6 := HD6.out; rw [show W5.drew.heap.size = wr.heap.size + 1 from HZ5.out] at h6; exact h6) hg7 hown7 hat, by simp [intOf]; omega⟩
      · have HAL := Lib.hid (show p.take i = p from VF.take_all (by rw [HNP.out]; omega))
        have HIN := Lib.hid (show i = p.len by rw [HNP.out]; omega)
        obtain ⟨t0, t1, t2, t3, t4⟩ := H1.out.cells
        have HR := Lib.hid (HB1.out.below H6.out (by omega))
        obtain ⟨z0, z1, z2, z3, z4⟩ := HR.out.cells
        have zf := HR.out.free
        go_wp2_with fail
        obtain ⟨W9, hW9⟩ : ∃ W9, (((((wr.setCell ⟨w.heap.size + 1, 0, none⟩ (.int .i64 d.k)).setCell ⟨w.heap.size + 1, 1, none⟩ (.int .i64 d.n)).setCell ⟨w.heap.size + 1, 2, none⟩ (.slice A1 nb c1)).setCell ⟨w.heap.size + 1, 3, none⟩ (.slice A2 nn c2)).setCell ⟨w.heap.size + 1, 4, none⟩ (.slice A i c)) = W9 := ⟨_, rfl⟩
        have hb9 : Bx W9 (w.heap.size + 1) (.int .i64 d.k) (.int .i64 d.n) (.slice A1 nb c1) (.slice A2 nn c2) (.slice A i c) := by rw [← hW9]; exact HR.out.set5 _ _ _ _ _
        have HZ9 := Lib.hid (show W9.heap.size = wr.heap.size by rw [← hW9]; simp)
        have HC9 := Lib.hid (show ∀ q : Addr, w.heap.size + 1 ≠ q.block → W9.cell? q = wr.cell? q by rw [← hW9]; exact fun q hq => cell_set5 q hq)
        have HB9 := Lib.hid (show Below w.heap.size w W9 by rw [← hW9]; exact below5 HWR.out (by omega) _ _ _ _ _)
        rw [hW9]
        clear hW9 z0 z1 z2 z3 z4 zf t0 t1 t2 t3 t4
        have hl9 := hb9.lt
        obtain ⟨y0, y1, y2, y3, y4⟩ := hb9.cells
        refine bodyPost_ret (v := .agg #[.int .i64 d.k, .int .i64 d.n, .slice A1 nb c1, .slice A2 nn c2, .slice A i c]) (by simp [results, Try.results55, go_sem, y0, y1, y2, y3, y4, hl9]) rfl ?_
        refine ⟨_, rfl, ?_, HB9.out⟩
        have hrow := H2.out
        have hfc := H3.out
        rw [HAL.out] at hfc
        rw [HIN.out] at hrow hfc ⊢
        have hv := clo_done (W2 := W2) hrow hfc H4.out H5.out hzc
        exact hv.keep (fun q hq => HC9.out q (by have := hq.1; omega)) (fun b hb => ⟨by have := hb.1; omega, by rw [HZ9.out]; exact hb.2⟩)
theorem clone_calls {d : Nd} {p : VF} {w : World} {v : Value} (hf : NdFits d) (hfp : Fits p) (hpl : p.len ≤ 1048576) (hv : VIn w w.heap.size v d p) : Calls Try.prog 55 #[v] w (CloEnd w d p) :=
  VF.all_each clone_step d p hf hfp hpl w v hv
end Go.Proofs.Ytolognhjdmkohaa
namespace Go.Proofs.Ytolognhjdmkohaa
open Go.RowKit
set_option linter.unusedVariables false
set_option linter.unusedSimpArgs false

theorem Fits.at_ {F : VF} {i : Nat} {d : Nd} {p r : VF} (h : Fits F) (hd : F.drop i = .cons d p r) : NdFits d ∧ p.len ≤ 1048576 ∧ Fits p := by
  have := Fits.drop F i h
  rw [hd] at this
  exact ⟨this.1, this.2.1, this.2.2.1⟩
theorem path_fits : ∀ (path : List Int) (d : Nd) (p : VF) (i : Nat) (d' : Nd) (p' : VF), NdFits d → Fits p → p.len ≤ 1048576 → pathV d p path i = .inr (d', p') → NdFits d' ∧ Fits p' ∧ p'.len ≤ 1048576 := by
  intro path
  induction path with
  | nil =>
    intro d p i d' p' h1 h2 h3 h
    rw [pathV_nil] at h
    injection h with h
    injection h with e1 e2
    subst e1 e2
    exact ⟨h1, h2, h3⟩
  | cons k r ih =>
    intro d p i d' p' h1 h2 h3 h
    by_cases hk : k < 0 ∨ (p.len : Int) ≤ k
    · rw [pathV_bad hk] at h; cases h
    · obtain ⟨j, rfl⟩ := Int.eq_ofNat_of_zero_le (show 0 ≤ k by omega)
      have hj : j < p.len := by omega
      obtain ⟨d2, p2, hdr⟩ := VF.drop_cons hj
      rw [pathV_go hj hdr] at h
      obtain ⟨a, b, c⟩ := h2.at_ hdr
      exact ih d2 p2 (i + 1) d' p' a c b h
/-- what At answers -/
def AtEnd (w : World) (d : Nd) (p : VF) (path : List Int) (e : Ending) (w' : World) : Prop :=
  Below w.heap.size w w' ∧ ((∃ c i, c ≠ 0 ∧ valF d p = (c, i) ∧ e = .returned (.tuple #[.agg #[.int .i64 0, .int .i64 0, .slice none 0 0, .slice none 0 0, .slice none 0 0], .agg #[.int .i64 c, .int .i64 i]])) ∨
    (∃ j : Nat, valF d p = (0, 0) ∧ pathV d p path 0 = .inl j ∧ e = .returned (.tuple #[.agg #[.int .i64 0, .int .i64 0, .slice none 0 0, .slice none 0 0, .slice none 0 0], .agg #[.int .i64 12, .int .i64 (j : Int)]])) ∨
    (∃ d' p' v, valF d p = (0, 0) ∧ pathV d p path 0 = .inr (d', p') ∧ e = .returned (.tuple #[v, .agg #[.int .i64 0, .int .i64 0]]) ∧ VInS w' (fun b => w.heap.size ≤ b ∧ b < w'.heap.size) v d' p'))
theorem valF_cases (d : Nd) (p : VF) : (∃ c i, c ≠ 0 ∧ valF d p = (c, i)) ∨ valF d p = (0, 0) := by
  cases h : chkF (.cons d p .nil) 0 1 with
  | inl f => obtain ⟨c, i⟩ := f; exact .inl ⟨c, i, chkF_code _ _ _ _ _ h, valF_inl h⟩
  | inr m =>
    by_cases hl : 4000 < (encV d p).length
    · exact .inl ⟨14, -1, by decide, valF_big h hl⟩
    · exact .inr (valF_ok h hl)
theorem FC.far5 {w : World} {g h : Nat} {a b : Int} {x0 x1 x2 x3 x4 : Value} (k : FC w h a b) (hne : g ≠ h) : FC (((((w.setCell ⟨g, 0, none⟩ x0).setCell ⟨g, 1, none⟩ x1).setCell ⟨g, 2, none⟩ x2).setCell ⟨g, 3, none⟩ x3).setCell ⟨g, 4, none⟩ x4) h a b :=
  ((((k.far hne).far hne).far hne).far hne).far hne
/-- a value's variable and a fault's variable are written -/
theorem put57 {W W' : World} {g h : Nat} {a b c d e : Value} {i j : Int} {x0 x1 x2 x3 x4 : Value} {c' d' : Int} (hb : Bx W g a b c d e) (hf : FC W h i j) (hne : g ≠ h)
    (hW : (((((((W.setCell ⟨g, 0, none⟩ x0).setCell ⟨g, 1, none⟩ x1).setCell ⟨g, 2, none⟩ x2).setCell ⟨g, 3, none⟩ x3).setCell ⟨g, 4, none⟩ x4).setCell ⟨h, 0, none⟩ (.int .i64 c')).setCell ⟨h, 1, none⟩ (.int .i64 d')) = W') : Bx W' g x0 x1 x2 x3 x4 ∧ FC W' h c' d' ∧ W'.heap.size = W.heap.size ∧ (∀ B w, Below B w W → B ≤ g → B ≤ h → Below B w W') ∧ (∀ q : Addr, q.block ≠ g → q.block ≠ h → W'.cell? q = W.cell? q) := by
  subst hW
  refine ⟨((hb.set5 _ _ _ _ _).far hne).far hne, FC.put (FC.far5 hf hne) _ _, by simp, fun B w h1 h2 h3 => below_put (below5 h1 h2 _ _ _ _ _) h3 _ _, fun q h1 h2 => ?_⟩
  rw [World.cell?_setCell_far _ _ _ _ (by exact fun e => h2 e.symm), World.cell?_setCell_far _ _ _ _ (by exact fun e => h2 e.symm)]
  exact cell_set5 q (fun e => h1 e.symm)
set_option maxRecDepth 100000 in
set_option maxHeartbeats 2000000 in
theorem at_calls2 {d : Nd} {p : VF} {w : World} {v : Value} {A : Option Addr} {n c : Nat} {path : List Int} (hm : Mod d p) (hv : VIn w w.heap.size v d p) (hr : Rd w w.heap.size 1 A n (iv path)) (hn : n ≤ 1048576) :
    Calls Try.prog 25 #[v, .slice A n c] w (AtEnd w d p path) := by
  have HV := Lib.hid hv
  have HM := Lib.hid hm
  have HR := Lib.hid hr
  obtain ⟨sb, sn, sp, rfl, hd⟩ := hv
  have HHD := Lib.hid hd
  obtain ⟨Ab, nb, cb, An, nn, cn, Ap, cp, rfl, rfl, rfl, _⟩ := hd
  clear hm hr
  go_enter Try.func25, Try.ntmps25
  go_wp2_with fail
  refine (validate_calls HM.out (HV.out.on (bel3 _ _ _ _))).mono ?_
  rintro e w2 ⟨rfl, hb2⟩
  have hbx : Bx w2 w.heap.size (.int .i64 d.k) (.int .i64 d.n) (.slice Ab nb cb) (.slice An nn cn) (.slice Ap p.len cp) := ((Bx.new _ _ _ _ _ _).on (bel2 _ _ _)).on hb2
  have hrv := ((Bx.new (w.alloc (.cells #[.int .i64 d.k, .int .i64 d.n, .slice Ab nb cb, .slice An nn cn, .slice Ap p.len cp] 26)) (.int .i64 0) (.int .i64 0) (.slice none 0 0) (.slice none 0 0) (.slice none 0 0)).on (bel1 _ (.cells #[.int .i64 0, .int .i64 0] 29))).on hb2
  have hrf := (FC.new ((w.alloc (.cells #[.int .i64 d.k, .int .i64 d.n, .slice Ab nb cb, .slice An nn cn, .slice Ap p.len cp] 26)).alloc (.cells #[.int .i64 0, .int .i64 0, .slice none 0 0, .slice none 0 0, .slice none 0 0] 26)) 0 0).on hb2
  simp only [alloc_size] at hrv hrf
  have HB2 := Lib.hid (show Below w.heap.size w w2 from chain (bel3 _ _ _ _) hb2)
  have hz2 : w.heap.size + 1 + 1 < w2.heap.size := hrf.1
  have n1 : ¬ w.heap.size + 1 = w2.heap.size := by omega
  have n2 : ¬ w.heap.size + 1 + 1 = w2.heap.size := by omega
  have n3 : ¬ w.heap.size + 2 = w2.heap.size := by omega
  have n4 : ¬ w2.heap.size = w.heap.size + 1 := by omega
  have n5 : ¬ w2.heap.size = w.heap.size + 1 + 1 := by omega
  have n6 : ¬ w.heap.size + 1 = w.heap.size + 1 + 1 := by omega
  have n7 : ¬ w.heap.size + 1 + 1 = w.heap.size + 1 := by omega
  clear hb2
  rcases valF_cases d p with ⟨cd, ix, hcd, hvf⟩ | hvf
  · have HF := Lib.hid hvf
    have HC := Lib.hid hcd
    rw [HF.out]
    have hc0 : (cd == 0) = false := by simpa using hcd
    have hneq := flt_neq cd ix 0 0
    have P0 := hrv.on (bel1 _ (.cells #[.int .i64 cd, .int .i64 ix] 29))
    have P2 := hrf.alloc (.cells #[.int .i64 cd, .int .i64 ix] 29)
    have P1 := FC.new w2 cd ix
    have PB := bel_up HB2.out (.cells #[.int .i64 cd, .int .i64 ix] 29)
    clear hvf hcd hrv hrf hbx
    go_wp2_with fail
    obtain ⟨W4, hW4⟩ : ∃ W4, w2.alloc (.cells #[.int .i64 cd, .int .i64 ix] 29) = W4 := ⟨_, rfl⟩
    rw [hW4] at P0 P1 P2 PB ⊢
    have HPB := Lib.hid PB
    have HP0 := Lib.hid P0
    clear hW4 PB
    obtain ⟨z3, a0, a1, g0, g1⟩ := P1
    obtain ⟨z4, r0, r1, e0, e1⟩ := P2
    obtain ⟨s0, s1, s2, s3, s4⟩ := P0.cells
    have sf := P0.free
    clear P0
    go_region
    go_wp2_with fail
    obtain ⟨W9, hW9⟩ : ∃ W9, (((((((W4.setCell ⟨w.heap.size + 1, 0, none⟩ (.int .i64 0)).setCell ⟨w.heap.size + 1, 1, none⟩ (.int .i64 0)).setCell ⟨w.heap.size + 1, 2, none⟩ (.slice none 0 0)).setCell ⟨w.heap.size + 1, 3, none⟩ (.slice none 0 0)).setCell ⟨w.heap.size + 1, 4, none⟩ (.slice none 0 0)).setCell ⟨w.heap.size + 1 + 1, 0, none⟩ (.int .i64 cd)).setCell ⟨w.heap.size + 1 + 1, 1, none⟩ (.int .i64 ix)) = W9 := ⟨_, rfl⟩
    obtain ⟨p1, p2, p3, p4, p5⟩ := put57 HP0.out ⟨z4, r0, r1, e0, e1⟩ (by omega) hW9
    have HB9 := Lib.hid (p4 _ _ HPB.out (by omega) (by omega))
    rw [hW9]
    clear hW9 s0 s1 s2 s3 s4 sf z3 a0 a1 g0 g1 z4 r0 r1 e0 e1 p3 p4 p5
    obtain ⟨s0, s1, s2, s3, s4⟩ := p1.cells
    obtain ⟨z4, r0, r1, e0, e1⟩ := p2
    refine bodyPost_ret (v := .tuple #[.agg #[.int .i64 0, .int .i64 0, .slice none 0 0, .slice none 0 0, .slice none 0 0], .agg #[.int .i64 cd, .int .i64 ix]]) (by simp [results, Try.results25, go_sem, s0, s1, s2, s3, s4, r0, r1, z4]) rfl ?_
    exact ⟨HB9.out.drew, .inl ⟨cd, ix, HC.out, HF.out, rfl⟩⟩
  · have HF := Lib.hid hvf
    rw [HF.out]
    have hneq := flt_neq 0 0 0 0
    have P0 := hrv.on (bel1 _ (.cells #[.int .i64 0, .int .i64 0] 29))
    have P2 := hrf.alloc (.cells #[.int .i64 0, .int .i64 0] 29)
    have PX := hbx.on (bel1 _ (.cells #[.int .i64 0, .int .i64 0] 29))
    have PB := bel_up HB2.out (.cells #[.int .i64 0, .int .i64 0] 29)
    clear hvf hrv hrf hbx
    go_wp2_with fail
    obtain ⟨W4, hW4⟩ : ∃ W4, w2.alloc (.cells #[.int .i64 0, .int .i64 0] 29) = W4 := ⟨_, rfl⟩
    rw [hW4] at P0 P2 PX PB ⊢
    have HPB := Lib.hid PB
    have HP0 := Lib.hid P0
    have HP2 := Lib.hid P2
    have HNA : Hid (NAt W4 W4.heap.size w.heap.size 0 d p) := Lib.hid ⟨PX.lt, _, _, _, ⟨PX.cells.1, PX.cells.2.1, PX.cells.2.2.1, PX.cells.2.2.2.1, PX.cells.2.2.2.2⟩, HHD.out.mono (fun q hq => PB.cell hq) PB.size (FIn.keep (fun q hq => PB.cell hq) PB.size p)⟩
    have hz4 : w.heap.size + 1 + 1 < W4.heap.size := P2.1
    clear hW4 PB P0 P2 PX
    refine (find_calls (path := path) HNA.out (HR.out.on HPB.out) hn (by have := HM.out.pl; omega)).mono ?_
    rintro e w5 ⟨hb5, hres⟩
    have Q0 := HP0.out.on hb5
    have Q2 := HP2.out.on hb5
    have HB5 := Lib.hid (chain HPB.out hb5)
    have hz5 : w.heap.size + 1 + 1 < w5.heap.size := Q2.1
    have m1 : ¬ w.heap.size + 1 = w5.heap.size := by omega
    have m2 : ¬ w.heap.size + 1 + 1 = w5.heap.size := by omega
    have m4 : ¬ w5.heap.size = w.heap.size + 1 := by omega
    have m5 : ¬ w5.heap.size = w.heap.size + 1 + 1 := by omega
    clear n1 n2 n3 n4 n5 hneq
    rcases hres with ⟨j, hpt, rfl⟩ | ⟨d', p', b', o', hpt, rfl, hat⟩
    · have HPT := Lib.hid hpt
      have hneq := flt_neq 12 (j : Int) 0 0
      have P0 := Q0.on (bel1 _ (.cells #[.int .i64 12, .int .i64 (j : Int)] 29))
      have P2 := Q2.alloc (.cells #[.int .i64 12, .int .i64 (j : Int)] 29)
      have P1 := FC.new w5 12 (j : Int)
      have PB := bel_up HB5.out (.cells #[.int .i64 12, .int .i64 (j : Int)] 29)
      clear hpt Q0 Q2 hb5
      go_wp2_with fail
      obtain ⟨W6, hW6⟩ : ∃ W6, w5.alloc (.cells #[.int .i64 12, .int .i64 (j : Int)] 29) = W6 := ⟨_, rfl⟩
      rw [hW6] at P0 P1 P2 PB ⊢
      have HPB6 := Lib.hid PB
      have HP06 := Lib.hid P0
      clear hW6 PB
      obtain ⟨z3, a0, a1, g0, g1⟩ := P1
      obtain ⟨z4, r0, r1, e0, e1⟩ := P2
      obtain ⟨s0, s1, s2, s3, s4⟩ := P0.cells
      have sf := P0.free
      clear P0
      go_region
      go_wp2_with fail
      obtain ⟨W9, hW9⟩ : ∃ W9, (((((((W6.setCell ⟨w.heap.size + 1, 0, none⟩ (.int .i64 0)).setCell ⟨w.heap.size + 1, 1, none⟩ (.int .i64 0)).setCell ⟨w.heap.size + 1, 2, none⟩ (.slice none 0 0)).setCell ⟨w.heap.size + 1, 3, none⟩ (.slice none 0 0)).setCell ⟨w.heap.size + 1, 4, none⟩ (.slice none 0 0)).setCell ⟨w.heap.size + 1 + 1, 0, none⟩ (.int .i64 12)).setCell ⟨w.heap.size + 1 + 1, 1, none⟩ (.int .i64 (j : Int))) = W9 := ⟨_, rfl⟩
      obtain ⟨p1, p2, p3, p4, p5⟩ := put57 HP06.out ⟨z4, r0, r1, e0, e1⟩ (by omega) hW9
      have HB9 := Lib.hid (p4 _ _ HPB6.out (by omega) (by omega))
      rw [hW9]
      clear hW9 s0 s1 s2 s3 s4 sf z3 a0 a1 g0 g1 z4 r0 r1 e0 e1 p3 p4 p5
      obtain ⟨s0, s1, s2, s3, s4⟩ := p1.cells
      obtain ⟨z4, r0, r1, e0, e1⟩ := p2
      refine bodyPost_ret (v := .tuple #[.agg #[.int .i64 0, .int .i64 0, .slice none 0 0, .slice none 0 0, .slice none 0 0], .agg #[.int .i64 12, .int .i64 (j : Int)]]) (by simp [results, Try.results25, go_sem, s0, s1, s2, s3, s4, r0, r1, z4]) rfl ?_
      exact ⟨HB9.out.drew, .inr (.inl ⟨j, HF.out, HPT.out, rfl⟩)⟩
    · have HPT := Lib.hid hpt
      have hneq := flt_neq 0 0 0 0
      obtain ⟨fa, fb, fc⟩ := path_fits path d p 0 d' p' HM.out.nd HM.out.fp HM.out.pl hpt
      have hat5 := hat.on hb5
      obtain ⟨sb', sn', sp', ⟨k0, k1, k2, k3, k4⟩, hv5⟩ := hat5.val
      have hvv := hv5
      obtain ⟨_, _, _, hvq, Ab', nb', cb', An', nn', cn', Ap', cp', rfl, rfl, rfl, _⟩ := hvv
      simp only [Value.agg.injEq, Array.mk.injEq, List.cons.injEq, and_true, true_and] at hvq
      obtain ⟨rfl, rfl, rfl⟩ := hvq
      have HV5 := Lib.hid (hv5.on (bel1 _ (.cells #[.int .i64 0, .int .i64 0] 29)))
      have x0 := cell_up (o := .cells #[.int .i64 0, .int .i64 0] 29) k0
      have x1 := cell_up (o := .cells #[.int .i64 0, .int .i64 0] 29) k1
      have x2 := cell_up (o := .cells #[.int .i64 0, .int .i64 0] 29) k2
      have x3 := cell_up (o := .cells #[.int .i64 0, .int .i64 0] 29) k3
      have x4 := cell_up (o := .cells #[.int .i64 0, .int .i64 0] 29) k4
      have P0 := Q0.on (bel1 _ (.cells #[.int .i64 0, .int .i64 0] 29))
      have P2 := Q2.alloc (.cells #[.int .i64 0, .int .i64 0] 29)
      have PB := bel_up HB5.out (.cells #[.int .i64 0, .int .i64 0] 29)
      clear hpt hat hat5 hv5 hb5 k0 k1 k2 k3 k4 Q0 Q2
      go_wp2_with fail
      refine (clone_calls fa fb fc HV5.out).mono ?_
      rintro e w6 ⟨v6, rfl, hv6, hb6⟩
      have HV6 := Lib.hid hv6
      obtain ⟨sb6, sn6, sp6, rfl, Ab6, nb6, cb6, An6, nn6, cn6, Ap6, cp6, rfl, rfl, rfl, _⟩ := hv6
      have R0 := P0.on hb6
      have R2 := P2.on hb6
      have HR0 := Lib.hid R0
      have HB6 := Lib.hid (chain PB hb6)
      obtain ⟨z4, r0, r1, e0, e1⟩ := R2
      obtain ⟨s0, s1, s2, s3, s4⟩ := R0.cells
      have sf := R0.free
      clear hb6 P0 P2 PB R0 x0 x1 x2 x3 x4
      go_wp2_with fail
      obtain ⟨W9, hW9⟩ : ∃ W9, (((((((w6.setCell ⟨w.heap.size + 1, 0, none⟩ (.int .i64 d'.k)).setCell ⟨w.heap.size + 1, 1, none⟩ (.int .i64 d'.n)).setCell ⟨w.heap.size + 1, 2, none⟩ (.slice Ab6 nb6 cb6)).setCell ⟨w.heap.size + 1, 3, none⟩ (.slice An6 nn6 cn6)).setCell ⟨w.heap.size + 1, 4, none⟩ (.slice Ap6 p'.len cp6)).setCell ⟨w.heap.size + 1 + 1, 0, none⟩ (.int .i64 0)).setCell ⟨w.heap.size + 1 + 1, 1, none⟩ (.int .i64 0)) = W9 := ⟨_, rfl⟩
      obtain ⟨p1, p2, p3, p4, p5⟩ := put57 HR0.out ⟨z4, r0, r1, e0, e1⟩ (by omega) hW9
      have HB9 := Lib.hid (p4 _ _ HB6.out (by omega) (by omega))
      have HP3 := Lib.hid p3
      have HP5 := Lib.hid p5
      rw [hW9]
      clear hW9 s0 s1 s2 s3 s4 sf z4 r0 r1 e0 e1 p3 p4 p5
      obtain ⟨s0, s1, s2, s3, s4⟩ := p1.cells
      obtain ⟨z4, r0, r1, e0, e1⟩ := p2
      refine bodyPost_ret (v := .tuple #[.agg #[.int .i64 d'.k, .int .i64 d'.n, .slice Ab6 nb6 cb6, .slice An6 nn6 cn6, .slice Ap6 p'.len cp6], .agg #[.int .i64 0, .int .i64 0]]) (by simp [results, Try.results25, go_sem, s0, s1, s2, s3, s4, r0, r1, z4]) rfl ?_
      refine ⟨HB9.out, .inr (.inr ⟨d', p', _, HF.out, HPT.out, rfl, ?_⟩)⟩
      exact HV6.out.keep (fun q hq => HP5.out q (by have := hq.1; simp only [alloc_size] at this; omega) (by have := hq.1; simp only [alloc_size] at this; omega)) (fun b hb => ⟨by have := hb.1; simp only [alloc_size] at this; omega, by rw [HP3.out]; exact hb.2⟩)
end Go.Proofs.Ytolognhjdmkohaa
