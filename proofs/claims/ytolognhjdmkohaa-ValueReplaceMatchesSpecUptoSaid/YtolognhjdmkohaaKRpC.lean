/-
  The contract of value.clone once more: the rows of the copy lie apart from one another.
-/
import Derived.Test.YtolognhjdmkohaaKRpB
import Derived.Deep.RegionLaw
namespace Go.Proofs.Ytolognhjdmkohaa
open Go.RowKit
set_option linter.unusedVariables false
set_option linter.unusedSimpArgs false

set_option maxRecDepth 100000 in
set_option maxHeartbeats 2000000 in
theorem cloneT_step (d : Nd) (p : VF) (hall : VF.All CloCT p) : CloCT d p := by
  intro hf hfp hpl w v hv
  have HV := Lib.hid hv
  obtain ⟨sb, sn, sp, rfl, Ab, nb, cb, An, nn, cn, Ap, cp, rfl, rfl, rfl, hbc, hnc, hpc, hpm, hrb, hrn, hp⟩ := hv
  have hnb : nb ≤ 1048576 := by have := hrb.len; rw [bv_len] at this; have := hf.2.1; omega
  have hnn : nn ≤ 1048576 := by have := hrn.len; rw [sv_len] at this; have := hf.2.2.1; omega
  have HP := Lib.hid hp
  have HFP := Lib.hid hfp
  have HALL := Lib.hid hall
  have HRB := Lib.hid hrb
  have HRN := Lib.hid hrn
  clear hrb hrn hp hf hfp hall
  obtain ⟨np, hnp⟩ : ∃ np, p.len = np := ⟨_, rfl⟩
  have HNP := Lib.hid hnp
  rw [hnp] at hpl hpc ⊢
  clear hnp
  go_enter Try.func55, Try.ntmps55
  go_wp2_with fail
  obtain ⟨W2, hW2⟩ : ∃ W2, (w.alloc (.cells #[.int .i64 d.k, .int .i64 d.n, .slice Ab nb cb, .slice An nn cn, .slice Ap np cp] 26)).alloc (.cells #[.int .i64 0, .int .i64 0, .slice none 0 0, .slice none 0 0, .slice none 0 0] 26) = W2 := ⟨_, rfl⟩
  have HB0 := Lib.hid (show Bx W2 w.heap.size (.int .i64 d.k) (.int .i64 d.n) (.slice Ab nb cb) (.slice An nn cn) (.slice Ap np cp) by rw [← hW2]; exact (Bx.new _ _ _ _ _ _).on (bel1 _ _))
  have HB1 := Lib.hid (show Bx W2 (w.heap.size + 1) (.int .i64 0) (.int .i64 0) (.slice none 0 0) (.slice none 0 0) (.slice none 0 0) by rw [← hW2, ← alloc_size w (.cells #[.int .i64 d.k, .int .i64 d.n, .slice Ab nb cb, .slice An nn cn, .slice Ap np cp] 26)]; exact Bx.new _ _ _ _ _ _)
  have HBW := Lib.hid (show Below w.heap.size w W2 by rw [← hW2]; exact bel2 _ _ _)
  have hz2 : w.heap.size + 2 ≤ W2.heap.size := by rw [← hW2]; simp
  rw [hW2]
  clear hW2
  obtain ⟨q0, q1, q2, q3, q4⟩ := HB0.out.cells
  go_upto_region 1 with (fail)
  go_cut [3] (fun t wx => ∃ g A1 c1 A2 c2, t = .pointer (some ⟨g, 0, none⟩) ∧ W2.heap.size ≤ g ∧ Bx wx g (.int .i64 d.k) (.int .i64 d.n) (.slice A1 nb c1) (.slice A2 nn c2) (.slice none 0 0) ∧ wx.ownsRow W2.heap.size 5 1 (.slice A1 nb c1) nb (bv d.bs) ∧ wx.ownsRow W2.heap.size 9 1 (.slice A2 nn c2) nn (sv d.ns) ∧ Below W2.heap.size W2 wx)
  case first =>
    have hc4 : C4 W2 w.heap.size (.int .i64 d.k) (.int .i64 d.n) (.slice Ab nb cb) (.slice An nn cn) := ⟨q0, q1, q2, q3⟩
    go_region_held3 (fun w' => w'.cell? ⟨w.heap.size, 0, none⟩ = some (.int .i64 d.k) ∧ w'.cell? ⟨w.heap.size, 1, none⟩ = some (.int .i64 d.n) ∧ w'.cell? ⟨w.heap.size, 2, none⟩ = some (.slice Ab nb cb) ∧ w'.cell? ⟨w.heap.size, 3, none⟩ = some (.slice An nn cn))
      (first
        | (with_reducible exact ⟨hc4.1, hc4.2.1, hc4.2.2.1, hc4.2.2.2⟩)
        | (with_reducible exact ⟨cell_drew (hc4.1), cell_drew (hc4.2.1), cell_drew (hc4.2.2.1), cell_drew (hc4.2.2.2)⟩)
        | (with_reducible exact ⟨cell_up (hc4.1), cell_up (hc4.2.1), cell_up (hc4.2.2.1), cell_up (hc4.2.2.2)⟩)
        | (with_reducible exact ⟨cell_drew (cell_up (hc4.1)), cell_drew (cell_up (hc4.2.1)), cell_drew (cell_up (hc4.2.2.1)), cell_drew (cell_up (hc4.2.2.2))⟩)
        | (with_reducible exact ⟨hc5.1, hc5.2.1, hc5.2.2.1, hc5.2.2.2⟩)
        | (with_reducible exact ⟨cell_drew (hc5.1), cell_drew (hc5.2.1), cell_drew (hc5.2.2.1), cell_drew (hc5.2.2.2)⟩)
        | (with_reducible exact ⟨cell_up (hc5.1), cell_up (hc5.2.1), cell_up (hc5.2.2.1), cell_up (hc5.2.2.2)⟩)
        | (with_reducible exact ⟨cell_drew (cell_up (hc5.1)), cell_drew (cell_up (hc5.2.1)), cell_drew (cell_up (hc5.2.2.1)), cell_drew (cell_up (hc5.2.2.2))⟩)
        | (with_reducible exact ⟨hc6.1, hc6.2.1, hc6.2.2.1, hc6.2.2.2⟩)
        | (with_reducible exact ⟨cell_drew (hc6.1), cell_drew (hc6.2.1), cell_drew (hc6.2.2.1), cell_drew (hc6.2.2.2)⟩)
        | (with_reducible exact ⟨cell_up (hc6.1), cell_up (hc6.2.1), cell_up (hc6.2.2.1), cell_up (hc6.2.2.2)⟩)
        | (with_reducible exact ⟨cell_drew (cell_up (hc6.1)), cell_drew (cell_up (hc6.2.1)), cell_drew (cell_up (hc6.2.2.1)), cell_drew (cell_up (hc6.2.2.2))⟩)
        | (have k6 := hc6.far5 (h := W2.heap.size) (x0 := .int .i64 d.k) (x1 := .int .i64 d.n) (x2 := .slice A3 nb c3) (x3 := .slice A4 nn c4) (x4 := .slice none 0 0) (by omega); with_reducible exact ⟨k6.1, k6.2.1, k6.2.2.1, k6.2.2.2⟩)
        | (have k6 := hc6.far5 (h := W2.heap.size) (x0 := .int .i64 d.k) (x1 := .int .i64 d.n) (x2 := .slice A3 nb c3) (x3 := .slice A4 nn c4) (x4 := .slice none 0 0) (by omega); with_reducible exact ⟨cell_drew (k6.1), cell_drew (k6.2.1), cell_drew (k6.2.2.1), cell_drew (k6.2.2.2)⟩)
        | (have k6 := hc6.far5 (h := w3.heap.size) (x0 := .int .i64 d.k) (x1 := .int .i64 d.n) (x2 := .slice A3 nb c3) (x3 := .slice A4 nn c4) (x4 := .slice none 0 0) (by omega); with_reducible exact ⟨k6.1, k6.2.1, k6.2.2.1, k6.2.2.2⟩)
        | (have k6 := hc6.far5 (h := w3.heap.size) (x0 := .int .i64 d.k) (x1 := .int .i64 d.n) (x2 := .slice A3 nb c3) (x3 := .slice A4 nn c4) (x4 := .slice none 0 0) (by omega); with_reducible exact ⟨cell_drew (k6.1), cell_drew (k6.2.1), cell_drew (k6.2.2.1), cell_drew (k6.2.2.2)⟩))
      (first
        | (go_at_call 70; refine (cloneB_calls (xs := d.bs) (by exact HRB.out.on (by repeat (first | exact HBW.out | refine Below.drew ?_ | refine bel_up ?_ _))) hnb).mono ?_; rintro e w3 ⟨A3, c3, rfl, hown3, hb3⟩; have hB3 : Below W2.heap.size W2 w3 := (by first | (with_reducible exact beldrewA hb3) | (with_reducible exact beldrew hb3)); have hc5 := c4_below hc4 hB3 (by omega); have hz3 := hB3.size; (first | ((with_reducible have o3 := bx_last hb3); have o3c := o3.cells; obtain ⟨v0, v1, v2, v3, v4⟩ := o3c; have o3f := o3.free) | skip))
        | (go_at_call 71; refine (cloneS_calls (xs := d.ns) (by exact HRN.out.on (chain HBW.out (by first | (with_reducible exact hB3) | exact bel_up hB3 _))) hnn).mono ?_; rintro e w4 ⟨A4, c4, rfl, hown4, hb4⟩; have hB4 : Below w3.heap.size w3 w4 := (by first | (with_reducible exact belA hb4) | (with_reducible exact hb4)); have hc6 := c4_below hc5 hB4 (by omega); have hz4 := hB4.size; (first | ((with_reducible have o4 := bx_last' hb4); have o4c := o4.cells; obtain ⟨u0, u1, u2, u3, u4⟩ := o4c; have o4f := o4.free) | (have o4 := o3.on hb4; have o4c := o4.cells; obtain ⟨u0, u1, u2, u3, u4⟩ := o4c; have o4f := o4.free) | skip)))
    all_goals go_wp2_with fail
    · go_meet
      exact ⟨w4.heap.size, A3, c3, A4, c4, rfl, by omega, Bx.new _ _ _ _ _ _, (own_below (own_mono hown3 (by exact Nat.le_refl _)) hB4 (Nat.le_refl _)).alloc _, (own_mono hown4 hz3).alloc _, (hB3.trans (hB4.mono hz3)).alloc (by omega) _⟩
    · go_meet
      exact ⟨w3.heap.size, A3, c3, A4, c4, rfl, hz3, o4.set5 _ _ _ _ _, own_ty5 (own_below (own_mono hown3 (by exact Nat.le_refl _)) hB4 (Nat.le_refl _)) o4.ty (by decide), own_ty5 (own_mono hown4 (by simp only [alloc_size]; omega)) o4.ty (by decide), below5 (hB3.trans (hB4.mono hz3)) hz3 _ _ _ _ _⟩
    · go_meet
      exact ⟨W2.heap.size, A3, c3, A4, c4, rfl, Nat.le_refl _, o4.set5 _ _ _ _ _, own_ty5 (own_below (own_mono hown3 (by simp only [World.size_drew, alloc_size]; omega)) hB4 (Nat.le_refl _)) o4.ty (by decide), own_ty5 (own_mono hown4 hz3) o4.ty (by decide), below5 (hB3.trans (hB4.mono hz3)) (Nat.le_refl _) _ _ _ _ _⟩
  case rest =>
    obtain ⟨g, A1, c1, A2, c2, rfl, hg, hbx, hob, hon, hbel⟩ := hcut
    have HBX := Lib.hid hbx
    have HOB := Lib.hid hob
    have HON := Lib.hid hon
    have HBE := Lib.hid hbel
    obtain ⟨_, _, _, _, r4⟩ := (HB0.out.below hbel (by omega)).cells
    have HRS := Lib.hid (HB1.out.below hbel (by omega))
    have hzc := hbel.size
    clear hbx hob hon hbel
    go_wp2_with fail
    go_loopw [20] (CloRelT W2 wc g d (.slice A1 nb c1) (.slice A2 nn c2) nb nn p) (fun k _ => np - (intOf k).toNat)
    case atStart => exact ⟨0, none, 0, [], rfl, Nat.zero_le _, HBX.out, World.ownsRow_nil _ _ _ _, by rw [VF.take_zero]; exact rfl, HOB.out, HON.out, HBE.out, Nat.le_refl _⟩
    case round =>
      obtain ⟨i, A, c, cs, rfl, hi, hbx, hrow, hfc, hob, hon, hbel, hzcr⟩ := hrel
      rw [HNP.out] at hi
      have hbxlt := hbx.lt
      have hgc : g < wc.heap.size := HBX.out.lt
      have H1 := Lib.hid hbx
      have H2 := Lib.hid hrow
      have H3 := Lib.hid hfc
      have H4 := Lib.hid hob
      have H5 := Lib.hid hon
      have H6 := Lib.hid hbel
      have HWR := Lib.hid (show Below w.heap.size w wr from chain HBW.out hbel)
      have hzr := hbel.size
      clear hbx hrow hfc hob hon hbel r4
      by_cases hlt : i < np
      · obtain ⟨b, o, hAp, hb, hfin⟩ := HP.out (by rw [HNP.out]; omega)
        subst hAp
        obtain ⟨d', p', hdr⟩ := VF.drop_cons (F := p) (i := i) (by rw [HNP.out]; exact hlt)
        obtain ⟨sb', sn', sp', ⟨k0, k1, k2, k3, k4⟩, hd'⟩ := hfin.at_ hdr
        have HV' : Hid (VIn w w.heap.size (.agg #[.int .i64 d'.k, .int .i64 d'.n, sb', sn', sp']) d' p') := Lib.hid ⟨sb', sn', sp', rfl, hd'⟩
        obtain ⟨Ab', nb', cb', An', nn', cn', Ap', cp', rfl, rfl, rfl, _⟩ := hd'
        have q0 := (HWR.out.cell (by exact hb)).trans k0
        have q1 := (HWR.out.cell (by exact hb)).trans k1
        have q2 := (HWR.out.cell (by exact hb)).trans k2
        have q3 := (HWR.out.cell (by exact hb)).trans k3
        have q4 := (HWR.out.cell (by exact hb)).trans k4
        have HCT := Lib.hid (cloT_pick (VF.all_drop HALL.out i) hdr (Fits.drop p i HFP.out))
        have HDR := Lib.hid hdr
        clear k0 k1 k2 k3 k4 hfin hdr
        have hli : (i : Int) < (np : Int) := by omega
        have h0 : (0 : Int) ≤ (i : Int) := by omega
        obtain ⟨_, _, _, _, t4⟩ := H1.out.cells
        go_upto_region 5 with (fail)
        obtain ⟨W5, hW5⟩ : ∃ W5, wr.alloc (.cells #[.int .i64 d'.k, .int .i64 d'.n, .slice Ab' nb' cb', .slice An' nn' cn', .slice Ap' p'.len cp'] 26) = W5 := ⟨_, rfl⟩
        have hz5 : W5.heap.size = wr.heap.size + 1 := by rw [← hW5]; simp
        have HB5 := Lib.hid (show Below wr.heap.size wr W5 by rw [← hW5]; exact bel1 _ _)
        obtain ⟨x0, x1, x2, x3, x4⟩ := (show Bx W5 wr.heap.size (.int .i64 d'.k) (.int .i64 d'.n) (.slice Ab' nb' cb') (.slice An' nn' cn') (.slice Ap' p'.len cp') by rw [← hW5]; exact Bx.new _ _ _ _ _ _).cells
        have t5 : W5.cell? ⟨g, 4, none⟩ = some (.slice A i c) := by rw [← hW5]; exact cell_up t4
        rw [hW5]
        have HZ5 := Lib.hid hz5
        clear hW5 hz5 q0 q1 q2 q3 q4 t4
        go_region_law (first
          | (refine step_app5 slV rfl (.tmp 25) (.tmp 28) rfl wc.heap.size A i c cs (by simp [Act.eval, Act.put]) (by exact (own_below H2.out HB6.out (Nat.le_refl _)).alloc _) w6.heap.size [.int .i64 d'.k, .int .i64 d'.n, .slice Ab6 nb6 cb6, .slice An6 nn6 cn6, .slice Ap6 p'.len cp6] (by simp [Act.eval, Act.put]) rfl (by exact news5 _ _ _ _ _ _ _) (by simp [Value.oneCell']) (by omega) (by simp only [alloc_size]; omega) (w6.heap.size + 1) (by simp only [alloc_size]) ?_; intro g' c' w7 hown7 hg7 hat hlt7; have hb7 := bx_grown (H1.out.on HB6.out) hg7 (fun e => by have := (H2.out.lt g e).1; omega); have hc7 := hb7.cells; obtain ⟨_, _, _, _, t7⟩ := hc7; have f7 := hb7.free 4)
          | (go_simp; go_at_call 55; refine (HCT.out _ _ (by exact (HV'.out.on (chain HWR.out HB5.out.drew)))).mono ?_; rintro e w6 ⟨v6, rfl, ⟨sb6, sn6, sp6, rfl, hd6⟩, hb6⟩; have HD6 := Lib.hid hd6; obtain ⟨Ab6, nb6, cb6, An6, nn6, cn6, Ap6, cp6, rfl, rfl, rfl, _⟩ := hd6; have HB6 := Lib.hid (show Below wr.heap.size wr w6 from chain HB5.out (beldrew hb6)); have hz6 : wr.heap.size + 1 ≤ w6.heap.size := (by have := hb6.size; have := HZ5.out; simp only [World.size_drew] at *; omega); have t6 := (hb6.cell (p := ⟨g, 4, none⟩) (by have := HZ5.out; simp only [World.size_drew]; omega)).trans t5; have t6' := fun ob => cell_up (o := ob) t6; clear hb6))
        all_goals go_wp2_with fail
        all_goals exact ⟨cloT_next H1.out H2.out H3.out H4.out H5.out H6.out hzcr hgc hg HDR.out (by rw [HNP.out]; exact hlt) HB6.out hz6 (by have h6 := HD6.out; rw [show W5.drew.heap.size = wr.heap.size + 1 from HZ5.out] at h6; exact h6) hg7 hown7 hat, by simp [intOf]; omega⟩
      · have HAL := Lib.hid (show p.take i = p from VF.take_all (by rw [HNP.out]; omega))
        have HIN := Lib.hid (show i = p.len by rw [HNP.out]; omega)
        obtain ⟨t0, t1, t2, t3, t4⟩ := H1.out.cells
        have HR := Lib.hid (HB1.out.below H6.out (by omega))
        obtain ⟨z0, z1, z2, z3, z4⟩ := HR.out.cells
        have zf := HR.out.free
        go_wp2_with fail
        obtain ⟨W9, hW9⟩ : ∃ W9, (((((wr.setCell ⟨w.heap.size + 1, 0, none⟩ (.int .i64 d.k)).setCell ⟨w.heap.size + 1, 1, none⟩ (.int .i64 d.n)).setCell ⟨w.heap.size + 1, 2, none⟩ (.slice A1 nb c1)).setCell ⟨w.heap.size + 1, 3, none⟩ (.slice A2 nn c2)).setCell ⟨w.heap.size + 1, 4, none⟩ (.slice A i c)) = W9 := ⟨_, rfl⟩
        have hb9 : Bx W9 (w.heap.size + 1) (.int .i64 d.k) (.int .i64 d.n) (.slice A1 nb c1) (.slice A2 nn c2) (.slice A i c) := by rw [← hW9]; exact HR.out.set5 _ _ _ _ _
        have HZ9 := Lib.hid (show W9.heap.size = wr.heap.size by rw [← hW9]; simp)
        have HC9 := Lib.hid (show ∀ k, k ≠ w.heap.size + 1 → W9.heap[k]? = wr.heap[k]? by rw [← hW9]; exact fun k hk => heap_set5 k hk)
        have HB9 := Lib.hid (show Below w.heap.size w W9 by rw [← hW9]; exact below5 HWR.out (by omega) _ _ _ _ _)
        rw [hW9]
        clear hW9 z0 z1 z2 z3 z4 zf t0 t1 t2 t3 t4
        have hl9 := hb9.lt
        obtain ⟨y0, y1, y2, y3, y4⟩ := hb9.cells
        refine bodyPost_ret (v := .agg #[.int .i64 d.k, .int .i64 d.n, .slice A1 nb c1, .slice A2 nn c2, .slice A i c]) (by simp [results, Try.results55, go_sem, y0, y1, y2, y3, y4, hl9]) rfl ?_
        refine ⟨_, rfl, ?_, HB9.out⟩
        have hrow := H2.out
        have hfc := H3.out
        rw [HAL.out] at hfc
        rw [HIN.out] at hrow hfc ⊢
        have hv := cloT_done (W2 := W2) hrow hfc H4.out H5.out hzc
        exact (hv.keep (fun k h1 h2 => HC9.out k (by omega))).wide (by omega) (by rw [HZ9.out]; exact Nat.le_refl _)
theorem cloneT_calls {d : Nd} {p : VF} {w : World} {v : Value} (hf : NdFits d) (hfp : Fits p) (hpl : p.len ≤ 1048576) (hv : VIn w w.heap.size v d p) : Calls Try.prog 55 #[v] w (CloEndT w d p) :=
  VF.all_each cloneT_step d p hf hfp hpl w v hv
end Go.Proofs.Ytolognhjdmkohaa
