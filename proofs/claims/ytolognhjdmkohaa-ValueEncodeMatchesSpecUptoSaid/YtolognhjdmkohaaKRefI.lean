/-
  The reference: the encoding of a valid value.
-/
import Derived.Test.YtolognhjdmkohaaJ17
import Derived.Test.YtolognhjdmkohaaJ7
namespace Go.Proofs.Ytolognhjdmkohaa
open Go.RowKit
set_option linter.unusedVariables false
set_option linter.unusedSimpArgs false

def RencC (d : Nd) (p : VF) : Prop := nodeC d p.len = 0 → GoodF p → NdFits d → Fits p → p.len ≤ 1048576 → (encV d p).length ≤ 1099511627776 → ∀ (w : World) (v : Value), VIn w w.heap.size v d p → Calls Try.prog 18 #[v] w (Made w (encV d p))
theorem renc_pick {F : VF} {i : Nat} {d : Nd} {p r : VF} (h : VF.All RencC F) (hd : F.drop i = .cons d p r) (hg : GoodF F) (hf : Fits F) (hl : (encV d p).length ≤ 1099511627776) : ∀ (w : World) (v : Value), VIn w w.heap.size v d p → Calls Try.prog 18 #[v] w (Made w (encV d p)) := by
  have h1 := VF.all_drop h i
  have h2 := GoodF.drop F i hg
  rw [hd] at h1 h2
  have h3 := hf.at_ hd
  exact h1.1 h2.1 h2.2.1 h3.1 h3.2.2 h3.2.1 hl
def ReRel (W1 : World) (pre : List UInt8) (p : VF) (rc : Bool) (ns : List (List UInt8)) (o k : Value) (wr : World) : Prop :=
  ∃ (i : Nat) (A : Option Addr) (c : Nat), k = .int .i64 (i : Int) ∧ i ≤ p.len ∧ o = .slice A (pre ++ encP (p.take i) rc ns).length c ∧ wr.ownsRow W1.heap.size 5 1 (.slice A (pre ++ encP (p.take i) rc ns).length c) (pre ++ encP (p.take i) rc ns).length (bv (pre ++ encP (p.take i) rc ns)) ∧ Below W1.heap.size W1 wr
set_option maxRecDepth 100000 in
set_option maxHeartbeats 4000000 in
theorem renc_step (d : Nd) (p : VF) (hall : VF.All RencC p) : RencC d p := by
  intro hnode hG hd hf hp hlen w v hv
  obtain ⟨sb, sn, sp, rfl, Ab, nb, cb, An, nn, cn, Ap, cp, rfl, rfl, rfl, hbc, hnc, hpc, hpm, hrb, hrn, hpp⟩ := hv
  obtain ⟨⟨k1, k4⟩, hnn, hbs, hns, hpl, hn4, _, hall7, _⟩ := node_rules hnode
  have HRB := Lib.hid hrb
  have HRN := Lib.hid hrn
  have HPP := Lib.hid hpp
  have HALL := Lib.hid hall
  have HG := Lib.hid hG
  have HF := Lib.hid hf
  have HD := Lib.hid hd
  have hl1 := num_len d.k (by omega) (by omega)
  have hn1 := num_len d.n hd.1.2.2.1 hd.1.2.2.2
  have hnb : d.bs.length = nb := by have := hrb.len; rw [bv_len] at this; exact this
  have hb1 : nb ≤ 1048576 := by have := hd.2.1; omega
  have hnl : d.ns.length = nn := by have := hrn.len; rw [sv_len] at this; exact this
  have hnbd := hd.1.2.2
  clear hrb hrn hpp hall hG hf hd hbs hall7
  obtain ⟨W1, hW1⟩ : ∃ W1, w.alloc (.cells #[.int .i64 d.k, .int .i64 d.n, .slice Ab nb cb, .slice An nn cn, .slice Ap p.len cp] 26) = W1 := ⟨_, rfl⟩
  have HBX := Lib.hid (show Bx W1 w.heap.size (.int .i64 d.k) (.int .i64 d.n) (.slice Ab nb cb) (.slice An nn cn) (.slice Ap p.len cp) by rw [← hW1]; exact Bx.new _ _ _ _ _ _)
  have HB1 := Lib.hid (show Below w.heap.size w W1 by rw [← hW1]; exact bel1 _ _)
  have hz1 : W1.heap.size = w.heap.size + 1 := by rw [← hW1]; simp
  go_enter Try.func18, Try.ntmps18
  go_upto_region 1 with (fail)
  (try rw [hW1])
  clear hW1
  obtain ⟨q0, q1, q2, q3, q4⟩ := HBX.out.cells
  go_wp2_with fail
  refine (put_calls _ _ (by omega) (by omega)).mono ?_
  rintro e w2 ⟨A2, c2, rfl, hown2, hb2⟩
  have HO2 := Lib.hid hown2
  have HB2 := Lib.hid hb2
  obtain ⟨r0, r1, r2, r3, r4⟩ := (HBX.out.on hb2).cells
  have hz2 := hb2.size
  clear hown2 hb2 q0 q1 q2 q3 q4
  by_cases e1 : d.k = 1
  · have HE := Lib.hid (encV_num (p := p) e1)
    have e1' : (d.k == 1) = true := by simp [e1]
    clear e1
    go_wp2_with fail
    refine (put_calls _ _ hnbd.1 hnbd.2).mono ?_
    rintro e w3 ⟨A3, c3, rfl, hown3, hb3⟩
    have HO3 := Lib.hid hown3
    have HB3 := Lib.hid hb3
    have hz3 := hb3.size
    clear hown3 hb3
    go_wp2_with (at_builtin; refine wpList_app _ slB rfl (.tmp 11) (.tmp 14) rfl W1.heap.size A2 (num d.k).length c2 (bv (num d.k)) rfl (own_below HO2.out HB3.out (Nat.le_refl _)) w3.heap.size A3 (num d.n).length c3 (bv (num d.n)) rfl (Rd.of_own HO3.out) (bv_one _) (by omega) (by omega) ?_; intro A4 c4 w4 hown4 hb4)
    go_ret
    rw [HE.out]
    exact Made.as (own_mono hown4 (by omega)) rfl (by rw [bv_app]) (chain HB1.out ((chain HB2.out HB3.out).trans hb4))
  · have e1' : (d.k == 1) = false := by simp [e1]
    by_cases e2 : d.k = 2
    · have HE := Lib.hid (encV_bytes (p := p) e2)
      have e2' : (d.k == 2) = true := by simp [e2]
      have hcl := chunk_len d.bs (by omega)
      clear e1 e2
      go_wp2_with fail
      refine (putChunk_calls (bs := d.bs) (HRB.out.on (chain HB1.out HB2.out)) (by omega)).mono ?_
      rintro e w3 ⟨A3, c3, rfl, hown3, hb3⟩
      have HO3 := Lib.hid hown3
      have HB3 := Lib.hid hb3
      have hz3 := hb3.size
      clear hown3 hb3
      go_wp2_with (at_builtin; refine wpList_app _ slB rfl (.tmp 19) (.tmp 22) rfl W1.heap.size A2 (num d.k).length c2 (bv (num d.k)) rfl (own_below HO2.out HB3.out (Nat.le_refl _)) w3.heap.size A3 (chunk d.bs).length c3 (bv (chunk d.bs)) rfl (Rd.of_own HO3.out) (bv_one _) (by omega) (by omega) ?_; intro A4 c4 w4 hown4 hb4)
      go_ret
      rw [HE.out]
      exact Made.as (own_mono hown4 (by omega)) rfl (by rw [bv_app]) (chain HB1.out ((chain HB2.out HB3.out).trans hb4))
    · have e2' : (d.k == 2) = false := by simp [e2]
      have he := encV_parts (p := p) e1 e2
      have HE := Lib.hid he
      rw [he] at hlen
      obtain ⟨rc, hrc⟩ : ∃ rc, (d.k == 4) = rc := ⟨_, rfl⟩
      have hnames : rc = true → nn = p.len := fun h => by rw [← hnl]; exact hn4 (by subst h; simpa using hrc)
      rw [hrc] at hlen
      have HRC := Lib.hid hrc
      clear he
      have hnp := num_len (p.len : Int) (by omega) (by omega)
      simp only [List.length_append] at hlen
      obtain ⟨np, hnpe⟩ : ∃ np, p.len = np := ⟨_, rfl⟩
      have HNP := Lib.hid hnpe
      have HNM := Lib.hid hnames
      have HBXn := Lib.hid (show Bx W1 w.heap.size (.int .i64 d.k) (.int .i64 d.n) (.slice Ab nb cb) (.slice An nn cn) (.slice Ap np cp) by rw [← hnpe]; exact HBX.out)
      rw [hnpe] at hp hnp r4 hlen ⊢
      clear hnpe e1 e2 hpl hn4 hnames hnode hpc
      go_wp2_with fail
      refine (put_calls _ _ (by omega) (by omega)).mono ?_
      rintro e w3 ⟨A3, c3, rfl, hown3, hb3⟩
      have HO3 := Lib.hid hown3
      have HB3 := Lib.hid hb3
      have hz3 := hb3.size
      clear hown3 hb3
      go_wp2_with (at_builtin; refine wpList_app _ slB rfl (.tmp 24) (.tmp 28) rfl W1.heap.size A2 (num d.k).length c2 (bv (num d.k)) rfl (own_below HO2.out HB3.out (Nat.le_refl _)) w3.heap.size A3 (num (np : Int)).length c3 (bv (num (np : Int))) rfl (Rd.of_own HO3.out) (bv_one _) (by omega) (by omega) ?_; intro A4 c4 w4 hown4 hb4)
      have HB4 := Lib.hid (show Below W1.heap.size W1 w4 from (chain HB2.out HB3.out).trans hb4)
      have HO4 := Lib.hid hown4
      clear hown4 hb4
      obtain ⟨pre, hpre⟩ : ∃ pre, num d.k ++ num (np : Int) = pre := ⟨_, rfl⟩
      have hpl2 : (num d.k).length + (num (np : Int)).length = pre.length := by rw [← hpre]; simp
      have HPR := Lib.hid hpre
      have HPL2 := Lib.hid hpl2
      clear hpre hpl2
      go_loopw [3, 4] (ReRel W1 pre p rc d.ns) (fun _ k _ => np - (intOf k).toNat)
      case atStart =>
        have h := HO4.out
        rw [← bv_app, HPR.out, HPL2.out] at h
        exact ⟨0, A4, c4, rfl, Nat.zero_le _, by rw [VF.take_zero]; simp [encP, HPL2.out], by rw [VF.take_zero]; simpa [encP] using h, HB4.out⟩
      case round =>
        obtain ⟨i, A, c, rfl, hi, rfl, hown, hbel⟩ := hrel
        rw [HNP.out] at hi
        obtain ⟨acc, hacc⟩ : ∃ acc, pre ++ encP (p.take i) rc d.ns = acc := ⟨_, rfl⟩
        have hal : acc.length ≤ 1099511627776 := by
          rw [← hacc, List.length_append, ← HPL2.out]
          have := encP_len (F := p) (rc := rc) (ns := d.ns) (i := i)
          omega
        rw [hacc] at hown ⊢
        have HAC := Lib.hid hacc
        have HO := Lib.hid hown
        have HBE := Lib.hid hbel
        obtain ⟨x0, x1, x2, x3, x4⟩ := (HBXn.out.on hbel).cells
        have hzr := hbel.size
        clear hacc hown hbel r0 r1 r2 r3 r4
        by_cases hlt : i < np
        · obtain ⟨bp, op, hAp, hbp, hfin⟩ := HPP.out (by rw [HNP.out]; omega)
          subst hAp
          obtain ⟨d', p', hdr⟩ := VF.drop_cons (F := p) (i := i) (by rw [HNP.out]; exact hlt)
          obtain ⟨sb', sn', sp', hc5, hd'⟩ := hfin.at_ hdr
          have hel := encV_part (rc := rc) (ns := d.ns) hdr
          have hsu := encP_succ p rc d.ns i d' p' _ hdr
          have hsl := encP_len (F := p) (rc := rc) (ns := d.ns) (i := i + 1)
          have hele : (encV d' p').length ≤ 1099511627776 := by omega
          have HCT := Lib.hid (renc_pick HALL.out hdr HG.out HF.out hele)
          have hwW : Below w.heap.size w wr := chain HB1.out HBE.out
          have HV' : Hid (VIn wr wr.heap.size (.agg #[.int .i64 d'.k, .int .i64 d'.n, sb', sn', sp']) d' p') := Lib.hid ⟨sb', sn', sp', rfl, hd'.mono (fun q hq => hwW.cell hq) hwW.size (FIn.keep (fun q hq => hwW.cell hq) hwW.size p')⟩
          have HVW : Hid (VIn w w.heap.size (.agg #[.int .i64 d'.k, .int .i64 d'.n, sb', sn', sp']) d' p') := Lib.hid ⟨sb', sn', sp', rfl, hd'⟩
          obtain ⟨Ab', nb', cb', An', nn', cn', Ap', cp', rfl, rfl, rfl, _⟩ := hd'
          obtain ⟨k0, k1', k2, k3, k4'⟩ := hc5
          have v0 := (hwW.cell (p := ⟨bp, op + i * 5, none⟩) hbp).trans k0
          have v1 := (hwW.cell (p := ⟨bp, op + i * 5 + 1, none⟩) hbp).trans k1'
          have v2 := (hwW.cell (p := ⟨bp, op + i * 5 + 2, none⟩) hbp).trans k2
          have v3 := (hwW.cell (p := ⟨bp, op + i * 5 + 3, none⟩) hbp).trans k3
          have v4 := (hwW.cell (p := ⟨bp, op + i * 5 + 4, none⟩) hbp).trans k4'
          have HWW := Lib.hid hwW
          have HSU := Lib.hid hsu
          have hpart : (if rc = true then (chunk ((d.ns.drop i).headD [])).length else 0) + (encV d' p').length + acc.length ≤ 1099511627776 := by
            have h1 : pre.length + (encP (p.take (i + 1)) rc d.ns).length ≤ 1099511627776 := by have := HPL2.out; omega
            rw [hsu] at h1
            simp only [List.length_append] at h1
            have h2 : acc.length = pre.length + (encP (p.take i) rc d.ns).length := by rw [← HAC.out, List.length_append]
            cases rc <;> simp at h1 ⊢ <;> omega
          have hli : (i : Int) < (np : Int) := by omega
          have h0 : (0 : Int) ≤ (i : Int) := by omega
          clear hfin hdr hel hsu hsl k0 k1' k2 k3 k4' hwW
          cases rc with
          | false =>
            have hk4 : (d.k == 4) = false := HRC.out
            go_wp2_with fail
            refine (HCT.out _ _ HV'.out).mono ?_
            rintro e w5 ⟨A5, c5, rfl, hown5, hb5⟩
            have HO5 := Lib.hid hown5
            have HB5 := Lib.hid hb5
            have hz5 := hb5.size
            simp at hpart
            clear hown5 hb5
            go_wp2_with (at_builtin; refine wpList_app _ slB rfl (.tmp 49) (.tmp 55) rfl W1.heap.size A acc.length c (bv acc) rfl (own_below HO.out HB5.out (Nat.le_refl _)) w5.heap.size A5 (encV d' p').length c5 (bv (encV d' p')) rfl (Rd.of_own HO5.out) (bv_one _) (by omega) (by omega) ?_; intro A6 c6 w6 hown6 hb6)
            go_roundw
            case rel =>
              have e6 : pre ++ encP (p.take (i + 1)) false d.ns = acc ++ encV d' p' := by rw [HSU.out, ← HAC.out]; simp
              refine ⟨i + 1, A6, c6, by go_num, by rw [HNP.out]; omega, by rw [e6]; simp, ?_, (chain HBE.out HB5.out).trans hb6⟩
              rw [e6, List.length_append, bv_app]
              exact hown6
            case measure => simp [intOf]; omega
          | true =>
            have hk4 : (d.k == 4) = true := HRC.out
            have hnnp := HNM.out rfl
            rw [HNP.out] at hnnp
            have hnn1 : nn ≤ np := by omega
            have hnn2 : np ≤ nn := by omega
            clear hnnp
            obtain ⟨bn, on, s, hAn, hbn, hy, hcn⟩ := sv_at HRN.out (show i < nn by omega)
            subst hAn
            have HY := Lib.hid hy
            have u5 := (HWW.out.cell (p := ⟨bn, on + i, none⟩) hbn).trans hcn
            have hss : s.size ≤ 1048576 := by have := HD.out.2.2.2 _ (List.mem_of_getElem? hy); simpa using this
            have hin : (i : Int) < (nn : Int) := by omega
            have hhd : (d.ns.drop i).headD [] = s.data.toList := by rw [List.headD_eq_head?_getD, List.head?_drop, hy]; rfl
            rw [hhd] at hpart
            have HHD := Lib.hid hhd
            have hcv := run_bytes s
            clear hy hcn hhd
            go_wp2_with fail
            have hbw := bworld_below wr s
            have hbz := hbw.size
            refine (putChunk_calls (bs := s.data.toList) (bytes_rdg _ _ _ rfl) (by omega)).mono ?_
            rintro e w4 ⟨A4', c4', rfl, hown4, hb4⟩
            have HO4' := Lib.hid hown4
            have HB4' := Lib.hid (chain hbw hb4)
            have hz4 := HB4'.out.size
            have x4' := (HB4'.out.cell (p := ⟨w.heap.size, 4, none⟩) (by show w.heap.size < wr.heap.size; omega)).trans x4
            clear hown4 hb4 hbw
            simp only [if_true] at hpart
            go_wp2_with (at_builtin; refine wpList_app _ slB rfl (.tmp 40) (.tmp 47) rfl W1.heap.size A acc.length c (bv acc) rfl (own_below HO.out HB4'.out (Nat.le_refl _)) w4.heap.size A4' (chunk s.data.toList).length c4' (bv (chunk s.data.toList)) rfl (Rd.of_own HO4'.out) (bv_one _) (by omega) (by omega) ?_; intro A5' c5' w5' hown5' hb5'; have y4 := (hb5'.cell (p := ⟨w.heap.size, 4, none⟩) (by show w.heap.size < W1.heap.size; omega)).trans x4'; have z0 := (hb5'.cell (p := ⟨bp, op + i * 5, none⟩) (by show bp < W1.heap.size; omega)).trans ((HB4'.out.cell (p := ⟨bp, op + i * 5, none⟩) (by show bp < wr.heap.size; omega)).trans v0); have z1 := (hb5'.cell (p := ⟨bp, op + i * 5 + 1, none⟩) (by show bp < W1.heap.size; omega)).trans ((HB4'.out.cell (p := ⟨bp, op + i * 5 + 1, none⟩) (by show bp < wr.heap.size; omega)).trans v1); have z2 := (hb5'.cell (p := ⟨bp, op + i * 5 + 2, none⟩) (by show bp < W1.heap.size; omega)).trans ((HB4'.out.cell (p := ⟨bp, op + i * 5 + 2, none⟩) (by show bp < wr.heap.size; omega)).trans v2); have z3 := (hb5'.cell (p := ⟨bp, op + i * 5 + 3, none⟩) (by show bp < W1.heap.size; omega)).trans ((HB4'.out.cell (p := ⟨bp, op + i * 5 + 3, none⟩) (by show bp < wr.heap.size; omega)).trans v3); have z4 := (hb5'.cell (p := ⟨bp, op + i * 5 + 4, none⟩) (by show bp < W1.heap.size; omega)).trans ((HB4'.out.cell (p := ⟨bp, op + i * 5 + 4, none⟩) (by show bp < wr.heap.size; omega)).trans v4))
            have HO5' := Lib.hid hown5'
            have HB5' := Lib.hid ((chain HBE.out HB4'.out).trans hb5')
            have HV5 : Hid (VIn w5' w5'.heap.size (.agg #[.int .i64 d'.k, .int .i64 d'.n, .slice Ab' nb' cb', .slice An' nn' cn', .slice Ap' p'.len cp']) d' p') := Lib.hid (by
              have hq := HV'.out
              obtain ⟨_, _, _, hvq, hdq⟩ := HVW.out
              have hw5 : Below w.heap.size w w5' := HB1.out.trans (HB5'.out.mono (by omega))
              exact HVW.out.keep (fun q hq => hw5.cell hq) hw5.size)
            have hz5' := hb5'.size
            clear hown5' hb5'
            refine (HCT.out _ _ HV5.out).mono ?_
            rintro e w7 ⟨A7, c7, rfl, hown7, hb7⟩
            have HO7 := Lib.hid hown7
            have HB7 := Lib.hid hb7
            have hz7 := hb7.size
            clear hown7 hb7
            go_wp2_with (at_builtin; refine wpList_app _ slB rfl (.tmp 49) (.tmp 55) rfl W1.heap.size A5' (acc.length + (chunk s.data.toList).length) c5' (bv acc ++ bv (chunk s.data.toList)) rfl (own_below HO5'.out HB7.out (Nat.le_refl _)) w7.heap.size A7 (encV d' p').length c7 (bv (encV d' p')) rfl (Rd.of_own HO7.out) (bv_one _) (by omega) (by omega) ?_; intro A8 c8 w8 hown8 hb8)
            go_roundw
            case rel =>
              have e6 : pre ++ encP (p.take (i + 1)) true d.ns = acc ++ chunk s.data.toList ++ encV d' p' := by rw [HSU.out, ← HAC.out, HHD.out]; simp
              refine ⟨i + 1, A8, c8, by go_num, by rw [HNP.out]; omega, by rw [e6]; simp [Nat.add_assoc], ?_, (chain HB5'.out HB7.out).trans hb8⟩
              rw [e6, List.length_append, List.length_append, bv_app, bv_app]
              exact hown8
            case measure => simp [intOf]; omega
        · have HAL := Lib.hid (show p.take i = p from VF.take_all (by rw [HNP.out]; omega))
          go_wp2_with fail
          go_ret
          rw [HE.out]
          exact Made.as (own_mono HO.out (by omega)) rfl (by rw [← HAC.out, HAL.out, ← HPR.out, HRC.out, HNP.out]; simp) (chain HB1.out HBE.out)
theorem encoding_calls {w : World} {v : Value} {d : Nd} {p : VF} (hm : Mod d p) (hv : VIn w w.heap.size v d p) {m : Nat} (hc : chkF (.cons d p .nil) 0 1 = .inr m) : Calls Try.prog 18 #[v] w (Made w (encV d p)) := by
  have hG := chkF_good _ _ _ _ hc
  exact VF.all_each renc_step d p hG.1 hG.2.1 hm.nd hm.fp hm.pl hm.el w v hv
end Go.Proofs.Ytolognhjdmkohaa
