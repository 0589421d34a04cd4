/-
  The reference: the encoding of a valid value.
-/
/-
  The reference: the comparison of values.
-/
/-
  The reference: the part of a value at a path.
-/
import Derived.Test.YtolognhjdmkohaaJ17
import Derived.Test.YtolognhjdmkohaaJ7
import Derived.Test.YtolognhjdmkohaaJ14
import Derived.Test.YtolognhjdmkohaaKRefG
import Derived.Test.YtolognhjdmkohaaJ9
namespace Go.Proofs.Ytolognhjdmkohaa
open Go.RowKit
set_option linter.unusedVariables false
set_option linter.unusedSimpArgs false

def RencC (d : Nd) (p : VF) : Prop := nodeC d p.len = 0 → GoodF p → NdFits d → Fits p → p.len ≤ 1048576 → (encV d p).length ≤ 1099511627776 → ∀ (w : World) (v : Value), VIn w w.heap.size v d p → Calls Try.prog 18 #[v] w (Made w (encV d p))
theorem renc_pick {F : VF} {i : Nat} {d : Nd} {p r : VF} (h : VF.All RencC F) (hd : F.drop i = .cons d p r) (hg : GoodF F) (hf : Fits F) (hl : (encV d p).length ≤ 1099511627776) : ∀ (w : World) (v : Value), VIn w w.heap.size v d p → Calls Try.prog 18 #[v] w (Made w (encV d p)) := by
  have h1 := VF.all_drop h i
  have h2 := GoodF.drop F i hg
  rw [hd] at h1 h2
  have h3 := hf.at_ hd
  exact h1.1 h2.1 h2.2.1 h3.1 h3.2.2 h3.2.1 hl
def ReRel (W1 : World) (pre : List UInt8) (p : VF) (rc : Bool) (ns : List (List UInt8)) (o k : Value) (wr : World) : Prop :=
  ∃ (i : Nat) (A : Option Addr) (c : Nat), k = .int .i64 (i : Int) ∧ i ≤ p.len ∧ o = .slice A (pre ++ encP (p.take i) rc ns).length c ∧ wr.ownsRow W1.heap.size 5 1 (.slice A (pre ++ encP (p.take i) rc ns).length c) (pre ++ encP (p.take i) rc ns).length (bv (pre ++ encP (p.take i) rc ns)) ∧ Below W1.heap.size W1 wr
set_option maxRecDepth 100000 in
set_option maxHeartbeats 4000000 in
theorem renc_step (d : Nd) (p : VF) (hall : VF.All RencC p) : RencC d p := by
  intro hnode hG hd hf hp hlen w v hv
  obtain ⟨sb, sn, sp, rfl, Ab, nb, cb, An, nn, cn, Ap, cp, rfl, rfl, rfl, hbc, hnc, hpc, hpm, hrb, hrn, hpp⟩ := hv
  obtain ⟨⟨k1, k4⟩, hnn, hbs, hns, hpl, hn4, _, hall7, _⟩ := node_rules hnode
  have HRB := Lib.hid hrb
  have HRN := Lib.hid hrn
  have HPP := Lib.hid hpp
  have HALL := Lib.hid hall
  have HG := Lib.hid hG
  have HF := Lib.hid hf
  have HD := Lib.hid hd
  have hl1 := num_len d.k (by omega) (by omega)
  have hn1 := num_len d.n hd.1.2.2.1 hd.1.2.2.2
  have hnb : d.bs.length = nb := by have := hrb.len; rw [bv_len] at this; exact this
  have hb1 : nb ≤ 1048576 := by have := hd.2.1; omega
  have hnl : d.ns.length = nn := by have := hrn.len; rw [sv_len] at this; exact this
  have hnbd := hd.1.2.2
  clear hrb hrn hpp hall hG hf hd hbs hall7
  obtain ⟨W1, hW1⟩ : ∃ W1, w.alloc (.cells #[.int .i64 d.k, .int .i64 d.n, .slice Ab nb cb, .slice An nn cn, .slice Ap p.len cp] 26) = W1 := ⟨_, rfl⟩
  have HBX := Lib.hid (show Bx W1 w.heap.size (.int .i64 d.k) (.int .i64 d.n) (.slice Ab nb cb) (.slice An nn cn) (.slice Ap p.len cp) by rw [← hW1]; exact Bx.new _ _ _ _ _ _)
  have HB1 := Lib.hid (show Below w.heap.size w W1 by rw [← hW1]; exact bel1 _ _)
  have hz1 : W1.heap.size = w.heap.size + 1 := by rw [← hW1]; simp
  go_enter Try.func18, Try.ntmps18
  go_upto_region 1 with (fail)
  (try rw [hW1])
  clear hW1
  obtain ⟨q0, q1, q2, q3, q4⟩ := HBX.out.cells
  go_wp2_with fail
  refine (put_calls _ _ (by omega) (by omega)).mono ?_
  rintro e w2 ⟨A2, c2, rfl, hown2, hb2⟩
  have HO2 := Lib.hid hown2
  have HB2 := Lib.hid hb2
  obtain ⟨r0, r1, r2, r3, r4⟩ := (HBX.out.on hb2).cells
  have hz2 := hb2.size
  clear hown2 hb2 q0 q1 q2 q3 q4
  by_cases e1 : d.k = 1
  · have HE := Lib.hid (encV_num (p := p) e1)
    have e1' : (d.k == 1) = true := by simp [e1]
    clear e1
    go_wp2_with fail
    refine (put_calls _ _ hnbd.1 hnbd.2).mono ?_
    rintro e w3 ⟨A3, c3, rfl, hown3, hb3⟩
    have HO3 := Lib.hid hown3
    have HB3 := Lib.hid hb3
    have hz3 := hb3.size
    clear hown3 hb3
    go_wp2_with (at_builtin; refine wpList_app _ slB rfl (.tmp 11) (.tmp 14) rfl W1.heap.size A2 (num d.k).length c2 (bv (num d.k)) rfl (own_below HO2.out HB3.out (Nat.le_refl _)) w3.heap.size A3 (num d.n).length c3 (bv (num d.n)) rfl (Rd.of_own HO3.out) (bv_one _) (by omega) (by omega) ?_; intro A4 c4 w4 hown4 hb4)
    go_ret
    rw [HE.out]
    exact Made.as (own_mono hown4 (by omega)) rfl (by rw [bv_app]) (chain HB1.out ((chain HB2.out HB3.out).trans hb4))
  · have e1' : (d.k == 1) = false := by simp [e1]
    by_cases e2 : d.k = 2
    · have HE := Lib.hid (encV_bytes (p := p) e2)
      have e2' : (d.k == 2) = true := by simp [e2]
      have hcl := chunk_len d.bs (by omega)
      clear e1 e2
      go_wp2_with fail
      refine (putChunk_calls (bs := d.bs) (HRB.out.on (chain HB1.out HB2.out)) (by omega)).mono ?_
      rintro e w3 ⟨A3, c3, rfl, hown3, hb3⟩
      have HO3 := Lib.hid hown3
      have HB3 := Lib.hid hb3
      have hz3 := hb3.size
      clear hown3 hb3
      go_wp2_with (at_builtin; refine wpList_app _ slB rfl (.tmp 19) (.tmp 22) rfl W1.heap.size A2 (num d.k).length c2 (bv (num d.k)) rfl (own_below HO2.out HB3.out (Nat.le_refl _)) w3.heap.size A3 (chunk d.bs).length c3 (bv (chunk d.bs)) rfl (Rd.of_own HO3.out) (bv_one _) (by omega) (by omega) ?_; intro A4 c4 w4 hown4 hb4)
      go_ret
      rw [HE.out]
      exact Made.as (own_mono hown4 (by omega)) rfl (by rw [bv_app]) (chain HB1.out ((chain HB2.out HB3.out).trans hb4))
    · have e2' : (d.k == 2) = false := by simp [e2]
      have he := encV_parts (p := p) e1 e2
      have HE := Lib.hid he
      rw [he] at hlen
      obtain ⟨rc, hrc⟩ : ∃ rc, (d.k == 4) = rc := ⟨_, rfl⟩
      have hnames : rc = true → nn = p.len := fun h => by rw [← hnl]; exact hn4 (by subst h; simpa using hrc)
      rw [hrc] at hlen
      have HRC := Lib.hid hrc
      clear he
      have hnp := num_len (p.len : Int) (by omega) (by omega)
      simp only [List.length_append] at hlen
      obtain ⟨np, hnpe⟩ : ∃ np, p.len = np := ⟨_, rfl⟩
      have HNP := Lib.hid hnpe
      have HNM := Lib.hid hnames
      have HBXn := Lib.hid (show Bx W1 w.heap.size (.int .i64 d.k) (.int .i64 d.n) (.slice Ab nb cb) (.slice An nn cn) (.slice Ap np cp) by rw [← hnpe]; exact HBX.out)
      rw [hnpe] at hp hnp r4 hlen ⊢
      clear hnpe e1 e2 hpl hn4 hnames hnode hpc
      go_wp2_with fail
      refine (put_calls _ _ (by omega) (by omega)).mono ?_
      rintro e w3 ⟨A3, c3, rfl, hown3, hb3⟩
      have HO3 := Lib.hid hown3
      have HB3 := Lib.hid hb3
      have hz3 := hb3.size
      clear hown3 hb3
      go_wp2_with (at_builtin; refine wpList_app _ slB rfl (.tmp 24) (.tmp 28) rfl W1.heap.size A2 (num d.k).length c2 (bv (num d.k)) rfl (own_below HO2.out HB3.out (Nat.le_refl _)) w3.heap.size A3 (num (np : Int)).length c3 (bv (num (np : Int))) rfl (Rd.of_own HO3.out) (bv_one _) (by omega) (by omega) ?_; intro A4 c4 w4 hown4 hb4)
      have HB4 := Lib.hid (show Below W1.heap.size W1 w4 from (chain HB2.out HB3.out).trans hb4)
      have HO4 := Lib.hid hown4
      clear hown4 hb4
      obtain ⟨pre, hpre⟩ : ∃ pre, num d.k ++ num (np : Int) = pre := ⟨_, rfl⟩
      have hpl2 : (num d.k).length + (num (np : Int)).length = pre.length := by rw [← hpre]; simp
      have HPR := Lib.hid hpre
      have HPL2 := Lib.hid hpl2
      clear hpre hpl2
      go_loopw [3, 4] (ReRel W1 pre p rc d.ns) (fun _ k _ => np - (intOf k).toNat)
      case atStart =>
        have h := HO4.out
        rw [← bv_app, HPR.out, HPL2.out] at h
        exact ⟨0, A4, c4, rfl, Nat.zero_le _, by rw [VF.take_zero]; simp [encP, HPL2.out], by rw [VF.take_zero]; simpa [encP] using h, HB4.out⟩
      case round =>
        obtain ⟨i, A, c, rfl, hi, rfl, hown, hbel⟩ := hrel
        rw [HNP.out] at hi
        obtain ⟨acc, hacc⟩ : ∃ acc, pre ++ encP (p.take i) rc d.ns = acc := ⟨_, rfl⟩
        have hal : acc.length ≤ 1099511627776 := by
          rw [← hacc, List.length_append, ← HPL2.out]
          have := encP_len (F := p) (rc := rc) (ns := d.ns) (i := i)
          omega
        rw [hacc] at hown ⊢
        have HAC := Lib.hid hacc
        have HO := Lib.hid hown
        have HBE := Lib.hid hbel
        obtain ⟨x0, x1, x2, x3, x4⟩ := (HBXn.out.on hbel).cells
        have hzr := hbel.size
        clear hacc hown hbel r0 r1 r2 r3 r4
        by_cases hlt : i < np
        · obtain ⟨bp, op, hAp, hbp, hfin⟩ := HPP.out (by rw [HNP.out]; omega)
          subst hAp
          obtain ⟨d', p', hdr⟩ := VF.drop_cons (F := p) (i := i) (by rw [HNP.out]; exact hlt)
          obtain ⟨sb', sn', sp', hc5, hd'⟩ := hfin.at_ hdr
          have hel := encV_part (rc := rc) (ns := d.ns) hdr
          have hsu := encP_succ p rc d.ns i d' p' _ hdr
          have hsl := encP_len (F := p) (rc := rc) (ns := d.ns) (i := i + 1)
          have hele : (encV d' p').length ≤ 1099511627776 := by omega
          have HCT := Lib.hid (renc_pick HALL.out hdr HG.out HF.out hele)
          have hwW : Below w.heap.size w wr := chain HB1.out HBE.out
          have HV' : Hid (VIn wr wr.heap.size (.agg #[.int .i64 d'.k, .int .i64 d'.n, sb', sn', sp']) d' p') := Lib.hid ⟨sb', sn', sp', rfl, hd'.mono (fun q hq => hwW.cell hq) hwW.size (FIn.keep (fun q hq => hwW.cell hq) hwW.size p')⟩
          have HVW : Hid (VIn w w.heap.size (.agg #[.int .i64 d'.k, .int .i64 d'.n, sb', sn', sp']) d' p') := Lib.hid ⟨sb', sn', sp', rfl, hd'⟩
          obtain ⟨Ab', nb', cb', An', nn', cn', Ap', cp', rfl, rfl, rfl, _⟩ := hd'
          obtain ⟨k0, k1', k2, k3, k4'⟩ := hc5
          have v0 := (hwW.cell (p := ⟨bp, op + i * 5, none⟩) hbp).trans k0
          have v1 := (hwW.cell (p := ⟨bp, op + i * 5 + 1, none⟩) hbp).trans k1'
          have v2 := (hwW.cell (p := ⟨bp, op + i * 5 + 2, none⟩) hbp).trans k2
          have v3 := (hwW.cell (p := ⟨bp, op + i * 5 + 3, none⟩) hbp).trans k3
          have v4 := (hwW.cell (p := ⟨bp, op + i * 5 + 4, none⟩) hbp).trans k4'
          have HWW := Lib.hid hwW
          have HSU := Lib.hid hsu
          have hpart : (if rc = true then (chunk ((d.ns.drop i).headD [])).length else 0) + (encV d' p').length + acc.length ≤ 1099511627776 := by
            have h1 : pre.length + (encP (p.take (i + 1)) rc d.ns).length ≤ 1099511627776 := by have := HPL2.out; omega
            rw [hsu] at h1
            simp only [List.length_append] at h1
            have h2 : acc.length = pre.length + (encP (p.take i) rc d.ns).length := by rw [← HAC.out, List.length_append]
            cases rc <;> simp at h1 ⊢ <;> omega
          have hli : (i : Int) < (np : Int) := by omega
          have h0 : (0 : Int) ≤ (i : Int) := by omega
          clear hfin hdr hel hsu hsl k0 k1' k2 k3 k4' hwW
          cases rc with
          | false =>
            have hk4 : (d.k == 4) = false := HRC.out
            go_wp2_with fail
            refine (HCT.out _ _ HV'.out).mono ?_
            rintro e w5 ⟨A5, c5, rfl, hown5, hb5⟩
            have HO5 := Lib.hid hown5
            have HB5 := Lib.hid hb5
            have hz5 := hb5.size
            simp at hpart
            clear hown5 hb5
            go_wp2_with (at_builtin; refine wpList_app _ slB rfl (.tmp 49) (.tmp 55) rfl W1.heap.size A acc.length c (bv acc) rfl (own_below HO.out HB5.out (Nat.le_refl _)) w5.heap.size A5 (encV d' p').length c5 (bv (encV d' p')) rfl (Rd.of_own HO5.out) (bv_one _) (by omega) (by omega) ?_; intro A6 c6 w6 hown6 hb6)
            go_roundw
            case rel =>
              have e6 : pre ++ encP (p.take (i + 1)) false d.ns = acc ++ encV d' p' := by rw [HSU.out, ← HAC.out]; simp
              refine ⟨i + 1, A6, c6, by go_num, by rw [HNP.out]; omega, by rw [e6]; simp, ?_, (chain HBE.out HB5.out).trans hb6⟩
              rw [e6, List.length_append, bv_app]
              exact hown6
            case measure => simp [intOf]; omega
          | true =>
            have hk4 : (d.k == 4) = true := HRC.out
            have hnnp := HNM.out rfl
            rw [HNP.out] at hnnp
            have hnn1 : nn ≤ np := by omega
            have hnn2 : np ≤ nn := by omega
            clear hnnp
            obtain ⟨bn, on, s, hAn, hbn, hy, hcn⟩ := sv_at HRN.out (show i < nn by omega)
            subst hAn
            have HY := Lib.hid hy
            have u5 := (HWW.out.cell (p := ⟨bn, on + i, none⟩) hbn).trans hcn
            have hss : s.size ≤ 1048576 := by have := HD.out.2.2.2 _ (List.mem_of_getElem? hy); simpa using this
            have hin : (i : Int) < (nn : Int) := by omega
            have hhd : (d.ns.drop i).headD [] = s.data.toList := by rw [List.headD_eq_head?_getD, List.head?_drop, hy]; rfl
            rw [hhd] at hpart
            have HHD := Lib.hid hhd
            have hcv := run_bytes s
            clear hy hcn hhd
            go_wp2_with fail
            have hbw := bworld_below wr s
            have hbz := hbw.size
            refine (putChunk_calls (bs := s.data.toList) (bytes_rdg _ _ _ rfl) (by omega)).mono ?_
            rintro e w4 ⟨A4', c4', rfl, hown4, hb4⟩
            have HO4' := Lib.hid hown4
            have HB4' := Lib.hid (chain hbw hb4)
            have hz4 := HB4'.out.size
            have x4' := (HB4'.out.cell (p := ⟨w.heap.size, 4, none⟩) (by show w.heap.size < wr.heap.size; omega)).trans x4
            clear hown4 hb4 hbw
            simp only [if_true] at hpart
            go_wp2_with (at_builtin; refine wpList_app _ slB rfl (.tmp 40) (.tmp 47) rfl W1.heap.size A acc.length c (bv acc) rfl (own_below HO.out HB4'.out (Nat.le_refl _)) w4.heap.size A4' (chunk s.data.toList).length c4' (bv (chunk s.data.toList)) rfl (Rd.of_own HO4'.out) (bv_one _) (by omega) (by omega) ?_; intro A5' c5' w5' hown5' hb5'; have y4 := (hb5'.cell (p := ⟨w.heap.size, 4, none⟩) (by show w.heap.size < W1.heap.size; omega)).trans x4'; have z0 := (hb5'.cell (p := ⟨bp, op + i * 5, none⟩) (by show bp < W1.heap.size; omega)).trans ((HB4'.out.cell (p := ⟨bp, op + i * 5, none⟩) (by show bp < wr.heap.size; omega)).trans v0); have z1 := (hb5'.cell (p := ⟨bp, op + i * 5 + 1, none⟩) (by show bp < W1.heap.size; omega)).trans ((HB4'.out.cell (p := ⟨bp, op + i * 5 + 1, none⟩) (by show bp < wr.heap.size; omega)).trans v1); have z2 := (hb5'.cell (p := ⟨bp, op + i * 5 + 2, none⟩) (by show bp < W1.heap.size; omega)).trans ((HB4'.out.cell (p := ⟨bp, op + i * 5 + 2, none⟩) (by show bp < wr.heap.size; omega)).trans v2); have z3 := (hb5'.cell (p := ⟨bp, op + i * 5 + 3, none⟩) (by show bp < W1.heap.size; omega)).trans ((HB4'.out.cell (p := ⟨bp, op + i * 5 + 3, none⟩) (by show bp < wr.heap.size; omega)).trans v3); have z4 := (hb5'.cell (p := ⟨bp, op + i * 5 + 4, none⟩) (by show bp < W1.heap.size; omega)).trans ((HB4'.out.cell (p := ⟨bp, op + i * 5 + 4, none⟩) (by show bp < wr.heap.size; omega)).trans v4))
            have HO5' := Lib.hid hown5'
            have HB5' := Lib.hid ((chain HBE.out HB4'.out).trans hb5')
            have HV5 : Hid (VIn w5' w5'.heap.size (.agg #[.int .i64 d'.k, .int .i64 d'.n, .slice Ab' nb' cb', .slice An' nn' cn', .slice Ap' p'.len cp']) d' p') := Lib.hid (by
              have hq := HV'.out
              obtain ⟨_, _, _, hvq, hdq⟩ := HVW.out
              have hw5 : Below w.heap.size w w5' := HB1.out.trans (HB5'.out.mono (by omega))
              exact HVW.out.keep (fun q hq => hw5.cell hq) hw5.size)
            have hz5' := hb5'.size
            clear hown5' hb5'
            refine (HCT.out _ _ HV5.out).mono ?_
            rintro e w7 ⟨A7, c7, rfl, hown7, hb7⟩
            have HO7 := Lib.hid hown7
            have HB7 := Lib.hid hb7
            have hz7 := hb7.size
            clear hown7 hb7
            go_wp2_with (at_builtin; refine wpList_app _ slB rfl (.tmp 49) (.tmp 55) rfl W1.heap.size A5' (acc.length + (chunk s.data.toList).length) c5' (bv acc ++ bv (chunk s.data.toList)) rfl (own_below HO5'.out HB7.out (Nat.le_refl _)) w7.heap.size A7 (encV d' p').length c7 (bv (encV d' p')) rfl (Rd.of_own HO7.out) (bv_one _) (by omega) (by omega) ?_; intro A8 c8 w8 hown8 hb8)
            go_roundw
            case rel =>
              have e6 : pre ++ encP (p.take (i + 1)) true d.ns = acc ++ chunk s.data.toList ++ encV d' p' := by rw [HSU.out, ← HAC.out, HHD.out]; simp
              refine ⟨i + 1, A8, c8, by go_num, by rw [HNP.out]; omega, by rw [e6]; simp [Nat.add_assoc], ?_, (chain HB5'.out HB7.out).trans hb8⟩
              rw [e6, List.length_append, List.length_append, bv_app, bv_app]
              exact hown8
            case measure => simp [intOf]; omega
        · have HAL := Lib.hid (show p.take i = p from VF.take_all (by rw [HNP.out]; omega))
          go_wp2_with fail
          go_ret
          rw [HE.out]
          exact Made.as (own_mono HO.out (by omega)) rfl (by rw [← HAC.out, HAL.out, ← HPR.out, HRC.out, HNP.out]; simp) (chain HB1.out HBE.out)
theorem encoding_calls {w : World} {v : Value} {d : Nd} {p : VF} (hm : Mod d p) (hv : VIn w w.heap.size v d p) {m : Nat} (hc : chkF (.cons d p .nil) 0 1 = .inr m) : Calls Try.prog 18 #[v] w (Made w (encV d p)) := by
  have hG := chkF_good _ _ _ _ hc
  exact VF.all_each renc_step d p hG.1 hG.2.1 hm.nd hm.fp hm.pl hm.el w v hv
end Go.Proofs.Ytolognhjdmkohaa
namespace Go.Proofs.Ytolognhjdmkohaa
open Go.RowKit
set_option linter.unusedVariables false
set_option linter.unusedSimpArgs false

/-- two values, field by field -/
def sameF : VF → VF → Bool
  | .nil, .nil => true
  | .cons d p r, .cons d' p' r' => (d.k == d'.k && d.n == d'.n && d.bs == d'.bs && d.ns == d'.ns && (p.len == p'.len && sameF p p')) && sameF r r'
  | _, _ => false
def ndEq (d d' : Nd) : Bool := d.k == d'.k && d.n == d'.n && d.bs == d'.bs && d.ns == d'.ns
def sameV (d : Nd) (p : VF) (d' : Nd) (p' : VF) : Bool := d.k == d'.k && d.n == d'.n && d.bs == d'.bs && d.ns == d'.ns && (p.len == p'.len && sameF p p')
theorem sameF_cons (d : Nd) (p r : VF) (d' : Nd) (p' r' : VF) : sameF (.cons d p r) (.cons d' p' r') = (sameV d p d' p' && sameF r r') := rfl
theorem sameF_len : ∀ (F G : VF), sameF F G = true → F.len = G.len := by
  intro F
  induction F with
  | nil => intro G h; cases G with
    | nil => rfl
    | cons => cases h
  | cons d p r _ ih => intro G h; cases G with
    | nil => cases h
    | cons d' p' r' =>
      rw [sameF_cons, Bool.and_eq_true] at h
      simp only [VF.len, ih r' h.2]
theorem sameF_iff : ∀ (F G : VF), sameF F G = true ↔ F = G := by
  intro F
  induction F with
  | nil => intro G; cases G with
    | nil => simp [sameF]
    | cons => simp [sameF]
  | cons d p r ih1 ih2 => intro G; cases G with
    | nil => simp [sameF]
    | cons d' p' r' =>
      rw [sameF_cons, sameV]
      simp only [Bool.and_eq_true, beq_iff_eq, ih1, ih2, VF.cons.injEq]
      constructor
      · rintro ⟨⟨⟨⟨⟨h1, h2⟩, h3⟩, h4⟩, h5, h6⟩, h7⟩
        obtain ⟨a, b, c, e⟩ := d
        obtain ⟨a', b', c', e'⟩ := d'
        simp only at h1 h2 h3 h4
        subst h1 h2 h3 h4
        exact ⟨rfl, h6, h7⟩
      · rintro ⟨rfl, rfl, rfl⟩
        exact ⟨⟨⟨⟨⟨rfl, rfl⟩, rfl⟩, rfl⟩, rfl, rfl⟩, rfl⟩
theorem sameV_iff (d : Nd) (p : VF) (d' : Nd) (p' : VF) : sameV d p d' p' = true ↔ d = d' ∧ p = p' := by
  have h := sameF_iff (.cons d p .nil) (.cons d' p' .nil)
  rw [sameF_cons, show sameF .nil .nil = true from rfl, Bool.and_true] at h
  rw [h]
  simp
theorem sameF_part : ∀ (F G : VF) (i : Nat) (d : Nd) (p r : VF) (d' : Nd) (p' r' : VF), sameF (F.take i) (G.take i) = true → F.drop i = .cons d p r → G.drop i = .cons d' p' r' → sameF (F.take (i + 1)) (G.take (i + 1)) = sameV d p d' p' := by
  intro F
  induction F with
  | nil => intro G i d p r d' p' r' _ h; cases i <;> cases h
  | cons d0 p0 r0 _ ih =>
    intro G i d p r d' p' r' h h1 h2
    cases G with
    | nil => cases i <;> cases h2
    | cons e0 q0 s0 =>
      cases i with
      | zero =>
        rw [VF.drop_zero] at h1 h2
        cases h1
        cases h2
        simp only [VF.take, VF.take_zero, sameF_cons]
        simp [sameF]
      | succ i =>
        have h' : sameF (.cons d0 p0 (r0.take i)) (.cons e0 q0 (s0.take i)) = true := h
        rw [sameF_cons, Bool.and_eq_true] at h'
        show sameF (.cons d0 p0 (r0.take (i + 1))) (.cons e0 q0 (s0.take (i + 1))) = _
        rw [sameF_cons, h'.1, Bool.true_and]
        exact ih s0 i d p r d' p' r' h'.2 h1 h2
theorem sameF_bad : ∀ (F G : VF) (i : Nat), F.len = G.len → sameF (F.take i) (G.take i) = false → sameF F G = false := by
  intro F
  induction F with
  | nil => intro G i hl h; cases G with
    | nil => cases i <;> cases h
    | cons => simp [VF.len] at hl
  | cons d p r _ ih => intro G i hl h; cases G with
    | nil => simp [VF.len] at hl
    | cons d' p' r' =>
      cases i with
      | zero => rw [VF.take_zero, VF.take_zero] at h; cases h
      | succ i =>
        have h' : sameF (.cons d p (r.take i)) (.cons d' p' (r'.take i)) = false := h
        rw [sameF_cons] at h' ⊢
        cases hs : sameV d p d' p' with
        | false => rfl
        | true =>
          rw [hs, Bool.true_and] at h'
          rw [Bool.true_and]
          exact ih r' i (by simpa [VF.len] using hl) h'
theorem hd_on' {w w' : World} {d : Nd} {p : VF} {sb sn sp : Value} (h : Hd w w.heap.size d p.len (FIn w w.heap.size p) sb sn sp) (hb : Below w.heap.size w w') : Hd w' w'.heap.size d p.len (FIn w' w'.heap.size p) sb sn sp :=
  h.mono (fun q hq => hb.cell hq) hb.size (FIn.keep (fun q hq => hb.cell hq) hb.size p)
def SmC (d : Nd) (p : VF) : Prop := p.len ≤ 1048576 → Fits p → d.ns.length ≤ 1048576 → ∀ (d' : Nd) (p' : VF) (w : World) (v v' : Value), p'.len ≤ 1048576 → Fits p' → VIn w w.heap.size v d p → VIn w w.heap.size v' d' p' → Calls Try.prog 21 #[v, v'] w fun e w' => e = .returned (.bool (sameV d p d' p')) ∧ Below w.heap.size w w'
def SmRel (W2 : World) (p p' : VF) (k : Value) (wr : World) : Prop := ∃ i : Nat, k = .int .i64 (i : Int) ∧ i ≤ p.len ∧ sameF (p.take i) (p'.take i) = true ∧ Below W2.heap.size W2 wr
set_option maxRecDepth 100000 in
set_option maxHeartbeats 4000000 in
theorem same_step (d : Nd) (p : VF) (hall : VF.All SmC p) : SmC d p := by
  intro hpl hfp hnl d' p' w v v' hpl' hfp' hv hv'
  have HFP' := Lib.hid hfp'
  clear hfp'
  have HALL := Lib.hid hall
  have HFP := Lib.hid hfp
  obtain ⟨sb, sn, sp, rfl, Ab, nb, cb, An, nn, cn, Ap, cp, rfl, rfl, rfl, _, _, _, _, hrb, hrn, hpp⟩ := hv
  obtain ⟨sb', sn', sp', rfl, Ab', nb', cb', An', nn', cn', Ap', cp', rfl, rfl, rfl, _, _, _, _, hrb', hrn', hpp'⟩ := hv'
  have hn1 : nn ≤ 1048576 := by have := hrn.len; rw [sv_len] at this; omega
  have HRB := Lib.hid hrb
  have HRN := Lib.hid hrn
  have HPP := Lib.hid hpp
  have HRB' := Lib.hid hrb'
  have HRN' := Lib.hid hrn'
  have HPP' := Lib.hid hpp'
  clear hrb hrn hpp hrb' hrn' hpp' hall hfp hnl
  obtain ⟨np, hnp⟩ : ∃ np, p.len = np := ⟨_, rfl⟩
  obtain ⟨np', hnp'⟩ : ∃ np', p'.len = np' := ⟨_, rfl⟩
  have HNP := Lib.hid hnp
  have HNP' := Lib.hid hnp'
  rw [hnp] at hpl
  rw [hnp'] at hpl'
  obtain ⟨W2, hW2⟩ : ∃ W2, (w.alloc (.cells #[.int .i64 d.k, .int .i64 d.n, .slice Ab nb cb, .slice An nn cn, .slice Ap np cp] 26)).alloc (.cells #[.int .i64 d'.k, .int .i64 d'.n, .slice Ab' nb' cb', .slice An' nn' cn', .slice Ap' np' cp'] 26) = W2 := ⟨_, rfl⟩
  have HX := Lib.hid (show Bx W2 w.heap.size (.int .i64 d.k) (.int .i64 d.n) (.slice Ab nb cb) (.slice An nn cn) (.slice Ap np cp) by rw [← hW2]; exact (Bx.new _ _ _ _ _ _).on (bel1 _ _))
  have HX' := Lib.hid (show Bx W2 (w.heap.size + 1) (.int .i64 d'.k) (.int .i64 d'.n) (.slice Ab' nb' cb') (.slice An' nn' cn') (.slice Ap' np' cp') by
    rw [← hW2, ← alloc_size w (.cells #[.int .i64 d.k, .int .i64 d.n, .slice Ab nb cb, .slice An nn cn, .slice Ap np cp] 26)]; exact Bx.new _ _ _ _ _ _)
  have HB2 := Lib.hid (show Below w.heap.size w W2 by rw [← hW2]; exact bel2 _ _ _)
  have hz2 : W2.heap.size = w.heap.size + 1 + 1 := by rw [← hW2]; simp
  obtain ⟨q0, q1, q2, q3, q4⟩ := HX.out.cells
  obtain ⟨r0, r1, r2, r3, r4⟩ := HX'.out.cells
  have HS := Lib.hid (show sameV d p d' p' = (d.k == d'.k && d.n == d'.n && d.bs == d'.bs && d.ns == d'.ns && (np == np' && sameF p p')) by rw [← hnp, ← hnp']; rfl)
  rw [hnp, hnp']
  clear hnp hnp'
  go_enter Try.func21, Try.ntmps21
  go_upto_region 1 with (fail)
  (try rw [hW2])
  clear hW2
  by_cases hk : d.k = d'.k
  · have hk' : (d.k != d'.k) = false := by simp [hk]
    by_cases hn : d.n = d'.n
    · have hn' : (d.n != d'.n) = false := by simp [hn]
      cases hb : (d.bs == d'.bs)
      · have HK := Lib.hid (show sameV d p d' p' = false by rw [HS.out, hb]; simp)
        have HBB := Lib.hid (show Calls Try.prog 17 #[.slice Ab nb cb, .slice Ab' nb' cb'] W2 fun e w' => e = .returned (.bool false) ∧ W2 = w' by have h := bytes_calls (c := cb) (c' := cb') (HRB.out.on HB2.out) (HRB'.out.on HB2.out); rw [hb] at h; exact h)
        clear hk hn hb
        go_wp2_with (go_at_call 17; refine HBB.out.mono ?_; rintro e w' ⟨rfl, rfl⟩)
        go_ret
        exact ⟨by rw [HK.out]; rfl, HB2.out⟩
      · have HBB := Lib.hid (show Calls Try.prog 17 #[.slice Ab nb cb, .slice Ab' nb' cb'] W2 fun e w' => e = .returned (.bool true) ∧ W2 = w' by have h := bytes_calls (c := cb) (c' := cb') (HRB.out.on HB2.out) (HRB'.out.on HB2.out); rw [hb] at h; exact h)
        cases hs : (d.ns == d'.ns)
        · have HK := Lib.hid (show sameV d p d' p' = false by rw [HS.out, hs]; simp)
          have HSS := Lib.hid (show Calls Try.prog 52 #[.slice An nn cn, .slice An' nn' cn'] W2 (Quiet W2 (.bool false)) by have h := strings_calls (c := cn) (c' := cn') (HRN.out.on HB2.out) (HRN'.out.on HB2.out) (by omega); rw [hs] at h; exact h)
          clear hk hn hb hs
          go_wp2_with (first
            | (go_at_call 17; refine HBB.out.mono ?_; rintro e w' ⟨rfl, rfl⟩)
            | (go_at_call 52; refine HSS.out.mono ?_; rintro e w' ⟨rfl, nq, rfl⟩))
          go_ret
          exact ⟨by rw [HK.out]; rfl, HB2.out.trans ⟨rfl, rfl, rfl, Nat.le_refl _, fun _ _ => rfl⟩⟩
        · have HSS := Lib.hid (show Calls Try.prog 52 #[.slice An nn cn, .slice An' nn' cn'] W2 (Quiet W2 (.bool true)) by have h := strings_calls (c := cn) (c' := cn') (HRN.out.on HB2.out) (HRN'.out.on HB2.out) (by omega); rw [hs] at h; exact h)
          have HS1 := Lib.hid (show sameV d p d' p' = (np == np' && sameF p p') by rw [HS.out, hb, hs, hk, hn]; simp)
          clear hk hn hb hs
          by_cases hl : np = np'
          · have hl' : ((np : Int) != (np' : Int)) = false := by simp [hl]
            have HS2 := Lib.hid (show sameV d p d' p' = sameF p p' by rw [HS1.out, hl]; simp)
            have HLE := Lib.hid hl
            clear hl
            go_wp2_with (first
              | (go_at_call 17; refine HBB.out.mono ?_; rintro e w' ⟨rfl, rfl⟩)
              | (go_at_call 52; refine HSS.out.mono ?_; rintro e w' ⟨rfl, nq, rfl⟩))
            go_loopw [5] (SmRel W2 p p') (fun k _ => np - (intOf k).toNat)
            case atStart => exact ⟨0, rfl, Nat.zero_le _, by rw [VF.take_zero, VF.take_zero]; rfl, ⟨rfl, rfl, rfl, Nat.le_refl _, fun _ _ => rfl⟩⟩
            case round =>
              obtain ⟨i, rfl, hi, hsm, hbr⟩ := hrel
              rw [HNP.out] at hi
              have HSM := Lib.hid hsm
              have HBR := Lib.hid hbr
              obtain ⟨x0, x1, x2, x3, x4⟩ := (HX.out.on hbr).cells
              obtain ⟨y0, y1, y2, y3, y4⟩ := (HX'.out.on hbr).cells
              clear hsm hbr q0 q1 q2 q3 q4 r0 r1 r2 r3 r4
              by_cases hlt : i < np
              · have hww : Below w.heap.size w wr := chain HB2.out HBR.out
                have HWW := Lib.hid hww
                have hlt' : i < np' := by have := HLE.out; omega
                obtain ⟨b, o, hA, hbA, hfin⟩ := HPP.out (by rw [HNP.out]; omega)
                obtain ⟨b', o', hA', hbA', hfin'⟩ := HPP'.out (by rw [HNP'.out]; omega)
                subst hA hA'
                obtain ⟨d1, p1, hdr⟩ := VF.drop_cons (F := p) (i := i) (by rw [HNP.out]; exact hlt)
                obtain ⟨d1', p1', hdr'⟩ := VF.drop_cons (F := p') (i := i) (by rw [HNP'.out]; exact hlt')
                obtain ⟨tb, tn, tp, ⟨k0, k1, k2, k3, k4⟩, hd1⟩ := hfin.at_ hdr
                obtain ⟨tb', tn', tp', ⟨l0, l1, l2, l3, l4⟩, hd1'⟩ := hfin'.at_ hdr'
                have HV1 := Lib.hid (show VIn wr wr.heap.size (.agg #[.int .i64 d1.k, .int .i64 d1.n, tb, tn, tp]) d1 p1 from ⟨tb, tn, tp, rfl, hd_on' hd1 hww⟩)
                have HV1' := Lib.hid (show VIn wr wr.heap.size (.agg #[.int .i64 d1'.k, .int .i64 d1'.n, tb', tn', tp']) d1' p1' from ⟨tb', tn', tp', rfl, hd_on' hd1' hww⟩)
                obtain ⟨Bb, ob, eb, Bn, on, en, Bp, ep, rfl, rfl, rfl, _⟩ := hd1
                obtain ⟨Bb', ob', eb', Bn', on', en', Bp', ep', rfl, rfl, rfl, _⟩ := hd1'
                have HPL1 := Lib.hid (show p1.len ≤ 1048576 ∧ Fits p1 ∧ d1.ns.length ≤ 1048576 from ⟨(HFP.out.at_ hdr).2.1, (HFP.out.at_ hdr).2.2, (HFP.out.at_ hdr).1.2.2.1⟩)
                have HDR' := Lib.hid hdr'
                have HPL1' := Lib.hid (show p1'.len ≤ 1048576 from (HFP'.out.at_ hdr').2.1)
                have HCT := Lib.hid (show SmC d1 p1 by have h := VF.all_drop HALL.out i; rw [hdr] at h; exact h.1)
                have HP1 := Lib.hid (sameF_part p p' i d1 p1 _ d1' p1' _ HSM.out hdr hdr')
                have v0 := (hww.cell (p := ⟨b, o + i * 5, none⟩) hbA).trans k0
                have v1 := (hww.cell (p := ⟨b, o + i * 5 + 1, none⟩) hbA).trans k1
                have v2 := (hww.cell (p := ⟨b, o + i * 5 + 2, none⟩) hbA).trans k2
                have v3 := (hww.cell (p := ⟨b, o + i * 5 + 3, none⟩) hbA).trans k3
                have v4 := (hww.cell (p := ⟨b, o + i * 5 + 4, none⟩) hbA).trans k4
                have u0 := (hww.cell (p := ⟨b', o' + i * 5, none⟩) hbA').trans l0
                have u1 := (hww.cell (p := ⟨b', o' + i * 5 + 1, none⟩) hbA').trans l1
                have u2 := (hww.cell (p := ⟨b', o' + i * 5 + 2, none⟩) hbA').trans l2
                have u3 := (hww.cell (p := ⟨b', o' + i * 5 + 3, none⟩) hbA').trans l3
                have u4 := (hww.cell (p := ⟨b', o' + i * 5 + 4, none⟩) hbA').trans l4
                clear hdr hdr' hfin hfin' k0 k1 k2 k3 k4 l0 l1 l2 l3 l4 hww
                have hli : (i : Int) < (np : Int) := by omega
                have hli' : (i : Int) < (np' : Int) := by omega
                have h0 : (0 : Int) ≤ (i : Int) := by omega
                go_upto_region 6 with (fail)
                go_cut [61] (fun t wx => t = .bool (!(sameV d1 p1 d1' p1')) ∧ Below wr.heap.size wr wx)
                case first =>
                  go_region_with (go_at_call 21; refine (HCT.out HPL1.out.1 HPL1.out.2.1 HPL1.out.2.2 d1' p1' _ _ _ HPL1'.out (HFP'.out.at_ HDR'.out).2.2 (HV1.out.on ((Below.refl _ _).drew)) (HV1'.out.on ((Below.refl _ _).drew))).mono ?_; rintro e w3 ⟨rfl, hb3⟩; have HB3 := Lib.hid (beldrew hb3); clear hb3)
                  all_goals go_wp2_with fail
                  all_goals go_meet
                  all_goals exact ⟨rfl, HB3.out⟩
                case rest =>
                  obtain ⟨rfl, hbw⟩ := hcut
                  have HBW := Lib.hid (chain HBR.out hbw)
                  clear hbw
                  cases hsv : sameV d1 p1 d1' p1'
                  · have HK := Lib.hid (show sameV d p d' p' = false by rw [HS2.out]; exact sameF_bad p p' (i + 1) (by rw [HNP.out, HNP'.out]; exact HLE.out) (by rw [HP1.out]; exact hsv))
                    clear hsv
                    go_wp2_with fail
                    go_ret
                    exact ⟨by rw [HK.out]; rfl, chain HB2.out HBW.out⟩
                  · have HK := Lib.hid (show sameF (p.take (i + 1)) (p'.take (i + 1)) = true by rw [HP1.out]; exact hsv)
                    clear hsv
                    go_wp2_with fail
                    go_roundw
                    case rel => exact ⟨i + 1, by go_num, by rw [HNP.out]; omega, HK.out, HBW.out⟩
                    case measure => simp [intOf]; omega
              · have HK := Lib.hid (show sameV d p d' p' = true by
                  rw [HS2.out]
                  have h := HSM.out
                  rwa [VF.take_all (by rw [HNP.out]; omega), VF.take_all (by rw [HNP'.out]; have := HLE.out; omega)] at h)
                go_wp2_with fail
                go_ret
                exact ⟨by rw [HK.out]; rfl, chain HB2.out HBR.out⟩
          · have hl' : ((np : Int) != (np' : Int)) = true := by rw [bne_iff_ne]; omega
            have HK := Lib.hid (show sameV d p d' p' = false by rw [HS1.out, show (np == np') = false by simpa using hl]; rfl)
            clear hl
            go_wp2_with (first
              | (go_at_call 17; refine HBB.out.mono ?_; rintro e w' ⟨rfl, rfl⟩)
              | (go_at_call 52; refine HSS.out.mono ?_; rintro e w' ⟨rfl, nq, rfl⟩))
            go_ret
            exact ⟨by rw [HK.out]; rfl, HB2.out.trans ⟨rfl, rfl, rfl, Nat.le_refl _, fun _ _ => rfl⟩⟩
    · have hn' : (d.n != d'.n) = true := by simpa using hn
      have HK := Lib.hid (show sameV d p d' p' = false by rw [HS.out, show (d.n == d'.n) = false by simpa using hn]; simp)
      clear hk hn
      go_wp2_with fail
      go_ret
      exact ⟨by rw [HK.out]; rfl, HB2.out⟩
  · have hk' : (d.k != d'.k) = true := by simpa using hk
    have HK := Lib.hid (show sameV d p d' p' = false by rw [HS.out, show (d.k == d'.k) = false by simpa using hk]; simp)
    clear hk
    go_wp2_with fail
    go_ret
    exact ⟨by rw [HK.out]; rfl, HB2.out⟩
theorem same_calls {d d' : Nd} {p p' : VF} {w : World} {v v' : Value} (hm : p.len ≤ 1048576) (hf : Fits p) (hn : d.ns.length ≤ 1048576) (hm' : p'.len ≤ 1048576) (hf' : Fits p') (hv : VIn w w.heap.size v d p) (hv' : VIn w w.heap.size v' d' p') : Calls Try.prog 21 #[v, v'] w fun e w' => e = .returned (.bool (sameV d p d' p')) ∧ Below w.heap.size w w' :=
  VF.all_each same_step d p hm hf hn d' p' w v v' hm' hf' hv hv'
end Go.Proofs.Ytolognhjdmkohaa
namespace Go.Proofs.Ytolognhjdmkohaa
open Go.RowKit
set_option linter.unusedVariables false
set_option linter.unusedSimpArgs false

theorem hd_parts {w : World} {B : Nat} {d : Nd} {p : VF} {sb sn : Value} {Ap : Option Addr} {np cp : Nat} (h : Hd w B d p.len (FIn w B p) sb sn (.slice Ap np cp)) (hp : 0 < p.len) : ∃ b o, Ap = some ⟨b, o, none⟩ ∧ b < B ∧ FIn w B p b o := by
  obtain ⟨Ab, nb, cb, An, nn, cn, Ap', cp', rfl, rfl, e, _, _, _, _, _, _, hq⟩ := h
  cases e
  exact hq hp
theorem bel_drewN {B : Nat} {w w' : World} (h : Below B w w') (n : Nat) : Below B w (w'.drewN n) := h.trans ⟨rfl, rfl, rfl, Nat.le_refl _, fun _ _ => rfl⟩
/-- what Part answers -/
def PtEnd (w : World) (r : Sum Nat (Nd × VF)) (e : Ending) (w' : World) : Prop :=
  Below w.heap.size w w' ∧ ((∃ i : Nat, r = .inl i ∧ e = .returned (.tuple #[.agg #[.int .i64 0, .int .i64 0, .slice none 0 0, .slice none 0 0, .slice none 0 0], .int .i64 (i : Int)])) ∨
    (∃ d p v, r = .inr (d, p) ∧ e = .returned (.tuple #[v, .int .i64 (-1)]) ∧ VIn w w.heap.size v d p))
def PtRel (w : World) (r : Sum Nat (Nd × VF)) (path : List Int) (n g h : Nat) (k : Value) (wr : World) : Prop :=
  ∃ (i : Nat) (d : Nd) (p : VF) (Ab : Option Addr) (nb cb : Nat) (An : Option Addr) (nn cn : Nat) (Ap : Option Addr) (cp : Nat), i ≤ n ∧ k = .int .i64 (i : Int) ∧
    Bx wr g (.int .i64 d.k) (.int .i64 d.n) (.slice Ab nb cb) (.slice An nn cn) (.slice Ap p.len cp) ∧ Bx wr h (.int .i64 0) (.int .i64 0) (.slice none 0 0) (.slice none 0 0) (.slice none 0 0) ∧
    Hd w w.heap.size d p.len (FIn w w.heap.size p) (.slice Ab nb cb) (.slice An nn cn) (.slice Ap p.len cp) ∧ p.len ≤ 1048576 ∧ Fits p ∧ r = pathV d p (path.drop i) i ∧ Below w.heap.size w wr
set_option maxRecDepth 100000 in
set_option maxHeartbeats 4000000 in
theorem part_calls {w : World} {v : Value} {d : Nd} {p : VF} {A : Option Addr} {n c : Nat} {path : List Int} (hv : VIn w w.heap.size v d p) (hpl : p.len ≤ 1048576) (hfp : Fits p) (hr : Rd w w.heap.size 1 A n (iv path)) (hn : n ≤ 1048576) :
    Calls Try.prog 26 #[v, .slice A n c] w (PtEnd w (pathV d p path 0)) := by
  have HL := Lib.hid (show path.length = n by have := hr.len; rw [iv_len] at this; exact this)
  have HR := Lib.hid hr
  obtain ⟨sb, sn, sp, rfl, hd0⟩ := hv
  have HD := Lib.hid hd0
  have HF := Lib.hid hfp
  obtain ⟨Ab, nb, cb, An, nn, cn, Ap, cp, rfl, rfl, rfl, _⟩ := hd0
  obtain ⟨r, hres⟩ : ∃ r, pathV d p path 0 = r := ⟨_, rfl⟩
  rw [hres]
  have HRS := Lib.hid hres
  clear hr hfp hres
  go_enter Try.func26, Try.ntmps26
  go_wp2_with fail
  go_loopw [6] (PtRel w r path n w.heap.size (w.heap.size + 1)) (fun k _ => n - (intOf k).toNat)
  case atStart =>
    refine ⟨0, d, p, Ab, nb, cb, An, nn, cn, Ap, cp, Nat.zero_le _, rfl, (Bx.new _ _ _ _ _ _).on (bel1 _ _), ?_, HD.out, hpl, HF.out, by rw [List.drop_zero]; exact HRS.out.symm, bel2 _ _ _⟩
    have h := Bx.new (w.alloc (.cells #[.int .i64 d.k, .int .i64 d.n, .slice Ab nb cb, .slice An nn cn, .slice Ap p.len cp] 26)) (.int .i64 0) (.int .i64 0) (.slice none 0 0) (.slice none 0 0) (.slice none 0 0)
    rw [alloc_size] at h
    exact h
  case round =>
    clear HD HF HRS hpl
    obtain ⟨i, d1, p1, Ab1, nb1, cb1, An1, nn1, cn1, Ap1, cp1, hi, rfl, hbx, hbh, hd1, hpl1, hf1, hres, hbr⟩ := hrel
    have HBX := Lib.hid hbx
    have HBH := Lib.hid hbh
    have HD1 := Lib.hid hd1
    have HF1 := Lib.hid hf1
    have HRES := Lib.hid hres
    have HBR := Lib.hid hbr
    have hz : w.heap.size + 1 < wr.heap.size := hbh.lt
    obtain ⟨x0, x1, x2, x3, x4⟩ := hbx.cells
    obtain ⟨y0, y1, y2, y3, y4⟩ := hbh.cells
    have f0 := hbh.free 0
    have f1 := hbh.free 1
    have f2 := hbh.free 2
    have f3 := hbh.free 3
    have f4 := hbh.free 4
    have e0 := hbx.free 0
    have e1 := hbx.free 1
    have e2 := hbx.free 2
    have e3 := hbx.free 3
    have e4 := hbx.free 4
    clear hbx hbh hd1 hf1 hres hbr
    by_cases hlt : i < n
    · obtain ⟨bp, op, k, rfl, hbp, hk, hck⟩ := iv_at HR.out hlt
      have hck' := (HBR.out.cell (p := ⟨bp, op + i, none⟩) hbp).trans hck
      have HK := Lib.hid (show path.drop i = k :: path.drop (i + 1) by
        rw [List.drop_eq_getElem_cons (by rw [HL.out]; exact hlt)]
        congr 1
        exact (List.getElem?_eq_some_iff.1 hk).2)
      have hli : (i : Int) < (n : Int) := by omega
      have h0 : (0 : Int) ≤ (i : Int) := by omega
      clear hk hck
      go_upto_region 4 with (fail)
      by_cases hin : 0 ≤ k ∧ k ≤ (p1.len : Int) - 1
      · have b1 : (decide ((0 : Int) ≤ k) && decide (k ≤ (p1.len : Int) - 1)) = true := by simp [hin.1, hin.2]
        obtain ⟨j, rfl⟩ := Int.eq_ofNat_of_zero_le hin.1
        have hj : j < p1.len := by omega
        go_quiet ((go_at_call 23; first | exact quiet_al (in_is b1 _) | exact quiet_l (in_is b1 _)))
        obtain ⟨d2, p2, hdr⟩ := VF.drop_cons hj
        obtain ⟨b2, o2, rfl, hb2, hfin⟩ := hd_parts HD1.out (by omega)
        obtain ⟨tb, tn, tp, ⟨k0, k1, k2, k3, k4⟩, hd2⟩ := hfin.at_ hdr
        have HD2 := Lib.hid hd2
        obtain ⟨Bb, ob, eb, Bn, on, en, Bp, ep, rfl, rfl, rfl, _⟩ := hd2
        have v0 := (HBR.out.cell (p := ⟨b2, o2 + j * 5, none⟩) hb2).trans k0
        have v1 := (HBR.out.cell (p := ⟨b2, o2 + j * 5 + 1, none⟩) hb2).trans k1
        have v2 := (HBR.out.cell (p := ⟨b2, o2 + j * 5 + 2, none⟩) hb2).trans k2
        have v3 := (HBR.out.cell (p := ⟨b2, o2 + j * 5 + 3, none⟩) hb2).trans k3
        have v4 := (HBR.out.cell (p := ⟨b2, o2 + j * 5 + 4, none⟩) hb2).trans k4
        have HB := Lib.hid (show r = pathV d2 p2 (path.drop (i + 1)) (i + 1) by rw [HRES.out, HK.out]; exact pathV_go hj hdr)
        have HF2 := Lib.hid (show p2.len ≤ 1048576 ∧ Fits p2 from ⟨(HF1.out.at_ hdr).2.1, (HF1.out.at_ hdr).2.2⟩)
        have hj1 : (j : Int) < (p1.len : Int) := by omega
        have hj0 : (0 : Int) ≤ (j : Int) := by omega
        clear hin hdr hfin k0 k1 k2 k3 k4 y0 y1 y2 y3 y4 f0 f1 f2 f3 f4
        go_upto_region 6 with (fail)
        go_region
        go_wp2_with fail
        go_roundw
        case rel => exact ⟨i + 1, d2, p2, Bb, ob, eb, Bn, on, en, Bp, ep, by omega, by go_num, Bx.set5 HBX.out _ _ _ _ _, ((((HBH.out.far (by omega)).far (by omega)).far (by omega)).far (by omega)).far (by omega), HD2.out, HF2.out.1, HF2.out.2, HB.out, below5 (bel_drewN HBR.out _) (Nat.le_refl _) _ _ _ _ _⟩
        case measure => simp [intOf]; omega
      · have b1 : (decide ((0 : Int) ≤ k) && decide (k ≤ (p1.len : Int) - 1)) = false := by
          rw [Bool.and_eq_false_iff]
          by_cases h : 0 ≤ k
          · exact .inr (by rw [decide_eq_false_iff_not]; intro h'; exact hin ⟨h, h'⟩)
          · exact .inl (by rw [decide_eq_false_iff_not]; exact h)
        have HB := Lib.hid (show r = .inl i by rw [HRES.out, HK.out]; exact pathV_bad (by omega))
        clear hin
        go_quiet ((go_at_call 23; first | exact quiet_al (in_is b1 _) | exact quiet_l (in_is b1 _)))
        go_wp2_with fail
        obtain ⟨wy, hwy⟩ : ∃ wy, wr.drewN nq = wy := ⟨_, rfl⟩
        have HBY : Bx wy (w.heap.size + 1) (.int .i64 0) (.int .i64 0) (.slice none 0 0) (.slice none 0 0) (.slice none 0 0) := by rw [← hwy]; exact HBH.out
        have HBB := bel_drewN HBR.out nq
        rw [hwy] at HBB ⊢
        obtain ⟨W9, hW9⟩ : ∃ W9, (((((wy.setCell ⟨w.heap.size + 1, 0, none⟩ (.int .i64 0)).setCell ⟨w.heap.size + 1, 1, none⟩ (.int .i64 0)).setCell ⟨w.heap.size + 1, 2, none⟩ (.slice none 0 0)).setCell ⟨w.heap.size + 1, 3, none⟩ (.slice none 0 0)).setCell ⟨w.heap.size + 1, 4, none⟩ (.slice none 0 0)) = W9 := ⟨_, rfl⟩
        have HX9 := HBY.set5 (.int .i64 0) (.int .i64 0) (.slice none 0 0) (.slice none 0 0) (.slice none 0 0)
        have HB9 := Lib.hid (below5 HBB (Nat.le_succ _) (.int .i64 0) (.int .i64 0) (.slice none 0 0) (.slice none 0 0) (.slice none 0 0))
        rw [hW9] at HX9 HB9 ⊢
        clear hW9 hwy HBY HBB
        obtain ⟨s0, s1, s2, s3, s4⟩ := HX9.cells
        have hz9 := HX9.lt
        refine bodyPost_ret (v := .tuple #[.agg #[.int .i64 0, .int .i64 0, .slice none 0 0, .slice none 0 0, .slice none 0 0], .int .i64 (i : Int)]) (by simp [results, Try.results26, go_sem, s0, s1, s2, s3, s4, hz9]) rfl ?_
        exact ⟨HB9.out, .inl ⟨i, HB.out, rfl⟩⟩
    · have HB := Lib.hid (show r = .inr (d1, p1) by rw [HRES.out, List.drop_of_length_le (by rw [HL.out]; omega)]; exact pathV_nil _ _ _)
      go_wp2_with fail
      obtain ⟨W9, hW9⟩ : ∃ W9, (((((wr.setCell ⟨w.heap.size + 1, 0, none⟩ (.int .i64 d1.k)).setCell ⟨w.heap.size + 1, 1, none⟩ (.int .i64 d1.n)).setCell ⟨w.heap.size + 1, 2, none⟩ (.slice Ab1 nb1 cb1)).setCell ⟨w.heap.size + 1, 3, none⟩ (.slice An1 nn1 cn1)).setCell ⟨w.heap.size + 1, 4, none⟩ (.slice Ap1 p1.len cp1)) = W9 := ⟨_, rfl⟩
      have HX9 := HBH.out.set5 (.int .i64 d1.k) (.int .i64 d1.n) (.slice Ab1 nb1 cb1) (.slice An1 nn1 cn1) (.slice Ap1 p1.len cp1)
      have HB9 := Lib.hid (below5 HBR.out (Nat.le_succ _) (.int .i64 d1.k) (.int .i64 d1.n) (.slice Ab1 nb1 cb1) (.slice An1 nn1 cn1) (.slice Ap1 p1.len cp1))
      rw [hW9] at HX9 HB9 ⊢
      clear hW9 x0 x1 x2 x3 x4 y0 y1 y2 y3 y4
      obtain ⟨s0, s1, s2, s3, s4⟩ := HX9.cells
      have hz9 := HX9.lt
      refine bodyPost_ret (v := .tuple #[.agg #[.int .i64 d1.k, .int .i64 d1.n, .slice Ab1 nb1 cb1, .slice An1 nn1 cn1, .slice Ap1 p1.len cp1], .int .i64 (-1)]) (by simp [results, Try.results26, go_sem, s0, s1, s2, s3, s4, hz9]) rfl ?_
      exact ⟨HB9.out, .inr ⟨d1, p1, _, HB.out, rfl, ⟨_, _, _, rfl, HD1.out⟩⟩⟩
end Go.Proofs.Ytolognhjdmkohaa
