/-
  The contract of value.encode.
-/
/-
  The contract of value.encode, records.
-/
/-
  The contracts of value.Encode and Validate.
-/
import Derived.Test.YtolognhjdmkohaaJ6
import Derived.Test.YtolognhjdmkohaaJ1
namespace Go.Proofs.Ytolognhjdmkohaa
open Go.RowKit
set_option linter.unusedVariables false
set_option linter.unusedSimpArgs false

/-- the contract of encode, of one value -/
def EncC (d : Nd) (p : VF) : Prop := NdFits d → Fits p → p.len ≤ 1048576 → nodeC d p.len = 0 → GoodF p → (encV d p).length ≤ 1099511627776 → ∀ (w : World) (v : Value), VIn w w.heap.size v d p →
  Calls Try.prog 45 #[v] w (Made w (encV d p))
set_option maxRecDepth 100000 in
set_option maxHeartbeats 1000000 in
theorem encode_num {w : World} {v : Value} {d : Nd} {p : VF} (hv : VIn w w.heap.size v d p) (hf : NdFits d) (hk : d.k = 1) : Calls Try.prog 45 #[v] w (Made w (encV d p)) := by
  have HE := Lib.hid (encV_num (d := d) (p := p) hk)
  obtain ⟨sb, sn, sp, rfl, Ab, nb, cb, An, nn, cn, Ap, cp, rfl, rfl, rfl, hbc, hnc, hpc, hpm, hrb, hrn, hp⟩ := hv
  obtain ⟨⟨h1, h2, h3, h4⟩, _⟩ := hf
  have hl1 := num_len d.k h1 h2
  have hl2 := num_len d.n h3 h4
  have hk1 : (d.k == 1) = true := by simp [hk]
  clear hrb hrn hp hk
  go_enter Try.func45, Try.ntmps45
  go_wp2_with fail
  refine (number_calls d.k _ h1 h2).mono ?_
  rintro e w1 ⟨A1, c1, rfl, hown1, hb1⟩
  have hz1 := hb1.size
  have q0 : w1.cell? ⟨w.heap.size, 0, none⟩ = some (.int .i64 d.k) := (hb1.cell (by simp)).trans (by simp)
  have q1 : w1.cell? ⟨w.heap.size, 1, none⟩ = some (.int .i64 d.n) := (hb1.cell (by simp)).trans (by simp)
  simp only [alloc_size] at hz1 hown1
  have HB1 := Lib.hid (show Below w.heap.size w w1 from chain (bel1 _ _) hb1)
  clear hb1
  go_wp2_with fail
  refine (number_calls d.n _ h3 h4).mono ?_
  rintro e w2 ⟨A2, c2, rfl, hown2, hb2⟩
  have hz2 := hb2.size
  have HB2 := Lib.hid (chain HB1.out hb2)
  have hown1' := own_below hown1 hb2 (Nat.le_refl _)
  go_wp2_with (at_builtin; refine wpList_appB _ slB rfl (.tmp 13) (.tmp 16) rfl (w.heap.size + 1) A1 (num d.k).length c1 (bv (num d.k)) rfl hown1' _ A2 (num d.n).length c2 (bv (num d.n)) rfl (Rd.of_own hown2) (bv_one _) (by omega) (by omega) HB2.out (by omega) ?_; intro A3 c3 w3 hown3 _ hb3)
  go_ret
  rw [HE.out]
  exact Made.intro (own_mono hown3 (by omega)) (by rw [bv_app]) hb3
set_option maxRecDepth 100000 in
set_option maxHeartbeats 1000000 in
theorem encode_bytes {w : World} {v : Value} {d : Nd} {p : VF} (hv : VIn w w.heap.size v d p) (hf : NdFits d) (hk : d.k = 2) : Calls Try.prog 45 #[v] w (Made w (encV d p)) := by
  have HE := Lib.hid (encV_bytes (d := d) (p := p) hk)
  obtain ⟨sb, sn, sp, rfl, Ab, nb, cb, An, nn, cn, Ap, cp, rfl, rfl, rfl, hbc, hnc, hpc, hpm, hrb, hrn, hp⟩ := hv
  obtain ⟨⟨h1, h2, h3, h4⟩, hbl, _⟩ := hf
  have hl1 := num_len d.k h1 h2
  have hnb : d.bs.length = nb := by have := hrb.len; rw [bv_len] at this; exact this
  have hl2 := chunk_len d.bs (by omega)
  have hnb' : nb ≤ 1048576 := by omega
  have hk1 : (d.k == 1) = false := by simp [hk]
  have hk2 : (d.k == 2) = true := by simp [hk]
  have HRB := Lib.hid hrb
  clear hrb hrn hp hk hnb
  go_enter Try.func45, Try.ntmps45
  go_wp2_with fail
  refine (number_calls d.k _ h1 h2).mono ?_
  rintro e w1 ⟨A1, c1, rfl, hown1, hb1⟩
  have hz1 := hb1.size
  have q0 : w1.cell? ⟨w.heap.size, 0, none⟩ = some (.int .i64 d.k) := (hb1.cell (by simp)).trans (by simp)
  have q2 : w1.cell? ⟨w.heap.size, 2, none⟩ = some (.slice Ab nb cb) := (hb1.cell (by simp)).trans (by simp)
  simp only [alloc_size] at hz1 hown1
  have HB1 := Lib.hid (show Below w.heap.size w w1 from chain (bel1 _ _) hb1)
  clear hb1
  go_wp2_with fail
  refine (chunk_calls (bs := d.bs) ((HRB.out.below HB1.out).more HB1.out.size) (by omega)).mono ?_
  rintro e w2 ⟨A2, c2, rfl, hown2, hb2⟩
  have hz2 := hb2.size
  have HB2 := Lib.hid (chain HB1.out hb2)
  have hown1' := own_below hown1 hb2 (Nat.le_refl _)
  go_wp2_with (at_builtin; refine wpList_appB _ slB rfl (.tmp 20) (.tmp 23) rfl (w.heap.size + 1) A1 (num d.k).length c1 (bv (num d.k)) rfl hown1' _ A2 (chunk d.bs).length c2 (bv (chunk d.bs)) rfl (Rd.of_own hown2) (bv_one _) (by omega) (by omega) HB2.out (by omega) ?_; intro A3 c3 w3 hown3 _ hb3)
  go_ret
  rw [HE.out]
  exact Made.intro (own_mono hown3 (by omega)) (by rw [bv_app]) hb3

/-- some parts have been encoded -/
def EncRel (w W1 : World) (pre : List UInt8) (p : VF) (rc : Bool) (ns : List (List UInt8)) (out k : Value) (wr : World) : Prop :=
  ∃ (i : Nat) (A : Option Addr) (c : Nat), i ≤ p.len ∧ k = .int .i64 (i : Int) ∧ out = .slice A (pre ++ encP (p.take i) rc ns).length c ∧
    wr.ownsRow W1.heap.size 5 1 (.slice A (pre ++ encP (p.take i) rc ns).length c) (pre ++ encP (p.take i) rc ns).length (bv (pre ++ encP (p.take i) rc ns)) ∧ Below W1.heap.size W1 wr
theorem enc_pick {d : Nd} {p r F : VF} {i : Nat} (h : VF.All EncC (F.drop i)) (hd : F.drop i = .cons d p r) (hf : Fits (F.drop i)) (hg : GoodF (F.drop i)) (hl : (encV d p).length ≤ 1099511627776) : ∀ (w : World) (v : Value), VIn w w.heap.size v d p →
    Calls Try.prog 45 #[v] w (Made w (encV d p)) := by
  rw [hd] at h hf hg
  exact h.1 hf.1 hf.2.2.1 hf.2.1 hg.1 hg.2.1 hl
theorem enc_start {w W1 w3 : World} {nk nnp : List UInt8} {p : VF} {rc : Bool} {ns : List (List UInt8)} {A : Option Addr} {c : Nat} (h : w3.ownsRow W1.heap.size 5 1 (.slice A (nk.length + nnp.length) c) (nk.length + nnp.length) (bv nk ++ bv nnp)) (hb : Below W1.heap.size W1 w3) :
    EncRel w W1 (nk ++ nnp) p rc ns (.slice A (nk.length + nnp.length) c) (.int .i64 0) w3 := by
  have e : nk ++ nnp ++ encP (p.take 0) rc ns = nk ++ nnp := by rw [VF.take_zero]; simp [encP]
  refine ⟨0, A, c, Nat.zero_le _, rfl, ?_, ?_, hb⟩
  · rw [e, List.length_append]
  · rw [e, List.length_append, bv_app]; exact h
theorem enc_next {w W1 w4 : World} {pre add : List UInt8} {p : VF} {rc : Bool} {ns : List (List UInt8)} {A : Option Addr} {c i n : Nat} {xs : List Value} (hi : i < p.len) (hadd : encP (p.take (i + 1)) rc ns = encP (p.take i) rc ns ++ add) (h : w4.ownsRow W1.heap.size 5 1 (.slice A n c) n xs) (hx : xs = bv (pre ++ encP (p.take i) rc ns) ++ bv add) (hn : n = (pre ++ encP (p.take i) rc ns).length + add.length) (hb : Below W1.heap.size W1 w4) :
    EncRel w W1 pre p rc ns (.slice A n c) (.int .i64 ((i : Int) + 1)) w4 := by
  subst hx hn
  have e : pre ++ encP (p.take (i + 1)) rc ns = (pre ++ encP (p.take i) rc ns) ++ add := by rw [hadd, List.append_assoc]
  refine ⟨i + 1, A, c, hi, by go_num, ?_, ?_, hb⟩
  · rw [e]; simp only [List.length_append]
  · rw [e, List.length_append, bv_app]; exact h
theorem encP_no (F : VF) (ns : List (List UInt8)) (i : Nat) (d : Nd) (p r : VF) (h : F.drop i = .cons d p r) : encP (F.take (i + 1)) false ns = encP (F.take i) false ns ++ encV d p := by
  rw [encP_succ F false ns i d p r h]; simp
theorem encP_yes (F : VF) (ns : List (List UInt8)) (i : Nat) (d : Nd) (p r : VF) (s : List UInt8) (h : F.drop i = .cons d p r) (hs : ns[i]? = some s) : encP (F.take (i + 1)) true ns = encP (F.take i) true ns ++ (chunk s ++ encV d p) := by
  rw [encP_succ F true ns i d p r h]
  have : (ns.drop i).headD [] = s := by
    have e : (ns.drop i)[0]? = some s := by rw [List.getElem?_drop]; simpa using hs
    cases hd : ns.drop i with
    | nil => rw [hd] at e; simp at e
    | cons x l => rw [hd] at e; simp at e; simp [e]
  rw [this]; simp
set_option maxRecDepth 100000 in
set_option maxHeartbeats 2000000 in
theorem encode_list {w : World} {v : Value} {d : Nd} {p : VF} (hall : VF.All EncC p) (hv : VIn w w.heap.size v d p) (hf : NdFits d) (hfp : Fits p) (hgp : GoodF p) (hpl : p.len ≤ 1048576) (hk : d.k = 3) (hlen : (encV d p).length ≤ 1099511627776) : Calls Try.prog 45 #[v] w (Made w (encV d p)) := by
  have he := encV_parts (d := d) (p := p) (by omega) (by omega)
  have hrc : (d.k == 4) = false := by simp [hk]
  rw [hrc] at he
  rw [he] at hlen
  have HRC := Lib.hid hrc
  obtain ⟨sb, sn, sp, rfl, Ab, nb, cb, An, nn, cn, Ap, cp, rfl, rfl, rfl, hbc, hnc, hpc, hpm, hrb, hrn, hp⟩ := hv
  obtain ⟨⟨h1, h2, h3, h4⟩, _⟩ := hf
  have hl1 := num_len d.k h1 h2
  have hl2 := num_len (p.len : Int) (by omega) (by omega)
  have hk1 : (d.k == 1) = false := by simp [hk]
  have hk2 : (d.k == 2) = false := by simp [hk]
  have HP := Lib.hid hp
  have HFP := Lib.hid hfp
  have HGP := Lib.hid hgp
  have HALL := Lib.hid hall
  simp only [List.length_append] at hlen
  obtain ⟨np, hnp⟩ : ∃ np, p.len = np := ⟨_, rfl⟩
  have HNP := Lib.hid hnp
  rw [hnp] at hpl hpc hl2 hlen he ⊢
  have HE := Lib.hid he
  clear he
  clear hrb hrn hp hk hfp hgp hall hnp
  go_enter Try.func45, Try.ntmps45
  go_wp2_with fail
  refine (number_calls d.k _ h1 h2).mono ?_
  rintro e w1 ⟨A1, c1, rfl, hown1, hb1⟩
  have hz1 := hb1.size
  have q0 : w1.cell? ⟨w.heap.size, 0, none⟩ = some (.int .i64 d.k) := (hb1.cell (by simp)).trans (by simp)
  have q4 : w1.cell? ⟨w.heap.size, 4, none⟩ = some (.slice Ap np cp) := (hb1.cell (by simp)).trans (by simp)
  have HW1 := Lib.hid hb1
  clear hb1
  go_wp2_with fail
  refine (number_calls (np : Int) _ (by omega) (by omega)).mono ?_
  rintro e w2 ⟨A2, c2, rfl, hown2, hb2⟩
  have hz2 := hb2.size
  have HB2 := Lib.hid (HW1.out.trans (hb2.mono hz1))
  have hown1' := own_below hown1 hb2 (Nat.le_refl _)
  obtain ⟨W1, hW1⟩ : ∃ W1, w.alloc (.cells #[.int .i64 d.k, .int .i64 d.n, .slice Ab nb cb, .slice An nn cn, .slice Ap np cp] 26) = W1 := ⟨_, rfl⟩
  have hW1z : W1.heap.size = w.heap.size + 1 := by rw [← hW1]; simp
  have HWB := Lib.hid (show Below w.heap.size w W1 by rw [← hW1]; exact bel1 _ _)
  rw [hW1] at hown1 hown1' hz1 HB2 HW1
  have HBX := Lib.hid (show W1.cell? ⟨w.heap.size, 0, none⟩ = some (.int .i64 d.k) ∧ W1.cell? ⟨w.heap.size, 4, none⟩ = some (.slice Ap np cp) by rw [← hW1]; exact ⟨by simp, by simp⟩)
  have HZ := Lib.hid hW1z
  clear hW1 hb2
  generalize num d.k = nk at *
  generalize num (np : Int) = nnp at *
  have hzle : w.heap.size < W1.heap.size := by omega
  clear hW1z
  go_wp2_with (at_builtin; refine wpList_appB _ slB rfl (.tmp 25) (.tmp 29) rfl W1.heap.size A1 nk.length c1 (bv nk) rfl hown1' _ A2 nnp.length c2 (bv nnp) rfl (Rd.of_own hown2) (bv_one _) (by omega) (by omega) HB2.out (by omega) ?_; intro A3 c3 w3 hown3 _ hb3; have q40 := (hb3.cell (p := ⟨w.heap.size, 4, none⟩) (by exact hzle)).trans HBX.out.2)
  go_loopw [3, 34] (EncRel w W1 (nk ++ nnp) p false d.ns) (fun _ k _ => np - (intOf k).toNat)
  case atStart => exact enc_start hown3 hb3
  case round =>
    clear hown3 hb3 q40 hown1 hown1' hown2 q0 q4 HB2 HW1 hz1 hz2
    obtain ⟨i, A, c, hi, rfl, rfl, hown, hbw⟩ := hrel
    rw [HNP.out] at hi
    have HBW := Lib.hid hbw
    have HWR := Lib.hid (show Below w.heap.size w wr from chain HWB.out hbw)
    have hzw := hbw.size
    have r0 : wr.cell? ⟨w.heap.size, 0, none⟩ = some (.int .i64 d.k) := (hbw.cell (by exact hzle)).trans HBX.out.1
    clear hbw
    by_cases hlt : i < np
    · obtain ⟨b, o, hAp, hb, hfin⟩ := HP.out (by rw [HNP.out]; omega)
      subst hAp
      obtain ⟨d', p', hdr⟩ := VF.drop_cons (F := p) (i := i) (by rw [HNP.out]; exact hlt)
      have hl' : (encV d' p').length ≤ 1099511627776 := Nat.le_trans (encV_part (rc := false) (ns := d.ns) hdr) (by omega)
      have hlacc := encP_len (F := p) (rc := false) (ns := d.ns) (i := i)
      have hlacc2 := encP_len (F := p) (rc := false) (ns := d.ns) (i := i + 1)
      obtain ⟨sb', sn', sp', ⟨k0, k1, k2, k3, k4⟩, hd'⟩ := hfin.at_ hdr
      have HV' : Hid (VIn w w.heap.size (.agg #[.int .i64 d'.k, .int .i64 d'.n, sb', sn', sp']) d' p') := Lib.hid ⟨sb', sn', sp', rfl, hd'⟩
      obtain ⟨Ab', nb', cb', An', nn', cn', Ap', cp', rfl, rfl, rfl, _⟩ := hd'
      have q0 := (HWR.out.cell (by exact hb)).trans k0
      have q1 := (HWR.out.cell (by exact hb)).trans k1
      have q2 := (HWR.out.cell (by exact hb)).trans k2
      have q3 := (HWR.out.cell (by exact hb)).trans k3
      have q4 := (HWR.out.cell (by exact hb)).trans k4
      clear k0 k1 k2 k3 k4 hfin
      have HCT := Lib.hid (enc_pick (VF.all_drop HALL.out i) hdr (Fits.drop p i HFP.out) (GoodF.drop p i HGP.out) hl')
      have HADD := Lib.hid (encP_no p d.ns i d' p' _ hdr)
      clear hdr
      have hrc' := HRC.out
      have hzlt : w.heap.size < wr.heap.size := by omega
      have r0' : ∀ ob, (wr.alloc ob).cell? ⟨w.heap.size, 0, none⟩ = some (.int .i64 d.k) := fun ob => cell_up r0
      have hli : (i : Int) < (np : Int) := by omega
      have h0 : (0 : Int) ≤ (i : Int) := by omega
      obtain ⟨acc, hacc⟩ : ∃ acc, nk ++ nnp ++ encP (p.take i) false d.ns = acc := ⟨_, rfl⟩
      have HACC := Lib.hid hacc
      have hal : acc.length = nk.length + nnp.length + (encP (p.take i) false d.ns).length := by rw [← hacc]; simp; omega
      rw [hacc] at hown ⊢
      have hal' : acc.length ≤ 1099511627776 := by omega
      clear hacc hal
      go_wp2_with fail
      refine (HCT.out _ _ ((HV'.out.below HWR.out (Nat.le_refl _)).keep (fun q hq => (bel1 _ _).cell (by omega)) (by simp only [alloc_size]; omega))).mono ?_
      rintro e w4 ⟨A4, c4, rfl, hown4, hb4⟩
      have hz4 := hb4.size
      have HB4 := Lib.hid (show Below W1.heap.size W1 w4 from HBW.out.trans ((chain (bel1 wr _) hb4).mono hzw))
      have hown' := own_below (own_below hown (bel1 wr _) (Nat.le_refl _)) hb4 (by simp only [alloc_size]; omega)
      clear hb4
      go_wp2_with (at_builtin; refine wpList_appB _ slB rfl (.tmp 51) (.tmp 53) rfl W1.heap.size A acc.length c (bv acc) rfl hown' _ A4 (encV d' p').length c4 (bv (encV d' p')) rfl (Rd.of_own hown4) (bv_one _) (by omega) (by have := HB4.out.size; omega) HB4.out (Nat.le_refl _) ?_; intro A5 c5 w5 hown5 _ hb5)
      exact ⟨enc_next (by rw [HNP.out]; exact hlt) HADD.out hown5 (by rw [HACC.out]) (by rw [HACC.out]) hb5, by simp [intOf]; omega⟩
    · have HAL := Lib.hid (show p.take i = p from VF.take_all (by rw [HNP.out]; omega))
      go_wp2_with fail
      go_ret
      rw [HE.out]
      refine Made.as (own_mono hown (by omega)) rfl ?_ HWR.out
      rw [HAL.out, List.append_assoc]
end Go.Proofs.Ytolognhjdmkohaa
namespace Go.Proofs.Ytolognhjdmkohaa
open Go.RowKit
set_option linter.unusedVariables false
set_option linter.unusedSimpArgs false

theorem grown_far {wr w6 w7 : World} {base e s n : Nat} {v : Value} {xs : List Value} (hg : w6.grownBy w7 v.ownBlock) (hown : wr.ownsRow base e s v n xs) (hz : wr.heap.size < w6.heap.size) : ∀ o, w7.cell? ⟨wr.heap.size, o, none⟩ = w6.cell? ⟨wr.heap.size, o, none⟩ := by
  intro o
  have h := hg.block wr.heap.size hz (fun e => by have := (hown.lt _ e.symm).2; omega)
  simp only [World.cell?, h]
set_option maxRecDepth 100000 in
set_option maxHeartbeats 2000000 in
theorem encode_rec {w : World} {v : Value} {d : Nd} {p : VF} (hall : VF.All EncC p) (hv : VIn w w.heap.size v d p) (hf : NdFits d) (hfp : Fits p) (hgp : GoodF p) (hpl : p.len ≤ 1048576) (hk : d.k = 4) (hnl : d.ns.length = p.len) (hlen : (encV d p).length ≤ 1099511627776) : Calls Try.prog 45 #[v] w (Made w (encV d p)) := by
  have he := encV_parts (d := d) (p := p) (by omega) (by omega)
  have hrc : (d.k == 4) = true := by simp [hk]
  rw [hrc] at he
  rw [he] at hlen
  have HRC := Lib.hid hrc
  obtain ⟨sb, sn, sp, rfl, Ab, nb, cb, An, nn, cn, Ap, cp, rfl, rfl, rfl, hbc, hnc, hpc, hpm, hrb, hrn, hp⟩ := hv
  obtain ⟨⟨h1, h2, h3, h4⟩, _, _, hf4⟩ := hf
  have hl1 := num_len d.k h1 h2
  have hl2 := num_len (p.len : Int) (by omega) (by omega)
  have hk1 : (d.k == 1) = false := by simp [hk]
  have hk2 : (d.k == 2) = false := by simp [hk]
  have HRN := Lib.hid hrn
  have hnn : nn = p.len := by have := hrn.len; rw [sv_len] at this; omega
  have HP := Lib.hid hp
  have HFP := Lib.hid hfp
  have HGP := Lib.hid hgp
  have HALL := Lib.hid hall
  simp only [List.length_append] at hlen
  obtain ⟨np, hnp⟩ : ∃ np, p.len = np := ⟨_, rfl⟩
  have HNP := Lib.hid hnp
  rw [hnp] at hpl hpc hl2 hlen he hnl hnn ⊢
  have HE := Lib.hid he
  clear he
  have HNS := Lib.hid hf4
  clear hrb hrn hp hk hfp hgp hall hnp hf4
  have hnn1 : nn ≤ np := by omega
  have hnn2 : np ≤ nn := by omega
  clear hnn hnl
  go_enter Try.func45, Try.ntmps45
  go_wp2_with fail
  refine (number_calls d.k _ h1 h2).mono ?_
  rintro e w1 ⟨A1, c1, rfl, hown1, hb1⟩
  have hz1 := hb1.size
  have q0 : w1.cell? ⟨w.heap.size, 0, none⟩ = some (.int .i64 d.k) := (hb1.cell (by simp)).trans (by simp)
  have q4 : w1.cell? ⟨w.heap.size, 4, none⟩ = some (.slice Ap np cp) := (hb1.cell (by simp)).trans (by simp)
  have HW1 := Lib.hid hb1
  clear hb1
  go_wp2_with fail
  refine (number_calls (np : Int) _ (by omega) (by omega)).mono ?_
  rintro e w2 ⟨A2, c2, rfl, hown2, hb2⟩
  have hz2 := hb2.size
  have HB2 := Lib.hid (HW1.out.trans (hb2.mono hz1))
  have hown1' := own_below hown1 hb2 (Nat.le_refl _)
  obtain ⟨W1, hW1⟩ : ∃ W1, w.alloc (.cells #[.int .i64 d.k, .int .i64 d.n, .slice Ab nb cb, .slice An nn cn, .slice Ap np cp] 26) = W1 := ⟨_, rfl⟩
  have hW1z : W1.heap.size = w.heap.size + 1 := by rw [← hW1]; simp
  have HWB := Lib.hid (show Below w.heap.size w W1 by rw [← hW1]; exact bel1 _ _)
  rw [hW1] at hown1 hown1' hz1 HB2 HW1
  have HBX := Lib.hid (show W1.cell? ⟨w.heap.size, 0, none⟩ = some (.int .i64 d.k) ∧ W1.cell? ⟨w.heap.size, 4, none⟩ = some (.slice Ap np cp) ∧ W1.cell? ⟨w.heap.size, 3, none⟩ = some (.slice An nn cn) by rw [← hW1]; exact ⟨by simp, by simp, by simp⟩)
  have HZ := Lib.hid hW1z
  clear hW1 hb2
  generalize num d.k = nk at *
  generalize num (np : Int) = nnp at *
  have hzle : w.heap.size < W1.heap.size := by omega
  clear hW1z
  go_wp2_with (at_builtin; refine wpList_appB _ slB rfl (.tmp 25) (.tmp 29) rfl W1.heap.size A1 nk.length c1 (bv nk) rfl hown1' _ A2 nnp.length c2 (bv nnp) rfl (Rd.of_own hown2) (bv_one _) (by omega) (by omega) HB2.out (by omega) ?_; intro A3 c3 w3 hown3 _ hb3; have q40 := (hb3.cell (p := ⟨w.heap.size, 4, none⟩) (by exact hzle)).trans HBX.out.2.1)
  go_loopw [3, 34] (EncRel w W1 (nk ++ nnp) p true d.ns) (fun _ k _ => np - (intOf k).toNat)
  case atStart => exact enc_start hown3 hb3
  case round =>
    clear hown3 hb3 q40 hown1 hown1' hown2 q0 q4 HB2 HW1 hz1 hz2
    obtain ⟨i, A, c, hi, rfl, rfl, hown, hbw⟩ := hrel
    rw [HNP.out] at hi
    have HBW := Lib.hid hbw
    have HWR := Lib.hid (show Below w.heap.size w wr from chain HWB.out hbw)
    have hzw := hbw.size
    have r0 : wr.cell? ⟨w.heap.size, 0, none⟩ = some (.int .i64 d.k) := (hbw.cell (by exact hzle)).trans HBX.out.1
    clear hbw
    by_cases hlt : i < np
    · obtain ⟨b, o, hAp, hb, hfin⟩ := HP.out (by rw [HNP.out]; omega)
      subst hAp
      obtain ⟨d', p', hdr⟩ := VF.drop_cons (F := p) (i := i) (by rw [HNP.out]; exact hlt)
      have hl' : (encV d' p').length ≤ 1099511627776 := Nat.le_trans (encV_part (rc := true) (ns := d.ns) hdr) (by omega)
      have hlacc := encP_len (F := p) (rc := true) (ns := d.ns) (i := i)
      have hlacc2 := encP_len (F := p) (rc := true) (ns := d.ns) (i := i + 1)
      obtain ⟨sb', sn', sp', ⟨k0, k1, k2, k3, k4⟩, hd'⟩ := hfin.at_ hdr
      have HV' : Hid (VIn w w.heap.size (.agg #[.int .i64 d'.k, .int .i64 d'.n, sb', sn', sp']) d' p') := Lib.hid ⟨sb', sn', sp', rfl, hd'⟩
      obtain ⟨Ab', nb', cb', An', nn', cn', Ap', cp', rfl, rfl, rfl, _⟩ := hd'
      have q0 := (HWR.out.cell (by exact hb)).trans k0
      have q1 := (HWR.out.cell (by exact hb)).trans k1
      have q2 := (HWR.out.cell (by exact hb)).trans k2
      have q3 := (HWR.out.cell (by exact hb)).trans k3
      have q4 := (HWR.out.cell (by exact hb)).trans k4
      clear k0 k1 k2 k3 k4 hfin
      have HCT := Lib.hid (enc_pick (VF.all_drop HALL.out i) hdr (Fits.drop p i HFP.out) (GoodF.drop p i HGP.out) hl')
      have hni : i < nn := by omega
      obtain ⟨bn, on, s, hAn, hbn, hsn, hcn⟩ := sv_at HRN.out hni
      subst hAn
      have HADD := Lib.hid (encP_yes p d.ns i d' p' _ _ hdr hsn)
      have hsl : s.size ≤ 1048576 := by simpa using HNS.out _ (List.mem_of_getElem? hsn)
      have hchl : (chunk s.data.toList).length ≤ 1048586 := by
        have h1 := chunk_len s.data.toList (by simpa using (show s.size ≤ 140737488355318 by omega))
        have h2 : s.data.toList.length = s.size := by simp
        omega
      rw [HADD.out] at hlacc2
      simp only [List.length_append] at hlacc2
      have s3 : wr.cell? ⟨w.heap.size, 3, none⟩ = some (.slice (some ⟨bn, on, none⟩) nn cn) := (HBW.out.cell (by exact hzle)).trans HBX.out.2.2
      have sc : wr.cell? ⟨bn, on + i, none⟩ = some (.string s) := (HWR.out.cell (by exact hbn)).trans hcn
      have hni' : (i : Int) < (nn : Int) := by omega
      have hcv := run_bytes s
      have s3' : ∀ ob, (wr.alloc ob).cell? ⟨w.heap.size, 3, none⟩ = some (.slice (some ⟨bn, on, none⟩) nn cn) := fun ob => cell_up s3
      have sc' : ∀ ob, (wr.alloc ob).cell? ⟨bn, on + i, none⟩ = some (.string s) := fun ob => cell_up sc
      clear hsn hcn
      clear hdr
      have hrc' := HRC.out
      have hzlt : w.heap.size < wr.heap.size := by omega
      have r0' : ∀ ob, (wr.alloc ob).cell? ⟨w.heap.size, 0, none⟩ = some (.int .i64 d.k) := fun ob => cell_up r0
      have hli : (i : Int) < (np : Int) := by omega
      have h0 : (0 : Int) ≤ (i : Int) := by omega
      obtain ⟨acc, hacc⟩ : ∃ acc, nk ++ nnp ++ encP (p.take i) true d.ns = acc := ⟨_, rfl⟩
      have HACC := Lib.hid hacc
      have hal : acc.length = nk.length + nnp.length + (encP (p.take i) true d.ns).length := by rw [← hacc]; simp; omega
      rw [hacc] at hown ⊢
      have hal' : acc.length ≤ 1099511627776 := by omega
      clear hacc hal
      go_wp2_with fail
      have hb5 := bworld_below (wr.alloc (.cells #[.int .i64 d'.k, .int .i64 d'.n, .slice Ab' nb' cb', .slice An' nn' cn', .slice Ap' p'.len cp'] 26)) s
      have hz5 := hb5.size
      refine (chunk_calls (bs := s.data.toList) (bytes_rdg _ _ _ (by simp only [alloc_size])) (by omega)).mono ?_
      rintro e w6 ⟨A6, c6, rfl, hown6, hb6⟩
      have hz6 := hb6.size
      have HB6 := Lib.hid (show Below wr.heap.size wr w6 from chain (chain (bel1 _ _) hb5) hb6)
      have hz66 := HB6.out.size
      have HX := (show Cells5 w6 wr.heap.size 0 d' (.slice Ab' nb' cb') (.slice An' nn' cn') (.slice Ap' p'.len cp') from by
        have hk : ∀ o, w6.cell? ⟨wr.heap.size, o, none⟩ = (wr.alloc (.cells #[.int .i64 d'.k, .int .i64 d'.n, .slice Ab' nb' cb', .slice An' nn' cn', .slice Ap' p'.len cp'] 26)).cell? ⟨wr.heap.size, o, none⟩ := fun o => (chain hb5 hb6).cell (by simp)
        exact ⟨(hk 0).trans (by simp), (hk 1).trans (by simp), (hk 2).trans (by simp), (hk 3).trans (by simp), (hk 4).trans (by simp)⟩)
      have hown' := own_below hown HB6.out (Nat.le_refl _)
      have hzx : wr.heap.size < w6.heap.size := by simp only [alloc_size] at hz5; omega
      clear hcv hb5 hb6
      generalize chunk s.data.toList = ch at *
      obtain ⟨x0, x1, x2, x3, x4⟩ := HX
      go_wp2_with (at_builtin; refine wpList_appG _ slB rfl (.tmp 42) (.tmp 49) rfl W1.heap.size A acc.length c (bv acc) rfl hown' _ A6 ch.length c6 (bv ch) rfl (Rd.of_own hown6) (bv_one _) (by omega) (by omega) ?_; intro A7 c7 w7 hown7 hg7 hb7; have hx7 := grown_far hg7 hown hzx; have y0 := (hx7 0).trans x0; have y1 := (hx7 1).trans x1; have y2 := (hx7 2).trans x2; have y3 := (hx7 3).trans x3; have y4 := (hx7 4).trans x4; clear hx7)
      have HB7 := Lib.hid (show Below W1.heap.size W1 w7 from HBW.out.trans ((HB6.out.mono hzw).trans hb7))
      have HW7 := Lib.hid (show Below w.heap.size w w7 from chain HWB.out HB7.out)
      have hz7 := HB7.out.size
      refine (HCT.out _ _ (HV'.out.on HW7.out)).mono ?_
      rintro e w4 ⟨A4, c4, rfl, hown4, hb4⟩
      have hz4 := hb4.size
      have HB4 := Lib.hid (show Below W1.heap.size W1 w4 from HB7.out.trans (hb4.mono hz7))
      have hown8 := own_below hown7 hb4 (Nat.le_refl _)
      clear hb4
      go_wp2_with (at_builtin; refine wpList_appB _ slB rfl (.tmp 51) (.tmp 53) rfl W1.heap.size A7 (acc.length + ch.length) c7 (bv acc ++ bv ch) rfl hown8 _ A4 (encV d' p').length c4 (bv (encV d' p')) rfl (Rd.of_own hown4) (bv_one _) (by omega) (by have := HB4.out.size; omega) HB4.out (Nat.le_refl _) ?_; intro A5 c5 w5 hown5 _ hb5)
      exact ⟨enc_next (by rw [HNP.out]; exact hlt) HADD.out hown5 (by rw [HACC.out, bv_app, List.append_assoc]) (by rw [HACC.out, List.length_append]; omega) hb5, by simp [intOf]; omega⟩
    · have HAL := Lib.hid (show p.take i = p from VF.take_all (by rw [HNP.out]; omega))
      go_wp2_with fail
      go_ret
      rw [HE.out]
      refine Made.as (own_mono hown (by omega)) rfl ?_ HWR.out
      rw [HAL.out, List.append_assoc]

theorem encode_step (d : Nd) (p : VF) (hall : VF.All EncC p) : EncC d p := by
  intro hf hfp hpl hc hg hlen w v hv
  obtain ⟨⟨k1, k4⟩, _, _, _, _, hnl, _⟩ := node_rules hc
  by_cases h1 : d.k = 1
  · exact encode_num hv hf h1
  · by_cases h2 : d.k = 2
    · exact encode_bytes hv hf h2
    · by_cases h3 : d.k = 3
      · exact encode_list hall hv hf hfp hg hpl h3 hlen
      · exact encode_rec hall hv hf hfp hg hpl (by omega) (hnl (by omega)) hlen
theorem encode_calls {d : Nd} {p : VF} {w : World} {v : Value} (hf : NdFits d) (hfp : Fits p) (hpl : p.len ≤ 1048576) (hc : nodeC d p.len = 0) (hg : GoodF p) (hlen : (encV d p).length ≤ 1099511627776) (hv : VIn w w.heap.size v d p) :
    Calls Try.prog 45 #[v] w (Made w (encV d p)) := VF.all_each encode_step d p hf hfp hpl hc hg hlen w v hv
end Go.Proofs.Ytolognhjdmkohaa
namespace Go.Proofs.Ytolognhjdmkohaa
open Go.RowKit
set_option linter.unusedVariables false
set_option linter.unusedSimpArgs false

/-- the fault of a value -/
def valF (d : Nd) (p : VF) : Int × Int := match chkF (.cons d p .nil) 0 1 with | .inl f => f | .inr _ => if 4000 < (encV d p).length then (14, -1) else (0, 0)
theorem valF_inl {d : Nd} {p : VF} {f : Int × Int} (h : chkF (.cons d p .nil) 0 1 = .inl f) : valF d p = f := by unfold valF; rw [h]
theorem valF_big {d : Nd} {p : VF} {m : Nat} (h : chkF (.cons d p .nil) 0 1 = .inr m) (hl : 4000 < (encV d p).length) : valF d p = (14, -1) := by unfold valF; rw [h]; simp only; rw [if_pos hl]
theorem valF_ok {d : Nd} {p : VF} {m : Nat} (h : chkF (.cons d p .nil) 0 1 = .inr m) (hl : ¬ 4000 < (encV d p).length) : valF d p = (0, 0) := by unfold valF; rw [h]; simp only; rw [if_neg hl]
/-- a value whose parts are all of moderate length -/
structure Mod (d : Nd) (p : VF) : Prop where
  nd : NdFits d
  fp : Fits p
  pl : p.len ≤ 1048576
  el : (encV d p).length ≤ 1099511627776
/-- what is owned from 'base' on stays owned where a cell below is written -/
theorem own_set {w : World} {base g o : Nat} {e s n : Nat} {v x : Value} {xs : List Value} (h : w.ownsRow base e s v n xs) (hg : g < base) : (w.setCell ⟨g, o, none⟩ x).ownsRow base e s v n xs := by
  refine ⟨h.1, ?_⟩
  rcases h.2 with hn | ⟨k, cap, cur, hv, hk, hh, r⟩
  · exact .inl hn
  · refine .inr ⟨k, cap, cur, hv, hk, ?_, r⟩
    rw [Below.heap_setCell _ _ _ _ (by simp only; omega)]; exact hh
/-- what Encode answers -/
def EnEnd (w : World) (d : Nd) (p : VF) (e : Ending) (w' : World) : Prop :=
  Below w.heap.size w w' ∧ ((∃ c i, c ≠ 0 ∧ valF d p = (c, i) ∧ e = .returned (.tuple #[.slice none 0 0, .agg #[.int .i64 c, .int .i64 i]])) ∨
    (∃ A c m, chkF (.cons d p .nil) 0 1 = .inr m ∧ valF d p = (0, 0) ∧ (encV d p).length ≤ 4000 ∧ e = .returned (.tuple #[.slice A (encV d p).length c, .agg #[.int .i64 0, .int .i64 0]]) ∧ w'.ownsRow w.heap.size 5 1 (.slice A (encV d p).length c) (encV d p).length (bv (encV d p))))

set_option maxRecDepth 100000 in
set_option maxHeartbeats 1000000 in
theorem encodeE_calls {d : Nd} {p : VF} {w : World} {v : Value} (hm : Mod d p) (hv : VIn w w.heap.size v d p) : Calls Try.prog 16 #[v] w (EnEnd w d p) := by
  have HV := Lib.hid hv
  have HM := Lib.hid hm
  obtain ⟨sb, sn, sp, rfl, Ab, nb, cb, An, nn, cn, Ap, cp, rfl, rfl, rfl, hbc, hnc, hpc, hpm, hrb, hrn, hp⟩ := hv
  clear hrb hrn hp hm
  go_enter Try.func16, Try.ntmps16
  go_wp2_with fail
  refine (check_calls (num := 0) (lev := 1) HM.out.nd HM.out.fp HM.out.pl (HV.out.on (bel2 _ _ _)) (by omega) (by omega)).mono ?_
  rintro e w2 ⟨hb2, hres⟩
  have F1 := (FC.new (w.alloc (.cells #[.int .i64 d.k, .int .i64 d.n, .slice Ab nb cb, .slice An nn cn, .slice Ap p.len cp] 26)) 0 0).on hb2
  simp only [alloc_size] at F1
  have HBX := Lib.hid (show Cells5 w2 w.heap.size 0 d (.slice Ab nb cb) (.slice An nn cn) (.slice Ap p.len cp) from by
    have hk : ∀ o, w2.cell? ⟨w.heap.size, o, none⟩ = _ := fun o => hb2.cell (by simp only [alloc_size]; omega)
    exact ⟨(hk 0).trans (cell_up (by simp)), (hk 1).trans (cell_up (by simp)), (hk 2).trans (cell_up (by simp)), (hk 3).trans (cell_up (by simp)), (hk 4).trans (cell_up (by simp))⟩)
  have HB2 := Lib.hid (show Below w.heap.size w w2 from chain (bel2 _ _ _) hb2)
  have HF1 := Lib.hid F1
  have hz2 : w.heap.size + 1 < w2.heap.size := F1.1
  clear hb2 F1
  rcases hres with ⟨c, ix, hr, rfl⟩ | ⟨m, hr, rfl⟩
  · have hc := chkF_code _ _ _ _ _ hr
    have hc0 : (c == 0) = false := by simpa using hc
    have hneq := flt_neq c ix 0 0
    have HF := Lib.hid (valF_inl hr)
    have HC := Lib.hid hc
    have P2 := HF1.out.alloc (.cells #[.int .i64 c, .int .i64 ix] 29)
    have P1 := FC.new w2 c ix
    have PB := bel_up HB2.out (.cells #[.int .i64 c, .int .i64 ix] 29)
    clear hr hc
    go_wp2_with fail
    obtain ⟨W4, hW4⟩ : ∃ W4, w2.alloc (.cells #[.int .i64 c, .int .i64 ix] 29) = W4 := ⟨_, rfl⟩
    rw [hW4] at P1 P2 PB ⊢
    have HPB := Lib.hid PB
    clear hW4 PB
    obtain ⟨z3, a0, a1, g0, g1⟩ := P1
    obtain ⟨z4, r0, r1, e0, e1⟩ := P2
    go_region
    go_wp2_with fail
    refine bodyPost_ret (v := .tuple #[.slice none 0 0, .agg #[.int .i64 c, .int .i64 ix]]) (by simp [results, Try.results16, go_sem, r0, r1, z4]) rfl ?_
    exact ⟨(below_put HPB.out (by omega) _ _).drew, .inl ⟨c, ix, HC.out, HF.out, rfl⟩⟩
  · have hneq := flt_neq 0 0 0 0
    have hg := chkF_good _ _ _ _ hr
    have HR := Lib.hid hr
    obtain ⟨x0, x1, x2, x3, x4⟩ := HBX.out
    simp only [Nat.zero_add] at x1 x2 x3 x4
    have y0 := fun ob => cell_up (o := ob) x0
    have y1 := fun ob => cell_up (o := ob) x1
    have y2 := fun ob => cell_up (o := ob) x2
    have y3 := fun ob => cell_up (o := ob) x3
    have y4 := fun ob => cell_up (o := ob) x4
    clear hr
    go_wp2_with fail
    refine (encode_calls HM.out.nd HM.out.fp HM.out.pl hg.1 hg.2.1 HM.out.el (HV.out.on (bel_up HB2.out _))).mono ?_
    rintro e w3 ⟨A3, c3, rfl, hown3, hb3⟩
    have HB3 := Lib.hid (show Below w.heap.size w w3 from chain (bel_up HB2.out _) hb3)
    have HR3 := Lib.hid ((HF1.out.alloc (.cells #[.int .i64 0, .int .i64 0] 29)).on hb3)
    have HOWN := Lib.hid hown3
    obtain ⟨z4, r0, r1, e0, e1⟩ := HR3.out
    have hel := HM.out.el
    clear hb3 hown3 x0 x1 x2 x3 x4 y0 y1 y2 y3 y4
    by_cases hbig : 4000 < (encV d p).length
    · have HF := Lib.hid (valF_big HR.out hbig)
      have hbig' : (4000 : Int) < ((encV d p).length : Int) := by omega
      go_wp2_with (go_at_call 46; refine (vfault_calls _ _ _).mono ?_; rintro e w' ⟨rfl, rfl⟩)
      refine bodyPost_ret (v := .tuple #[.slice none 0 0, .agg #[.int .i64 14, .int .i64 (-1)]]) (by simp [results, Try.results16, go_sem, r0, r1, z4]) rfl ?_
      exact ⟨bel_up (below_put HB3.out (by omega) _ _) _, .inl ⟨14, -1, by decide, HF.out, rfl⟩⟩
    · have HF := Lib.hid (valF_ok HR.out hbig)
      have hbig' : ¬ (4000 : Int) < ((encV d p).length : Int) := by omega
      go_wp2_with fail
      refine bodyPost_ret (v := .tuple #[.slice A3 (encV d p).length c3, .agg #[.int .i64 0, .int .i64 0]]) (by simp [results, Try.results16, go_sem, r0, r1, z4]) rfl ?_
      refine ⟨below_put HB3.out (by omega) _ _, .inr ⟨A3, c3, m, HR.out, HF.out, by omega, rfl, ?_⟩⟩
      exact own_mono (own_set (own_set HOWN.out (by simp only [alloc_size]; omega)) (by simp only [alloc_size]; omega)) (by simp only [alloc_size]; omega)

set_option maxRecDepth 100000 in
theorem validate_calls {d : Nd} {p : VF} {w : World} {v : Value} (hm : Mod d p) (hv : VIn w w.heap.size v d p) : Calls Try.prog 14 #[v] w fun e w' => e = .returned (.agg #[.int .i64 (valF d p).1, .int .i64 (valF d p).2]) ∧ Below w.heap.size w w' := by
  have HV := Lib.hid hv
  have HM := Lib.hid hm
  obtain ⟨sb, sn, sp, rfl, Ab, nb, cb, An, nn, cn, Ap, cp, rfl, rfl, rfl, hbc, hnc, hpc, hpm, hrb, hrn, hp⟩ := hv
  clear hrb hrn hp hm
  go_enter Try.func14, Try.ntmps14
  go_wp2_with fail
  refine (encodeE_calls HM.out (HV.out.on (bel2 _ _ _))).mono ?_
  rintro e w2 ⟨hb2, hres⟩
  have F1 := (FC.new (w.alloc (.cells #[.int .i64 d.k, .int .i64 d.n, .slice Ab nb cb, .slice An nn cn, .slice Ap p.len cp] 26)) 0 0).on hb2
  simp only [alloc_size] at F1
  have HB2 := Lib.hid (show Below w.heap.size w w2 from chain (bel2 _ _ _) hb2)
  have HF1 := Lib.hid F1
  have hz2 : w.heap.size + 1 < w2.heap.size := F1.1
  clear hb2 F1
  obtain ⟨A, n, c, cd, ix, he, hf⟩ : ∃ A n c cd ix, e = .returned (.tuple #[.slice A n c, .agg #[.int .i64 cd, .int .i64 ix]]) ∧ valF d p = (cd, ix) := by
    rcases hres with ⟨c, i, _, h, he⟩ | ⟨A, c, m, _, h, _, he, _⟩
    · exact ⟨_, _, _, _, _, he, h⟩
    · exact ⟨_, _, _, _, _, he, h⟩
  subst he
  have HF := Lib.hid hf
  clear hf hres
  obtain ⟨z4, r0, r1, e0, e1⟩ := HF1.out
  go_wp2_with fail
  refine bodyPost_ret (v := .agg #[.int .i64 cd, .int .i64 ix]) (by simp [results, Try.results14, go_sem, r0, r1, z4]) rfl ?_
  exact ⟨by rw [HF.out], bel_up (below_put HB2.out (by omega) _ _) _⟩
end Go.Proofs.Ytolognhjdmkohaa
