/-
  Lists of byte strings in memory; the contracts of wire.Slice at byte strings, of wire.List and PutList; the law on them.
-/
import Derived.Test.YtdandbhjmckmiaaWireList
import Derived.Deep.RegionHeld3
import Derived.Deep.DeepCutAuto
import Derived.Deep.DeepMust
namespace Go.Proofs.Ytdandbhjmckmiaa
open Go.RowKit
set_option linter.unusedVariables false
set_option linter.unusedSimpArgs false

/-- A list of byte strings: the cells are slices, each of which reads as its byte string. -/
def Chs (w : World) (B : Nat) (A : Option Addr) (n : Nat) (l : List (List UInt8)) : Prop :=
  ∃ vs, Rd w B 1 A n vs ∧ vs.length = l.length ∧ ∀ (j : Nat) (b : List UInt8), l[j]? = some b → ∃ A' n' c', vs[j]? = some (.slice A' n' c') ∧ Rd w B 1 A' n' (bv b) ∧ n' ≤ c'
section
variable {w w' : World} {B B' n : Nat} {A : Option Addr} {l : List (List UInt8)}
theorem Chs.len (h : Chs w B A n l) : l.length = n := by
  obtain ⟨vs, hr, he, _⟩ := h
  rw [← he]; exact hr.len
theorem Chs.below (h : Chs w B A n l) (hb : Below B w w') : Chs w' B A n l := by
  obtain ⟨vs, hr, he, hv⟩ := h
  refine ⟨vs, hr.below hb, he, fun j b hj => ?_⟩
  obtain ⟨A', n', c', e, hrd, hc⟩ := hv j b hj
  exact ⟨A', n', c', e, hrd.below hb, hc⟩
theorem Chs.more (h : Chs w B A n l) (hB : B ≤ B') : Chs w B' A n l := by
  obtain ⟨vs, hr, he, hv⟩ := h
  refine ⟨vs, hr.more hB, he, fun j b hj => ?_⟩
  obtain ⟨A', n', c', e, hrd, hc⟩ := hv j b hj
  exact ⟨A', n', c', e, hrd.more hB, hc⟩
theorem Chs.at_ {k : Nat} (h : Chs w B A n l) (hk : k < n) : ∃ b o x A' n' c', A = some ⟨b, o, none⟩ ∧ b < B ∧ l[k]? = some x ∧ w.cell? ⟨b, o + k, none⟩ = some (.slice A' n' c') ∧ Rd w B 1 A' n' (bv x) ∧ n' ≤ c' := by
  obtain ⟨vs, hr, he, hv⟩ := h
  obtain ⟨b, o, u, e, hb, hu, hc⟩ := hr.at_ hk
  have hl : k < l.length := by rw [← he]; have := hr.len; omega
  obtain ⟨A', n', c', hj, hrd, hcc⟩ := hv k l[k] (List.getElem?_eq_getElem hl)
  rw [hu] at hj
  injection hj with hj
  subst hj
  exact ⟨b, o, _, A', n', c', e, hb, List.getElem?_eq_getElem hl, hc, hrd, hcc⟩
end

/-- so much a list holds -/
def tot : List (List UInt8) → Nat
  | [] => 0
  | b :: l => b.length + 1 + tot l
theorem tot_len (l : List (List UInt8)) : l.length ≤ tot l := by
  induction l with
  | nil => simp [tot]
  | cons b l ih => simp only [tot, List.length_cons]; omega
theorem tot_mem {l : List (List UInt8)} {i : Nat} {x : List UInt8} (h : l[i]? = some x) {t : Nat} (ht : tot l ≤ t) : x.length + 1 ≤ t := by
  induction l generalizing i with
  | nil => simp at h
  | cons b l ih =>
    simp only [tot] at ht
    cases i with
    | zero => simp at h; subst h; omega
    | succ i => simp at h; exact ih h (by omega)
theorem tot_take (l : List (List UInt8)) (i : Nat) : tot (l.take i) ≤ tot l := by
  induction l generalizing i with
  | nil => simp
  | cons b l ih =>
    cases i with
    | zero => simp [tot]
    | succ i => simp only [List.take_succ_cons, tot]; have := ih i; omega
/-- the encoding of the first i byte strings -/
def listAcc (l : List (List UInt8)) (i : Nat) : List UInt8 := num (l.length : Int) ++ (l.take i).flatMap chunk
theorem listAcc_succ (l : List (List UInt8)) (i : Nat) (x : List UInt8) (h : l[i]? = some x) : listAcc l (i + 1) = listAcc l i ++ chunk x := by
  obtain ⟨hi, rfl⟩ := List.getElem?_eq_some_iff.1 h
  unfold listAcc
  rw [List.take_succ_eq_append_getElem hi, List.flatMap_append, List.append_assoc]
  simp
theorem flatC_len (l : List (List UInt8)) (h : tot l ≤ 1048576) : (l.flatMap chunk).length ≤ 11 * tot l := by
  induction l with
  | nil => simp
  | cons b l ih =>
    simp only [tot] at h
    have h1 := chunk_len b (by omega)
    have h2 := ih (by omega)
    simp only [List.flatMap_cons, List.length_append, tot]
    omega
theorem listAcc_len (l : List (List UInt8)) (i : Nat) (h : tot l ≤ 1048576) : (listAcc l i).length ≤ 10 + 11 * 1048576 := by
  have h0 := tot_len l
  have h1 := num_len (l.length : Int) (by omega) (by omega)
  have h3 := tot_take l i
  have h2 := flatC_len (l.take i) (by omega)
  unfold listAcc
  rw [List.length_append]
  omega
theorem listAcc_zero (l : List (List UInt8)) : listAcc l 0 = num (l.length : Int) := by simp [listAcc]
/-- the encoding of a list of byte strings -/
def listEnc (l : List (List UInt8)) : List UInt8 := num (l.length : Int) ++ l.flatMap chunk
theorem listAcc_all (l : List (List UInt8)) (i : Nat) (h : l.length ≤ i) : listAcc l i = listEnc l := by unfold listAcc listEnc; rw [List.take_of_length_le h]

set_option maxRecDepth 100000 in
set_option maxHeartbeats 400000 in
theorem sliceBytes_calls {w : World} {A : Option Addr} {n c : Nat} {l : List (List UInt8)} (h : Chs w w.heap.size A n l) (ht : tot l ≤ 1048576) :
    Calls Try.prog 38 #[.slice A n c, .func (.func 24) #[] #[]] w (Made w (listEnc l)) := by
  have hl : l.length = n := h.len
  have hn : n ≤ 1048576 := by have := tot_len l; omega
  have HT := Lib.hid ht
  have HL := Lib.hid hl
  have HH := Lib.hid h
  have H0 := Lib.hid (show listAcc l 0 = num (n : Int) by rw [listAcc_zero, HL.out])
  clear ht hl h
  go_enter Try.func38, Try.ntmps38
  go_wp2_with fail
  refine (number_calls (n : Int) _ (by omega) (by omega)).mono ?_
  rintro e w1 ⟨A1, c1, rfl, hown1, hb1⟩
  rw [← H0.out] at hown1 ⊢
  go_wp2_with fail
  go_loopw [5, 13] (fun v k wr => AccRel w (listAcc l) n v k wr) (fun _ k _ => n - (intOf k).toNat)
  case atStart => exact ⟨0, A1, c1, rfl, Nat.zero_le _, rfl, hown1, hb1⟩
  case round =>
    obtain ⟨i, A2, c2, rfl, hi, rfl, hown2, hb2⟩ := hrel
    have hal := listAcc_len l i HT.out
    have hsz := hb2.size
    clear hown1 hb1
    by_cases hlt : i < n
    · obtain ⟨b, o, x, A', n', c', rfl, hbB, hxi, hcell, hrd, hnc⟩ := HH.out.at_ hlt
      have hcell := (hb2.cell (p := ⟨b, o + i, none⟩) (by exact hbB)).trans hcell
      have HS := Lib.hid (listAcc_succ l i _ hxi)
      have hxl := tot_mem hxi HT.out
      have hn' : x.length = n' := by have := hrd.len; rw [bv_len] at this; exact this
      have hnn : n' ≤ 1048576 := by omega
      have hcl := chunk_len x (by omega)
      have HN := Lib.hid hn'
      have HRD := Lib.hid ((hrd.below hb2).more hb2.size)
      have hcl' : (chunk x).length ≤ 1048586 := by omega
      clear hxi hrd hn' hcl hxl
      generalize listAcc l i = m at *
      go_wp2_with fail
      refine (chunk_calls HRD.out (by omega)).mono ?_
      rintro e w3 ⟨A3, c3, rfl, hown3, hb3⟩
      have hz3 := hb3.size
      go_wp2_with (at_builtin
                   refine wpList_appB _ slB rfl (.tmp 17) (.tmp 20) rfl w.heap.size A2 m.length c2 (bv m) rfl (own_below hown2 hb3 (Nat.le_refl _)) w3.heap.size A3 (chunk x).length c3 (bv (chunk x)) rfl (Rd.of_own hown3) (bv_one _) (by omega) (by omega) (chain hb2 hb3) (Nat.le_refl _) ?_
                   intro A4 c4 w4 hown4 _ hb4)
      go_roundw
      case rel => exact ⟨i + 1, A4, c4, by go_num, by omega, by rw [HS.out, List.length_append], by rw [HS.out, List.length_append, bv_app]; exact hown4, hb4⟩
      case measure => simp [intOf]; omega
    · go_wp2_with fail
      go_ret
      exact Made.as hown2 rfl (by rw [listAcc_all l i (by rw [HL.out]; omega)]) hb2

theorem list_calls {w : World} {A : Option Addr} {n c : Nat} {l : List (List UInt8)} (h : Chs w w.heap.size A n l) (ht : tot l ≤ 1048576) :
    Calls Try.prog 26 #[.slice A n c] w (Made w (listEnc l)) := by
  go_enter Try.func26, Try.ntmps26
  go_wp2_with fail
  refine (sliceBytes_calls h ht).mono ?_
  rintro e w1 ⟨A1, c1, rfl, hown1, hb1⟩
  go_wp2_with fail
  go_ret
  exact ⟨A1, c1, rfl, hown1, hb1⟩

set_option maxRecDepth 100000 in
set_option maxHeartbeats 400000 in
theorem putList_calls {w : World} {A : Option Addr} {n c : Nat} {l : List (List UInt8)} (h : Chs w w.heap.size A n l) (ht : tot l ≤ 1048576) :
    Calls Try.prog 27 #[.slice A n c] w (Made w (listEnc l)) := by
  have hl : l.length = n := h.len
  have hn : n ≤ 1048576 := by have := tot_len l; omega
  have HT := Lib.hid ht
  have HL := Lib.hid hl
  have HH := Lib.hid h
  have H0 := Lib.hid (show listAcc l 0 = num (n : Int) by rw [listAcc_zero, HL.out])
  clear ht hl h
  go_enter Try.func27, Try.ntmps27
  go_wp2_with fail
  refine (put_calls (n : Int) _ (by omega) (by omega)).mono ?_
  rintro e w1 ⟨A1, c1, rfl, hown1, hb1⟩
  rw [← H0.out] at hown1 ⊢
  go_wp2_with fail
  go_loopw [3, 4] (fun v k wr => AccRel w (listAcc l) n v k wr) (fun _ k _ => n - (intOf k).toNat)
  case atStart => exact ⟨0, A1, c1, rfl, Nat.zero_le _, rfl, hown1, hb1⟩
  case round =>
    obtain ⟨i, A2, c2, rfl, hi, rfl, hown2, hb2⟩ := hrel
    have hal := listAcc_len l i HT.out
    have hsz := hb2.size
    clear hown1 hb1
    by_cases hlt : i < n
    · obtain ⟨b, o, x, A', n', c', rfl, hbB, hxi, hcell, hrd, hnc⟩ := HH.out.at_ hlt
      have hcell := (hb2.cell (p := ⟨b, o + i, none⟩) (by exact hbB)).trans hcell
      have HS := Lib.hid (listAcc_succ l i _ hxi)
      have hxl := tot_mem hxi HT.out
      have hn' : x.length = n' := by have := hrd.len; rw [bv_len] at this; exact this
      have hnn : n' ≤ 1048576 := by omega
      have hcl := chunk_len x (by omega)
      have HN := Lib.hid hn'
      have HRD := Lib.hid ((hrd.below hb2).more hb2.size)
      have hcl' : (chunk x).length ≤ 1048586 := by omega
      clear hxi hrd hn' hcl hxl
      generalize listAcc l i = m at *
      go_wp2_with fail
      refine (putChunk_calls HRD.out (by omega)).mono ?_
      rintro e w3 ⟨A3, c3, rfl, hown3, hb3⟩
      have hz3 := hb3.size
      go_wp2_with (at_builtin
                   refine wpList_appB _ slB rfl (.tmp 14) (.tmp 19) rfl w.heap.size A2 m.length c2 (bv m) rfl (own_below hown2 hb3 (Nat.le_refl _)) w3.heap.size A3 (chunk x).length c3 (bv (chunk x)) rfl (Rd.of_own hown3) (bv_one _) (by omega) (by omega) (chain hb2 hb3) (Nat.le_refl _) ?_
                   intro A4 c4 w4 hown4 _ hb4)
      go_roundw
      case rel => exact ⟨i + 1, A4, c4, by go_num, by omega, by rw [HS.out, List.length_append], by rw [HS.out, List.length_append, bv_app]; exact hown4, hb4⟩
      case measure => simp [intOf]; omega
    · go_wp2_with fail
      go_ret
      exact Made.as hown2 rfl (by rw [listAcc_all l i (by rw [HL.out]; omega)]) hb2


theorem undrew {B : Nat} {w w' : World} (h : Below B w.drew w') : Below B w w' := ⟨h.os, h.tape, h.output, h.size, h.block⟩
def CntRel (w : World) (n : Nat) (k : Value) (wr : World) : Prop := ∃ i : Nat, k = .int .i64 (i : Int) ∧ i ≤ n ∧ Below w.heap.size w wr

set_option maxRecDepth 100000 in
set_option maxHeartbeats 400000 in
theorem listMatches_calls {w : World} {A : Option Addr} {n c : Nat} {l : List (List UInt8)} (h : Chs w w.heap.size A n l) (ht : tot l ≤ 1048576) :
    Calls Try.prog 9 #[.slice A n c] w fun e w' => e = .returned (.bool true) ∧ Below w.heap.size w w' := by
  have hl : l.length = n := h.len
  have hn : n ≤ 1048576 := by have := tot_len l; omega
  have HT := Lib.hid ht
  have HL := Lib.hid hl
  have HH := Lib.hid h
  have H0 := Lib.hid (show listAcc l 0 = num (n : Int) by rw [listAcc_zero, HL.out])
  clear ht hl h
  go_enter Try.func9, Try.ntmps9
  go_wp2_with fail
  refine (example_calls _).mono ?_
  rintro e w0 ⟨rfl, hb0⟩
  go_wp2_with fail
  go_loopw [3] (fun k wr => CntRel w n k wr) (fun k _ => n - (intOf k).toNat)
  case atStart => exact ⟨0, rfl, Nat.zero_le _, hb0⟩
  case round =>
    obtain ⟨i, rfl, hi, hb2⟩ := hrel
    have HB2 := Lib.hid hb2
    clear hb2 hb0
    by_cases hlt : i < n
    · obtain ⟨b, o, x, A', n', c', rfl, hbB, hxi, hcell, hrd, hnc⟩ := HH.out.at_ hlt
      have hcell := (HB2.out.cell (p := ⟨b, o + i, none⟩) (by exact hbB)).trans hcell
      have hxl := tot_mem hxi HT.out
      have hn' : x.length = n' := by have := hrd.len; rw [bv_len] at this; exact this
      have hnn : n' ≤ 1048576 := by omega
      have HN := Lib.hid hn'
      have HRD := Lib.hid ((hrd.below HB2.out).more HB2.out.size)
      have hbs : b < wr.heap.size := by have := HB2.out.size; omega
      clear hxi hrd hn' hxl
      go_upto_region 6 with (fail)
      go_cut [23] (fun t wx => t = .bool false ∧ Below w.heap.size w wx)
      case first =>
        go_region_held3 (fun w' => w'.cell? ⟨b, o + i, none⟩ = some (.slice A' n' c')) (first | exact hcell | exact k3 | exact k4)
          (first
            | (go_at_call 24; refine (chunk_calls (by exact HRD.out) (by omega)).mono ?_; rintro e w3 ⟨A3, c3, rfl, hown3, hb3⟩; have k3 := (hb3.cell (p := ⟨b, o + i, none⟩) (by exact hbs)).trans hcell; have hz3 : wr.heap.size ≤ w3.heap.size := hb3.size)
            | (go_at_call 25; refine (putChunk_calls (by exact ((HRD.out.below (undrew hb3)).more hz3)) (by omega)).mono ?_; rintro e w4 ⟨A4, c4, rfl, hown4, hb4⟩; have k4 := (hb4.cell (p := ⟨b, o + i, none⟩) (by exact Nat.lt_of_lt_of_le hbs hz3)).trans k3)
            | (go_at_call 15; refine (bytes_calls (by exact (Rd.of_own hown3).below hb4) (by exact Rd.of_own hown4)).mono ?_; rintro e w5 ⟨rfl, rfl⟩; rw [show (chunk x == chunk x) = true by simp]))
        all_goals go_wp2_with fail
        all_goals go_meet
        all_goals exact ⟨rfl, chain HB2.out (chain (undrew hb3) hb4)⟩
      case rest =>
        obtain ⟨rfl, hbx⟩ := hcut
        go_wp2_with fail
        go_roundw
        case rel => exact ⟨i + 1, by go_num, by omega, hbx⟩
        case measure => simp [intOf]; omega
    · go_wp2_with fail
      refine (list_calls ((HH.out.below HB2.out).more HB2.out.size) HT.out).mono ?_
      rintro e w3 ⟨A3, c3, rfl, hown3, hb3⟩
      have HB3 := Lib.hid (chain HB2.out hb3)
      have HO3 := Lib.hid (Rd.of_own hown3)
      clear hown3 hb3
      go_wp2_with fail
      refine (putList_calls ((HH.out.below HB3.out).more HB3.out.size) HT.out).mono ?_
      rintro e w4 ⟨A4, c4, rfl, hown4, hb4⟩
      go_wp2_with fail
      refine (bytes_calls (HO3.out.below hb4) (Rd.of_own hown4)).mono ?_
      rintro e w5 ⟨rfl, rfl⟩
      rw [show (listEnc l == listEnc l) = true by simp]
      go_wp2_with fail
      go_ret
      exact ⟨rfl, chain HB3.out hb4⟩
end Go.Proofs.Ytdandbhjmckmiaa
