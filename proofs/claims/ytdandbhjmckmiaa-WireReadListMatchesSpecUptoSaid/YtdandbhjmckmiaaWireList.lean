/-
  The contracts of wire.Slice at numbers and at byte strings, of wire.List and PutList.
-/
import Derived.Test.YtdandbhjmckmiaaWireLawB
namespace Go.Proofs.Ytdandbhjmckmiaa
open Go.RowKit
set_option linter.unusedVariables false
set_option linter.unusedSimpArgs false

theorem iv_at {w : World} {B n k : Nat} {A : Option Addr} {xs : List Int} (h : Rd w B 1 A n (iv xs)) (hk : k < n) : ∃ b o x, A = some ⟨b, o, none⟩ ∧ b < B ∧ xs[k]? = some x ∧ w.cell? ⟨b, o + k, none⟩ = some (.int .i64 x) := by
  obtain ⟨b, o, u, e, hb, hu, hc⟩ := h.at_ hk
  have hl : k < xs.length := by have := h.len; rw [iv_len] at this; omega
  obtain rfl : u = .int .i64 xs[k] := by simpa [iv, List.getElem?_eq_getElem hl] using hu.symm
  exact ⟨b, o, _, e, hb, List.getElem?_eq_getElem hl, hc⟩
theorem bv_at {w : World} {B n k : Nat} {A : Option Addr} {xs : List UInt8} (h : Rd w B 1 A n (bv xs)) (hk : k < n) : ∃ b o x, A = some ⟨b, o, none⟩ ∧ b < B ∧ xs[k]? = some x ∧ w.cell? ⟨b, o + k, none⟩ = some (.int .u8 (x.toNat : Int)) := by
  obtain ⟨b, o, u, e, hb, hu, hc⟩ := h.at_ hk
  have hl : k < xs.length := by have := h.len; rw [bv_len] at this; omega
  obtain rfl : u = .int .u8 (xs[k].toNat : Int) := by simpa [bv, List.getElem?_eq_getElem hl] using hu.symm
  exact ⟨b, o, _, e, hb, List.getElem?_eq_getElem hl, hc⟩
/-- the encoding of the first i numbers of n -/
def accI (xs : List Int) (i : Nat) : List UInt8 := num (xs.length : Int) ++ (xs.take i).flatMap num
theorem accI_succ (xs : List Int) (i : Nat) (x : Int) (h : xs[i]? = some x) : accI xs (i + 1) = accI xs i ++ num x := by
  obtain ⟨hi, rfl⟩ := List.getElem?_eq_some_iff.1 h
  unfold accI
  rw [List.take_succ_eq_append_getElem hi, List.flatMap_append, List.append_assoc]
  simp
theorem flat_len (xs : List Int) (h : ∀ x ∈ xs, -9223372036854775808 ≤ x ∧ x ≤ 9223372036854775807) : (xs.flatMap num).length ≤ 10 * xs.length := by
  induction xs with
  | nil => simp
  | cons x xs ih =>
    have h1 := num_len x (h x (by simp)).1 (h x (by simp)).2
    have h2 := ih fun y hy => h y (by simp [hy])
    simp only [List.flatMap_cons, List.length_append, List.length_cons]
    omega
theorem accI_len (xs : List Int) (i : Nat) (h : ∀ x ∈ xs, -9223372036854775808 ≤ x ∧ x ≤ 9223372036854775807) (hl : xs.length ≤ 1048576) : (accI xs i).length ≤ 10 + 10 * 1048576 := by
  have h1 := num_len (xs.length : Int) (by omega) (by omega)
  have h2 := flat_len (xs.take i) fun y hy => h y (List.mem_of_mem_take hy)
  have h3 : (xs.take i).length ≤ xs.length := by rw [List.length_take]; omega
  unfold accI
  rw [List.length_append]
  omega
theorem accI_zero (xs : List Int) : accI xs 0 = num (xs.length : Int) := by simp [accI]
/-- the list of numbers -/
def numsEnc (xs : List Int) : List UInt8 := num (xs.length : Int) ++ xs.flatMap num
theorem accI_all (xs : List Int) (i : Nat) (h : xs.length ≤ i) : accI xs i = numsEnc xs := by unfold accI numsEnc; rw [List.take_of_length_le h]

def AccRel (w : World) (f : Nat → List UInt8) (n : Nat) (v k : Value) (wr : World) : Prop :=
  ∃ (i : Nat) (A : Option Addr) (c : Nat), k = .int .i64 (i : Int) ∧ i ≤ n ∧ v = .slice A (f i).length c ∧ wr.ownsRow w.heap.size 5 1 (.slice A (f i).length c) (f i).length (bv (f i)) ∧ Below w.heap.size w wr

set_option maxRecDepth 100000 in
set_option maxHeartbeats 400000 in
theorem sliceInts_calls {w : World} {A : Option Addr} {n c : Nat} {xs : List Int} (h : Rd w w.heap.size 1 A n (iv xs)) (hx : ∀ x ∈ xs, -9223372036854775808 ≤ x ∧ x ≤ 9223372036854775807) (hn : n ≤ 1048576) :
    Calls Try.prog 23 #[.slice A n c, .func (.func 16) #[] #[]] w (Made w (numsEnc xs)) := by
  have hl : xs.length = n := by have := h.len; rw [iv_len] at this; exact this
  have HX := Lib.hid hx
  have HL := Lib.hid hl
  have HH := Lib.hid h
  clear hx hl h
  go_enter Try.func23, Try.ntmps23
  go_wp2_with fail
  refine (number_calls (n : Int) _ (by omega) (by omega)).mono ?_
  rintro e w1 ⟨A1, c1, rfl, hown1, hb1⟩
  have H0 := Lib.hid (show accI xs 0 = num (n : Int) by rw [accI_zero, HL.out])
  rw [← H0.out] at hown1 ⊢
  go_wp2_with fail
  go_loopw [5, 13] (fun v k wr => AccRel w (accI xs) n v k wr) (fun _ k _ => n - (intOf k).toNat)
  case atStart => exact ⟨0, A1, c1, rfl, Nat.zero_le _, rfl, hown1, hb1⟩
  case round =>
    obtain ⟨i, A2, c2, rfl, hi, rfl, hown2, hb2⟩ := hrel
    have hal := accI_len xs i HX.out (by rw [HL.out]; exact hn)
    have hsz := hb2.size
    by_cases hlt : i < n
    · obtain ⟨b, o, x, rfl, hbB, hxi, hcell⟩ := iv_at HH.out hlt
      have hcell := (hb2.cell (p := ⟨b, o + i, none⟩) (by exact hbB)).trans hcell
      have HB := Lib.hid (HX.out x (List.mem_of_getElem? hxi))
      have HS := Lib.hid (accI_succ xs i _ hxi)
      have hnl := num_len x HB.out.1 HB.out.2
      clear hxi hown1 hb1
      generalize accI xs i = m at *
      go_wp2_with fail
      refine (number_calls x _ HB.out.1 HB.out.2).mono ?_
      rintro e w3 ⟨A3, c3, rfl, hown3, hb3⟩
      have hz3 := hb3.size
      go_wp2_with (at_builtin
                   refine wpList_appB _ slB rfl (.tmp 17) (.tmp 20) rfl w.heap.size A2 m.length c2 (bv m) rfl (own_below hown2 hb3 (Nat.le_refl _)) w3.heap.size A3 (num x).length c3 (bv (num x)) rfl (Rd.of_own hown3) (bv_one _) (by omega) (by omega) (chain hb2 hb3) (Nat.le_refl _) ?_
                   intro A4 c4 w4 hown4 _ hb4)
      go_roundw
      case rel => exact ⟨i + 1, A4, c4, by go_num, by omega, by rw [HS.out, List.length_append], by rw [HS.out, List.length_append, bv_app]; exact hown4, hb4⟩
      case measure => simp [intOf]; omega
    · go_wp2_with fail
      go_ret
      exact Made.as hown2 rfl (by rw [accI_all xs i (by rw [HL.out]; omega)]) hb2

set_option maxRecDepth 100000 in
set_option maxHeartbeats 400000 in
theorem sliceOfNumbers_calls {w : World} {A : Option Addr} {n c : Nat} {xs : List Int} (h : Rd w w.heap.size 1 A n (iv xs)) (hx : ∀ x ∈ xs, -9223372036854775808 ≤ x ∧ x ≤ 9223372036854775807) (hn : n ≤ 1048576) :
    Calls Try.prog 8 #[.slice A n c] w fun e w' => e = .returned (.bool true) ∧ Below w.heap.size w w' := by
  have hl : xs.length = n := by have := h.len; rw [iv_len] at this; exact this
  have HX := Lib.hid hx
  have HL := Lib.hid hl
  have HH := Lib.hid h
  have H0 := Lib.hid (show accI xs 0 = num (n : Int) by rw [accI_zero, HL.out])
  clear hx hl h
  go_enter Try.func8, Try.ntmps8
  go_wp2_with fail
  refine (example_calls _).mono ?_
  rintro e w0 ⟨rfl, hb0⟩
  have HB0 := Lib.hid hb0
  clear hb0
  go_wp2_with fail
  refine (put_calls (n : Int) _ (by omega) (by omega)).mono ?_
  rintro e w1 ⟨A1, c1, rfl, hown1, hb1⟩
  rw [← H0.out] at hown1 ⊢
  go_wp2_with fail
  go_loopw [3, 4] (fun v k wr => AccRel w (accI xs) n v k wr) (fun _ k _ => n - (intOf k).toNat)
  case atStart => exact ⟨0, A1, c1, rfl, Nat.zero_le _, rfl, own_mono hown1 HB0.out.size, chain HB0.out hb1⟩
  case round =>
    obtain ⟨i, A2, c2, rfl, hi, rfl, hown2, hb2⟩ := hrel
    have hal := accI_len xs i HX.out (by rw [HL.out]; exact hn)
    have hsz := hb2.size
    clear hown1 hb1
    by_cases hlt : i < n
    · obtain ⟨b, o, x, rfl, hbB, hxi, hcell⟩ := iv_at HH.out hlt
      have hcell := (hb2.cell (p := ⟨b, o + i, none⟩) (by exact hbB)).trans hcell
      have HB := Lib.hid (HX.out x (List.mem_of_getElem? hxi))
      have HS := Lib.hid (accI_succ xs i _ hxi)
      have hnl := num_len x HB.out.1 HB.out.2
      clear hxi
      generalize accI xs i = m at *
      go_wp2_with fail
      refine (put_calls x _ HB.out.1 HB.out.2).mono ?_
      rintro e w3 ⟨A3, c3, rfl, hown3, hb3⟩
      go_wp2_with fail
      refine (join_calls ((Rd.of_own hown2).below hb3) (Rd.of_own hown3) (Nat.le_refl _) (by omega)).mono ?_
      rintro e w4 ⟨A4, c4, rfl, hown4, hb4⟩
      rw [← HS.out] at hown4 ⊢
      have HB4 := Lib.hid (chain (chain hb2 hb3) hb4)
      have HO4 := Lib.hid (own_mono hown4 (Nat.le_trans hsz hb3.size))
      clear hb3 hb4 hown3 hown4 hown2
      go_wp2_with fail
      go_roundw
      case rel => exact ⟨i + 1, A4, c4, by go_num, by omega, rfl, HO4.out, HB4.out⟩
      case measure => simp [intOf]; omega
    · have HE := Lib.hid (accI_all xs i (by rw [HL.out]; omega))
      rw [HE.out] at hown2 ⊢
      have HB2 := Lib.hid hb2
      have HO2 := Lib.hid (Rd.of_own hown2)
      clear hb2 hown2
      go_wp2_with fail
      refine (sliceInts_calls ((HH.out.below HB2.out).more HB2.out.size) HX.out hn).mono ?_
      rintro e w3 ⟨A3, c3, rfl, hown3, hb3⟩
      go_wp2_with fail
      refine (bytes_calls (Rd.of_own hown3) (HO2.out.below hb3)).mono ?_
      rintro e w4 ⟨rfl, rfl⟩
      rw [show (numsEnc xs == numsEnc xs) = true by simp]
      go_wp2_with fail
      go_ret
      exact ⟨rfl, chain HB2.out hb3⟩
end Go.Proofs.Ytdandbhjmckmiaa
