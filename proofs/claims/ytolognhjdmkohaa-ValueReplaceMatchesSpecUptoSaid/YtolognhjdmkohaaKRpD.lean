/-
  Replace: where find leads; the sizes of a value in which another one stands in place of a node.
-/
import Derived.Test.YtolognhjdmkohaaKRpC
namespace Go.Proofs.Ytolognhjdmkohaa
open Go.RowKit
set_option linter.unusedVariables false
set_option linter.unusedSimpArgs false

theorem encP_setAt (F : VF) : ∀ (rc : Bool) (ns : List (List UInt8)) (j : Nat) (e : Nd) (q : VF) (d' : Nd) (p' r' : VF), F.drop j = .cons d' p' r' → (encP (F.setAt j e q) rc ns).length + (encV d' p').length = (encP F rc ns).length + (encV e q).length := by
  induction F with
  | nil => intro rc ns j e q d' p' r' h; cases j <;> cases h
  | cons d p r _ ih =>
    intro rc ns j e q d' p' r' h
    cases j with
    | zero =>
      rw [VF.drop_zero] at h
      cases h
      show (encP (.cons e q r) rc ns).length + _ = _
      simp only [encP, encV, List.length_append]
      omega
    | succ j =>
      have := ih rc ns.tail j e q d' p' r' h
      show (encP (.cons d p (r.setAt j e q)) rc ns).length + _ = _
      simp only [encP, List.length_append]
      omega
theorem encV_setAt {d : Nd} {p : VF} {j : Nat} {e : Nd} {q : VF} {d' : Nd} {p' r' : VF} (h : p.drop j = .cons d' p' r') (B : Nat) (hB : (encV e q).length ≤ (encV d' p').length + B) : (encV d (p.setAt j e q)).length ≤ (encV d p).length + B := by
  have hk := encP_setAt p (d.k == 4) d.ns j e q d' p' r' h
  unfold encV at *
  unfold encOne at *
  rw [VF.len_setAt]
  simp only [List.length_append]
  split
  · omega
  · split
    · omega
    · simp only [List.length_append]; omega
theorem enc_rep : ∀ (path : List Int) (d : Nd) (p : VF) (e : Nd) (q : VF), (encV (repV path d p e q).1 (repV path d p e q).2).length ≤ (encV d p).length + (encV e q).length := by
  intro path
  induction path with
  | nil => intro d p e q; rw [repV_nil]; simp only; omega
  | cons k r ih =>
    intro d p e q
    unfold repV
    split
    · simp only; omega
    · next d' p' _ h => exact encV_setAt h _ (ih d' p' e q)
theorem fits_setAt (F : VF) : ∀ (j : Nat) (e : Nd) (q : VF), Fits F → NdFits e → q.len ≤ 1048576 → Fits q → Fits (F.setAt j e q) := by
  induction F with
  | nil => intro j e q h _ _ _; cases j <;> exact h
  | cons d p r _ ih =>
    rintro j e q ⟨h1, h2, h3, h4⟩ a b c
    cases j with
    | zero => exact ⟨a, b, c, h4⟩
    | succ j => exact ⟨h1, h2, h3, ih j e q h4 a b c⟩
theorem fits_rep : ∀ (path : List Int) (d : Nd) (p : VF) (e : Nd) (q : VF), NdFits d → Fits p → p.len ≤ 1048576 → NdFits e → Fits q → q.len ≤ 1048576 → NdFits (repV path d p e q).1 ∧ Fits (repV path d p e q).2 ∧ (repV path d p e q).2.len ≤ 1048576 := by
  intro path
  induction path with
  | nil => intro d p e q _ _ _ h1 h2 h3; exact ⟨h1, h2, h3⟩
  | cons k r ih =>
    intro d p e q a1 a2 a3 h1 h2 h3
    unfold repV
    split
    · exact ⟨a1, a2, a3⟩
    · next d' p' _ h =>
      obtain ⟨b1, b2, b3⟩ := Fits.at_ a2 h
      obtain ⟨c1, c2, c3⟩ := ih d' p' e q b1 b3 b2 h1 h2 h3
      exact ⟨a1, fits_setAt _ _ _ _ a2 c1 c3 c2, by rw [VF.len_setAt]; exact a3⟩
theorem rep_mod {d e : Nd} {p q : VF} (path : List Int) (hm : Mod d p) (he : Mod e q) (hv : valF d p = (0, 0)) (hw : valF e q = (0, 0)) : Mod (repV path d p e q).1 (repV path d p e q).2 := by
  obtain ⟨a, b, c⟩ := fits_rep path d p e q hm.nd hm.fp hm.pl he.nd he.fp he.pl
  obtain ⟨_, _, h1⟩ := valF_zero hv
  obtain ⟨_, _, h2⟩ := valF_zero hw
  exact ⟨a, b, c, by have := enc_rep path d p e q; omega⟩
/-- what find answers -/
def FdEndT (w : World) (b0 o0 : Nat) (path : List Int) (r : Sum Nat (Nd × VF)) (e : Ending) (w' : World) : Prop :=
  Below w.heap.size w w' ∧ ((∃ i : Nat, r = .inl i ∧ e = .returned (.tuple #[.pointer none, .agg #[.int .i64 12, .int .i64 (i : Int)]])) ∨
    (∃ d p b o, r = .inr (d, p) ∧ e = .returned (.tuple #[.pointer (some ⟨b, o, none⟩), .agg #[.int .i64 0, .int .i64 0]]) ∧ NAt w w.heap.size b o d p ∧ PAt w path b0 o0 b o))
def FdRelT (w : World) (b0 o0 : Nat) (r : Sum Nat (Nd × VF)) (path : List Int) (n : Nat) (v k : Value) : Prop :=
  ∃ (i b o : Nat) (d : Nd) (p : VF), i ≤ n ∧ k = .int .i64 (i : Int) ∧ v = .pointer (some ⟨b, o, none⟩) ∧ NAt w w.heap.size b o d p ∧ r = pathV d p (path.drop i) i ∧ PAt w (path.take i) b0 o0 b o
set_option maxRecDepth 100000 in
set_option maxHeartbeats 1000000 in
theorem findT_calls {w : World} {b o : Nat} {d : Nd} {p : VF} {A : Option Addr} {n c : Nat} {path : List Int} (hv : NAt w w.heap.size b o d p) (hr : Rd w w.heap.size 1 A n (iv path)) (hn : n ≤ 1048576) (hpl : p.len ≤ 9223372036854775807) :
    Calls Try.prog 54 #[.pointer (some ⟨b, o, none⟩), .slice A n c] w (FdEndT w b o path (pathV d p path 0)) := by
  have HL := Lib.hid (show path.length = n by have := hr.len; rw [iv_len] at this; exact this)
  have HR := Lib.hid hr
  have HV := Lib.hid hv
  clear hr hv
  go_enter Try.func54, Try.ntmps54
  go_wp2_with fail
  go_loop [0, 10] (FdRelT w b o (pathV d p path 0) path n) (fun _ k => n - (intOf k).toNat)
  case atStart => exact ⟨0, b, o, d, p, Nat.zero_le _, rfl, rfl, HV.out, by simp, by rw [List.take_zero]; exact ⟨rfl, rfl⟩⟩
  case round =>
    obtain ⟨i, b', o', d', p', hi, rfl, rfl, hat, hres, hpa⟩ := hrel
    have HPA := Lib.hid hpa
    clear hpa
    have HAT := Lib.hid hat
    have HRES := Lib.hid hres
    clear hat hres
    by_cases hlt : i < n
    · obtain ⟨bp, op, k, rfl, hbp, hk, hck⟩ := iv_at HR.out hlt
      have hck' := fun ob => cell_up (o := ob) hck
      have HK := Lib.hid (show path.drop i = k :: path.drop (i + 1) by
        rw [List.drop_eq_getElem_cons (by rw [HL.out]; exact hlt)]
        congr 1
        exact (List.getElem?_eq_some_iff.1 hk).2)
      have hli : (i : Int) < (n : Int) := by omega
      have h0 : (0 : Int) ≤ (i : Int) := by omega
      have HKK := Lib.hid (show path.take (i + 1) = path.take i ++ [k] by rw [List.take_add_one, hk]; rfl)
      clear hk
      by_cases hbad : k < 0
      · have HB := Lib.hid (show pathV d p path 0 = .inl i by rw [HRES.out, HK.out]; exact pathV_bad (.inl hbad))
        go_wp2_with (go_at_call 46; refine (vfault_calls _ _ _).mono ?_; rintro e w' ⟨rfl, rfl⟩)
        refine bodyPost_ret (v := .tuple #[.pointer none, .agg #[.int .i64 12, .int .i64 (i : Int)]]) (by simp [results, Try.results54, go_sem]) rfl ?_
        exact ⟨bel2 _ _ _, .inl ⟨i, HB.out, rfl⟩⟩
      · have hk0 : ¬ k < 0 := hbad
        by_cases hbig : (p'.len : Int) ≤ k
        · have HB := Lib.hid (show pathV d p path 0 = .inl i by rw [HRES.out, HK.out]; exact pathV_bad (.inr hbig))
          obtain ⟨A4, c4, q4⟩ := HAT.out.len
          have q4' := fun ob => cell_up (o := ob) q4
          go_wp2_with (go_at_call 46; refine (vfault_calls _ _ _).mono ?_; rintro e w' ⟨rfl, rfl⟩)
          refine bodyPost_ret (v := .tuple #[.pointer none, .agg #[.int .i64 12, .int .i64 (i : Int)]]) (by simp [results, Try.results54, go_sem]) rfl ?_
          exact ⟨bel2 _ _ _, .inl ⟨i, HB.out, rfl⟩⟩
        · obtain ⟨j, rfl⟩ := Int.eq_ofNat_of_zero_le (show 0 ≤ k by omega)
          have hj : j < p'.len := by omega
          obtain ⟨d2, p2, hdr⟩ := VF.drop_cons hj
          obtain ⟨b2, o2, c2, q4, hc2, hat2⟩ := HAT.out.part hdr hj
          have q4' := fun ob => cell_up (o := ob) q4
          have HA2 := Lib.hid hat2
          have HB := Lib.hid (show pathV d p path 0 = pathV d2 p2 (path.drop (i + 1)) (i + 1) by rw [HRES.out, HK.out]; exact pathV_go hj hdr)
          have hj1 : (j : Int) < (p'.len : Int) := by omega
          have hj0 : (0 : Int) ≤ (j : Int) := by omega
          have HPB := Lib.hid (show PAt w (path.take (i + 1)) b o b2 (o2 + j * 5) by rw [HKK.out]; exact PAt.app _ _ _ _ _ _ _ _ HPA.out ⟨_, _, b2, o2, q4, by rw [Int.toNat_natCast]; exact ⟨rfl, rfl⟩⟩)
          clear hat2 hdr
          go_wp2_with fail
          go_round
          case rel => exact ⟨i + 1, b2, o2 + j * 5, d2, p2, by omega, by go_num, rfl, HA2.out, HB.out, HPB.out⟩
          case measure => simp [intOf]; omega
    · have HB := Lib.hid (show pathV d p path 0 = .inr (d', p') by rw [HRES.out, List.drop_of_length_le (by rw [HL.out]; omega)]; exact pathV_nil _ _ _)
      go_wp2_with fail
      refine bodyPost_ret (v := .tuple #[.pointer (some ⟨b', o', none⟩), .agg #[.int .i64 0, .int .i64 0]]) (by simp [results, Try.results54, go_sem]) rfl ?_
      exact ⟨bel1 _ _, .inr ⟨d', p', b', o', HB.out, rfl, HAT.out, by have h := HPA.out; rwa [List.take_of_length_le (by rw [HL.out]; omega)] at h⟩⟩
end Go.Proofs.Ytolognhjdmkohaa
