/-
  The plain law of byte strings and lists: what is read, what is written, and that the two fit. No program in sight.
-/
import Derived.Test.YtdandbhjmckmiaaWireMath
namespace Go.Proofs.Ytdandbhjmckmiaa

theorem readNum_or (bs : List UInt8) (a : Int) (hl : bs.length ≤ 9223372036854775807) :
    (∃ c i, c ≠ 0 ∧ readNum bs a = (0, 0, c, i)) ∨ ∃ k y j : Nat, a = (k : Int) ∧ dec (bs.drop k) = .inr (y, j) ∧ readNum bs a = (zag y, ((k + j : Nat) : Int), 0, 0) ∧ k + j ≤ bs.length ∧ 0 < j ∧ -9223372036854775808 ≤ zag y ∧ zag y ≤ 9223372036854775807 := by
  by_cases h : a < 0 ∨ (bs.length : Int) < a
  · exact .inl ⟨4, -2, by omega, by unfold readNum; rw [if_pos h]⟩
  · obtain ⟨k, rfl⟩ := Int.eq_ofNat_of_zero_le (show 0 ≤ a by omega)
    have e : readNum bs k = (match dec (bs.drop k) with | .inl e => (0, 0, (e : Int), (k : Int)) | .inr p => (zag p.1, (k : Int) + (p.2 : Int), 0, 0)) := by
      unfold readNum; rw [if_neg h]; rfl
    cases hd : dec (bs.drop k) with
    | inl c =>
      have := decF_code 0 _ _ hd
      exact .inl ⟨c, k, by omega, by rw [e, hd]⟩
    | inr p =>
      obtain ⟨y, j⟩ := p
      obtain ⟨h1, h2, h3⟩ := dec_len hd
      rw [List.length_drop] at h3
      refine .inr ⟨k, y, j, rfl, hd, by rw [e, hd]; simp, by omega, h1, zag_bd y (dec_inv hd).2.2.2⟩

theorem readNum_bd {bs : List UInt8} {a x y c i : Int} (h : readNum bs a = (x, y, c, i)) : -9223372036854775808 ≤ x ∧ x ≤ 9223372036854775807 := by
  unfold readNum at h
  split at h
  · simp only [Prod.mk.injEq] at h; omega
  · cases hd : dec (bs.drop a.toNat) with
    | inl e => rw [hd] at h; simp only [Prod.mk.injEq] at h; omega
    | inr p =>
      rw [hd] at h
      simp only [Prod.mk.injEq] at h
      rw [← h.1]
      exact zag_bd p.1 (dec_inv (n := p.2) hd).2.2.2

end Go.Proofs.Ytdandbhjmckmiaa
