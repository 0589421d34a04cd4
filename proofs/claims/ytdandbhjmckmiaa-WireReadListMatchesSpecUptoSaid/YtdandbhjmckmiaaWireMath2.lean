/-
  The plain law of byte strings and lists: what is read, what is written, and that the two fit. No program in sight.
-/
import Derived.Test.YtdandbhjmckmiaaWireMath
namespace Go.Proofs.Ytdandbhjmckmiaa
set_option linter.unusedVariables false
set_option linter.unusedSimpArgs false

theorem readNum_or (bs : List UInt8) (a : Int) (hl : bs.length ≤ 9223372036854775807) :
    (∃ c i, c ≠ 0 ∧ readNum bs a = (0, 0, c, i)) ∨ ∃ k y j : Nat, a = (k : Int) ∧ dec (bs.drop k) = .inr (y, j) ∧ readNum bs a = (zag y, ((k + j : Nat) : Int), 0, 0) ∧ k + j ≤ bs.length ∧ 0 < j ∧ -9223372036854775808 ≤ zag y ∧ zag y ≤ 9223372036854775807 := by
  by_cases h : a < 0 ∨ (bs.length : Int) < a
  · exact .inl ⟨4, -2, by omega, by unfold readNum; rw [if_pos h]⟩
  · obtain ⟨k, rfl⟩ := Int.eq_ofNat_of_zero_le (show 0 ≤ a by omega)
    have e : readNum bs k = (match dec (bs.drop k) with | .inl e => (0, 0, (e : Int), (k : Int)) | .inr p => (zag p.1, (k : Int) + (p.2 : Int), 0, 0)) := by
      unfold readNum; rw [if_neg h]; rfl
    cases hd : dec (bs.drop k) with
    | inl c =>
      have := decF_code 0 _ _ hd
      exact .inl ⟨c, k, by omega, by rw [e, hd]⟩
    | inr p =>
      obtain ⟨y, j⟩ := p
      obtain ⟨h1, h2, h3⟩ := dec_len hd
      rw [List.length_drop] at h3
      refine .inr ⟨k, y, j, rfl, hd, by rw [e, hd]; simp, by omega, h1, zag_bd y (dec_inv hd).2.2.2⟩

theorem readNum_bd {bs : List UInt8} {a x y c i : Int} (h : readNum bs a = (x, y, c, i)) : -9223372036854775808 ≤ x ∧ x ≤ 9223372036854775807 := by
  unfold readNum at h
  split at h
  · simp only [Prod.mk.injEq] at h; omega
  · cases hd : dec (bs.drop a.toNat) with
    | inl e => rw [hd] at h; simp only [Prod.mk.injEq] at h; omega
    | inr p =>
      rw [hd] at h
      simp only [Prod.mk.injEq] at h
      rw [← h.1]
      exact zag_bd p.1 (dec_inv (n := p.2) hd).2.2.2

theorem num_prefix {m n : Int} (h1 : -9223372036854775808 ≤ m) (h2 : m ≤ 9223372036854775807) (h3 : -9223372036854775808 ≤ n) (h4 : n ≤ 9223372036854775807) (h : m ≠ n) : num m ≠ (num n).take (num m).length := by
  intro e
  apply h
  have a := dec_enc (zig m) ((num n).drop (num m).length) (zig_lt m h1 h2)
  have b := dec_enc (zig n) [] (zig_lt n h3 h4)
  have e2 : enc (zig m) ++ (num n).drop (num m).length = enc (zig n) ++ [] := by
    rw [List.append_nil]
    show num m ++ _ = num n
    rw (occs := .pos [1]) [e]
    exact List.take_append_drop _ _
  rw [e2, b] at a
  simp only [Sum.inr.injEq, Prod.mk.injEq] at a
  rw [← zag_zig m, ← zag_zig n, a.1]

theorem num_back (fs bs : List UInt8) {n : Int} (h1 : -9223372036854775808 ≤ n) (h2 : n ≤ 9223372036854775807) :
    readNum ((fs ++ num n) ++ bs) (fs.length : Int) = (n, ((fs.length + (num n).length : Nat) : Int), 0, 0) := by
  have e : (((fs ++ num n) ++ bs).drop (fs.length : Int).toNat) = num n ++ bs := by
    rw [Int.toNat_natCast, List.append_assoc, List.drop_left]
  unfold readNum
  rw [if_neg (by simp only [List.length_append]; omega), e]
  show (match dec (enc (zig n) ++ bs) with | .inl e => (0, 0, (e : Int), (fs.length : Int)) | .inr p => (zag p.1, (fs.length : Int) + (p.2 : Int), 0, 0)) = _
  rw [dec_enc _ _ (zig_lt n h1 h2)]
  simp only [zag_zig]
  simp [num]

end Go.Proofs.Ytdandbhjmckmiaa
