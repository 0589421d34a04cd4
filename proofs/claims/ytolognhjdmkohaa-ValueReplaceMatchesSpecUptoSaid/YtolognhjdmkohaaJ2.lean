/-
  The plain law of the encoding of numbers: groups of seven bits, the zigzag of signs, reading and its inverse. No program in sight.
-/
/-
  The plain law of byte strings and lists: what is read, what is written, and that the two fit. No program in sight.
-/
/-
  The plain law of reading lists: what the readers of lists answer. No program in sight.
-/
/-
  The bit operations of the encoding of numbers, as the walk spells them.
-/
import Derived.WalkKit
namespace Go.Proofs.Ytolognhjdmkohaa
set_option linter.unusedVariables false
set_option linter.unusedSimpArgs false

def encF : Nat → Nat → List UInt8
  | 0, u => [UInt8.ofNat u]
  | k + 1, u => if u < 128 then [UInt8.ofNat u] else UInt8.ofNat (u % 128 + 128) :: encF k (u / 128)
/-- the groups of seven bits of u, the least first -/
def enc (u : Nat) : List UInt8 := encF u u

theorem encF_eq (k : Nat) : ∀ (j u : Nat), u ≤ k → u ≤ j → encF k u = encF j u := by
  induction k with
  | zero => intro j u h _; cases j <;> simp [encF]; omega
  | succ k ih =>
    intro j u hk hj
    cases j with
    | zero => simp [encF]; omega
    | succ j =>
      simp only [encF]
      by_cases h : u < 128
      · rw [if_pos h, if_pos h]
      · rw [if_neg h, if_neg h, ih j (u / 128) (by omega) (by omega)]
theorem enc_lt {u : Nat} (h : u < 128) : enc u = [UInt8.ofNat u] := by
  unfold enc; cases u with
  | zero => rfl
  | succ u => simp only [encF]; rw [if_pos h]
theorem enc_ge {u : Nat} (h : 128 ≤ u) : enc u = UInt8.ofNat (u % 128 + 128) :: enc (u / 128) := by
  unfold enc; cases u with
  | zero => omega
  | succ u => simp only [encF]; rw [if_neg (by omega), encF_eq u ((u + 1) / 128) _ (by omega) (by omega)]
theorem enc_len (k : Nat) : ∀ u : Nat, u < 128 ^ (k + 1) → (enc u).length ≤ k + 1 := by
  induction k with
  | zero => intro u h; rw [enc_lt (by simpa using h)]; simp
  | succ k ih =>
    intro u h
    by_cases hu : u < 128
    · rw [enc_lt hu]; simp
    · rw [enc_ge (by omega)]
      have := ih (u / 128) (by rw [Nat.pow_succ] at h; omega)
      simp only [List.length_cons]; omega
theorem enc_pos (u : Nat) : 0 < (enc u).length := by
  by_cases hu : u < 128
  · rw [enc_lt hu]; simp
  · rw [enc_ge (by omega)]; simp
theorem enc_len10 (u : Nat) (h : u < 18446744073709551616) : (enc u).length ≤ 10 := enc_len 9 u (by have : (128 : Nat) ^ (9 + 1) = 1180591620717411303424 := by decide
                                                                                                    omega)

def grpF : Nat → Nat → List Nat
  | 0, _ => []
  | k + 1, u => if u = 0 then [] else u % 128 :: grpF k (u / 128)
/-- the groups that are left -/
def grpR (u : Nat) : List Nat := grpF u u
theorem grpF_eq (k : Nat) : ∀ (j u : Nat), u ≤ k → u ≤ j → grpF k u = grpF j u := by
  induction k with
  | zero => intro j u h _; obtain rfl : u = 0 := by omega
            cases j <;> simp [grpF]
  | succ k ih =>
    intro j u hk hj
    cases j with
    | zero => obtain rfl : u = 0 := by omega
              simp [grpF]
    | succ j =>
      simp only [grpF]
      by_cases h : u = 0
      · rw [if_pos h, if_pos h]
      · rw [if_neg h, if_neg h, ih j (u / 128) (by omega) (by omega)]
theorem grpR_zero : grpR 0 = [] := rfl
theorem grpR_pos {u : Nat} (h : 0 < u) : grpR u = u % 128 :: grpR (u / 128) := by
  unfold grpR; cases u with
  | zero => omega
  | succ u => simp only [grpF]; rw [if_neg (by omega), grpF_eq u ((u + 1) / 128) _ (by omega) (by omega)]
/-- all groups of a number: at least one -/
def grp (u : Nat) : List Nat := u % 128 :: grpR (u / 128)
theorem grp_enc (k : Nat) : ∀ u : Nat, u < 128 ^ (k + 1) → (enc u).length = (grp u).length ∧ ∀ i g, (grp u)[i]? = some g → g < 128 ∧ (enc u)[i]? = some (UInt8.ofNat (if i + 1 < (grp u).length then g + 128 else g)) := by
  induction k with
  | zero =>
    intro u h
    have h : u < 128 := by simpa using h
    have e : u / 128 = 0 := by omega
    have e2 : u % 128 = u := by omega
    rw [enc_lt h]; unfold grp; rw [e, e2, grpR_zero]
    refine ⟨rfl, fun i g hg => ?_⟩
    match i, hg with
    | 0, hg => simp at hg; subst hg; exact ⟨h, by simp⟩
  | succ k ih =>
    intro u h
    by_cases hu : u < 128
    · have e : u / 128 = 0 := by omega
      have e2 : u % 128 = u := by omega
      rw [enc_lt hu]; unfold grp; rw [e, e2, grpR_zero]
      refine ⟨rfl, fun i g hg => ?_⟩
      match i, hg with
      | 0, hg => simp at hg; subst hg; exact ⟨hu, by simp⟩
    · have e : grp u = u % 128 :: grp (u / 128) := by
        unfold grp; rw [grpR_pos (u := u / 128) (by omega)]
      obtain ⟨h1, h2⟩ := ih (u / 128) (by rw [Nat.pow_succ] at h; omega)
      rw [enc_ge (by omega), e]
      have hp : 0 < (grp (u / 128)).length := by simp [grp]
      refine ⟨by simp [h1], fun i g hg => ?_⟩
      match i, hg with
      | 0, hg =>
        simp at hg; subst hg
        refine ⟨by omega, ?_⟩
        rw [if_pos (by simp only [List.length_cons]; omega)]; simp
      | i + 1, hg =>
        simp only [List.getElem?_cons_succ] at hg ⊢
        obtain ⟨a, b⟩ := h2 i g hg
        refine ⟨a, ?_⟩
        rw [b]
        simp only [List.length_cons, Nat.add_lt_add_iff_right]

/-- numbers without sign for numbers with sign -/
def zig (n : Int) : Nat := if 0 ≤ n then 2 * n.toNat else 2 * (-(n + 1)).toNat + 1
def zag (u : Nat) : Int := if u % 2 = 0 then ((u / 2 : Nat) : Int) else -((u / 2 : Nat) : Int) - 1
theorem zag_zig (n : Int) : zag (zig n) = n := by
  unfold zag zig
  by_cases h : 0 ≤ n
  · rw [if_pos h, if_pos (by omega)]; omega
  · rw [if_neg h, if_neg (by omega)]; omega
theorem zig_zag (u : Nat) : zig (zag u) = u := by
  unfold zag zig
  by_cases h : u % 2 = 0
  · rw [if_pos h, if_pos (by omega)]; omega
  · rw [if_neg h, if_neg (by omega)]; omega
theorem zig_lt (n : Int) (h1 : -9223372036854775808 ≤ n) (h2 : n ≤ 9223372036854775807) : zig n < 18446744073709551616 := by
  unfold zig; split <;> omega
theorem zag_bd (u : Nat) (h : u < 18446744073709551616) : -9223372036854775808 ≤ zag u ∧ zag u ≤ 9223372036854775807 := by
  unfold zag; split <;> omega
theorem grp_num (u : Nat) (h : u < 18446744073709551616) : (enc u).length = (grp u).length ∧ ∀ i g, (grp u)[i]? = some g → g < 128 ∧ (enc u)[i]? = some (UInt8.ofNat (if i + 1 < (grp u).length then g + 128 else g)) :=
  grp_enc 9 u (by have : (128 : Nat) ^ (9 + 1) = 1180591620717411303424 := by decide
                  omega)
def num (n : Int) : List UInt8 := enc (zig n)
theorem num_len (n : Int) (h1 : -9223372036854775808 ≤ n) (h2 : n ≤ 9223372036854775807) : (num n).length ≤ 10 := enc_len10 _ (zig_lt n h1 h2)
theorem num_pos (n : Int) : 0 < (num n).length := enc_pos _

/-- reading the i-th byte and those behind it: a code of a fault, or the number and how many bytes it took -/
def decF : Nat → List UInt8 → Sum Nat (Nat × Nat)
  | _, [] => .inl 15
  | i, c :: l =>
    if (i = 9 ∧ 1 < c.toNat) ∨ (0 < i ∧ c.toNat = 0) then .inl 1
    else if c.toNat < 128 then .inr (c.toNat, 1)
    else match decF (i + 1) l with
      | .inl e => .inl e
      | .inr p => .inr (c.toNat - 128 + 128 * p.1, p.2 + 1)
def dec (l : List UInt8) : Sum Nat (Nat × Nat) := decF 0 l

theorem ofNat_toNat (u : Nat) (h : u < 256) : (UInt8.ofNat u).toNat = u := by
  rw [UInt8.toNat_ofNat']; exact Nat.mod_eq_of_lt (by omega)

theorem decF_enc (k : Nat) : ∀ (i u : Nat) (l : List UInt8), i + k = 9 → u < 2 * 128 ^ k → (0 < i → 0 < u) → decF i (enc u ++ l) = .inr (u, (enc u).length) := by
  induction k with
  | zero =>
    intro i u l hi hu h0
    rw [enc_lt (by omega)]
    simp only [List.cons_append, List.nil_append, decF]
    rw [ofNat_toNat u (by omega), if_neg (by omega), if_pos (by omega)]
    simp
  | succ k ih =>
    intro i u l hi hu h0
    by_cases h : u < 128
    · rw [enc_lt h]
      simp only [List.cons_append, List.nil_append, decF]
      rw [ofNat_toNat u (by omega), if_neg (by omega), if_pos h]
      simp
    · rw [enc_ge (by omega)]
      simp only [List.cons_append, decF]
      rw [ofNat_toNat (u % 128 + 128) (by omega), if_neg (by omega), if_neg (by omega),
        ih (i + 1) (u / 128) l (by omega) (by rw [Nat.pow_succ] at hu; omega) (by omega)]
      have d : u % 128 + 128 - 128 + 128 * (u / 128) = u := by omega
      simp only [List.length_cons, d]
theorem dec_enc (u : Nat) (l : List UInt8) (h : u < 18446744073709551616) : dec (enc u ++ l) = .inr (u, (enc u).length) :=
  decF_enc 9 0 u l (by omega) (by have : (2 : Nat) * 128 ^ 9 = 18446744073709551616 := by decide
                                  omega) (by omega)

theorem ofNat_of_toNat (c : UInt8) : UInt8.ofNat c.toNat = c := by simp

theorem decF_inv (k : Nat) : ∀ (i : Nat) (l : List UInt8) (u n : Nat), i + k = 9 → decF i l = .inr (u, n) → l.take n = enc u ∧ n = (enc u).length ∧ n ≤ l.length ∧ u < 2 * 128 ^ k ∧ (0 < i → 0 < u) := by
  induction k with
  | zero =>
    intro i l u n hi h
    cases l with
    | nil => simp [decF] at h
    | cons c l =>
      simp only [decF] at h
      split at h
      · cases h
      · rename_i h1
        rw [if_pos (by omega)] at h
        simp only [Sum.inr.injEq, Prod.mk.injEq] at h
        obtain ⟨rfl, rfl⟩ := h
        rw [enc_lt (by omega), ofNat_of_toNat]
        refine ⟨by simp, by simp, by simp, by simp; omega, by omega⟩
  | succ k ih =>
    intro i l u n hi h
    cases l with
    | nil => simp [decF] at h
    | cons c l =>
      simp only [decF] at h
      split at h
      · cases h
      · rename_i h1
        split at h
        · rename_i h2
          simp only [Sum.inr.injEq, Prod.mk.injEq] at h
          obtain ⟨rfl, rfl⟩ := h
          rw [enc_lt h2, ofNat_of_toNat]
          have := Nat.pow_pos (n := k) (show 0 < 128 by omega)
          refine ⟨by simp, by simp, by simp, by rw [Nat.pow_succ]; omega, by omega⟩
        · rename_i h2
          cases hd : decF (i + 1) l with
          | inl e => rw [hd] at h; cases h
          | inr p =>
            obtain ⟨v, m⟩ := p
            rw [hd] at h
            simp only [Sum.inr.injEq, Prod.mk.injEq] at h
            obtain ⟨rfl, rfl⟩ := h
            obtain ⟨e1, e2, e3, e4, e5⟩ := ih (i + 1) l v m (by omega) hd
            have hv : 0 < v := e5 (by omega)
            have hc : c.toNat < 256 := UInt8.toNat_lt c
            rw [enc_ge (by omega)]
            have d1 : (c.toNat - 128 + 128 * v) % 128 + 128 = c.toNat := by omega
            have d2 : (c.toNat - 128 + 128 * v) / 128 = v := by omega
            rw [d1, d2, ofNat_of_toNat]
            refine ⟨by simp [e1], by simp [e2], by simp [e3], by rw [Nat.pow_succ]; omega, by omega⟩
theorem dec_inv {l : List UInt8} {u n : Nat} (h : dec l = .inr (u, n)) : l.take n = enc u ∧ n = (enc u).length ∧ n ≤ l.length ∧ u < 18446744073709551616 := by
  obtain ⟨a, b, c, d, _⟩ := decF_inv 9 0 l u n (by omega) h
  refine ⟨a, b, c, ?_⟩
  have : (2 : Nat) * 128 ^ 9 = 18446744073709551616 := by decide
  omega
/-- a number that is read has a place of at most ten bytes -/
theorem dec_len {l : List UInt8} {u n : Nat} (h : dec l = .inr (u, n)) : 0 < n ∧ n ≤ 10 ∧ n ≤ l.length := by
  obtain ⟨_, b, c, d⟩ := dec_inv h
  have := enc_len10 u d
  have := enc_pos u
  omega
theorem decF_code : ∀ (i : Nat) (l : List UInt8) (e : Nat), decF i l = .inl e → e = 15 ∨ e = 1 := by
  intro i l
  induction l generalizing i with
  | nil => intro e h; simp [decF] at h; omega
  | cons c l ih =>
    intro e h
    simp only [decF] at h
    split at h
    · simp at h; omega
    · split at h
      · cases h
      · cases hd : decF (i + 1) l with
        | inl e' => rw [hd] at h; simp at h; subst h; exact ih (i + 1) _ hd
        | inr p => rw [hd] at h; cases h

/-- i bytes have been read, their value is u: what the rest makes of it -/
def comb (u i : Nat) : Sum Nat (Nat × Nat) → Sum Nat (Nat × Nat)
  | .inl e => .inl e
  | .inr p => .inr (u + 128 ^ i * p.1, i + p.2)
theorem comb_zero (r : Sum Nat (Nat × Nat)) : comb 0 0 r = r := by
  rcases r with e | ⟨u, k⟩ <;> simp [comb]
theorem comb_nil (u i : Nat) : comb u i (decF i []) = .inl 15 := rfl
theorem comb_syn (u i : Nat) (c : UInt8) (l : List UInt8) (h : (i = 9 ∧ 1 < c.toNat) ∨ (0 < i ∧ c.toNat = 0)) : comb u i (decF i (c :: l)) = .inl 1 := by
  simp only [decF]; rw [if_pos h]; rfl
theorem comb_end (u i : Nat) (c : UInt8) (l : List UInt8) (h : ¬ ((i = 9 ∧ 1 < c.toNat) ∨ (0 < i ∧ c.toNat = 0))) (hc : c.toNat < 128) : comb u i (decF i (c :: l)) = .inr (u + 128 ^ i * c.toNat, i + 1) := by
  simp only [decF]; rw [if_neg h, if_pos hc]; rfl
theorem comb_next (u i : Nat) (c : UInt8) (l : List UInt8) (h : ¬ ((i = 9 ∧ 1 < c.toNat) ∨ (0 < i ∧ c.toNat = 0))) (hc : ¬ c.toNat < 128) :
    comb u i (decF i (c :: l)) = comb (u + 128 ^ i * (c.toNat - 128)) (i + 1) (decF (i + 1) l) := by
  simp only [decF]; rw [if_neg h, if_neg hc]
  rcases decF (i + 1) l with e | ⟨v, k⟩
  · simp only [comb]
  · show Sum.inr (u + 128 ^ i * (c.toNat - 128 + 128 * v), i + (k + 1)) = Sum.inr (u + 128 ^ i * (c.toNat - 128) + 128 ^ (i + 1) * v, i + 1 + k)
    rw [Nat.pow_succ]
    generalize 128 ^ i = q
    have e : u + q * (c.toNat - 128 + 128 * v) = u + q * (c.toNat - 128) + q * 128 * v := by rw [Nat.mul_add, Nat.mul_assoc, Nat.add_assoc]
    have e2 : i + (k + 1) = i + 1 + k := by omega
    rw [e, e2]

/-- the value of groups of seven bits -/
def val : List UInt8 → Nat
  | [] => 0
  | c :: l => c.toNat % 128 + 128 * val l
theorem val_drop (l : List UInt8) (j : Nat) : val (l.drop j) ≤ val l := by
  induction l generalizing j with
  | nil => simp
  | cons c l ih =>
    cases j with
    | zero => simp
    | succ j =>
      simp only [List.drop_succ_cons]
      have := ih j
      simp only [val]
      omega
theorem decF_val (l : List UInt8) : ∀ (i y s : Nat), decF i l = .inr (y, s) → y = val (l.take s) := by
  induction l with
  | nil => intro i y s h; simp [decF] at h
  | cons c l ih =>
    intro i y s h
    simp only [decF] at h
    split at h
    · cases h
    · split at h
      · rename_i h2
        simp only [Sum.inr.injEq, Prod.mk.injEq] at h
        obtain ⟨rfl, rfl⟩ := h
        simp only [List.take_succ_cons, List.take_zero, val]
        omega
      · rename_i h2
        cases hd : decF (i + 1) l with
        | inl e => rw [hd] at h; cases h
        | inr p =>
          obtain ⟨v, m⟩ := p
          rw [hd] at h
          simp only [Sum.inr.injEq, Prod.mk.injEq] at h
          obtain ⟨rfl, rfl⟩ := h
          have hc : c.toNat < 256 := UInt8.toNat_lt c
          rw [ih (i + 1) v m hd]
          simp only [List.take_succ_cons, val]
          omega
theorem dec_val {l : List UInt8} {y s : Nat} (h : dec l = .inr (y, s)) : y = val (l.take s) := decF_val l 0 y s h

/-- what the reader of a number at an offset answers: the number, the offset behind it, the fault's code and its index -/
def readNum (bs : List UInt8) (a : Int) : Int × Int × Int × Int :=
  if a < 0 ∨ (bs.length : Int) < a then (0, 0, 4, -2)
  else match dec (bs.drop a.toNat) with
    | .inl e => (0, 0, (e : Int), a)
    | .inr p => (zag p.1, a + (p.2 : Int), 0, 0)

end Go.Proofs.Ytolognhjdmkohaa
namespace Go.Proofs.Ytolognhjdmkohaa
set_option linter.unusedVariables false
set_option linter.unusedSimpArgs false

theorem readNum_or (bs : List UInt8) (a : Int) (hl : bs.length ≤ 9223372036854775807) :
    (∃ c i, c ≠ 0 ∧ readNum bs a = (0, 0, c, i)) ∨ ∃ k y j : Nat, a = (k : Int) ∧ dec (bs.drop k) = .inr (y, j) ∧ readNum bs a = (zag y, ((k + j : Nat) : Int), 0, 0) ∧ k + j ≤ bs.length ∧ 0 < j ∧ -9223372036854775808 ≤ zag y ∧ zag y ≤ 9223372036854775807 := by
  by_cases h : a < 0 ∨ (bs.length : Int) < a
  · exact .inl ⟨4, -2, by omega, by unfold readNum; rw [if_pos h]⟩
  · obtain ⟨k, rfl⟩ := Int.eq_ofNat_of_zero_le (show 0 ≤ a by omega)
    have e : readNum bs k = (match dec (bs.drop k) with | .inl e => (0, 0, (e : Int), (k : Int)) | .inr p => (zag p.1, (k : Int) + (p.2 : Int), 0, 0)) := by
      unfold readNum; rw [if_neg h]; rfl
    cases hd : dec (bs.drop k) with
    | inl c =>
      have := decF_code 0 _ _ hd
      exact .inl ⟨c, k, by omega, by rw [e, hd]⟩
    | inr p =>
      obtain ⟨y, j⟩ := p
      obtain ⟨h1, h2, h3⟩ := dec_len hd
      rw [List.length_drop] at h3
      refine .inr ⟨k, y, j, rfl, hd, by rw [e, hd]; simp, by omega, h1, zag_bd y (dec_inv hd).2.2.2⟩

theorem readNum_bd {bs : List UInt8} {a x y c i : Int} (h : readNum bs a = (x, y, c, i)) : -9223372036854775808 ≤ x ∧ x ≤ 9223372036854775807 := by
  unfold readNum at h
  split at h
  · simp only [Prod.mk.injEq] at h; omega
  · cases hd : dec (bs.drop a.toNat) with
    | inl e => rw [hd] at h; simp only [Prod.mk.injEq] at h; omega
    | inr p =>
      rw [hd] at h
      simp only [Prod.mk.injEq] at h
      rw [← h.1]
      exact zag_bd p.1 (dec_inv (n := p.2) hd).2.2.2

theorem num_prefix {m n : Int} (h1 : -9223372036854775808 ≤ m) (h2 : m ≤ 9223372036854775807) (h3 : -9223372036854775808 ≤ n) (h4 : n ≤ 9223372036854775807) (h : m ≠ n) : num m ≠ (num n).take (num m).length := by
  intro e
  apply h
  have a := dec_enc (zig m) ((num n).drop (num m).length) (zig_lt m h1 h2)
  have b := dec_enc (zig n) [] (zig_lt n h3 h4)
  have e2 : enc (zig m) ++ (num n).drop (num m).length = enc (zig n) ++ [] := by
    rw [List.append_nil]
    show num m ++ _ = num n
    rw (occs := .pos [1]) [e]
    exact List.take_append_drop _ _
  rw [e2, b] at a
  simp only [Sum.inr.injEq, Prod.mk.injEq] at a
  rw [← zag_zig m, ← zag_zig n, a.1]

theorem num_back (fs bs : List UInt8) {n : Int} (h1 : -9223372036854775808 ≤ n) (h2 : n ≤ 9223372036854775807) :
    readNum ((fs ++ num n) ++ bs) (fs.length : Int) = (n, ((fs.length + (num n).length : Nat) : Int), 0, 0) := by
  have e : (((fs ++ num n) ++ bs).drop (fs.length : Int).toNat) = num n ++ bs := by
    rw [Int.toNat_natCast, List.append_assoc, List.drop_left]
  unfold readNum
  rw [if_neg (by simp only [List.length_append]; omega), e]
  show (match dec (enc (zig n) ++ bs) with | .inl e => (0, 0, (e : Int), (fs.length : Int)) | .inr p => (zag p.1, (fs.length : Int) + (p.2 : Int), 0, 0)) = _
  rw [dec_enc _ _ (zig_lt n h1 h2)]
  simp only [zag_zig]
  simp [num]

end Go.Proofs.Ytolognhjdmkohaa
namespace Go.Proofs.Ytolognhjdmkohaa
set_option linter.unusedVariables false
set_option linter.unusedSimpArgs false

section
variable {α : Type}
/-- what was read ahead, before the rest -/
def app (acc : List α) (r : List α × Int × Int × Int) : List α × Int × Int × Int := if r.2.2.1 ≠ 0 then r else (acc ++ r.1, r.2)
theorem app_nil (r : List α × Int × Int × Int) : app [] r = r := by unfold app; split <;> simp
theorem app_app (a b : List α) (r : List α × Int × Int × Int) : app a (app b r) = app (a ++ b) r := by
  unfold app
  by_cases h : r.2.2.1 ≠ 0
  · simp [h]
  · simp at h; simp [h]
/-- k elements, one behind the other -/
def rdL (one : Int → α × Int × Int × Int) : Nat → Int → List α × Int × Int × Int
  | 0, nx => ([], nx, 0, 0)
  | k + 1, nx => if (one nx).2.2.1 ≠ 0 then ([], 0, (one nx).2.2.1, (one nx).2.2.2) else app [(one nx).1] (rdL one k (one nx).2.1)
theorem rdL_fault {one : Int → α × Int × Int × Int} {k : Nat} {nx : Int} {x : α} {y c i : Int} (h : one nx = (x, y, c, i)) (hc : c ≠ 0) (acc : List α) : app acc (rdL one (k + 1) nx) = ([], 0, c, i) := by
  simp only [rdL, h]
  rw [if_pos hc]
  unfold app
  rw [if_pos hc]
theorem rdL_step {one : Int → α × Int × Int × Int} {k : Nat} {nx : Int} {x : α} {y i : Int} (h : one nx = (x, y, 0, i)) (acc : List α) : app acc (rdL one (k + 1) nx) = app (acc ++ [x]) (rdL one k y) := by
  simp only [rdL, h]
  rw [if_neg (by simp), app_app]
theorem rdL_end {one : Int → α × Int × Int × Int} {nx : Int} (acc : List α) : app acc (rdL one 0 nx) = (acc, nx, 0, 0) := by simp [rdL, app]
/-- a list with its length ahead of it -/
def readL (one : Int → α × Int × Int × Int) (bs : List UInt8) (a most : Int) : List α × Int × Int × Int :=
  if (readNum bs a).2.2.1 ≠ 0 then ([], 0, (readNum bs a).2.2.1, (readNum bs a).2.2.2)
  else if (readNum bs a).1 < 0 ∨ most < (readNum bs a).1 then ([], 0, 4, a)
  else rdL one (readNum bs a).1.toNat (readNum bs a).2.1
theorem readL_fault {one : Int → α × Int × Int × Int} {bs : List UInt8} {a most c i : Int} (h : readNum bs a = (0, 0, c, i)) (hc : c ≠ 0) : readL one bs a most = ([], 0, c, i) := by
  simp only [readL, h]; rw [if_pos hc]
theorem readL_range {one : Int → α × Int × Int × Int} {bs : List UInt8} {a most x y : Int} (h : readNum bs a = (x, y, 0, 0)) (hx : x < 0 ∨ most < x) : readL one bs a most = ([], 0, 4, a) := by
  simp only [readL, h]; rw [if_neg (by simp), if_pos hx]
theorem readL_go {one : Int → α × Int × Int × Int} {bs : List UInt8} {a most y : Int} {k : Nat} (h : readNum bs a = ((k : Int), y, 0, 0)) (hx : (k : Int) ≤ most) : readL one bs a most = app [] (rdL one k y) := by
  simp only [readL, h]; rw [if_neg (by simp), if_neg (by omega), app_nil, Int.toNat_natCast]
end

/-- where a number stands that was read -/
theorem readNum_next {bs : List UInt8} {a : Int} (hl : bs.length ≤ 9223372036854775807) :
    (∃ c i, c ≠ 0 ∧ readNum bs a = (0, 0, c, i)) ∨ ∃ (x : Int) (y : Nat), readNum bs a = (x, (y : Int), 0, 0) ∧ a + 1 ≤ (y : Int) ∧ y ≤ bs.length ∧ -9223372036854775808 ≤ x ∧ x ≤ 9223372036854775807 := by
  rcases readNum_or bs a hl with h | ⟨k, y, j, rfl, _, hr, h1, h2, h3⟩
  · exact .inl h
  · exact .inr ⟨_, k + j, hr, by omega, h1, h3⟩
end Go.Proofs.Ytolognhjdmkohaa
namespace Go.Proofs.Ytolognhjdmkohaa
set_option linter.unusedVariables false
set_option linter.unusedSimpArgs false

theorem wrap_u64 (n : Int) : IntKind.u64.wrap n = n % 18446744073709551616 := by simp [IntKind.wrap, IntKind.bits, IntKind.signed]
theorem xor_ones (x : Nat) (h : x < 18446744073709551616) : x ^^^ 18446744073709551615 = 18446744073709551615 - x := by
  have e : (BitVec.ofNat 64 x ^^^ BitVec.allOnes 64).toNat = 18446744073709551615 - x := by
    rw [BitVec.xor_allOnes, BitVec.toNat_not, BitVec.toNat_ofNat, Nat.mod_eq_of_lt (by omega)]
  rw [BitVec.toNat_xor, BitVec.toNat_ofNat, BitVec.toNat_allOnes, Nat.mod_eq_of_lt (by omega)] at e
  exact e
theorem zig_bits (n : Int) (h1 : -9223372036854775808 ≤ n) (h2 : n ≤ 9223372036854775807) :
    bits .xor .u64 (IntKind.u64.wrap (IntKind.u64.wrap n * 2)) (IntKind.u64.wrap (n / 9223372036854775808)) = ((zig n : Nat) : Int) := by
  have w1 := wrap_u64 n
  have w2 := wrap_u64 (IntKind.u64.wrap n * 2)
  have w3 := wrap_u64 (n / 9223372036854775808)
  by_cases h : 0 ≤ n
  · have e1 : IntKind.u64.wrap (IntKind.u64.wrap n * 2) = ((2 * n.toNat : Nat) : Int) := by omega
    have e2 : IntKind.u64.wrap (n / 9223372036854775808) = ((0 : Nat) : Int) := by omega
    rw [e1, e2, u64_xor_nat _ _ (by omega) (by omega), Nat.xor_zero]
    unfold zig; rw [if_pos h]
  · have e1 : IntKind.u64.wrap (IntKind.u64.wrap n * 2) = ((18446744073709551616 - 2 * (-n).toNat : Nat) : Int) := by omega
    have e2 : IntKind.u64.wrap (n / 9223372036854775808) = ((18446744073709551615 : Nat) : Int) := by omega
    rw [e1, e2, u64_xor_nat _ _ (by omega) (by omega), xor_ones _ (by omega)]
    unfold zig; rw [if_neg h]; omega
/-- 'byte(u) | 128' -/
theorem byte_or (u : Nat) : bits .or .u8 ((u : Int) % 256) 128 = (((UInt8.ofNat (u % 128 + 128)).toNat : Nat) : Int) := by
  rw [ofNat_toNat _ (by omega)]
  have e1 : (u : Int) % 256 = ((u % 256 : Nat) : Int) := by omega
  have e2 : (128 : Int) = ((128 : Nat) : Int) := rfl
  rw [e1, e2, u8_or_nat _ _ (by omega) (by omega)]
  by_cases h : u % 256 < 128
  · rw [Nat.or_comm, nat_join 7 128 (u % 256) (by decide) (by omega)]; omega
  · have e3 : u % 256 = 128 ||| (u % 128) := by rw [nat_join 7 128 (u % 128) (by decide) (by omega)]; omega
    rw [e3, Nat.or_comm, ← Nat.or_assoc, Nat.or_self, nat_join 7 128 (u % 128) (by decide) (by omega)]; omega
theorem byte_lt (u : Nat) (h : u < 256) : (u : Int) = (((UInt8.ofNat u).toNat : Nat) : Int) := by
  rw [ofNat_toNat _ (by omega)]
theorem pow_128 (i : Nat) : (128 : Nat) ^ i = 2 ^ (7 * i) := by rw [Nat.pow_mul]
/-- 'u |= uint64(c&127) << (7*i)' -/
theorem or_shl (x i c : Nat) (hx : x < 128 ^ i) (hi : i ≤ 9) (hc : c < 256) (h9 : i = 9 → c ≤ 1) :
    bits .or .u64 (x : Int) (IntKind.u64.wrap (IntKind.u64.wrap (bits .and .u8 (c : Int) 127) * 2 ^ (7 * i))) = ((x + 128 ^ i * (c % 128) : Nat) : Int) := by
  have e1 : bits .and .u8 (c : Int) 127 = ((c % 128 : Nat) : Int) := by
    rw [show (127 : Int) = ((127 : Nat) : Int) from rfl, u8_and_nat _ _ (by omega) (by omega), nat_mask7]
  have e2 : IntKind.u64.wrap ((c % 128 : Nat) : Int) = ((c % 128 : Nat) : Int) := by rw [wrap_u64]; omega
  have hcm : c % 128 < 128 := Nat.mod_lt _ (by omega)
  have hp : 128 ^ i * (c % 128) + 128 ^ i ≤ 18446744073709551616 := by
    by_cases h : i = 9
    · subst h
      have := h9 rfl
      have e : c % 128 = c := by omega
      rw [e]
      have : c = 0 ∨ c = 1 := by omega
      rcases this with rfl | rfl <;> decide
    · have h8 : (128 : Nat) ^ i ≤ 128 ^ 8 := Nat.pow_le_pow_right (by omega) (by omega)
      have e8 : (128 : Nat) ^ 8 = 72057594037927936 := by decide
      have : 128 ^ i * (c % 128) ≤ 128 ^ i * 127 := Nat.mul_le_mul_left _ (by omega)
      omega
  have e3 : IntKind.u64.wrap (((c % 128 : Nat) : Int) * 2 ^ (7 * i)) = ((128 ^ i * (c % 128) : Nat) : Int) := by
    have e : ((c % 128 : Nat) : Int) * 2 ^ (7 * i) = ((128 ^ i * (c % 128) : Nat) : Int) := by
      rw [pow_128, Int.natCast_mul, Int.natCast_pow, Int.mul_comm]; rfl
    rw [e, wrap_u64]; omega
  rw [e1, e2, e3, u64_or_nat _ _ (by omega) (by omega)]
  have e4 : x ||| 128 ^ i * (c % 128) = 128 ^ i * (c % 128) + x := by
    rw [Nat.or_comm, pow_128]
    exact nat_join (7 * i) _ _ (Nat.mul_mod_right _ _) (by rw [← pow_128]; exact hx)
  rw [e4, Nat.add_comm]
/-- 'int(u>>1) ^ -int(u&1)' -/
theorem zag_bits (x : Nat) (h : x < 18446744073709551616) :
    bits .xor .i64 (RowKit.wrap64 ((x : Int) / 2)) (RowKit.wrap64 (-RowKit.wrap64 (bits .and .u64 (x : Int) 1))) = zag x := by
  have e1 : bits .and .u64 (x : Int) 1 = ((x % 2 : Nat) : Int) := by
    rw [show (1 : Int) = ((1 : Nat) : Int) from rfl, u64_and_nat _ _ (by omega) (by omega), nat_mask1]
  rw [e1]
  have e2 : RowKit.wrap64 ((x : Int) / 2) = ((x / 2 : Nat) : Int) := by unfold RowKit.wrap64; omega
  have e3 : RowKit.wrap64 (-RowKit.wrap64 ((x % 2 : Nat) : Int)) = -((x % 2 : Nat) : Int) := by unfold RowKit.wrap64; omega
  rw [e2, e3]
  show IntKind.i64.wrap ((BitVec.ofInt 64 ((x / 2 : Nat) : Int) ^^^ BitVec.ofInt 64 (-((x % 2 : Nat) : Int))).toNat : Int) = _
  unfold zag
  by_cases hm : x % 2 = 0
  · rw [if_pos hm, hm]
    have : (BitVec.ofInt 64 (-((0 : Nat) : Int))) = 0#64 := by decide
    rw [this, BitVec.xor_zero, BitVec.ofInt_natCast, BitVec.toNat_ofNat, Nat.mod_eq_of_lt (by omega), IntKind.wrap_i64]
    omega
  · have h1 : x % 2 = 1 := by omega
    rw [if_neg hm, h1]
    have : (BitVec.ofInt 64 (-((1 : Nat) : Int))) = BitVec.allOnes 64 := by decide
    rw [this, BitVec.xor_allOnes, BitVec.toNat_not, BitVec.ofInt_natCast, BitVec.toNat_ofNat, Nat.mod_eq_of_lt (by omega), IntKind.wrap_i64]
    omega

end Go.Proofs.Ytolognhjdmkohaa
