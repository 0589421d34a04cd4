/-
  The plain law of the encoding of numbers: groups of seven bits, the zigzag of signs, reading and its inverse. No program in sight.
-/
namespace Go.Proofs.Ytdandbhjmckmiaa
set_option linter.unusedVariables false
set_option linter.unusedSimpArgs false

def encF : Nat → Nat → List UInt8
  | 0, u => [UInt8.ofNat u]
  | k + 1, u => if u < 128 then [UInt8.ofNat u] else UInt8.ofNat (u % 128 + 128) :: encF k (u / 128)
/-- the groups of seven bits of u, the least first -/
def enc (u : Nat) : List UInt8 := encF u u

theorem encF_eq (k : Nat) : ∀ (j u : Nat), u ≤ k → u ≤ j → encF k u = encF j u := by
  induction k with
  | zero => intro j u h _; cases j <;> simp [encF]; omega
  | succ k ih =>
    intro j u hk hj
    cases j with
    | zero => simp [encF]; omega
    | succ j =>
      simp only [encF]
      by_cases h : u < 128
      · rw [if_pos h, if_pos h]
      · rw [if_neg h, if_neg h, ih j (u / 128) (by omega) (by omega)]
theorem enc_lt {u : Nat} (h : u < 128) : enc u = [UInt8.ofNat u] := by
  unfold enc; cases u with
  | zero => rfl
  | succ u => simp only [encF]; rw [if_pos h]
theorem enc_ge {u : Nat} (h : 128 ≤ u) : enc u = UInt8.ofNat (u % 128 + 128) :: enc (u / 128) := by
  unfold enc; cases u with
  | zero => omega
  | succ u => simp only [encF]; rw [if_neg (by omega), encF_eq u ((u + 1) / 128) _ (by omega) (by omega)]
theorem enc_len (k : Nat) : ∀ u : Nat, u < 128 ^ (k + 1) → (enc u).length ≤ k + 1 := by
  induction k with
  | zero => intro u h; rw [enc_lt (by simpa using h)]; simp
  | succ k ih =>
    intro u h
    by_cases hu : u < 128
    · rw [enc_lt hu]; simp
    · rw [enc_ge (by omega)]
      have := ih (u / 128) (by rw [Nat.pow_succ] at h; omega)
      simp only [List.length_cons]; omega
theorem enc_pos (u : Nat) : 0 < (enc u).length := by
  by_cases hu : u < 128
  · rw [enc_lt hu]; simp
  · rw [enc_ge (by omega)]; simp
theorem enc_len10 (u : Nat) (h : u < 18446744073709551616) : (enc u).length ≤ 10 := enc_len 9 u (by have : (128 : Nat) ^ (9 + 1) = 1180591620717411303424 := by decide
                                                                                                    omega)

def grpF : Nat → Nat → List Nat
  | 0, _ => []
  | k + 1, u => if u = 0 then [] else u % 128 :: grpF k (u / 128)
/-- the groups that are left -/
def grpR (u : Nat) : List Nat := grpF u u
theorem grpF_eq (k : Nat) : ∀ (j u : Nat), u ≤ k → u ≤ j → grpF k u = grpF j u := by
  induction k with
  | zero => intro j u h _; obtain rfl : u = 0 := by omega
            cases j <;> simp [grpF]
  | succ k ih =>
    intro j u hk hj
    cases j with
    | zero => obtain rfl : u = 0 := by omega
              simp [grpF]
    | succ j =>
      simp only [grpF]
      by_cases h : u = 0
      · rw [if_pos h, if_pos h]
      · rw [if_neg h, if_neg h, ih j (u / 128) (by omega) (by omega)]
theorem grpR_zero : grpR 0 = [] := rfl
theorem grpR_pos {u : Nat} (h : 0 < u) : grpR u = u % 128 :: grpR (u / 128) := by
  unfold grpR; cases u with
  | zero => omega
  | succ u => simp only [grpF]; rw [if_neg (by omega), grpF_eq u ((u + 1) / 128) _ (by omega) (by omega)]
/-- all groups of a number: at least one -/
def grp (u : Nat) : List Nat := u % 128 :: grpR (u / 128)
theorem grp_enc (k : Nat) : ∀ u : Nat, u < 128 ^ (k + 1) → (enc u).length = (grp u).length ∧ ∀ i g, (grp u)[i]? = some g → g < 128 ∧ (enc u)[i]? = some (UInt8.ofNat (if i + 1 < (grp u).length then g + 128 else g)) := by
  induction k with
  | zero =>
    intro u h
    have h : u < 128 := by simpa using h
    have e : u / 128 = 0 := by omega
    have e2 : u % 128 = u := by omega
    rw [enc_lt h]; unfold grp; rw [e, e2, grpR_zero]
    refine ⟨rfl, fun i g hg => ?_⟩
    match i, hg with
    | 0, hg => simp at hg; subst hg; exact ⟨h, by simp⟩
  | succ k ih =>
    intro u h
    by_cases hu : u < 128
    · have e : u / 128 = 0 := by omega
      have e2 : u % 128 = u := by omega
      rw [enc_lt hu]; unfold grp; rw [e, e2, grpR_zero]
      refine ⟨rfl, fun i g hg => ?_⟩
      match i, hg with
      | 0, hg => simp at hg; subst hg; exact ⟨hu, by simp⟩
    · have e : grp u = u % 128 :: grp (u / 128) := by
        unfold grp; rw [grpR_pos (u := u / 128) (by omega)]
      obtain ⟨h1, h2⟩ := ih (u / 128) (by rw [Nat.pow_succ] at h; omega)
      rw [enc_ge (by omega), e]
      have hp : 0 < (grp (u / 128)).length := by simp [grp]
      refine ⟨by simp [h1], fun i g hg => ?_⟩
      match i, hg with
      | 0, hg =>
        simp at hg; subst hg
        refine ⟨by omega, ?_⟩
        rw [if_pos (by simp only [List.length_cons]; omega)]; simp
      | i + 1, hg =>
        simp only [List.getElem?_cons_succ] at hg ⊢
        obtain ⟨a, b⟩ := h2 i g hg
        refine ⟨a, ?_⟩
        rw [b]
        simp only [List.length_cons, Nat.add_lt_add_iff_right]

/-- numbers without sign for numbers with sign -/
def zig (n : Int) : Nat := if 0 ≤ n then 2 * n.toNat else 2 * (-(n + 1)).toNat + 1
def zag (u : Nat) : Int := if u % 2 = 0 then ((u / 2 : Nat) : Int) else -((u / 2 : Nat) : Int) - 1
theorem zag_zig (n : Int) : zag (zig n) = n := by
  unfold zag zig
  by_cases h : 0 ≤ n
  · rw [if_pos h, if_pos (by omega)]; omega
  · rw [if_neg h, if_neg (by omega)]; omega
theorem zig_zag (u : Nat) : zig (zag u) = u := by
  unfold zag zig
  by_cases h : u % 2 = 0
  · rw [if_pos h, if_pos (by omega)]; omega
  · rw [if_neg h, if_neg (by omega)]; omega
theorem zig_lt (n : Int) (h1 : -9223372036854775808 ≤ n) (h2 : n ≤ 9223372036854775807) : zig n < 18446744073709551616 := by
  unfold zig; split <;> omega
theorem zag_bd (u : Nat) (h : u < 18446744073709551616) : -9223372036854775808 ≤ zag u ∧ zag u ≤ 9223372036854775807 := by
  unfold zag; split <;> omega
theorem grp_num (u : Nat) (h : u < 18446744073709551616) : (enc u).length = (grp u).length ∧ ∀ i g, (grp u)[i]? = some g → g < 128 ∧ (enc u)[i]? = some (UInt8.ofNat (if i + 1 < (grp u).length then g + 128 else g)) :=
  grp_enc 9 u (by have : (128 : Nat) ^ (9 + 1) = 1180591620717411303424 := by decide
                  omega)
def num (n : Int) : List UInt8 := enc (zig n)
theorem num_len (n : Int) (h1 : -9223372036854775808 ≤ n) (h2 : n ≤ 9223372036854775807) : (num n).length ≤ 10 := enc_len10 _ (zig_lt n h1 h2)
theorem num_pos (n : Int) : 0 < (num n).length := enc_pos _

/-- reading the i-th byte and those behind it: a code of a fault, or the number and how many bytes it took -/
def decF : Nat → List UInt8 → Sum Nat (Nat × Nat)
  | _, [] => .inl 15
  | i, c :: l =>
    if (i = 9 ∧ 1 < c.toNat) ∨ (0 < i ∧ c.toNat = 0) then .inl 1
    else if c.toNat < 128 then .inr (c.toNat, 1)
    else match decF (i + 1) l with
      | .inl e => .inl e
      | .inr p => .inr (c.toNat - 128 + 128 * p.1, p.2 + 1)
def dec (l : List UInt8) : Sum Nat (Nat × Nat) := decF 0 l

theorem ofNat_toNat (u : Nat) (h : u < 256) : (UInt8.ofNat u).toNat = u := by
  rw [UInt8.toNat_ofNat']; exact Nat.mod_eq_of_lt (by omega)

theorem decF_enc (k : Nat) : ∀ (i u : Nat) (l : List UInt8), i + k = 9 → u < 2 * 128 ^ k → (0 < i → 0 < u) → decF i (enc u ++ l) = .inr (u, (enc u).length) := by
  induction k with
  | zero =>
    intro i u l hi hu h0
    rw [enc_lt (by omega)]
    simp only [List.cons_append, List.nil_append, decF]
    rw [ofNat_toNat u (by omega), if_neg (by omega), if_pos (by omega)]
    simp
  | succ k ih =>
    intro i u l hi hu h0
    by_cases h : u < 128
    · rw [enc_lt h]
      simp only [List.cons_append, List.nil_append, decF]
      rw [ofNat_toNat u (by omega), if_neg (by omega), if_pos h]
      simp
    · rw [enc_ge (by omega)]
      simp only [List.cons_append, decF]
      rw [ofNat_toNat (u % 128 + 128) (by omega), if_neg (by omega), if_neg (by omega),
        ih (i + 1) (u / 128) l (by omega) (by rw [Nat.pow_succ] at hu; omega) (by omega)]
      have d : u % 128 + 128 - 128 + 128 * (u / 128) = u := by omega
      simp only [List.length_cons, d]
theorem dec_enc (u : Nat) (l : List UInt8) (h : u < 18446744073709551616) : dec (enc u ++ l) = .inr (u, (enc u).length) :=
  decF_enc 9 0 u l (by omega) (by have : (2 : Nat) * 128 ^ 9 = 18446744073709551616 := by decide
                                  omega) (by omega)

theorem ofNat_of_toNat (c : UInt8) : UInt8.ofNat c.toNat = c := by simp

theorem decF_inv (k : Nat) : ∀ (i : Nat) (l : List UInt8) (u n : Nat), i + k = 9 → decF i l = .inr (u, n) → l.take n = enc u ∧ n = (enc u).length ∧ n ≤ l.length ∧ u < 2 * 128 ^ k ∧ (0 < i → 0 < u) := by
  induction k with
  | zero =>
    intro i l u n hi h
    cases l with
    | nil => simp [decF] at h
    | cons c l =>
      simp only [decF] at h
      split at h
      · cases h
      · rename_i h1
        rw [if_pos (by omega)] at h
        simp only [Sum.inr.injEq, Prod.mk.injEq] at h
        obtain ⟨rfl, rfl⟩ := h
        rw [enc_lt (by omega), ofNat_of_toNat]
        refine ⟨by simp, by simp, by simp, by simp; omega, by omega⟩
  | succ k ih =>
    intro i l u n hi h
    cases l with
    | nil => simp [decF] at h
    | cons c l =>
      simp only [decF] at h
      split at h
      · cases h
      · rename_i h1
        split at h
        · rename_i h2
          simp only [Sum.inr.injEq, Prod.mk.injEq] at h
          obtain ⟨rfl, rfl⟩ := h
          rw [enc_lt h2, ofNat_of_toNat]
          have := Nat.pow_pos (n := k) (show 0 < 128 by omega)
          refine ⟨by simp, by simp, by simp, by rw [Nat.pow_succ]; omega, by omega⟩
        · rename_i h2
          cases hd : decF (i + 1) l with
          | inl e => rw [hd] at h; cases h
          | inr p =>
            obtain ⟨v, m⟩ := p
            rw [hd] at h
            simp only [Sum.inr.injEq, Prod.mk.injEq] at h
            obtain ⟨rfl, rfl⟩ := h
            obtain ⟨e1, e2, e3, e4, e5⟩ := ih (i + 1) l v m (by omega) hd
            have hv : 0 < v := e5 (by omega)
            have hc : c.toNat < 256 := UInt8.toNat_lt c
            rw [enc_ge (by omega)]
            have d1 : (c.toNat - 128 + 128 * v) % 128 + 128 = c.toNat := by omega
            have d2 : (c.toNat - 128 + 128 * v) / 128 = v := by omega
            rw [d1, d2, ofNat_of_toNat]
            refine ⟨by simp [e1], by simp [e2], by simp [e3], by rw [Nat.pow_succ]; omega, by omega⟩
theorem dec_inv {l : List UInt8} {u n : Nat} (h : dec l = .inr (u, n)) : l.take n = enc u ∧ n = (enc u).length ∧ n ≤ l.length ∧ u < 18446744073709551616 := by
  obtain ⟨a, b, c, d, _⟩ := decF_inv 9 0 l u n (by omega) h
  refine ⟨a, b, c, ?_⟩
  have : (2 : Nat) * 128 ^ 9 = 18446744073709551616 := by decide
  omega
/-- a number that is read has a place of at most ten bytes -/
theorem dec_len {l : List UInt8} {u n : Nat} (h : dec l = .inr (u, n)) : 0 < n ∧ n ≤ 10 ∧ n ≤ l.length := by
  obtain ⟨_, b, c, d⟩ := dec_inv h
  have := enc_len10 u d
  have := enc_pos u
  omega
theorem decF_code : ∀ (i : Nat) (l : List UInt8) (e : Nat), decF i l = .inl e → e = 15 ∨ e = 1 := by
  intro i l
  induction l generalizing i with
  | nil => intro e h; simp [decF] at h; omega
  | cons c l ih =>
    intro e h
    simp only [decF] at h
    split at h
    · simp at h; omega
    · split at h
      · cases h
      · cases hd : decF (i + 1) l with
        | inl e' => rw [hd] at h; simp at h; subst h; exact ih (i + 1) _ hd
        | inr p => rw [hd] at h; cases h

/-- i bytes have been read, their value is u: what the rest makes of it -/
def comb (u i : Nat) : Sum Nat (Nat × Nat) → Sum Nat (Nat × Nat)
  | .inl e => .inl e
  | .inr p => .inr (u + 128 ^ i * p.1, i + p.2)
theorem comb_zero (r : Sum Nat (Nat × Nat)) : comb 0 0 r = r := by
  rcases r with e | ⟨u, k⟩ <;> simp [comb]
theorem comb_nil (u i : Nat) : comb u i (decF i []) = .inl 15 := rfl
theorem comb_syn (u i : Nat) (c : UInt8) (l : List UInt8) (h : (i = 9 ∧ 1 < c.toNat) ∨ (0 < i ∧ c.toNat = 0)) : comb u i (decF i (c :: l)) = .inl 1 := by
  simp only [decF]; rw [if_pos h]; rfl
theorem comb_end (u i : Nat) (c : UInt8) (l : List UInt8) (h : ¬ ((i = 9 ∧ 1 < c.toNat) ∨ (0 < i ∧ c.toNat = 0))) (hc : c.toNat < 128) : comb u i (decF i (c :: l)) = .inr (u + 128 ^ i * c.toNat, i + 1) := by
  simp only [decF]; rw [if_neg h, if_pos hc]; rfl
theorem comb_next (u i : Nat) (c : UInt8) (l : List UInt8) (h : ¬ ((i = 9 ∧ 1 < c.toNat) ∨ (0 < i ∧ c.toNat = 0))) (hc : ¬ c.toNat < 128) :
    comb u i (decF i (c :: l)) = comb (u + 128 ^ i * (c.toNat - 128)) (i + 1) (decF (i + 1) l) := by
  simp only [decF]; rw [if_neg h, if_neg hc]
  rcases decF (i + 1) l with e | ⟨v, k⟩
  · simp only [comb]
  · show Sum.inr (u + 128 ^ i * (c.toNat - 128 + 128 * v), i + (k + 1)) = Sum.inr (u + 128 ^ i * (c.toNat - 128) + 128 ^ (i + 1) * v, i + 1 + k)
    rw [Nat.pow_succ]
    generalize 128 ^ i = q
    have e : u + q * (c.toNat - 128 + 128 * v) = u + q * (c.toNat - 128) + q * 128 * v := by rw [Nat.mul_add, Nat.mul_assoc, Nat.add_assoc]
    have e2 : i + (k + 1) = i + 1 + k := by omega
    rw [e, e2]

/-- the value of groups of seven bits -/
def val : List UInt8 → Nat
  | [] => 0
  | c :: l => c.toNat % 128 + 128 * val l
theorem val_drop (l : List UInt8) (j : Nat) : val (l.drop j) ≤ val l := by
  induction l generalizing j with
  | nil => simp
  | cons c l ih =>
    cases j with
    | zero => simp
    | succ j =>
      simp only [List.drop_succ_cons]
      have := ih j
      simp only [val]
      omega
theorem decF_val (l : List UInt8) : ∀ (i y s : Nat), decF i l = .inr (y, s) → y = val (l.take s) := by
  induction l with
  | nil => intro i y s h; simp [decF] at h
  | cons c l ih =>
    intro i y s h
    simp only [decF] at h
    split at h
    · cases h
    · split at h
      · rename_i h2
        simp only [Sum.inr.injEq, Prod.mk.injEq] at h
        obtain ⟨rfl, rfl⟩ := h
        simp only [List.take_succ_cons, List.take_zero, val]
        omega
      · rename_i h2
        cases hd : decF (i + 1) l with
        | inl e => rw [hd] at h; cases h
        | inr p =>
          obtain ⟨v, m⟩ := p
          rw [hd] at h
          simp only [Sum.inr.injEq, Prod.mk.injEq] at h
          obtain ⟨rfl, rfl⟩ := h
          have hc : c.toNat < 256 := UInt8.toNat_lt c
          rw [ih (i + 1) v m hd]
          simp only [List.take_succ_cons, val]
          omega
theorem dec_val {l : List UInt8} {y s : Nat} (h : dec l = .inr (y, s)) : y = val (l.take s) := decF_val l 0 y s h

/-- what the reader of a number at an offset answers: the number, the offset behind it, the fault's code and its index -/
def readNum (bs : List UInt8) (a : Int) : Int × Int × Int × Int :=
  if a < 0 ∨ (bs.length : Int) < a then (0, 0, 4, -2)
  else match dec (bs.drop a.toNat) with
    | .inl e => (0, 0, (e : Int), a)
    | .inr p => (zag p.1, a + (p.2 : Int), 0, 0)

end Go.Proofs.Ytdandbhjmckmiaa
