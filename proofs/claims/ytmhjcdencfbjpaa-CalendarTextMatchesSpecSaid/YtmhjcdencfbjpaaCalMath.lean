/-
  The plain law of the calendar: leap years, days of months, numbers of days, and that each number is the number of one date. No program in sight.
-/
namespace Go.Proofs.Ytmhjcdencfbjpaa
set_option linter.unusedVariables false
set_option linter.unusedSimpArgs false

/-- 1 in a leap year -/
def lp (y : Int) : Int := if y % 4 = 0 ∧ (y % 100 ≠ 0 ∨ y % 400 = 0) then 1 else 0
theorem lp_01 (y : Int) : 0 ≤ lp y ∧ lp y ≤ 1 := by unfold lp; split <;> omega
theorem lp_eq (y : Int) : lp y = if y % 4 = 0 ∧ (y % 100 ≠ 0 ∨ y % 400 = 0) then 1 else 0 := rfl
def dim (y m : Int) : Int := if m = 2 then 28 + lp y else if m = 4 ∨ m = 6 ∨ m = 9 ∨ m = 11 then 30 else 31
theorem dim_bd (y m : Int) : 28 ≤ dim y m ∧ dim y m ≤ 31 := by
  have := lp_01 y
  unfold dim; split
  · omega
  · split <;> omega
/-- the days before a year -/
def bef (y : Int) : Int := 365 * (y - 1) + (y - 1) / 4 - (y - 1) / 100 + (y - 1) / 400
theorem bef_succ (y : Int) : bef (y + 1) = bef y + 365 + lp y := by
  unfold bef lp
  split <;> omega
theorem bef_one : bef 1 = 0 := by decide
theorem bef_max : bef 10000 = 3652059 := by decide
theorem bef_mono (a b : Int) (h : a ≤ b) : bef a ≤ bef b := by unfold bef; omega
theorem bef_lt (a b : Int) (h : a < b) : bef a + 365 ≤ bef b := by unfold bef; omega
theorem bef_bd (y : Int) (h1 : 1 ≤ y) (h2 : y ≤ 10000) : 0 ≤ bef y ∧ bef y ≤ 3652059 := by unfold bef; omega
/-- the days of a year before a month -/
def cum (y : Int) : Nat → Int
  | 0 => 0
  | m + 1 => cum y m + dim y ((m : Int) + 1)
/-- the number of the day of a date -/
def num (y : Int) (m : Nat) (d : Int) : Int := bef y + d + cum y (m - 1)
def Valid (y : Int) (m : Nat) (d : Int) : Prop := 1 ≤ y ∧ y ≤ 9999 ∧ 1 ≤ m ∧ m ≤ 12 ∧ 1 ≤ d ∧ d ≤ dim y (m : Int)
theorem cum_12 (y : Int) : cum y 12 = 365 + lp y := by
  simp only [cum, dim]
  simp
  omega
theorem cum_mono (y : Int) (i j : Nat) (h : i ≤ j) : cum y i ≤ cum y j := by
  induction j with
  | zero => obtain rfl : i = 0 := by omega
            exact Int.le_refl _
  | succ j ih =>
    by_cases e : i = j + 1
    · subst e; exact Int.le_refl _
    · have := ih (by omega); have := dim_bd y ((j : Int) + 1); simp only [cum]; omega
theorem cum_nonneg (y : Int) (i : Nat) : 0 ≤ cum y i := by have := cum_mono y 0 i (by omega); simpa [cum] using this
theorem cum_bd (y : Int) (i : Nat) (h : i ≤ 12) : 0 ≤ cum y i ∧ cum y i ≤ 366 := by
  have h1 := cum_nonneg y i
  have h2 := cum_mono y i 12 h
  rw [cum_12] at h2
  have := lp_01 y
  omega
theorem cum_step (y : Int) (m : Nat) (h : 1 ≤ m) : cum y m = cum y (m - 1) + dim y (m : Int) := by
  obtain ⟨k, rfl⟩ : ∃ k, m = k + 1 := ⟨m - 1, by omega⟩
  simp only [cum, Nat.add_sub_cancel]
  rfl
/-- the number lies within its year -/
theorem num_year {y : Int} {m : Nat} {d : Int} (h : Valid y m d) : bef y < num y m d ∧ num y m d ≤ bef (y + 1) := by
  obtain ⟨h1, h2, h3, h4, h5, h6⟩ := h
  have a := cum_nonneg y (m - 1)
  have b := cum_step y m h3
  have c := cum_mono y m 12 h4
  rw [cum_12] at c
  have e := bef_succ y
  unfold num
  omega
theorem num_range {y : Int} {m : Nat} {d : Int} (h : Valid y m d) : 1 ≤ num y m d ∧ num y m d ≤ 3652059 := by
  have a := num_year h
  have b := bef_bd y h.1 (by have := h.2.1; omega)
  have c := bef_bd (y + 1) (by have := h.1; omega) (by have := h.2.1; omega)
  omega
/-- earlier dates have smaller numbers -/
theorem num_lt {y y' : Int} {m m' : Nat} {d d' : Int} (h : Valid y m d) (h' : Valid y' m' d') (hlt : y < y' ∨ (y = y' ∧ (m < m' ∨ (m = m' ∧ d < d')))) : num y m d < num y' m' d' := by
  rcases hlt with hy | ⟨rfl, hm | ⟨rfl, hd⟩⟩
  · have a := num_year h
    have b := num_year h'
    have c := bef_mono (y + 1) y' (by omega)
    omega
  · have b := cum_step y m h.2.2.1
    have c := cum_mono y m (m' - 1) (by omega)
    have e := h.2.2.2.2.2
    have f := h'.2.2.2.2.1
    unfold num
    omega
  · unfold num; omega
theorem num_inj {y y' : Int} {m m' : Nat} {d d' : Int} (h : Valid y m d) (h' : Valid y' m' d') (e : num y m d = num y' m' d') : y = y' ∧ m = m' ∧ d = d' := by
  by_cases h1 : y < y'
  · have := num_lt h h' (.inl h1); omega
  · by_cases h2 : y' < y
    · have := num_lt h' h (.inl h2); omega
    · have hy : y = y' := by omega
      subst hy
      by_cases h3 : m < m'
      · have := num_lt h h' (.inr ⟨rfl, .inl h3⟩); omega
      · by_cases h4 : m' < m
        · have := num_lt h' h (.inr ⟨rfl, .inl h4⟩); omega
        · have hm : m = m' := by omega
          subst hm
          refine ⟨rfl, rfl, ?_⟩
          unfold num at e
          omega
/-- the order of numbers is that of dates -/
theorem num_lt_iff {y y' : Int} {m m' : Nat} {d d' : Int} (h : Valid y m d) (h' : Valid y' m' d') : num y m d < num y' m' d' ↔ (y < y' ∨ (y = y' ∧ (m < m' ∨ (m = m' ∧ d < d')))) := by
  constructor
  · intro hlt
    by_cases h1 : y < y'
    · exact .inl h1
    · by_cases h2 : y' < y
      · have := num_lt h' h (.inl h2); omega
      · have hy : y = y' := by omega
        subst hy
        refine .inr ⟨rfl, ?_⟩
        by_cases h3 : m < m'
        · exact .inl h3
        · by_cases h4 : m' < m
          · have := num_lt h' h (.inr ⟨rfl, .inl h4⟩); omega
          · have hm : m = m' := by omega
            subst hm
            refine .inr ⟨rfl, ?_⟩
            unfold num at hlt
            omega
  · exact num_lt h h'
/-- the day after a date -/
def nextD (y : Int) (m : Nat) (d : Int) : Int × Nat × Int :=
  if d + 1 ≤ dim y m then (y, m, d + 1) else if m + 1 = 13 then (y + 1, 1, 1) else (y, m + 1, 1)
theorem num_next {y : Int} {m : Nat} {d : Int} (h : Valid y m d) : num (nextD y m d).1 (nextD y m d).2.1 (nextD y m d).2.2 = num y m d + 1 := by
  obtain ⟨h1, h2, h3, h4, h5, h6⟩ := h
  have b := cum_step y m h3
  unfold nextD
  split
  · simp only [num]; omega
  · split
    · rename_i hd hm
      obtain rfl : m = 12 := by omega
      have c := cum_12 y
      have e := bef_succ y
      have z : cum (y + 1) (1 - 1) = 0 := rfl
      show bef (y + 1) + 1 + cum (y + 1) (1 - 1) = bef y + d + cum y (12 - 1) + 1
      rw [z]
      generalize cum y (12 - 1) = q at *
      omega
    · simp only [num, Nat.add_sub_cancel]; omega
theorem next_valid {y : Int} {m : Nat} {d : Int} (h : Valid y m d) (hy : (nextD y m d).1 ≠ 10000) : Valid (nextD y m d).1 (nextD y m d).2.1 (nextD y m d).2.2 := by
  obtain ⟨h1, h2, h3, h4, h5, h6⟩ := h
  unfold nextD at *
  split
  · exact ⟨h1, h2, h3, h4, by simp only; omega, by simpa using ‹d + 1 ≤ dim y m›⟩
  · rename_i hd
    rw [if_neg hd] at hy
    split
    · rename_i hm
      rw [if_pos hm] at hy
      have := dim_bd (y + 1) 1
      exact ⟨by simp only; omega, by simp only at hy ⊢; omega, by simp, by simp, by simp, by simp only; have := dim_bd (y + 1) ((1 : Nat) : Int); omega⟩
    · have := dim_bd y ((m + 1 : Nat) : Int)
      exact ⟨h1, h2, by simp, by simp only; omega, by simp, by simp only; omega⟩
/-- years repeat after 400 of them -/
theorem lp_400 (y : Int) : lp (y + 400) = lp y := by unfold lp; split <;> split <;> omega
theorem dim_400 (y m : Int) : dim (y + 400) m = dim y m := by unfold dim; rw [lp_400]
theorem cum_400 (y : Int) (m : Nat) : cum (y + 400) m = cum y m := by
  induction m with
  | zero => rfl
  | succ m ih => simp only [cum, ih, dim_400]
theorem bef_400 (y : Int) : bef (y + 400) = bef y + 146097 := by unfold bef; omega
theorem num_400 (y : Int) (m : Nat) (d : Int) : num (y + 400) m d = num y m d + 146097 := by unfold num; rw [bef_400, cum_400]; omega
end Go.Proofs.Ytmhjcdencfbjpaa
