/-
  Cutting a text at a byte, and decimal digits: plain lists.
-/
import Derived.WalkKit
namespace Go.Proofs.Ytmhjcdencfbjpaa
set_option linter.unusedVariables false
set_option linter.unusedSimpArgs false

/-- the parts of a text between the separators -/
def cutL (sep : UInt8) : List UInt8 → List (List UInt8)
  | [] => [[]]
  | c :: r => if c = sep then [] :: cutL sep r else match cutL sep r with | [] => [[c]] | h :: t => (c :: h) :: t
theorem cutL_ne (sep : UInt8) (s : List UInt8) : ∃ h t, cutL sep s = h :: t := by
  cases s with
  | nil => exact ⟨_, _, rfl⟩
  | cons c r =>
    unfold cutL
    split
    · exact ⟨_, _, rfl⟩
    · split <;> exact ⟨_, _, rfl⟩
theorem cutL_sep (sep : UInt8) (r : List UInt8) : cutL sep (sep :: r) = [] :: cutL sep r := by rw [cutL, if_pos rfl]
theorem cutL_seg (sep : UInt8) (p r : List UInt8) (h : ∀ c ∈ p, c ≠ sep) : cutL sep (p ++ sep :: r) = p :: cutL sep r := by
  induction p with
  | nil => exact cutL_sep sep r
  | cons c p ih =>
    rw [List.cons_append, cutL, if_neg (h c (by simp)), ih (fun x hx => h x (by simp [hx]))]
theorem cutL_last (sep : UInt8) (p : List UInt8) (h : ∀ c ∈ p, c ≠ sep) : cutL sep p = [p] := by
  induction p with
  | nil => rfl
  | cons c p ih =>
    rw [cutL, if_neg (h c (by simp)), ih (fun x hx => h x (by simp [hx]))]
theorem cutL_count (sep : UInt8) (s : List UInt8) : (cutL sep s).length = s.count sep + 1 := by
  induction s with
  | nil => rfl
  | cons c r ih =>
    unfold cutL
    obtain ⟨h, t, e⟩ := cutL_ne sep r
    rw [e] at ih ⊢
    by_cases hc : c = sep
    · subst hc; simp at ih ⊢; omega
    · have hc' : ¬ c = sep := hc
      rw [if_neg hc, List.count_cons_of_ne hc]
      simpa using ih
theorem cutL_mem (sep : UInt8) (s : List UInt8) (c : UInt8) (h : c ∈ s) : c = sep ∨ ∃ p ∈ cutL sep s, c ∈ p := by
  induction s with
  | nil => simp at h
  | cons a r ih =>
    unfold cutL
    obtain ⟨x, t, e⟩ := cutL_ne sep r
    rw [e] at ih ⊢
    by_cases ha : a = sep
    · subst ha
      rw [if_pos rfl]
      rcases List.mem_cons.1 h with rfl | h
      · exact .inl rfl
      · rcases ih h with rfl | ⟨p, hp, hc⟩
        · exact .inl rfl
        · exact .inr ⟨p, List.mem_cons_of_mem _ hp, hc⟩
    · rw [if_neg ha]
      rcases List.mem_cons.1 h with rfl | h
      · exact .inr ⟨_, List.mem_cons_self, List.mem_cons_self⟩
      · rcases ih h with rfl | ⟨p, hp, hc⟩
        · exact .inl rfl
        · rcases List.mem_cons.1 hp with rfl | hp
          · exact .inr ⟨_, List.mem_cons_self, List.mem_cons_of_mem _ hc⟩
          · exact .inr ⟨p, List.mem_cons_of_mem _ hp, hc⟩
theorem cutL_len (sep : UInt8) (s : List UInt8) : ∀ p ∈ cutL sep s, p.length ≤ s.length := by
  induction s with
  | nil => intro p hp; simp [cutL] at hp; simp [hp]
  | cons a r ih =>
    intro p hp
    unfold cutL at hp
    obtain ⟨x, t, e⟩ := cutL_ne sep r
    rw [e] at ih hp
    by_cases ha : a = sep
    · rw [if_pos ha] at hp
      rcases List.mem_cons.1 hp with rfl | hp
      · simp
      · have := ih p hp; simp; omega
    · rw [if_neg ha] at hp
      rcases List.mem_cons.1 hp with rfl | hp
      · have := ih x List.mem_cons_self; simp; omega
      · have := ih p (List.mem_cons_of_mem _ hp); simp; omega

/-- a decimal digit -/
def isD (c : UInt8) : Prop := 48 ≤ c.toNat ∧ c.toNat ≤ 57
instance (c : UInt8) : Decidable (isD c) := inferInstanceAs (Decidable (_ ∧ _))
/-- the number with some digits -/
def valN (p : List UInt8) : Int := p.foldl (fun x c => 10 * x + ((c.toNat : Int) - 48)) 0
theorem valN_snoc (p : List UInt8) (c : UInt8) : valN (p ++ [c]) = 10 * valN p + ((c.toNat : Int) - 48) := by simp [valN, List.foldl_append]
theorem valN_bd (p : List UInt8) (h : ∀ c ∈ p, isD c) : 0 ≤ valN p ∧ valN p < 10 ^ p.length := by
  suffices H : ∀ (n : Nat) (q : List UInt8), q.length = n → (∀ c ∈ q, isD c) → 0 ≤ valN q ∧ valN q < 10 ^ n from H _ p rfl h
  intro n
  induction n with
  | zero => intro q hq _; rw [List.eq_nil_of_length_eq_zero hq]; simp [valN]
  | succ n ih =>
    intro q hq hd
    obtain ⟨r, c, rfl⟩ : ∃ r c, q = r ++ [c] := ⟨q.dropLast, q.getLast (by intro e; simp [e] at hq), (List.dropLast_concat_getLast _).symm⟩
    have h1 := ih r (by simpa using hq) (fun x hx => hd x (by simp [hx]))
    have h2 := hd c (by simp)
    unfold isD at h2
    rw [valN_snoc, Int.pow_succ]
    omega

/-- a text of a date: its three parts -/
structure Txt (s a b c : List UInt8) : Prop where
  eq : s = a ++ 45 :: (b ++ 45 :: c)
  la : a.length = 4
  lb : b.length = 2
  lc : c.length = 2
/-- all is digits -/
def AllD (a b c : List UInt8) : Prop := (∀ x ∈ a, isD x) ∧ (∀ x ∈ b, isD x) ∧ (∀ x ∈ c, isD x)
theorem isD_ne {c : UInt8} (h : isD c) : c ≠ 45 := by rintro rfl; exact absurd h (by decide)
theorem cut_all {s a b c : List UInt8} (h : Txt s a b c) (hd : AllD a b c) : cutL 45 s = [a, b, c] := by
  rw [h.eq, cutL_seg _ _ _ (fun x hx => isD_ne (hd.1 x hx)), cutL_seg _ _ _ (fun x hx => isD_ne (hd.2.1 x hx)), cutL_last _ _ (fun x hx => isD_ne (hd.2.2 x hx))]
theorem cut_not {s a b c : List UInt8} (h : Txt s a b c) (h3 : (cutL 45 s).length = 3) (hp : ∀ p ∈ cutL 45 s, ∀ x ∈ p, isD x) : AllD a b c := by
  rw [cutL_count, h.eq] at h3
  simp only [List.count_append, List.count_cons_self] at h3
  have ha : a.count 45 = 0 := by omega
  have hb : b.count 45 = 0 := by omega
  have hc : c.count 45 = 0 := by omega
  rw [List.count_eq_zero] at ha hb hc
  have key : ∀ x, x ∈ s → x ≠ 45 → isD x := fun x hx hne => by
    rcases cutL_mem 45 s x hx with e | ⟨p, h1, h2⟩
    · exact absurd e hne
    · exact hp p h1 x h2
  refine ⟨fun x hx => key x (by rw [h.eq]; simp [hx]) ?_, fun x hx => key x (by rw [h.eq]; simp [hx]) ?_, fun x hx => key x (by rw [h.eq]; simp [hx]) ?_⟩
  · rintro rfl; exact ha hx
  · rintro rfl; exact hb hx
  · rintro rfl; exact hc hx
theorem txt_of {s : List UInt8} (h : s.length = 10) (h4 : s[4]? = some 45) (h7 : s[7]? = some 45) : ∃ a b c, Txt s a b c := by
  match s, h with
  | [x0, x1, x2, x3, x4, x5, x6, x7, x8, x9], _ =>
    simp at h4 h7
    subst h4 h7
    exact ⟨[x0, x1, x2, x3], [x5, x6], [x8, x9], rfl, rfl, rfl, rfl⟩
end Go.Proofs.Ytmhjcdencfbjpaa
