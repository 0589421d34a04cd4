/-
  Paths, plainly: a path in two parts; a part of a valid value is valid.
-/
import Derived.Test.YtolognhjdmkohaaJ9
namespace Go.Proofs.Ytolognhjdmkohaa
set_option linter.unusedVariables false
set_option linter.unusedSimpArgs false

theorem chkF_low (F : VF) : ∀ (num lev m num' lev' : Nat), chkF F num lev = .inr m → num' ≤ num → lev' ≤ lev → ∃ m', chkF F num' lev' = .inr m' ∧ m' + num = m + num' := by
  induction F with
  | nil => intro num lev m num' lev' h h1 h2; cases h; exact ⟨num', rfl, by omega⟩
  | cons d p r ih1 ih2 =>
    intro num lev m num' lev' h h1 h2
    by_cases hm : 600 ≤ num ∨ 10 < lev
    · rw [chkF_many hm] at h; cases h
    · by_cases hn : nodeC d p.len ≠ 0
      · rw [chkF_node hm hn] at h; cases h
      · cases hp : chkF p (num + 1) (lev + 1) with
        | inl f => rw [chkF_inl hm hn hp] at h; cases h
        | inr m1 =>
          rw [chkF_inr hm hn hp] at h
          obtain ⟨m2, h3, h4⟩ := ih1 _ _ _ (num' + 1) (lev' + 1) hp (by omega) (by omega)
          obtain ⟨m3, h5, h6⟩ := ih2 _ _ _ m2 lev' h (by omega) h2
          exact ⟨m3, by rw [chkF_inr (by omega) hn h3]; exact h5, by omega⟩
theorem chkF_part (F : VF) : ∀ (num lev m i : Nat) (d : Nd) (p r : VF), chkF F num lev = .inr m → F.drop i = .cons d p r → ∃ n1 m1, chkF (.cons d p .nil) n1 lev = .inr m1 := by
  induction F with
  | nil => intro num lev m i d p r _ h; cases i <;> cases h
  | cons d0 p0 r0 _ ih =>
    intro num lev m i d p r h hd
    by_cases hm : 600 ≤ num ∨ 10 < lev
    · rw [chkF_many hm] at h; cases h
    · by_cases hn : nodeC d0 p0.len ≠ 0
      · rw [chkF_node hm hn] at h; cases h
      · cases hp : chkF p0 (num + 1) (lev + 1) with
        | inl f => rw [chkF_inl hm hn hp] at h; cases h
        | inr m1 =>
          rw [chkF_inr hm hn hp] at h
          cases i with
          | zero =>
            rw [VF.drop_zero] at hd
            cases hd
            exact ⟨num, m1, by rw [chkF_inr hm hn hp]; rfl⟩
          | succ i => exact ih m1 lev m i d p r h hd
theorem chkF_kids {d : Nd} {p : VF} {num lev m : Nat} (h : chkF (.cons d p .nil) num lev = .inr m) : nodeC d p.len = 0 ∧ ∃ m1, chkF p (num + 1) (lev + 1) = .inr m1 := by
  by_cases hm : 600 ≤ num ∨ 10 < lev
  · rw [chkF_many hm] at h; cases h
  · by_cases hn : nodeC d p.len ≠ 0
    · rw [chkF_node hm hn] at h; cases h
    · cases hp : chkF p (num + 1) (lev + 1) with
      | inl f => rw [chkF_inl hm hn hp] at h; cases h
      | inr m1 => exact ⟨by simpa using hn, m1, rfl⟩
theorem node_kindP {d : Nd} {np : Nat} (h : nodeC d np = 0) (hp : 0 < np) : d.k = 3 ∨ d.k = 4 := by
  unfold nodeC at h
  split at h
  · omega
  · split at h
    · omega
    · rename_i h1 h2
      unfold formB at h2
      simp only [Bool.or_eq_true, decide_eq_true_eq, not_or, not_and] at h2
      omega
theorem enc_kid {d : Nd} {p : VF} {i : Nat} {d' : Nd} {p' r : VF} (h : nodeC d p.len = 0) (hd : p.drop i = .cons d' p' r) (hi : i < p.len) : (encV d' p').length ≤ (encV d p).length := by
  have hk := node_kindP h (by omega)
  rw [encV_parts (d := d) (p := p) (by omega) (by omega)]
  simp only [List.length_append]
  have := encV_part (rc := d.k == 4) (ns := d.ns) hd
  omega
theorem valF_zero {d : Nd} {p : VF} (h : valF d p = (0, 0)) : ∃ m, chkF (.cons d p .nil) 0 1 = .inr m ∧ (encV d p).length ≤ 4000 := by
  cases hc : chkF (.cons d p .nil) 0 1 with
  | inl f =>
    obtain ⟨c, i⟩ := f
    rw [valF_inl hc] at h
    exact absurd (congrArg Prod.fst h) (chkF_code _ _ _ _ _ hc)
  | inr m =>
    by_cases hl : 4000 < (encV d p).length
    · rw [valF_big hc hl] at h
      exact absurd (congrArg Prod.fst h) (by decide)
    · exact ⟨m, rfl, by omega⟩
theorem valF_kid {d : Nd} {p : VF} {i : Nat} {d' : Nd} {p' r : VF} (h : valF d p = (0, 0)) (hd : p.drop i = .cons d' p' r) (hi : i < p.len) : valF d' p' = (0, 0) := by
  obtain ⟨m, h1, h2⟩ := valF_zero h
  obtain ⟨h3, m1, h4⟩ := chkF_kids h1
  obtain ⟨n5, m5, h5⟩ := chkF_part _ _ _ _ _ _ _ _ h4 hd
  obtain ⟨m6, h6, _⟩ := chkF_low _ _ _ _ 0 1 h5 (Nat.zero_le _) (by omega)
  exact valF_ok h6 (by have := enc_kid h3 hd hi; omega)
theorem pathV_cases (d : Nd) (p : VF) (k : Int) (r : List Int) (i : Nat) : (pathV d p (k :: r) i = .inl i ∧ (k < 0 ∨ (p.len : Int) ≤ k)) ∨ ∃ (j : Nat) (d' : Nd) (p' q : VF), k = (j : Int) ∧ j < p.len ∧ p.drop j = .cons d' p' q ∧ pathV d p (k :: r) i = pathV d' p' r (i + 1) := by
  by_cases hb : k < 0 ∨ (p.len : Int) ≤ k
  · exact .inl ⟨pathV_bad hb, hb⟩
  · obtain ⟨j, rfl⟩ := Int.eq_ofNat_of_zero_le (show 0 ≤ k by omega)
    have hj : j < p.len := by omega
    obtain ⟨d', p', hd⟩ := VF.drop_cons hj
    exact .inr ⟨j, d', p', _, rfl, hj, hd, pathV_go hj hd⟩
theorem path_valid : ∀ (path : List Int) (d : Nd) (p : VF) (i : Nat) (d' : Nd) (p' : VF), valF d p = (0, 0) → pathV d p path i = .inr (d', p') → valF d' p' = (0, 0) := by
  intro path
  induction path with
  | nil => intro d p i d' p' h hp; rw [pathV_nil] at hp; cases hp; exact h
  | cons k r ih =>
    intro d p i d' p' h hp
    rcases pathV_cases d p k r i with ⟨e, _⟩ | ⟨j, d1, p1, q, rfl, hj, hd, e⟩
    · rw [e] at hp; cases hp
    · rw [e] at hp; exact ih d1 p1 (i + 1) d' p' (valF_kid h hd hj) hp
theorem path_shift : ∀ (path : List Int) (d : Nd) (p : VF) (i m : Nat), pathV d p path (i + m) = match pathV d p path i with | .inl j => .inl (j + m) | .inr x => .inr x := by
  intro path
  induction path with
  | nil => intro d p i m; rw [pathV_nil, pathV_nil]
  | cons k r ih =>
    intro d p i m
    rcases pathV_cases d p k r i with ⟨e, hb⟩ | ⟨j, d1, p1, q, rfl, hj, hd, e⟩
    · rw [e, pathV_bad hb]
    · rw [e, pathV_go hj hd, ← ih d1 p1 (i + 1) m, show i + m + 1 = i + 1 + m by omega]
theorem path_app : ∀ (a b : List Int) (d : Nd) (p : VF) (i : Nat), pathV d p (a ++ b) i = match pathV d p a i with | .inl j => .inl j | .inr x => pathV x.1 x.2 b (i + a.length) := by
  intro a
  induction a with
  | nil => intro b d p i; rw [pathV_nil, List.nil_append]; rfl
  | cons k r ih =>
    intro b d p i
    rw [List.cons_append]
    rcases pathV_cases d p k r i with ⟨e, hb⟩ | ⟨j, d1, p1, q, rfl, hj, hd, e⟩
    · rw [e, pathV_bad hb]
    · rw [e, pathV_go hj hd, ih b d1 p1 (i + 1), show i + 1 + r.length = i + ((j : Int) :: r).length by simp only [List.length_cons]; omega]
theorem path_mod {d d' : Nd} {p p' : VF} {path : List Int} {i : Nat} (hm : Mod d p) (hv : valF d p = (0, 0)) (h : pathV d p path i = .inr (d', p')) : Mod d' p' := by
  obtain ⟨a, b, c⟩ := path_fits path d p i d' p' hm.nd hm.fp hm.pl h
  obtain ⟨m, _, hl⟩ := valF_zero (path_valid path d p i d' p' hv h)
  exact ⟨a, b, c, by omega⟩
end Go.Proofs.Ytolognhjdmkohaa
