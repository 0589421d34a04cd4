/-
  What the reference's parse reads, plainly; it is what Decode reads.
-/
import Derived.Test.YtolognhjdmkohaaKEncM
namespace Go.Proofs.Ytolognhjdmkohaa
set_option linter.unusedVariables false
set_option linter.unusedSimpArgs false

/-- one part, the nodes counted down -/
def stepQ (one : Int → Nat → Option (Nd × VF × Int × Nat)) (bs : List UInt8) (rc : Bool) (x : Int) (k : Nat) : Option (List (List UInt8) × Nd × VF × Int × Nat) :=
  if rc = true then (if (readChunk bs x).2.2.1 ≠ 0 then none else match one (readChunk bs x).2.1 k with | none => none | some (d, p, y, k') => some ([(readChunk bs x).1], d, p, y, k'))
  else match one x k with | none => none | some (d, p, y, k') => some ([], d, p, y, k')
def parPs (one : Int → Nat → Option (Nd × VF × Int × Nat)) (bs : List UInt8) (rc : Bool) : Nat → Int → Nat → Option (List (List UInt8) × VF × Int × Nat)
  | 0, x, k => some ([], .nil, x, k)
  | n + 1, x, k => match stepQ one bs rc x k with
    | none => none
    | some (nm, d, p, y, k') => match parPs one bs rc n y k' with
      | none => none
      | some (ns, F, z, k'') => some (nm ++ ns, .cons d p F, z, k'')
/-- a value; f: so many levels, k: so many nodes -/
def parV : Nat → List UInt8 → Int → Nat → Option (Nd × VF × Int × Nat)
  | 0, _, _, _ => none
  | f + 1, bs, x, k =>
    if k = 0 then none
    else if (readNum bs x).2.2.1 ≠ 0 ∨ (readNum bs x).1 < 1 ∨ 4 < (readNum bs x).1 then none
    else if (readNum bs x).1 = 2 then
      (if (readChunk bs (readNum bs x).2.1).2.2.1 ≠ 0 then none else some (⟨2, 0, (readChunk bs (readNum bs x).2.1).1, []⟩, .nil, (readChunk bs (readNum bs x).2.1).2.1, k - 1))
    else if (readNum bs (readNum bs x).2.1).2.2.1 ≠ 0 then none
    else if (readNum bs x).1 = 1 then some (⟨1, (readNum bs (readNum bs x).2.1).1, [], []⟩, .nil, (readNum bs (readNum bs x).2.1).2.1, k - 1)
    else if (readNum bs (readNum bs x).2.1).1 < 0 then none
    else match parPs (parV f bs) bs ((readNum bs x).1 == 4) (readNum bs (readNum bs x).2.1).1.toNat (readNum bs (readNum bs x).2.1).2.1 (k - 1) with
      | none => none
      | some (ns, F, z, k') => some (⟨(readNum bs x).1, 0, [], ns⟩, F, z, k')
/-- some bytes stand between two places -/
def Cut (bs : List UInt8) (x y : Int) (u : List UInt8) : Prop := ∃ k m : Nat, x = (k : Int) ∧ y = (m : Int) ∧ k ≤ m ∧ m ≤ bs.length ∧ (bs.drop k).take (m - k) = u
theorem cut_two (l : List UInt8) (i j k : Nat) (h1 : i ≤ j) (h2 : j ≤ k) : (l.drop i).take (k - i) = (l.drop i).take (j - i) ++ (l.drop j).take (k - j) := by
  have e : l.drop j = (l.drop i).drop (j - i) := by rw [List.drop_drop]; congr 1; omega
  rw [e, show k - i = (j - i) + (k - j) by omega, List.take_add]
theorem Cut.app {bs u v : List UInt8} {x y z : Int} (h : Cut bs x y u) (h' : Cut bs y z v) : Cut bs x z (u ++ v) := by
  obtain ⟨k, m, rfl, rfl, h1, h2, h3⟩ := h
  obtain ⟨k', m', e, rfl, h4, h5, h6⟩ := h'
  obtain rfl : m = k' := by omega
  exact ⟨k, m', rfl, rfl, by omega, h5, by rw [cut_two bs k m m' h1 h4, h3, h6]⟩
theorem Cut.len {bs u : List UInt8} {x y : Int} (h : Cut bs x y u) : 0 ≤ x ∧ y ≤ bs.length ∧ y = x + u.length := by
  obtain ⟨k, m, rfl, rfl, h1, h2, h3⟩ := h
  have : u.length = m - k := by rw [← h3, List.length_take, List.length_drop]; omega
  omega
theorem Cut.nil {bs : List UInt8} {x : Int} (h0 : 0 ≤ x) (h1 : x ≤ bs.length) : Cut bs x x [] := ⟨x.toNat, x.toNat, by omega, by omega, Nat.le_refl _, by omega, by simp⟩
theorem readNum_cutB {bs : List UInt8} {a x y i : Int} (hl : bs.length ≤ 4000) (h : readNum bs a = (x, y, 0, i)) : Cut bs a y (num x) := by
  rcases readNum_or bs a (by omega) with ⟨c, i, hc, hr⟩ | ⟨k, z, j, rfl, hd, hr, h1, h2, _⟩
  · rw [hr] at h
    simp only [Prod.mk.injEq] at h
    exact absurd h.2.2.1 hc
  · rw [hr] at h
    simp only [Prod.mk.injEq] at h
    obtain ⟨rfl, hy, _⟩ := h
    obtain ⟨e1, e2, e3, e4⟩ := dec_inv hd
    refine ⟨k, k + j, rfl, by omega, by omega, by omega, ?_⟩
    rw [show k + j - k = j by omega, e1]
    unfold num
    rw [zig_zag]
theorem readChunk_cutB {bs s : List UInt8} {a y i : Int} (hl : bs.length ≤ 4000) (h : readChunk bs a = (s, y, 0, i)) : Cut bs a y (chunk s) := by
  obtain ⟨n, z, c, j, hr⟩ : ∃ n z c j, readNum bs a = (n, z, c, j) := ⟨_, _, _, _, rfl⟩
  unfold readChunk at h
  rw [hr] at h
  simp only [] at h
  by_cases hc : c = 0
  · subst hc
    have h1 := readNum_cutB hl hr
    have h2 := h1.len
    rw [if_neg (by simp)] at h
    by_cases hn : n < 0
    · rw [if_pos hn] at h; simp only [Prod.mk.injEq] at h; omega
    · rw [if_neg hn] at h
      by_cases ht : (bs.length : Int) - z < n
      · rw [if_pos ht] at h; simp only [Prod.mk.injEq] at h; omega
      · rw [if_neg ht] at h
        simp only [Prod.mk.injEq] at h
        obtain ⟨rfl, rfl, _⟩ := h
        have hz : 0 ≤ z := by omega
        obtain ⟨m, rfl⟩ := Int.eq_ofNat_of_zero_le (show 0 ≤ n by omega)
        obtain ⟨q, rfl⟩ := Int.eq_ofNat_of_zero_le hz
        unfold chunk
        have e : ((bs.drop (q : Int).toNat).take (m : Int).toNat).length = m := by rw [List.length_take, List.length_drop]; simp only [Int.toNat_natCast]; omega
        rw [e]
        refine h1.app ⟨q, q + m, rfl, by omega, by omega, by omega, ?_⟩
        simp only [Int.toNat_natCast]
        rw [show q + m - q = m by omega]
  · rw [if_pos hc] at h
    simp only [Prod.mk.injEq] at h
    omega
theorem parPs_sound {bs : List UInt8} (hl : bs.length ≤ 4000) {one : Int → Nat → Option (Nd × VF × Int × Nat)} {two : Int → Option (Nd × VF × Int)} (hone : ∀ x k d p y k', one x k = some (d, p, y, k') → two x = some (d, p, y) ∧ Cut bs x y (encV d p)) (rc : Bool) :
    ∀ (n : Nat) (x : Int) (k : Nat) (ns : List (List UInt8)) (F : VF) (z : Int) (k' : Nat), 0 ≤ x → x ≤ bs.length → parPs one bs rc n x k = some (ns, F, z, k') →
      rdPs two bs rc n x = some (ns, F, z) ∧ Cut bs x z (encP F rc ns) ∧ F.len = n ∧ (rc = false → ns = []) := by
  intro n
  induction n with
  | zero =>
    intro x k ns F z k' h0 h1 h
    simp only [parPs, Option.some.injEq, Prod.mk.injEq] at h
    obtain ⟨rfl, rfl, rfl, rfl⟩ := h
    exact ⟨rfl, Cut.nil h0 h1, rfl, fun _ => rfl⟩
  | succ n ih =>
    intro x k ns F z k' h0 h1 h
    simp only [parPs] at h
    cases hs : stepQ one bs rc x k with
    | none => rw [hs] at h; cases h
    | some t =>
      obtain ⟨nm, d, p, y, k1⟩ := t
      rw [hs] at h
      simp only [] at h
      cases hp : parPs one bs rc n y k1 with
      | none => rw [hp] at h; cases h
      | some t =>
        obtain ⟨ns', F', z', k2⟩ := t
        rw [hp] at h
        simp only [Option.some.injEq, Prod.mk.injEq] at h
        obtain ⟨rfl, rfl, rfl, rfl⟩ := h
        cases rc with
        | true =>
          obtain ⟨s, y1, cd, ix, hck⟩ : ∃ s y1 cd ix, readChunk bs x = (s, y1, cd, ix) := ⟨_, _, _, _, rfl⟩
          unfold stepQ at hs
          rw [hck] at hs
          simp only [if_true] at hs
          by_cases hcd : cd = 0
          · subst hcd
            rw [if_neg (by simp)] at hs
            cases ho : one y1 k with
            | none => rw [ho] at hs; cases hs
            | some t =>
              obtain ⟨d', p', y', k3⟩ := t
              rw [ho] at hs
              simp only [Option.some.injEq, Prod.mk.injEq] at hs
              obtain ⟨rfl, rfl, rfl, rfl, rfl⟩ := hs
              obtain ⟨a1, a2⟩ := hone _ _ _ _ _ _ ho
              have a3 := (readChunk_cutB hl hck).app a2
              have a4 := a3.len
              obtain ⟨b1, b2, b3, b4⟩ := ih _ _ _ _ _ _ (by omega) a4.2.1 hp
              refine ⟨?_, ?_, by simp [VF.len, b3], fun h => by cases h⟩
              · simp only [rdPs, step_ryes hck a1, b1]
              · have := a3.app b2
                simpa [encP, encV] using this
          · rw [if_pos hcd] at hs; cases hs
        | false =>
          unfold stepQ at hs
          simp only [Bool.false_eq_true, if_false] at hs
          cases ho : one x k with
          | none => rw [ho] at hs; cases hs
          | some t =>
            obtain ⟨d', p', y', k3⟩ := t
            rw [ho] at hs
            simp only [Option.some.injEq, Prod.mk.injEq] at hs
            obtain ⟨rfl, rfl, rfl, rfl, rfl⟩ := hs
            obtain ⟨a1, a2⟩ := hone _ _ _ _ _ _ ho
            have a4 := a2.len
            obtain ⟨b1, b2, b3, b4⟩ := ih _ _ _ _ _ _ (by omega) a4.2.1 hp
            obtain rfl := b4 rfl
            refine ⟨?_, ?_, by simp [VF.len, b3], fun h => rfl⟩
            · simp only [rdPs, step_yes a1, b1, List.nil_append]
            · have := a2.app b2
              simpa [encP, encV] using this
theorem parV_sound {bs : List UInt8} (hl : bs.length ≤ 4000) : ∀ (f : Nat) (x : Int) (k : Nat) (d : Nd) (p : VF) (y : Int) (k' : Nat), parV f bs x k = some (d, p, y, k') → rdV f bs x = some (d, p, y) ∧ Cut bs x y (encV d p) := by
  intro f
  induction f with
  | zero => intro x k d p y k' h; cases h
  | succ f ih =>
    intro x k d p y k' h
    obtain ⟨kd, x1, c1, i1, h1⟩ : ∃ kd x1 c1 i1, readNum bs x = (kd, x1, c1, i1) := ⟨_, _, _, _, rfl⟩
    rw [parV, h1] at h
    simp only [] at h
    by_cases hk : k = 0
    · rw [if_pos hk] at h; cases h
    · rw [if_neg hk] at h
      by_cases hb : c1 ≠ 0 ∨ kd < 1 ∨ 4 < kd
      · rw [if_pos hb] at h; cases h
      · rw [if_neg hb] at h
        obtain rfl : c1 = 0 := by omega
        have n1 := readNum_cutB hl h1
        have l1 := n1.len
        by_cases k2 : kd = 2
        · subst k2
          rw [if_pos rfl] at h
          obtain ⟨s, y2, cd, jx, hck⟩ : ∃ s y2 cd jx, readChunk bs x1 = (s, y2, cd, jx) := ⟨_, _, _, _, rfl⟩
          rw [hck] at h
          simp only [] at h
          by_cases hcd : cd = 0
          · subst hcd
            rw [if_neg (by simp)] at h
            simp only [Option.some.injEq, Prod.mk.injEq] at h
            obtain ⟨rfl, rfl, rfl, rfl⟩ := h
            refine ⟨by rw [rdV, h1, hck]; simp, ?_⟩
            simpa [encV, encOne] using n1.app (readChunk_cutB hl hck)
          · rw [if_pos hcd] at h; cases h
        · rw [if_neg k2] at h
          obtain ⟨m, x2, c2, i2, h2⟩ : ∃ m x2 c2 i2, readNum bs x1 = (m, x2, c2, i2) := ⟨_, _, _, _, rfl⟩
          rw [h2] at h
          simp only [] at h
          by_cases hc2 : c2 = 0
          · subst hc2
            rw [if_neg (by simp)] at h
            have n2 := readNum_cutB hl h2
            have l2 := n2.len
            by_cases k1 : kd = 1
            · subst k1
              rw [if_pos rfl] at h
              simp only [Option.some.injEq, Prod.mk.injEq] at h
              obtain ⟨rfl, rfl, rfl, rfl⟩ := h
              refine ⟨by rw [rdV, h1, h2]; simp, ?_⟩
              simpa [encV, encOne] using n1.app n2
            · rw [if_neg k1] at h
              by_cases hm : m < 0
              · rw [if_pos hm] at h; cases h
              · rw [if_neg hm] at h
                cases hp : parPs (parV f bs) bs (kd == 4) m.toNat x2 (k - 1) with
                | none => rw [hp] at h; cases h
                | some t =>
                  obtain ⟨ns, F, z, kq⟩ := t
                  rw [hp] at h
                  simp only [Option.some.injEq, Prod.mk.injEq] at h
                  obtain ⟨rfl, rfl, rfl, rfl⟩ := h
                  obtain ⟨a1, a2, a3, a4⟩ := parPs_sound hl (two := rdV f bs) ih (kd == 4) _ _ _ _ _ _ _ (by omega) l2.2.1 hp
                  have l3 := a2.len
                  have l4 := encP_ge F (kd == 4) ns
                  refine ⟨?_, ?_⟩
                  · rw [rdV_l3 h1 k1 k2 h2 (by omega), a1]
                  · have := n1.app (n2.app a2)
                    have e : (F.len : Int) = m := by rw [a3]; omega
                    simpa [encV, encOne, k1, k2, e] using this
          · rw [if_pos hc2] at h; cases h
theorem parPs_of {bs : List UInt8} {f : Nat} (ih : ∀ (x : Int) (d : Nd) (p : VF) (y : Int) (nm m : Nat), rdV f bs x = some (d, p, y) → chkF (.cons d p .nil) nm (11 - f) = .inr m → parV f bs x (600 - nm) = some (d, p, y, 600 - m)) (rc : Bool) :
    ∀ (n : Nat) (x : Int) (ns : List (List UInt8)) (F : VF) (z : Int) (nm m : Nat), rdPs (rdV f bs) bs rc n x = some (ns, F, z) → chkF F nm (11 - f) = .inr m → parPs (parV f bs) bs rc n x (600 - nm) = some (ns, F, z, 600 - m) := by
  intro n
  induction n with
  | zero =>
    intro x ns F z nm m h hc
    simp only [rdPs, Option.some.injEq, Prod.mk.injEq] at h
    obtain ⟨rfl, rfl, rfl⟩ := h
    cases hc
    rfl
  | succ n ih2 =>
    intro x ns F z nm m h hc
    simp only [rdPs] at h
    cases hs : stepP (rdV f bs) bs rc x with
    | none => rw [hs] at h; cases h
    | some t =>
      obtain ⟨nms, d, p, y⟩ := t
      rw [hs] at h
      simp only [] at h
      cases hp : rdPs (rdV f bs) bs rc n y with
      | none => rw [hp] at h; cases h
      | some t =>
        obtain ⟨ns', F', z'⟩ := t
        rw [hp] at h
        simp only [Option.some.injEq, Prod.mk.injEq] at h
        obtain ⟨rfl, rfl, rfl⟩ := h
        by_cases hm : 600 ≤ nm ∨ 10 < 11 - f
        · rw [chkF_many hm] at hc; cases hc
        · by_cases hn : nodeC d p.len ≠ 0
          · rw [chkF_node hm hn] at hc; cases hc
          · cases hq : chkF p (nm + 1) (11 - f + 1) with
            | inl e => rw [chkF_inl hm hn hq] at hc; cases hc
            | inr m1 =>
              have hd : chkF (.cons d p .nil) nm (11 - f) = .inr m1 := by rw [chkF_inr hm hn hq]; rfl
              rw [chkF_inr hm hn hq] at hc
              have hr := ih2 _ _ _ _ _ _ hp hc
              cases rc with
              | true =>
                obtain ⟨s, y1, cd, ix, hck⟩ : ∃ s y1 cd ix, readChunk bs x = (s, y1, cd, ix) := ⟨_, _, _, _, rfl⟩
                unfold stepP at hs
                rw [hck] at hs
                simp only [if_true] at hs
                by_cases hcd : cd = 0
                · subst hcd
                  rw [if_neg (by simp)] at hs
                  cases ho : rdV f bs y1 with
                  | none => rw [ho] at hs; cases hs
                  | some t =>
                    obtain ⟨d', p', y'⟩ := t
                    rw [ho] at hs
                    simp only [Option.some.injEq, Prod.mk.injEq] at hs
                    obtain ⟨rfl, rfl, rfl, rfl⟩ := hs
                    have hv := ih _ _ _ _ _ _ ho hd
                    simp only [parPs, stepQ, hck, if_true, hv]
                    simp [hr]
                · rw [if_pos hcd] at hs; cases hs
              | false =>
                unfold stepP at hs
                simp only [Bool.false_eq_true, if_false] at hs
                cases ho : rdV f bs x with
                | none => rw [ho] at hs; cases hs
                | some t =>
                  obtain ⟨d', p', y'⟩ := t
                  rw [ho] at hs
                  simp only [Option.some.injEq, Prod.mk.injEq] at hs
                  obtain ⟨rfl, rfl, rfl, rfl⟩ := hs
                  have hv := ih _ _ _ _ _ _ ho hd
                  simp only [parPs, stepQ, Bool.false_eq_true, if_false, hv, hr]
theorem parV_of {bs : List UInt8} : ∀ (f : Nat), f ≤ 10 → ∀ (x : Int) (d : Nd) (p : VF) (y : Int) (nm m : Nat), rdV f bs x = some (d, p, y) → chkF (.cons d p .nil) nm (11 - f) = .inr m → parV f bs x (600 - nm) = some (d, p, y, 600 - m) := by
  intro f
  induction f with
  | zero => intro _ x d p y nm m _ h; rw [chkF_many (by omega)] at h; cases h
  | succ f ih =>
    intro hf x d p y nm m h hc
    by_cases hm : 600 ≤ nm ∨ 10 < 11 - (f + 1)
    · rw [chkF_many hm] at hc; cases hc
    · by_cases hn : nodeC d p.len ≠ 0
      · rw [chkF_node hm hn] at hc; cases hc
      · cases hq : chkF p (nm + 1) (11 - (f + 1) + 1) with
        | inl e => rw [chkF_inl hm hn hq] at hc; cases hc
        | inr m1 =>
          rw [chkF_inr hm hn hq] at hc
          injection hc with hc
          subst hc
          rw [show 11 - (f + 1) + 1 = 11 - f by omega] at hq
          obtain ⟨k1, k4, _⟩ := node_form (Decidable.not_not.1 hn)
          obtain ⟨kd, x1, c1, i1, h1⟩ : ∃ kd x1 c1 i1, readNum bs x = (kd, x1, c1, i1) := ⟨_, _, _, _, rfl⟩
          rw [rdV, h1] at h
          simp only [] at h
          by_cases hc1 : c1 = 0
          · subst hc1
            rw [if_neg (by simp)] at h
            rw [parV, h1]
            simp only []
            rw [if_neg (show ¬ 600 - nm = 0 by omega)]
            by_cases e1 : kd = 1
            · subst e1
              rw [if_pos rfl] at h
              obtain ⟨m2, x2, c2, i2, h2⟩ : ∃ m x2 c2 i2, readNum bs x1 = (m, x2, c2, i2) := ⟨_, _, _, _, rfl⟩
              rw [h2] at h ⊢
              simp only [] at h ⊢
              by_cases hc2 : c2 = 0
              · subst hc2
                rw [if_neg (by simp)] at h
                simp only [Option.some.injEq, Prod.mk.injEq] at h
                obtain ⟨rfl, rfl, rfl⟩ := h
                cases hq
                simp
                omega
              · rw [if_pos hc2] at h; cases h
            · rw [if_neg e1] at h
              by_cases e2 : kd = 2
              · subst e2
                rw [if_pos rfl] at h
                obtain ⟨s, y2, cd, jx, hck⟩ : ∃ s y2 cd jx, readChunk bs x1 = (s, y2, cd, jx) := ⟨_, _, _, _, rfl⟩
                rw [hck] at h ⊢
                simp only [] at h ⊢
                by_cases hcd : cd = 0
                · subst hcd
                  rw [if_neg (by simp)] at h
                  simp only [Option.some.injEq, Prod.mk.injEq] at h
                  obtain ⟨rfl, rfl, rfl⟩ := h
                  cases hq
                  simp
                  omega
                · rw [if_pos hcd] at h; cases h
              · rw [if_neg e2] at h
                obtain ⟨m2, x2, c2, i2, h2⟩ : ∃ m x2 c2 i2, readNum bs x1 = (m, x2, c2, i2) := ⟨_, _, _, _, rfl⟩
                rw [h2] at h ⊢
                simp only [] at h ⊢
                by_cases hc2 : c2 = 0
                · subst hc2
                  rw [if_neg (by simp)] at h
                  by_cases hr : m2 < 0 ∨ (bs.length : Int) - x2 < m2
                  · rw [if_pos hr] at h; cases h
                  · rw [if_neg hr] at h
                    cases hp : rdPs (rdV f bs) bs (kd == 4) m2.toNat x2 with
                    | none => rw [hp] at h; cases h
                    | some t =>
                      obtain ⟨ns, F, z⟩ := t
                      rw [hp] at h
                      simp only [Option.some.injEq, Prod.mk.injEq] at h
                      obtain ⟨rfl, rfl, rfl⟩ := h
                      simp only at k1 k4
                      have h5 := parPs_of (ih (by omega)) (kd == 4) _ _ _ _ _ _ _ hp hq
                      rw [if_neg (by omega), if_neg e2, if_neg (by simp), if_neg e1, if_neg (by omega), show 600 - nm - 1 = 600 - (nm + 1) by omega, h5]
                · rw [if_pos hc2] at h; cases h
          · rw [if_pos hc1] at h; cases h
theorem dec_par {bs : List UInt8} {d : Nd} {p : VF} (h : decV bs = .inr (d, p)) : ∃ k, parV 10 bs 0 600 = some (d, p, (bs.length : Int), k) := by
  obtain ⟨hl, hm, hv, he⟩ := decV_inv h
  have h1 := rdV_enc hm hv
  rw [he] at h1
  obtain ⟨m, h2, _⟩ := valF_zero hv
  exact ⟨_, parV_of 10 (Nat.le_refl _) 0 d p _ 0 m h1 h2⟩
theorem par_dec {bs : List UInt8} (hl : bs.length ≤ 4000) {d : Nd} {p : VF} {k : Nat} (h : parV 10 bs 0 600 = some (d, p, (bs.length : Int), k)) (hv : valF d p = (0, 0)) : decV bs = .inr (d, p) := by
  obtain ⟨h1, k0, m, e0, e1, _, _, h2⟩ := parV_sound hl _ _ _ _ _ _ _ h
  obtain rfl : k0 = 0 := by omega
  obtain rfl : m = bs.length := by omega
  have he : encV d p = bs := by rw [← h2]; simp
  unfold decV
  rw [if_neg (by omega), h1]
  simp only []
  rw [if_pos ⟨hv, he⟩]
end Go.Proofs.Ytolognhjdmkohaa
