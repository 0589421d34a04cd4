/-
  A value is read back from its encoding, plainly; so encodings tell values apart.
-/
import Derived.Test.YtolognhjdmkohaaJ12
import Derived.Test.YtolognhjdmkohaaKPathM
import Derived.Lib.Bytealg
namespace Go.Proofs.Ytolognhjdmkohaa
set_option linter.unusedVariables false
set_option linter.unusedSimpArgs false

theorem readNum_in (pre rest : List UInt8) {n : Int} (h1 : -9223372036854775808 ≤ n) (h2 : n ≤ 9223372036854775807) :
    readNum (pre ++ (num n ++ rest)) (pre.length : Int) = (n, ((pre.length + (num n).length : Nat) : Int), 0, 0) := by
  rw [← List.append_assoc]; exact num_back pre rest h1 h2
theorem readChunk_in0 {bs : List UInt8} {a : Int} {k y : Nat} (h : readNum bs a = ((k : Int), (y : Int), 0, 0)) (hk : y + k ≤ bs.length) : readChunk bs a = ((bs.drop y).take k, ((y + k : Nat) : Int), 0, 0) := by
  unfold readChunk; rw [h]; simp only []; rw [if_neg (by simp), if_neg (by omega), if_neg (by omega), Int.toNat_natCast, Int.toNat_natCast]; simp
theorem readChunk_in (pre x rest : List UInt8) (hx : x.length ≤ 1048576) : readChunk (pre ++ (chunk x ++ rest)) (pre.length : Int) = (x, ((pre.length + (chunk x).length : Nat) : Int), 0, 0) := by
  have e : pre ++ (chunk x ++ rest) = pre ++ (num (x.length : Int) ++ (x ++ rest)) := by simp [chunk]
  have h := readNum_in pre (x ++ rest) (n := (x.length : Int)) (by omega) (by omega)
  rw [e, readChunk_in0 h (by simp; omega)]
  have e2 : ((pre ++ (num (x.length : Int) ++ (x ++ rest))).drop (pre.length + (num (x.length : Int)).length)).take x.length = x := by
    rw [← List.append_assoc, ← List.length_append, List.drop_left, List.take_left]
  rw [e2]
  simp [chunk, Nat.add_assoc]
theorem enc1 (d : Nd) (p : VF) : 0 < (encV d p).length := by
  unfold encV encOne; rw [List.length_append]; have := num_pos d.k; omega
theorem encP_ge (F : VF) : ∀ (rc : Bool) (ns : List (List UInt8)), F.len ≤ (encP F rc ns).length := by
  induction F with
  | nil => intro rc ns; exact Nat.zero_le _
  | cons d p r _ ih =>
    intro rc ns
    have h := ih rc ns.tail
    have h1 := enc1 d p
    simp only [encP, VF.len, List.length_append]
    unfold encV at h1
    omega
theorem node_form {d : Nd} {np : Nat} (h : nodeC d np = 0) : 1 ≤ d.k ∧ d.k ≤ 4 ∧ (d.k ≠ 1 → d.n = 0) ∧ (d.k ≠ 2 → d.bs = []) ∧ (d.k ≠ 4 → d.ns = []) ∧ (d.k < 3 → np = 0) ∧ (d.k = 4 → d.ns.length = np) := by
  unfold nodeC at h
  split at h
  · omega
  · split at h
    · omega
    · rename_i h1 h2
      unfold formB at h2
      simp only [Bool.or_eq_true, decide_eq_true_eq, not_or, not_and] at h2
      obtain ⟨⟨⟨⟨a, b⟩, c⟩, e⟩, f⟩ := h2
      refine ⟨by omega, by omega, fun hk => by have := a hk; omega, fun hk => ?_, fun hk => ?_, fun hk => by have := e hk; omega, fun hk => by have := f hk; omega⟩
      · have := b hk; exact List.eq_nil_of_length_eq_zero (by omega)
      · have := c hk; exact List.eq_nil_of_length_eq_zero (by omega)
theorem VF.nil_of {p : VF} (h : p.len = 0) : p = .nil := by cases p with | nil => rfl | cons d p r => simp [VF.len] at h
theorem encV_read {d : Nd} {p : VF} {f : Nat} {bs pre rest : List UInt8} (hn : nodeC d p.len = 0) (hf : NdFits d) (hl : p.len ≤ 1048576) (hbs : bs = pre ++ (encV d p ++ rest))
    (Hp : ∀ pre rest, bs = pre ++ (encP p (d.k == 4) d.ns ++ rest) → rdPs (rdV f bs) bs (d.k == 4) p.len (pre.length : Int) = some (if (d.k == 4) = true then d.ns else [], p, ((pre.length + (encP p (d.k == 4) d.ns).length : Nat) : Int))) :
    rdV (f + 1) bs (pre.length : Int) = some (d, p, ((pre.length + (encV d p).length : Nat) : Int)) := by
  obtain ⟨k1, k4, hN, hB, hS, hP, hL⟩ := node_form hn
  obtain ⟨⟨o1, o2, o3, o4⟩, f1, f2, f3⟩ := hf
  obtain ⟨k, n, b, ns⟩ := d
  simp only at *
  by_cases e1 : k = 1
  · subst e1
    obtain rfl := hB (by omega)
    obtain rfl := hS (by omega)
    obtain rfl := VF.nil_of (hP (by omega))
    have ev : encV ⟨1, n, [], []⟩ .nil = num 1 ++ num n := encV_num rfl
    rw [ev] at hbs ⊢
    have h1 : readNum bs (pre.length : Int) = (1, ((pre.length + (num 1).length : Nat) : Int), 0, 0) := by
      rw [hbs, List.append_assoc]; exact readNum_in pre _ (by omega) (by omega)
    have h2 : readNum bs ((pre.length + (num 1).length : Nat) : Int) = (n, ((pre.length + (num 1).length + (num n).length : Nat) : Int), 0, 0) := by
      have e : bs = (pre ++ num 1) ++ (num n ++ rest) := by rw [hbs]; simp
      rw [e, ← List.length_append]; exact readNum_in _ _ o3 o4
    rw [rdV_n1 h1 h2, List.length_append, Nat.add_assoc]
  · by_cases e2 : k = 2
    · subst e2
      obtain rfl := hN (by omega)
      obtain rfl := hS (by omega)
      obtain rfl := VF.nil_of (hP (by omega))
      have ev : encV ⟨2, 0, b, []⟩ .nil = num 2 ++ chunk b := encV_bytes rfl
      rw [ev] at hbs ⊢
      have h1 : readNum bs (pre.length : Int) = (2, ((pre.length + (num 2).length : Nat) : Int), 0, 0) := by
        rw [hbs, List.append_assoc]; exact readNum_in pre _ (by omega) (by omega)
      have h2 : readChunk bs ((pre.length + (num 2).length : Nat) : Int) = (b, ((pre.length + (num 2).length + (chunk b).length : Nat) : Int), 0, 0) := by
        have e : bs = (pre ++ num 2) ++ (chunk b ++ rest) := by rw [hbs]; simp
        rw [e, ← List.length_append]; exact readChunk_in _ _ _ f1
      rw [rdV_c1 h1 h2, List.length_append, Nat.add_assoc]
    · obtain rfl := hN e1
      obtain rfl := hB e2
      have ev : encV ⟨k, 0, [], ns⟩ p = num k ++ (num (p.len : Int) ++ encP p (k == 4) ns) := encV_parts e1 e2
      rw [ev] at hbs ⊢
      have h1 : readNum bs (pre.length : Int) = (k, ((pre.length + (num k).length : Nat) : Int), 0, 0) := by
        rw [hbs, List.append_assoc]; exact readNum_in pre _ o1 o2
      have h2 : readNum bs ((pre.length + (num k).length : Nat) : Int) = ((p.len : Int), ((pre.length + (num k).length + (num (p.len : Int)).length : Nat) : Int), 0, 0) := by
        have e : bs = (pre ++ num k) ++ (num (p.len : Int) ++ (encP p (k == 4) ns ++ rest)) := by rw [hbs]; simp
        rw [e, ← List.length_append]; exact readNum_in _ _ (by omega) (by omega)
      have hg := encP_ge p (k == 4) ns
      have hbl : bs.length = pre.length + (num k).length + (num (p.len : Int)).length + (encP p (k == 4) ns).length + rest.length := by rw [hbs]; simp; omega
      have hm : ¬ ((p.len : Int) < 0 ∨ (bs.length : Int) - ((pre.length + (num k).length + (num (p.len : Int)).length : Nat) : Int) < (p.len : Int)) := by omega
      have h3 := Hp (pre ++ (num k ++ num (p.len : Int))) rest (by rw [hbs]; simp)
      have e4 : (pre ++ (num k ++ num (p.len : Int))).length = pre.length + (num k).length + (num (p.len : Int)).length := by simp; omega
      rw [e4] at h3
      rw [rdV_l3 h1 e1 e2 h2 hm, Int.toNat_natCast, h3]
      have e5 : (if (k == 4) = true then ns else []) = ns := by
        by_cases e : k = 4
        · simp [e]
        · rw [hS e]; simp
      simp only [e5, List.length_append]
      congr 3
      omega
theorem rdPs_enc (F : VF) : ∀ (nm lev m f : Nat), chkF F nm lev = .inr m → Fits F → lev + f = 11 → ∀ (rc : Bool) (ns bs pre rest : List _), (rc = true → ns.length = F.len ∧ ∀ x ∈ ns, x.length ≤ 1048576) → bs = pre ++ (encP F rc ns ++ rest) →
    rdPs (rdV f bs) bs rc F.len (pre.length : Int) = some (if rc = true then ns else [], F, ((pre.length + (encP F rc ns).length : Nat) : Int)) := by
  induction F with
  | nil =>
    intro nm lev m f _ _ _ rc ns bs pre rest hr hbs
    simp only [VF.len, rdPs, encP, List.length_nil, Nat.add_zero]
    cases rc with
    | false => rfl
    | true => have := (hr rfl).1; rw [VF.len] at this; simp [List.eq_nil_of_length_eq_zero this]
  | cons d p r ih1 ih2 =>
    intro nm lev m f h hF hlf rc ns bs pre rest hr hbs
    by_cases hm : 600 ≤ nm ∨ 10 < lev
    · rw [chkF_many hm] at h; cases h
    · by_cases hn : nodeC d p.len ≠ 0
      · rw [chkF_node hm hn] at h; cases h
      · cases hp : chkF p (nm + 1) (lev + 1) with
        | inl g => rw [chkF_inl hm hn hp] at h; cases h
        | inr m1 =>
          rw [chkF_inr hm hn hp] at h
          have hn0 : nodeC d p.len = 0 := Decidable.not_not.1 hn
          obtain ⟨f', rfl⟩ : ∃ f', f = f' + 1 := ⟨f - 1, by omega⟩
          obtain ⟨hd, hpl, hFp, hFr⟩ := hF
          have hone : ∀ pre rest, bs = pre ++ (encV d p ++ rest) → rdV (f' + 1) bs (pre.length : Int) = some (d, p, ((pre.length + (encV d p).length : Nat) : Int)) := by
            intro pre rest hbs
            refine encV_read hn0 hd hpl hbs fun pre rest hbs => ?_
            refine ih1 _ _ _ f' hp hFp (by omega) _ _ _ _ _ (fun hk => ?_) hbs
            have hk4 : d.k = 4 := by simpa using hk
            exact ⟨(node_form hn0).2.2.2.2.2.2 hk4, hd.2.2.2⟩
          have hE : encP (.cons d p r) rc ns = (if rc then chunk (ns.headD []) else []) ++ (encV d p ++ encP r rc ns.tail) := rfl
          cases rc with
          | false =>
            have hE' : encP (.cons d p r) false ns = encV d p ++ encP r false ns.tail := by rw [hE]; simp
            rw [hE'] at hbs ⊢
            have h1 := hone pre (encP r false ns.tail ++ rest) (by rw [hbs]; simp)
            have h2 := ih2 _ _ _ (f' + 1) h hFr hlf false ns.tail bs (pre ++ encV d p) rest (fun e => by cases e) (by rw [hbs]; simp)
            rw [List.length_append] at h2
            simp only [VF.len, rdPs, step_yes h1, h2, List.length_append]
            simp
            omega
          | true =>
            obtain ⟨hnl, hnx⟩ := hr rfl
            cases ns with
            | nil => simp [VF.len] at hnl
            | cons s ns =>
              have hE' : encP (.cons d p r) true (s :: ns) = chunk s ++ (encV d p ++ encP r true ns) := by rw [hE]; simp
              rw [hE'] at hbs ⊢
              have h0 : readChunk bs (pre.length : Int) = (s, ((pre.length + (chunk s).length : Nat) : Int), 0, 0) := by
                have e : bs = pre ++ (chunk s ++ (encV d p ++ encP r true ns ++ rest)) := by rw [hbs]; simp
                rw [e]; exact readChunk_in _ _ _ (hnx s (by simp))
              have h1 := hone (pre ++ chunk s) (encP r true ns ++ rest) (by rw [hbs]; simp)
              have h2 := ih2 _ _ _ (f' + 1) h hFr hlf true ns bs (pre ++ (chunk s ++ encV d p)) rest (fun _ => ⟨by simp [VF.len] at hnl; exact hnl, fun x hx => hnx x (by simp [hx])⟩) (by rw [hbs]; simp)
              rw [List.length_append] at h1
              have e2 : (pre ++ (chunk s ++ encV d p)).length = pre.length + (chunk s).length + (encV d p).length := by simp; omega
              rw [e2] at h2
              simp only [VF.len, rdPs, step_ryes h0 h1, h2, List.length_append]
              simp
              omega
/-- a valid value is read back from its encoding -/
theorem rdV_enc {d : Nd} {p : VF} (hm : Mod d p) (hv : valF d p = (0, 0)) : rdV 10 (encV d p) 0 = some (d, p, ((encV d p).length : Int)) := by
  obtain ⟨m, h1, _⟩ := valF_zero hv
  have h2 := rdPs_enc (.cons d p .nil) 0 1 m 10 h1 ⟨hm.nd, hm.pl, hm.fp, trivial⟩ rfl false [] (encV d p) [] [] (fun e => by cases e) (by simp [encP, encV])
  simp only [VF.len, rdPs, stepP] at h2
  simp only [List.length_nil] at h2
  have e0 : ((0 : Nat) : Int) = 0 := rfl
  rw [e0] at h2
  cases h3 : rdV 10 (encV d p) 0 with
  | none => rw [h3] at h2; simp at h2
  | some t =>
    obtain ⟨d', p', y⟩ := t
    rw [h3] at h2
    simp [encP, encV] at h2
    obtain ⟨⟨rfl, rfl⟩, h4⟩ := h2
    rw [h4]
    rfl
theorem enc_inj {d d' : Nd} {p p' : VF} (hm : Mod d p) (hv : valF d p = (0, 0)) (hm' : Mod d' p') (hv' : valF d' p' = (0, 0)) (h : encV d p = encV d' p') : d = d' ∧ p = p' := by
  have h1 := rdV_enc hm hv
  rw [h, rdV_enc hm' hv'] at h1
  injection h1 with h1
  injection h1 with h2 h3
  injection h3 with h3 h4
  exact ⟨h2.symm, h3.symm⟩
/-- a valid value is decoded from its encoding -/
theorem decV_enc {d : Nd} {p : VF} (hm : Mod d p) (hv : valF d p = (0, 0)) : decV (encV d p) = .inr (d, p) := by
  obtain ⟨m, _, h2⟩ := valF_zero hv
  unfold decV
  rw [if_neg (by omega), rdV_enc hm hv]
  simp [hv]
/-- what is decoded has this encoding -/
theorem decV_inv {bs : List UInt8} {d : Nd} {p : VF} (h : decV bs = .inr (d, p)) : bs.length ≤ 4000 ∧ Mod d p ∧ valF d p = (0, 0) ∧ encV d p = bs := by
  unfold decV at h
  by_cases hl : 4000 < bs.length
  · rw [if_pos hl] at h; cases h
  · rw [if_neg hl] at h
    cases hr : rdV 10 bs 0 with
    | none => rw [hr] at h; cases h
    | some t =>
      obtain ⟨d', p', y⟩ := t
      rw [hr] at h
      simp only at h
      split at h
      · rename_i hc
        cases h
        exact ⟨by omega, (rdV_got (by omega) _ _ _ _ _ hr).mod (by omega), hc.1, hc.2⟩
      · cases h
/-! comparing byte strings -/
open Go.Lib in
theorem cmp_range : ∀ (a b : List UInt8), compareBytes a b = -1 ∨ compareBytes a b = 0 ∨ compareBytes a b = 1
  | [], [] => .inr (.inl rfl)
  | [], _ :: _ => .inl rfl
  | _ :: _, [] => .inr (.inr rfl)
  | x :: a, y :: b => by
    unfold compareBytes
    split
    · exact .inl rfl
    · split
      · exact .inr (.inr rfl)
      · exact cmp_range a b
open Go.Lib in
theorem cmp_swap : ∀ (a b : List UInt8), compareBytes b a = -compareBytes a b
  | [], [] => rfl
  | [], _ :: _ => rfl
  | _ :: _, [] => rfl
  | x :: a, y :: b => by
    have ih := cmp_swap a b
    unfold compareBytes
    by_cases h1 : x < y
    · have h2 : ¬ y < x := fun h => absurd (UInt8.lt_trans h1 h) (UInt8.lt_irrefl _)
      rw [if_pos h1, if_neg h2, if_pos h1]; rfl
    · by_cases h2 : y < x
      · rw [if_pos h2, if_neg h1, if_pos h2]
      · rw [if_neg h2, if_neg h1, if_neg h1, if_neg h2, ih]
open Go.Lib in
theorem cmp_zero : ∀ (a b : List UInt8), compareBytes a b = 0 ↔ a = b
  | [], [] => by simp [compareBytes]
  | [], _ :: _ => by simp [compareBytes]
  | _ :: _, [] => by simp [compareBytes]
  | x :: a, y :: b => by
    have ih := cmp_zero a b
    unfold compareBytes
    by_cases h1 : x < y
    · rw [if_pos h1]
      exact ⟨fun h => by omega, fun h => by injection h with h _; subst h; exact absurd h1 (UInt8.lt_irrefl _)⟩
    · by_cases h2 : y < x
      · rw [if_neg h1, if_pos h2]
        exact ⟨fun h => by omega, fun h => by injection h with h _; subst h; exact absurd h2 (UInt8.lt_irrefl _)⟩
      · rw [if_neg h1, if_neg h2, ih]
        have : x = y := UInt8.le_antisymm (UInt8.not_lt.1 h2) (UInt8.not_lt.1 h1)
        subst this
        simp
open Go.Lib in
theorem cmp_trans : ∀ (a b c : List UInt8), compareBytes a b ≤ 0 → compareBytes b c ≤ 0 → compareBytes a c ≤ 0
  | [], _, [] => fun _ _ => by simp [compareBytes]
  | [], _, _ :: _ => fun _ _ => by simp [compareBytes]
  | _ :: _, [], _ => fun h _ => by simp [compareBytes] at h
  | _ :: _, _ :: _, [] => fun _ h => by simp [compareBytes] at h
  | x :: a, y :: b, z :: c => fun h h' => by
    have ih := cmp_trans a b c
    unfold compareBytes at h h' ⊢
    by_cases h1 : x < y
    · by_cases h2 : y < z
      · rw [if_pos (UInt8.lt_trans h1 h2)]; omega
      · by_cases h3 : z < y
        · rw [if_neg h2, if_pos h3] at h'; omega
        · have : y = z := UInt8.le_antisymm (UInt8.not_lt.1 h3) (UInt8.not_lt.1 h2)
          subst this
          rw [if_pos h1]; omega
    · by_cases h2 : y < x
      · rw [if_neg h1, if_pos h2] at h; omega
      · have : x = y := UInt8.le_antisymm (UInt8.not_lt.1 h2) (UInt8.not_lt.1 h1)
        subst this
        rw [if_neg h1, if_neg h1] at h
        by_cases h3 : x < z
        · rw [if_pos h3]; omega
        · by_cases h4 : z < x
          · rw [if_neg h3, if_pos h4] at h'; omega
          · rw [if_neg h3, if_neg h4] at h' ⊢
            exact ih h h'
end Go.Proofs.Ytolognhjdmkohaa
