/-
  The contract of the reader's value.
-/
/-
  What the reader reads is of moderate size.
-/
/-
  The walks of value.Decode: what is refused.
-/
/-
  The contract of value.Decode.
-/
import Derived.Test.YtolognhjdmkohaaKValV
namespace Go.Proofs.Ytolognhjdmkohaa
open Go.RowKit
set_option linter.unusedVariables false
set_option linter.unusedSimpArgs false

theorem rvalue_small {w : World} {g B f : Nat} {A : Option Addr} {n c : Nat} {bs : List UInt8} {x lev : Int} (hr : Rr w g (.slice A n c) x) (hd : Rd w B 1 A n (bv bs)) (hB : B ≤ g) (hn : n ≤ 4000) (hnc : n ≤ c)
    (H : ∀ k x1 m x2 ix jx : Int, readNum bs x = (k, x1, 0, ix) → k ≠ 1 → k ≠ 2 → readNum bs x1 = (m, x2, 0, jx) → 0 ≤ x2 → x2 ≤ 4000 → Calls Try.prog 50 #[.pointer (some ⟨g, 0, none⟩), .int .i64 lev] w (RvEnd w g (.slice A n c) (rdV f bs x))) :
    Calls Try.prog 50 #[.pointer (some ⟨g, 0, none⟩), .int .i64 lev] w (RvEnd w g (.slice A n c) (rdV f bs x)) := by
  have hl : bs.length = n := by have := hd.len; rw [bv_len] at this; exact this
  obtain ⟨k, x1, cd, ix, h1⟩ : ∃ k x1 cd ix, readNum bs x = (k, x1, cd, ix) := ⟨_, _, _, _, rfl⟩
  by_cases hcd : cd = 0
  · subst hcd
    by_cases k1 : k = 1
    · subst k1
      obtain ⟨m, x2, cd, jx, h2⟩ : ∃ m x2 cd jx, readNum bs x1 = (m, x2, cd, jx) := ⟨_, _, _, _, rfl⟩
      by_cases hc2 : cd = 0
      · subst hc2
        exact rvalue_n1 (k := 0) (cd := 0) (s := []) hr hd hB hn hnc h1 h2
      · exact rvalue_n0 (k := 0) (s := []) hr hd hB hn hnc h1 h2 hc2
    · by_cases k2 : k = 2
      · subst k2
        obtain ⟨s, x2, cd, jx, h2⟩ : ∃ s x2 cd jx, readChunk bs x1 = (s, x2, cd, jx) := ⟨_, _, _, _, rfl⟩
        by_cases hc2 : cd = 0
        · subst hc2
          exact rvalue_c1 (k := 0) (m := 0) (cd := 0) hr hd hB hn hnc h1 h2
        · exact rvalue_c0 (k := 0) (m := 0) hr hd hB hn hnc h1 h2 hc2
      · obtain ⟨m, x2, cd, jx, h2⟩ : ∃ m x2 cd jx, readNum bs x1 = (m, x2, cd, jx) := ⟨_, _, _, _, rfl⟩
        by_cases hc2 : cd = 0
        · subst hc2
          have hx : 0 ≤ x2 ∧ x2 ≤ 4000 := by
            rcases readNum_or bs x1 (by omega) with ⟨c, i, hc, h⟩ | ⟨_, _, _, _, _, h, hle, _⟩
            · rw [h2] at h; simp at h; omega
            · rw [h2] at h; simp at h; omega
          exact H k x1 m x2 ix jx h1 k1 k2 h2 hx.1 hx.2
        · exact rvalue_l0 (s := []) hr hd hB hn hnc h1 k1 k2 h2 hc2
  · exact rvalue_f0 (m := 0) (x2 := 0) (jx := 0) (s := []) hr hd hB hn hnc h1 hcd
theorem rvalue_calls (bs : List UInt8) : ∀ (f : Nat), f ≤ 11 → ∀ {w : World} {g B : Nat} {A : Option Addr} {n c : Nat} {x : Int}, Rr w g (.slice A n c) x → Rd w B 1 A n (bv bs) → B ≤ g → n ≤ 4000 → n ≤ c →
    Calls Try.prog 50 #[.pointer (some ⟨g, 0, none⟩), .int .i64 (11 - (f : Int))] w (RvEnd w g (.slice A n c) (rdV f bs x)) := by
  intro f
  induction f with
  | zero =>
    intro _ w g B A n c x hr hd hB hn hnc
    refine rvalue_small hr hd hB hn hnc fun k x1 m x2 ix jx h1 k1 k2 h2 hx hx' => ?_
    exact rvalue_l1 (f := 0) (cd := 0) (s := []) hr hd hB hn hnc h1 k1 k2 h2 (by omega)
  | succ f ih =>
    intro hf w g B A n c x hr hd hB hn hnc
    refine rvalue_small hr hd hB hn hnc fun k x1 m x2 ix jx h1 k1 k2 h2 hx hx' => ?_
    by_cases hm : m < 0
    · exact rvalue_l2a (cd := 0) (s := []) hr hd hB hn hnc h1 k1 k2 h2 (by omega) hm
    · by_cases hm2 : (bs.length : Int) - x2 < m
      · exact rvalue_l2b (cd := 0) (s := []) hr hd hB hn hnc h1 k1 k2 h2 (by omega) hm hm2 hx hx'
      · refine rvalue_l3 (cd := 0) (s := []) hr hd hB hn hnc h1 k1 k2 h2 (by omega) hm hm2 (by omega) (fun w' x' hr' hd' => ?_) hx hx'
        have e : (11 : Int) - ((f + 1 : Nat) : Int) + 1 = 11 - (f : Int) := by omega
        rw [e]
        exact ih (by omega) hr' hd' hB hn hnc
end Go.Proofs.Ytolognhjdmkohaa
namespace Go.Proofs.Ytolognhjdmkohaa
set_option linter.unusedVariables false
set_option linter.unusedSimpArgs false

theorem readNum_fit {bs : List UInt8} {x k y i : Int} (hl : bs.length ≤ 4000) (h : readNum bs x = (k, y, 0, i)) : -9223372036854775808 ≤ k ∧ k ≤ 9223372036854775807 ∧ 0 ≤ x ∧ x < y ∧ y ≤ bs.length ∧ (num k).length ≤ 10 := by
  rcases readNum_or bs x (by omega) with ⟨c, i, hc, h'⟩ | ⟨a, b, j, e, _, h', hle, hj, hz⟩
  · rw [h] at h'; simp at h'; omega
  · rw [h] at h'
    simp only [Prod.mk.injEq] at h'
    obtain ⟨h1, h2, _⟩ := h'
    subst h1
    exact ⟨hz.1, hz.2, by omega, by omega, by omega, num_len _ hz.1 hz.2⟩
theorem readChunk_fit {bs s : List UInt8} {x y i : Int} (hl : bs.length ≤ 4000) (h : readChunk bs x = (s, y, 0, i)) : s.length ≤ 4000 ∧ 0 ≤ x ∧ x < y ∧ y ≤ bs.length ∧ ((chunk s).length : Int) ≤ 10 * (y - x) := by
  obtain ⟨k, x1, c, j, e⟩ : ∃ k x1 c j, readNum bs x = (k, x1, c, j) := ⟨_, _, _, _, rfl⟩
  unfold readChunk at h
  simp only [e] at h
  split at h
  · rename_i hc; simp only [Prod.mk.injEq] at h; exact absurd h.2.2.1 hc
  · rename_i hc
    simp only [ne_eq, Decidable.not_not] at hc
    subst hc
    obtain ⟨_, _, h1, h2, h3, _⟩ := readNum_fit hl e
    split at h
    · simp at h
    · split at h
      · simp at h
      · rename_i ha hb
        simp only [Prod.mk.injEq] at h
        obtain ⟨hs, hy, _⟩ := h
        have hsl : s.length = k.toNat := by rw [← hs, List.length_take, List.length_drop]; omega
        have hn := num_len (s.length : Int) (by omega) (by omega)
        refine ⟨by omega, h1, by omega, by omega, ?_⟩
        unfold chunk
        rw [List.length_append]
        omega
/-- a value that was read between x and y -/
structure Got (bs : List UInt8) (x : Int) (d : Nd) (p : VF) (y : Int) : Prop where
  nd : NdFits d
  pl : p.len ≤ 4000
  fp : Fits p
  x0 : 0 ≤ x
  xy : x < y
  yl : y ≤ bs.length
  el : ((encV d p).length : Int) ≤ 10 * (y - x)
theorem step_fit {one : Int → Option (Nd × VF × Int)} {bs : List UInt8} {rc : Bool} {x y : Int} {nm : List (List UInt8)} {d : Nd} {p : VF} (hl : bs.length ≤ 4000) (hone : ∀ x d p y, one x = some (d, p, y) → Got bs x d p y) (h : stepP one bs rc x = some (nm, d, p, y)) :
    (NdFits d ∧ p.len ≤ 4000 ∧ Fits p) ∧ (∀ s ∈ nm, s.length ≤ 4000) ∧ (rc = true → ∃ s, nm = [s]) ∧ (rc = false → nm = []) ∧ 0 ≤ x ∧ x < y ∧ y ≤ bs.length ∧ ((if rc then chunk (nm.headD []) else []).length + (encV d p).length : Int) ≤ 10 * (y - x) := by
  unfold stepP at h
  cases rc with
  | true =>
    obtain ⟨s, y1, c, i, e⟩ : ∃ s y c i, readChunk bs x = (s, y, c, i) := ⟨_, _, _, _, rfl⟩
    simp only [e, if_true] at h
    split at h
    · cases h
    · rename_i hc
      simp only [ne_eq, Decidable.not_not] at hc
      subst hc
      cases ho : one y1 with
      | none => rw [ho] at h; cases h
      | some r =>
        obtain ⟨d', p', z⟩ := r
        rw [ho] at h
        simp only [Option.some.injEq, Prod.mk.injEq] at h
        obtain ⟨rfl, rfl, rfl, rfl⟩ := h
        have hg := hone _ _ _ _ ho
        obtain ⟨c1, c2, c3, c4, c5⟩ := readChunk_fit hl e
        have g1 := hg.xy; have g2 := hg.yl; have g3 := hg.el
        refine ⟨⟨hg.nd, hg.pl, hg.fp⟩, fun s' hs => ?_, fun _ => ⟨_, rfl⟩, fun h => (by cases h), c2, by omega, g2, ?_⟩
        · simp only [List.mem_singleton] at hs; subst hs; exact c1
        · simp only [if_true, List.headD_cons]; omega
  | false =>
    simp only [Bool.false_eq_true, if_false] at h
    cases ho : one x with
    | none => rw [ho] at h; cases h
    | some r =>
      obtain ⟨d', p', z⟩ := r
      rw [ho] at h
      simp only [Option.some.injEq, Prod.mk.injEq] at h
      obtain ⟨rfl, rfl, rfl, rfl⟩ := h
      have hg := hone _ _ _ _ ho
      have g3 := hg.el
      exact ⟨⟨hg.nd, hg.pl, hg.fp⟩, fun s hs => (by cases hs), fun h => by (cases h), fun _ => rfl, hg.x0, hg.xy, hg.yl, by simp only [Bool.false_eq_true, if_false, List.length_nil]; omega⟩
theorem rdPs_fit {one : Int → Option (Nd × VF × Int)} {bs : List UInt8} {rc : Bool} (hl : bs.length ≤ 4000) (hone : ∀ x d p y, one x = some (d, p, y) → Got bs x d p y) : ∀ (n : Nat) (x : Int) (ns : List (List UInt8)) (F : VF) (z : Int), 0 ≤ x → x ≤ bs.length → rdPs one bs rc n x = some (ns, F, z) →
    Fits F ∧ F.len = n ∧ ns.length ≤ n ∧ (∀ s ∈ ns, s.length ≤ 4000) ∧ x ≤ z ∧ z ≤ bs.length ∧ (rc = false → ns = []) ∧ ((encP F rc ns).length : Int) ≤ 10 * (z - x) := by
  intro n
  induction n with
  | zero =>
    intro x ns F z hx hx' h
    simp only [rdPs, Option.some.injEq, Prod.mk.injEq] at h
    obtain ⟨rfl, rfl, rfl⟩ := h
    exact ⟨trivial, rfl, Nat.le_refl _, fun s hs => (by cases hs), Int.le_refl _, hx', fun _ => rfl, by simp [encP]⟩
  | succ n ih =>
    intro x ns F z hx hx' h
    unfold rdPs at h
    cases hs : stepP one bs rc x with
    | none => rw [hs] at h; cases h
    | some r =>
      obtain ⟨nm, d, p, y⟩ := r
      rw [hs] at h
      simp only at h
      obtain ⟨⟨k1, k2, k3⟩, k5, k6, k7, k8, k9, k10, k11⟩ := step_fit hl hone hs
      cases hr : rdPs one bs rc n y with
      | none => rw [hr] at h; cases h
      | some r =>
        obtain ⟨ns', F', z'⟩ := r
        rw [hr] at h
        simp only [Option.some.injEq, Prod.mk.injEq] at h
        obtain ⟨rfl, rfl, rfl⟩ := h
        obtain ⟨h1, h2, h3, h4, h5, h6, h7, h8⟩ := ih _ _ _ _ (by omega) k10 hr
        refine ⟨⟨k1, by omega, k3, h1⟩, by simp [VF.len, h2], ?_, fun s hs => ?_, by omega, h6, fun hrc => by rw [k7 hrc, h7 hrc]; rfl, ?_⟩
        · cases rc with
          | true => obtain ⟨s, rfl⟩ := k6 rfl; simp; omega
          | false => rw [k7 rfl]; simp; omega
        · rcases List.mem_append.1 hs with hs | hs
          · exact k5 s hs
          · exact h4 s hs
        · have e : encP (.cons d p F') rc (nm ++ ns') = (if rc then chunk (nm.headD []) else []) ++ (encV d p ++ encP F' rc ns') := by
            cases rc with
            | true => obtain ⟨s, rfl⟩ := k6 rfl; rfl
            | false => rw [k7 rfl, h7 rfl]; rfl
          rw [e, List.length_append, List.length_append]
          omega
theorem rdV_small {bs : List UInt8} (hl : bs.length ≤ 4000) {f : Nat} {x : Int} {d : Nd} {p : VF} {y : Int} (h : rdV f bs x = some (d, p, y)) (H : ∀ k x1 m x2 i j, readNum bs x = (k, x1, 0, i) → k ≠ 1 → k ≠ 2 → readNum bs x1 = (m, x2, 0, j) → Got bs x d p y) : Got bs x d p y := by
  obtain ⟨k, x1, c, i, h1⟩ : ∃ k x1 c i, readNum bs x = (k, x1, c, i) := ⟨_, _, _, _, rfl⟩
  by_cases hc : c = 0
  · subst hc
    obtain ⟨b1, b2, b3, b4, b5, b6⟩ := readNum_fit hl h1
    by_cases k1 : k = 1
    · subst k1
      obtain ⟨m, x2, c, j, h2⟩ : ∃ m x2 c j, readNum bs x1 = (m, x2, c, j) := ⟨_, _, _, _, rfl⟩
      by_cases hc2 : c = 0
      · subst hc2
        rw [rdV_n1 h1 h2] at h
        simp only [Option.some.injEq, Prod.mk.injEq] at h
        obtain ⟨rfl, rfl, rfl⟩ := h
        obtain ⟨c1, c2, c3, c4, c5, c6⟩ := readNum_fit hl h2
        refine ⟨⟨⟨by simp, by simp, c1, c2⟩, by simp, by simp, fun s hs => by cases hs⟩, by simp [VF.len], trivial, b3, by omega, c5, ?_⟩
        simp only [encV, encOne, if_true, List.length_append]
        omega
      · rw [rdV_n0 h1 h2 hc2] at h; cases h
    · by_cases k2 : k = 2
      · subst k2
        obtain ⟨s, x2, c, j, h2⟩ : ∃ s x2 c j, readChunk bs x1 = (s, x2, c, j) := ⟨_, _, _, _, rfl⟩
        by_cases hc2 : c = 0
        · subst hc2
          rw [rdV_c1 h1 h2] at h
          simp only [Option.some.injEq, Prod.mk.injEq] at h
          obtain ⟨rfl, rfl, rfl⟩ := h
          obtain ⟨c1, c2, c3, c4, c5⟩ := readChunk_fit hl h2
          refine ⟨⟨⟨by simp, by simp, by simp, by simp⟩, by simp only; omega, by simp, fun s hs => by cases hs⟩, by simp [VF.len], trivial, b3, by omega, c4, ?_⟩
          simp only [encV, encOne, show ¬ (2 : Int) = 1 by decide, if_true, if_false, List.length_append]
          omega
        · rw [rdV_c0 h1 h2 hc2] at h; cases h
      · obtain ⟨m, x2, c, j, h2⟩ : ∃ m x2 c j, readNum bs x1 = (m, x2, c, j) := ⟨_, _, _, _, rfl⟩
        by_cases hc2 : c = 0
        · subst hc2; exact H _ _ _ _ _ _ h1 k1 k2 h2
        · rw [rdV_l0 h1 k1 k2 h2 hc2] at h; cases h
  · rw [rdV_f0 h1 hc] at h; cases h
theorem rdV_got {bs : List UInt8} (hl : bs.length ≤ 4000) : ∀ (f : Nat) (x : Int) (d : Nd) (p : VF) (y : Int), rdV f bs x = some (d, p, y) → Got bs x d p y := by
  intro f
  induction f with
  | zero => intro x d p y h; exact rdV_small hl h (fun _ _ _ _ _ _ h1 k1 k2 h2 => by rw [rdV_l1 h1 k1 k2 h2] at h; cases h)
  | succ f ih =>
    intro x d p y h
    refine rdV_small hl h (fun k x1 m x2 i j h1 k1 k2 h2 => ?_)
    by_cases hm : m < 0 ∨ (bs.length : Int) - x2 < m
    · rw [rdV_l2 h1 k1 k2 h2 hm] at h; cases h
    · rw [rdV_l3 h1 k1 k2 h2 hm] at h
      obtain ⟨b1, b2, b3, b4, b5, b6⟩ := readNum_fit hl h1
      obtain ⟨c1, c2, c3, c4, c5, c6⟩ := readNum_fit hl h2
      cases hr : rdPs (rdV f bs) bs (k == 4) m.toNat x2 with
      | none => rw [hr] at h; cases h
      | some r =>
        obtain ⟨ns, F, z⟩ := r
        rw [hr] at h
        simp only [Option.some.injEq, Prod.mk.injEq] at h
        obtain ⟨rfl, rfl, rfl⟩ := h
        obtain ⟨q1, q2, q3, q4, q5, q6, q7, q8⟩ := rdPs_fit hl ih _ _ _ _ _ (by omega) c5 hr
        have hn : m.toNat ≤ 4000 := by omega
        have hnl := num_len (F.len : Int) (by omega) (by omega)
        refine ⟨⟨⟨b1, b2, by simp, by simp⟩, by simp, by simp only; omega, fun s hs => by have := q4 s hs; omega⟩, by omega, q1, b3, by omega, q6, ?_⟩
        simp only [encV, encOne, k1, k2, if_false, List.length_append]
        omega
theorem Got.mod {bs : List UInt8} {x y : Int} {d : Nd} {p : VF} (hl : bs.length ≤ 4000) (h : Got bs x d p y) : Mod d p :=
  ⟨h.nd, h.fp, by have := h.pl; omega, by have := h.el; have := h.x0; have := h.yl; omega⟩
end Go.Proofs.Ytolognhjdmkohaa
namespace Go.Proofs.Ytolognhjdmkohaa
open Go.RowKit
set_option linter.unusedVariables false
set_option linter.unusedSimpArgs false

/-- what Decode answers, plain -/
def decV (bs : List UInt8) : Sum (Int × Int) (Nd × VF) :=
  if 4000 < bs.length then .inl (3, -1)
  else match rdV 10 bs 0 with
    | none => .inl (16, -1)
    | some (d, p, _) => if valF d p = (0, 0) ∧ encV d p = bs then .inr (d, p) else .inl (16, -1)
/-- what Decode answers -/
def DcEnd (w : World) (bs : List UInt8) (e : Ending) (w' : World) : Prop :=
  Below w.heap.size w w' ∧ ((∃ c i, c ≠ 0 ∧ decV bs = .inl (c, i) ∧ e = .returned (.tuple #[.agg #[.int .i64 0, .int .i64 0, .slice none 0 0, .slice none 0 0, .slice none 0 0], .agg #[.int .i64 c, .int .i64 i]])) ∨
    (∃ d p v, decV bs = .inr (d, p) ∧ e = .returned (.tuple #[v, .agg #[.int .i64 0, .int .i64 0]]) ∧ VInS w' (fun b => w.heap.size ≤ b ∧ b < w'.heap.size) v d p))
abbrev decDefer (g k : Nat) : Deferred := { target := .fn (.func 49) #[.pointer (some ⟨g, 0, none⟩), .pointer (some ⟨k, 0, none⟩)], args := #[] }
/-- the two results, read at the end -/
theorem dec_res {w : World} {tmps : Array Value} {g k : Nat} {a b c d e : Value} {i j : Int} (h2 : tmps.getD 2 undef = .pointer (some ⟨g, 0, none⟩)) (h3 : tmps.getD 3 undef = .pointer (some ⟨k, 0, none⟩)) (hb : Bx w g a b c d e) (hf : FC w k i j) :
    (results Try.f19 tmps).run Try.prog w = .ok (.tuple #[.agg #[a, b, c, d, e], .agg #[.int .i64 i, .int .i64 j]]) w := by
  obtain ⟨y0, y1, y2, y3, y4⟩ := hb.cells
  have hl := hb.lt
  obtain ⟨z, r0, r1, _⟩ := hf
  rw [Array.getD_eq_getD_getElem?] at h2 h3
  simp [results, Try.results19, go_sem, h2, h3, y0, y1, y2, y3, y4, hl, z, r0, r1]
theorem FC.heap {w w' : World} {g : Nat} {a b : Int} (h : FC w g a b) (hk : w'.heap[g]? = w.heap[g]?) : FC w' g a b := by
  obtain ⟨z, r0, r1, f0, f1⟩ := h
  have fr : ∀ o, w'.frozen? ⟨g, o, none⟩ = w.frozen? ⟨g, o, none⟩ := fun o => by unfold World.frozen?; rw [hk]
  exact ⟨by
    rw [Array.getElem?_eq_getElem z] at hk
    exact (Array.getElem?_eq_some_iff.1 hk).1, (cell_of_heap hk _ rfl).trans r0, (cell_of_heap hk _ rfl).trans r1, (fr _).trans f0, (fr _).trans f1⟩
theorem FC.rf {w w' : World} {g k : Nat} {a b : Int} (h : FC w k a b) (hf : Rf w w' g) (hne : k ≠ g) : FC w' k a b := h.heap (hf.block k h.1 hne)
theorem dec_caught {w w2 : World} {tmps : Array Value} {bs : List UInt8} {a b c d e : Value} {i j : Int} (h2 : tmps.getD 2 undef = .pointer (some ⟨w.heap.size, 0, none⟩)) (h3 : tmps.getD 3 undef = .pointer (some ⟨w.heap.size + 1, 0, none⟩))
    (hb : Bx w2 w.heap.size a b c d e) (hf : FC w2 (w.heap.size + 1) i j) (hB : Below w.heap.size w w2) (he : decV bs = .inl (16, -1)) :
    bodyPostD Try.prog Try.f19 (DcEnd w bs) (.panic [{ v := .iface 80 (.agg #[]), recovered := false }]) { tmps := tmps, defers := [decDefer w.heap.size (w.heap.size + 1)] } w2 := by
  refine leaves_cons (f := 49) (args := #[.pointer (some ⟨w.heap.size, 0, none⟩), .pointer (some ⟨w.heap.size + 1, 0, none⟩)]) (by simp) (by simp [go_sem]) ?_
  refine (caught_corrupt _ _ _ _ _ _ _ _ _ _ hb hf (by omega)).mono ?_
  rintro e u' w3 ⟨rfl, rfl, hb3, hf3, hB3⟩
  exact ⟨_, dec_res h2 h3 hb3 hf3, hB3 _ _ hB (Nat.le_refl _) (by omega), .inl ⟨16, -1, by omega, he, rfl⟩⟩
set_option maxRecDepth 100000 in
set_option maxHeartbeats 1000000 in
theorem decode_long {w : World} {A : Option Addr} {n c : Nat} {bs : List UInt8} (hd : Rd w w.heap.size 1 A n (bv bs)) (hn : 4000 < n) :
    Calls Try.prog 19 #[.slice A n c] w (DcEnd w bs) := by
  have hl : bs.length = n := by have := hd.len; rw [bv_len] at this; exact this
  have HE := Lib.hid (show decV bs = .inl (3, -1) by unfold decV; rw [if_pos (by omega)])
  have hgt : (4000 : Int) < (n : Int) := by omega
  clear hd hl hn
  go_enter_defers Try.func19, Try.ntmps19
  go_wp2_with fail
  refine (vfault_calls _ _ _).mono ?_
  rintro e w' ⟨rfl, rfl⟩
  go_wp2_with fail
  exact ⟨_, dec_res rfl rfl ((Bx.new w _ _ _ _ _).on (bel2 _ _ _)) (by rw [← alloc_size w (.cells #[.int .i64 0, .int .i64 0, .slice none 0 0, .slice none 0 0, .slice none 0 0] 26)]; exact (FC.new _ _ _).on (bel1 _ _)), bel3 _ _ _ _, .inl ⟨3, -1, by omega, HE.out, rfl⟩⟩
set_option maxRecDepth 100000 in
set_option maxHeartbeats 1000000 in
theorem decode_none {w : World} {A : Option Addr} {n c : Nat} {bs : List UInt8} (hd : Rd w w.heap.size 1 A n (bv bs)) (hn : n ≤ 4000) (hnc : n ≤ c) (h : rdV 10 bs 0 = none) :
    Calls Try.prog 19 #[.slice A n c] w (DcEnd w bs) := by
  have HD := Lib.hid hd
  have H := Lib.hid h
  have hl : bs.length = n := by have := hd.len; rw [bv_len] at this; exact this
  have HE := Lib.hid (show decV bs = .inl (16, -1) by unfold decV; rw [if_neg (by omega), h])
  have hgt : ¬ (4000 : Int) < (n : Int) := by omega
  clear hd hl h
  go_enter_defers Try.func19, Try.ntmps19
  go_wp2_with fail
  refine (rvalue_calls bs 10 (by omega) (x := 0) (by rw [← alloc_size w (.cells #[.int .i64 0, .int .i64 0, .slice none 0 0, .slice none 0 0, .slice none 0 0] 26), ← alloc_size (w.alloc (.cells #[.int .i64 0, .int .i64 0, .slice none 0 0, .slice none 0 0, .slice none 0 0] 26)) (.cells #[.int .i64 0, .int .i64 0] 29)]; exact heap_alloc_new _ _) (HD.out.below (bel3 _ _ _ _)) (by omega) hn hnc).mono ?_
  rintro e w2 ⟨hf2, hres⟩
  rw [H.out] at hres
  obtain ⟨_, rfl⟩ := hres.resolve_right (fun ⟨_, _, _, _, h, _⟩ => by cases h)
  have hb2 : Bx w2 w.heap.size (.int .i64 0) (.int .i64 0) (.slice none 0 0) (.slice none 0 0) (.slice none 0 0) := ((Bx.new w _ _ _ _ _).on (bel2 _ _ _)).rf hf2 (by omega)
  have hf0 : FC w2 (w.heap.size + 1) 0 0 := FC.rf (by rw [← alloc_size w (.cells #[.int .i64 0, .int .i64 0, .slice none 0 0, .slice none 0 0, .slice none 0 0] 26)]; exact (FC.new _ _ _).on (bel1 _ _)) hf2 (by omega)
  have hB2 : Below w.heap.size w w2 := (bel3 _ _ _ _).trans (hf2.below (by omega) (by simp only [alloc_size]; omega))
  unfold corrupt
  go_wp2_with fail
  exact dec_caught rfl rfl hb2 hf0 hB2 HE.out
end Go.Proofs.Ytolognhjdmkohaa
namespace Go.Proofs.Ytolognhjdmkohaa
open Go.RowKit
set_option linter.unusedVariables false
set_option linter.unusedSimpArgs false

theorem equal_calls {w : World} {B B' : Nat} {A A' : Option Addr} {n n' c c' : Nat} {a b : List UInt8} (ha : Rd w B 1 A n (bv a)) (hb : Rd w B' 1 A' n' (bv b)) :
    Calls Try.prog 51 #[.slice A n c, .slice A' n' c'] w fun e w' => e = .returned (.bool (a == b)) ∧ w = w' := by
  have ra := run_str (c := c) ha
  have rb := run_str (c := c') hb
  go_enter Try.func51, Try.ntmps51
  go_wp2
  go_ret
  exact ⟨rfl, rfl⟩
set_option maxRecDepth 100000 in
set_option maxHeartbeats 1000000 in
theorem decode_some {w : World} {A : Option Addr} {n c : Nat} {bs : List UInt8} {d : Nd} {p : VF} {y : Int} (hd : Rd w w.heap.size 1 A n (bv bs)) (hn : n ≤ 4000) (hnc : n ≤ c) (h : rdV 10 bs 0 = some (d, p, y)) :
    Calls Try.prog 19 #[.slice A n c] w (DcEnd w bs) := by
  have HD := Lib.hid hd
  have H := Lib.hid h
  have hl : bs.length = n := by have := hd.len; rw [bv_len] at this; exact this
  have HE := Lib.hid (show decV bs = (if valF d p = (0, 0) ∧ encV d p = bs then .inr (d, p) else .inl (16, -1)) by unfold decV; rw [if_neg (by omega), h])
  have HM := Lib.hid ((rdV_got (by omega) _ _ _ _ _ h).mod (by omega))
  have hgt : ¬ (4000 : Int) < (n : Int) := by omega
  clear hd hl h
  go_enter_defers Try.func19, Try.ntmps19
  go_wp2_with fail
  refine (rvalue_calls bs 10 (by omega) (x := 0) (by rw [← alloc_size w (.cells #[.int .i64 0, .int .i64 0, .slice none 0 0, .slice none 0 0, .slice none 0 0] 26), ← alloc_size (w.alloc (.cells #[.int .i64 0, .int .i64 0, .slice none 0 0, .slice none 0 0, .slice none 0 0] 26)) (.cells #[.int .i64 0, .int .i64 0] 29)]; exact heap_alloc_new _ _) (HD.out.below (bel3 _ _ _ _)) (by omega) hn hnc).mono ?_
  rintro e w2 ⟨hf2, hres⟩
  rw [H.out] at hres
  obtain ⟨d6, p6, y6, v6, he6, rfl, ⟨sb, sn, sp, rfl, hd6⟩, hr6⟩ := hres.resolve_left (fun h => by cases h.1)
  obtain ⟨rfl, rfl, rfl⟩ : d = d6 ∧ p = p6 ∧ y = y6 := by simpa using he6
  have HV := Lib.hid (show VInS w2 (fun b => w.heap.size + 3 ≤ b ∧ b < w2.heap.size) (.agg #[.int .i64 d.k, .int .i64 d.n, sb, sn, sp]) d p from VInS.keep (w := w2) (v := .agg #[.int .i64 d.k, .int .i64 d.n, sb, sn, sp]) ⟨sb, sn, sp, rfl, hd6⟩ (fun _ _ => rfl) (fun b hb => ⟨by have := hb.1; simp only [alloc_size] at this; omega, hb.2⟩))
  have hb2 : Bx w2 w.heap.size (.int .i64 0) (.int .i64 0) (.slice none 0 0) (.slice none 0 0) (.slice none 0 0) := ((Bx.new w _ _ _ _ _).on (bel2 _ _ _)).rf hf2 (by omega)
  have hf0 : FC w2 (w.heap.size + 1) 0 0 := FC.rf (by rw [← alloc_size w (.cells #[.int .i64 0, .int .i64 0, .slice none 0 0, .slice none 0 0, .slice none 0 0] 26)]; exact (FC.new _ _ _).on (bel1 _ _)) hf2 (by omega)
  have hB2 : Below w.heap.size w w2 := (bel3 _ _ _ _).trans (hf2.below (by omega) (by simp only [alloc_size]; omega))
  have hz2 : w.heap.size + 3 ≤ w2.heap.size := by have := hf2.size; simp only [alloc_size] at this; omega
  obtain ⟨Ab6, nb6, cb6, An6, nn6, cn6, Ap6, cp6, rfl, rfl, rfl, _⟩ := hd6
  have HB2 := Lib.hid hb2
  have HF0 := Lib.hid hf0
  have HBL := Lib.hid hB2
  obtain ⟨s0, s1, s2, s3, s4⟩ := hb2.cells
  have sf := hb2.free
  clear hf2 hres he6 hr6 hb2 hf0 hB2
  go_wp2_with fail
  obtain ⟨W5, hW5⟩ : ∃ W5, (((((w2.setCell ⟨w.heap.size, 0, none⟩ (.int .i64 d.k)).setCell ⟨w.heap.size, 1, none⟩ (.int .i64 d.n)).setCell ⟨w.heap.size, 2, none⟩ (.slice Ab6 nb6 cb6)).setCell ⟨w.heap.size, 3, none⟩ (.slice An6 nn6 cn6)).setCell ⟨w.heap.size, 4, none⟩ (.slice Ap6 p.len cp6)) = W5 := ⟨_, rfl⟩
  have HZ5 := Lib.hid (show W5.heap.size = w2.heap.size by rw [← hW5]; simp)
  have HB5 := Lib.hid (show Bx W5 w.heap.size (.int .i64 d.k) (.int .i64 d.n) (.slice Ab6 nb6 cb6) (.slice An6 nn6 cn6) (.slice Ap6 p.len cp6) by rw [← hW5]; exact HB2.out.set5 _ _ _ _ _)
  have HF5 := Lib.hid (show FC W5 (w.heap.size + 1) 0 0 by rw [← hW5]; exact FC.far5 HF0.out (by omega))
  have HBL5 := Lib.hid (show Below w.heap.size w W5 by rw [← hW5]; exact below5 HBL.out (Nat.le_refl _) _ _ _ _ _)
  have HV5 := Lib.hid (show VInS W5 (fun b => w.heap.size + 3 ≤ b ∧ b < W5.heap.size) (.agg #[.int .i64 d.k, .int .i64 d.n, .slice Ab6 nb6 cb6, .slice An6 nn6 cn6, .slice Ap6 p.len cp6]) d p from HV.out.keep (fun q hq => by rw [← hW5]; exact cell_set5 q (by have := hq.1; omega)) (fun b hb => ⟨hb.1, by rw [HZ5.out]; exact hb.2⟩))
  rw [hW5]
  clear hW5 s0 s1 s2 s3 s4 sf HB2 HF0 HBL HV
  have hz5 : w.heap.size + 3 ≤ W5.heap.size := by rw [HZ5.out]; exact hz2
  refine (encodeE_calls HM.out (HV5.out.vin (fun b hb => hb.2))).mono ?_
  rintro e w6 ⟨hb6, hres⟩
  have HB6 := Lib.hid (HB5.out.on hb6)
  have HF6 := Lib.hid (HF5.out.on hb6)
  have HL6 := Lib.hid (show Below w.heap.size w w6 from HBL5.out.trans (hb6.mono (by omega)))
  have HV6 := Lib.hid (show VInS w6 (fun b => w.heap.size + 3 ≤ b ∧ b < w6.heap.size) (.agg #[.int .i64 d.k, .int .i64 d.n, .slice Ab6 nb6 cb6, .slice An6 nn6 cn6, .slice Ap6 p.len cp6]) d p from HV5.out.keep (fun q hq => hb6.cell (by exact hq.2)) (fun b hb => ⟨hb.1, by have := hb6.size; omega⟩))
  have hz6 : w.heap.size + 3 ≤ w6.heap.size := by have := hb6.size; omega
  clear hb6
  rcases hres with ⟨cd, ix, hc, hval, rfl⟩ | ⟨A6, c6, m6, _, hval, hle, rfl, hown⟩
  · have HC := Lib.hid (show decV bs = .inl (16, -1) by rw [HE.out, if_neg (by rw [hval]; rintro ⟨h, _⟩; simp at h; exact hc h.1)])
    have hc0 : (cd == 0) = false := by simpa using hc
    have hneq := flt_neq cd ix 0 0
    clear hc hval
    go_wp2_with fail
    exact dec_caught rfl rfl (HB6.out.on (bel1 _ _)) (HF6.out.alloc _) (bel_up HL6.out _) HC.out
  · have hneq := flt_neq 0 0 0 0
    have hi0 : (0 == (0 : Int)) = true := rfl
    have HVAL := Lib.hid hval
    have HOWN := Lib.hid (Rd.of_own hown)
    clear hval hle hown
    go_wp2_with fail
    refine (equal_calls (HOWN.out.alloc (Nat.le_refl _) _) ((HD.out.below HL6.out).alloc (by omega) _)).mono ?_
    rintro e w7 ⟨rfl, rfl⟩
    by_cases heq : encV d p = bs
    · have hb : (encV d p == bs) = true := by simpa using heq
      have HC := Lib.hid (show decV bs = .inr (d, p) by rw [HE.out, if_pos ⟨HVAL.out, heq⟩])
      clear heq
      have HB7 := Lib.hid (HB6.out.on (bel1 _ (.cells #[.int .i64 0, .int .i64 0] 29)))
      have HF7 := Lib.hid (HF6.out.alloc (.cells #[.int .i64 0, .int .i64 0] 29))
      obtain ⟨t0, t1, t2, t3, t4⟩ := HB7.out.cells
      have tf := HB7.out.free
      obtain ⟨z4, r0, r1, e0, e1⟩ := HF7.out
      obtain ⟨W7, hW7⟩ : ∃ W7, w6.alloc (.cells #[.int .i64 0, .int .i64 0] 29) = W7 := ⟨_, rfl⟩
      rw [hW7] at HB7 HF7 t0 t1 t2 t3 t4 tf z4 r0 r1 e0 e1 ⊢
      go_wp2_with fail
      obtain ⟨W9, hW9⟩ : ∃ W9, (((((((W7.setCell ⟨w.heap.size, 0, none⟩ (.int .i64 d.k)).setCell ⟨w.heap.size, 1, none⟩ (.int .i64 d.n)).setCell ⟨w.heap.size, 2, none⟩ (.slice Ab6 nb6 cb6)).setCell ⟨w.heap.size, 3, none⟩ (.slice An6 nn6 cn6)).setCell ⟨w.heap.size, 4, none⟩ (.slice Ap6 p.len cp6)).setCell ⟨w.heap.size + 1, 0, none⟩ (.int .i64 0)).setCell ⟨w.heap.size + 1, 1, none⟩ (.int .i64 0)) = W9 := ⟨_, rfl⟩
      obtain ⟨p1, p2, p3, p4, p5⟩ := put57 HB7.out HF7.out (by omega) hW9
      rw [hW9]
      have hB7 : Below w6.heap.size w6 W7 := by rw [← hW7]; exact bel1 _ _
      refine leaves_cons (f := 49) (args := #[.pointer (some ⟨w.heap.size, 0, none⟩), .pointer (some ⟨w.heap.size + 1, 0, none⟩)]) (by simp) (by simp [go_sem]) ?_
      refine (caught_idle _ _ _).mono ?_
      rintro e u' w8 ⟨rfl, rfl, rfl⟩
      refine ⟨_, dec_res rfl rfl p1 p2, p4 _ _ (HL6.out.trans (hB7.mono (by omega))) (Nat.le_refl _) (by omega), .inr ⟨d, p, _, HC.out, rfl, ?_⟩⟩
      exact HV6.out.keep (fun q hq => (p5 q (by have := hq.1; omega) (by have := hq.1; omega)).trans (hB7.cell (by exact hq.2))) (fun b hb => ⟨by have := hb.1; omega, by rw [p3]; have := hb.2; have := hB7.size; omega⟩)
    · have hb : (encV d p == bs) = false := by simpa using heq
      have HC := Lib.hid (show decV bs = .inl (16, -1) by rw [HE.out, if_neg (fun h => heq h.2)])
      clear heq
      go_wp2_with fail
      exact dec_caught rfl rfl (HB6.out.on (bel1 _ _)) (HF6.out.alloc _) (bel_up HL6.out _) HC.out
theorem decode_calls {w : World} {A : Option Addr} {n c : Nat} {bs : List UInt8} (hd : Rd w w.heap.size 1 A n (bv bs)) (hnc : n ≤ c) : Calls Try.prog 19 #[.slice A n c] w (DcEnd w bs) := by
  by_cases hn : 4000 < n
  · exact decode_long hd hn
  · cases h : rdV 10 bs 0 with
    | none => exact decode_none hd (by omega) hnc h
    | some r => obtain ⟨d, p, y⟩ := r; exact decode_some hd (by omega) hnc h
end Go.Proofs.Ytolognhjdmkohaa
