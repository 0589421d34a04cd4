/-
  The contract of value.checkNode, joined.
-/
/-
  Faults kept in variables.
-/
/-
  The contract of value.check.
-/
/-
  The encoding of a value; the contract of value.encode.
-/
import Derived.Test.YtolognhjdmkohaaJ5
import Derived.Test.YtolognhjdmkohaaKValDa
import Derived.Test.YtolognhjdmkohaaKValDb
import Derived.Test.YtolognhjdmkohaaKValD1
import Derived.Test.YtolognhjdmkohaaKValD2
import Derived.Test.YtolognhjdmkohaaKValD3
import Derived.Test.YtolognhjdmkohaaKValD4
import Derived.Test.YtolognhjdmkohaaJ1
import Derived.Deep.RegionHeld3
import Derived.Laws.IdiomStrings
namespace Go.Proofs.Ytolognhjdmkohaa
open Go.RowKit
set_option linter.unusedVariables false
set_option linter.unusedSimpArgs false

theorem nodeC_kind {d : Nd} {np : Nat} (h : d.k < 1 ∨ 4 < d.k) : nodeC d np = 5 := by unfold nodeC; rw [if_pos h]
theorem formB_iff (d : Nd) (np : Nat) : formB d np = true ↔ ((d.k ≠ 1 ∧ d.n ≠ 0) ∨ (d.k ≠ 2 ∧ 0 < d.bs.length) ∨ (d.k ≠ 4 ∧ 0 < d.ns.length) ∨ (d.k < 3 ∧ 0 < np) ∨ (d.k = 4 ∧ d.ns.length ≠ np)) := by
  unfold formB
  simp only [Bool.or_eq_true, decide_eq_true_eq]
  constructor
  · rintro ((((h | h) | h) | h) | h)
    · exact .inl h
    · exact .inr (.inl h)
    · exact .inr (.inr (.inl h))
    · exact .inr (.inr (.inr (.inl h)))
    · exact .inr (.inr (.inr (.inr h)))
  · rintro (h | h | h | h | h)
    · exact .inl (.inl (.inl (.inl h)))
    · exact .inl (.inl (.inl (.inr h)))
    · exact .inl (.inl (.inr h))
    · exact .inl (.inr h)
    · exact .inr h
theorem nodeC_form {d : Nd} {np : Nat} (hk : ¬ (d.k < 1 ∨ 4 < d.k)) (h : (d.k ≠ 1 ∧ d.n ≠ 0) ∨ (d.k ≠ 2 ∧ 0 < d.bs.length) ∨ (d.k ≠ 4 ∧ 0 < d.ns.length) ∨ (d.k < 3 ∧ 0 < np) ∨ (d.k = 4 ∧ d.ns.length ≠ np)) : nodeC d np = 6 := by
  unfold nodeC; rw [if_neg hk, if_pos ((formB_iff d np).2 h)]
theorem nodeC_ok {d : Nd} {np : Nat} (hk : ¬ (d.k < 1 ∨ 4 < d.k)) (h : ¬ ((d.k ≠ 1 ∧ d.n ≠ 0) ∨ (d.k ≠ 2 ∧ 0 < d.bs.length) ∨ (d.k ≠ 4 ∧ 0 < d.ns.length) ∨ (d.k < 3 ∧ 0 < np) ∨ (d.k = 4 ∧ d.ns.length ≠ np))) : nodeC d np = tailC d.ns np := by
  unfold nodeC tailC; rw [if_neg hk, if_neg (fun h' => h ((formB_iff d np).1 h'))]
/-- the node's names are no longer than a string can be -/
theorem checkNode_calls {w : World} {v : Value} {d : Nd} {p : VF} (h : VIn w w.heap.size v d p) (hx : Small d.ns) (hnn : d.ns.length ≤ 9223372036854775807) :
    Calls Try.prog 62 #[v] w fun e w' => e = .returned (.int .i64 (nodeC d p.len)) ∧ Below w.heap.size w w' := by
  obtain ⟨sb, sn, sp, rfl, Ab, nb, cb, An, nn, cn, Ap, cp, rfl, rfl, rfl, hbc, hnc, hpc, hpm, hrb, hrn, hp⟩ := h
  have eb : d.bs.length = nb := by have := hrb.len; rw [bv_len] at this; exact this
  have en : d.ns.length = nn := by have := hrn.len; rw [sv_len] at this; exact this
  rw [en] at hnn
  obtain ⟨k, n, bs, ns⟩ := d
  simp only at eb en hrb hrn hx ⊢
  by_cases hk : k < 1 ∨ 4 < k
  · rw [nodeC_kind (by exact hk)]; exact node_kind hk
  · obtain ⟨np, hnp⟩ : ∃ np, p.len = np := ⟨_, rfl⟩
    rw [hnp]
    by_cases h1 : k = 1
    · subst h1
      by_cases hn : n = 0
      · have hn0 : (n != 0) = false := by simp [hn]
        by_cases hb0 : nb = 0
        · skip
          by_cases hs0 : nn = 0
          · skip
            by_cases hp0 : np = 0
            · skip
              rw [nodeC_ok (by dsimp only; omega) (by dsimp only; omega)]; exact node_ok_1_n0b0s0p0 hrn hnc hnn hx hn0 hb0 hs0 hp0
            · have hp1 : 0 < np := by omega
              rw [nodeC_form (by dsimp only; omega) (by dsimp only; omega)]; exact node_bad_1_n0b0s0p1 hn0 hb0 hs0 hp1
          · have hs1 : 0 < nn := by omega
            rw [nodeC_form (by dsimp only; omega) (by dsimp only; omega)]; exact node_bad_1_n0b0s1 hn0 hb0 hs1
        · have hb1 : 0 < nb := by omega
          rw [nodeC_form (by dsimp only; omega) (by dsimp only; omega)]; exact node_bad_1_n0b1 hn0 hb1
      · have hn1 : (n != 0) = true := by simp [hn]
        by_cases hb0 : nb = 0
        · skip
          by_cases hs0 : nn = 0
          · skip
            by_cases hp0 : np = 0
            · skip
              rw [nodeC_ok (by dsimp only; omega) (by dsimp only; omega)]; exact node_ok_1_n1b0s0p0 hrn hnc hnn hx hn1 hb0 hs0 hp0
            · have hp1 : 0 < np := by omega
              rw [nodeC_form (by dsimp only; omega) (by dsimp only; omega)]; exact node_bad_1_n1b0s0p1 hn1 hb0 hs0 hp1
          · have hs1 : 0 < nn := by omega
            rw [nodeC_form (by dsimp only; omega) (by dsimp only; omega)]; exact node_bad_1_n1b0s1 hn1 hb0 hs1
        · have hb1 : 0 < nb := by omega
          rw [nodeC_form (by dsimp only; omega) (by dsimp only; omega)]; exact node_bad_1_n1b1 hn1 hb1
    · by_cases h2 : k = 2
      · subst h2
        by_cases hn : n = 0
        · have hn0 : (n != 0) = false := by simp [hn]
          by_cases hb0 : nb = 0
          · skip
            by_cases hs0 : nn = 0
            · skip
              by_cases hp0 : np = 0
              · skip
                rw [nodeC_ok (by dsimp only; omega) (by dsimp only; omega)]; exact node_ok_2_n0b0s0p0 hrn hnc hnn hx hn0 hb0 hs0 hp0
              · have hp1 : 0 < np := by omega
                rw [nodeC_form (by dsimp only; omega) (by dsimp only; omega)]; exact node_bad_2_n0b0s0p1 hn0 hb0 hs0 hp1
            · have hs1 : 0 < nn := by omega
              rw [nodeC_form (by dsimp only; omega) (by dsimp only; omega)]; exact node_bad_2_n0b0s1 hn0 hb0 hs1
          · have hb1 : 0 < nb := by omega
            by_cases hs0 : nn = 0
            · skip
              by_cases hp0 : np = 0
              · skip
                rw [nodeC_ok (by dsimp only; omega) (by dsimp only; omega)]; exact node_ok_2_n0b1s0p0 hrn hnc hnn hx hn0 hb1 hs0 hp0
              · have hp1 : 0 < np := by omega
                rw [nodeC_form (by dsimp only; omega) (by dsimp only; omega)]; exact node_bad_2_n0b1s0p1 hn0 hb1 hs0 hp1
            · have hs1 : 0 < nn := by omega
              rw [nodeC_form (by dsimp only; omega) (by dsimp only; omega)]; exact node_bad_2_n0b1s1 hn0 hb1 hs1
        · have hn1 : (n != 0) = true := by simp [hn]
          rw [nodeC_form (by dsimp only; omega) (by dsimp only; omega)]; exact node_bad_2_n1 hn1
      · by_cases h3 : k = 3
        · subst h3
          by_cases hn : n = 0
          · have hn0 : (n != 0) = false := by simp [hn]
            by_cases hb0 : nb = 0
            · skip
              by_cases hs0 : nn = 0
              · skip
                by_cases hp0 : np = 0
                · skip
                  rw [nodeC_ok (by dsimp only; omega) (by dsimp only; omega)]; exact node_ok_3_n0b0s0p0 hrn hnc hnn hx hn0 hb0 hs0 hp0
                · have hp1 : 0 < np := by omega
                  rw [nodeC_ok (by dsimp only; omega) (by dsimp only; omega)]; exact node_ok_3_n0b0s0p1 hrn hnc hnn hx hn0 hb0 hs0 hp1
              · have hs1 : 0 < nn := by omega
                rw [nodeC_form (by dsimp only; omega) (by dsimp only; omega)]; exact node_bad_3_n0b0s1 hn0 hb0 hs1
            · have hb1 : 0 < nb := by omega
              rw [nodeC_form (by dsimp only; omega) (by dsimp only; omega)]; exact node_bad_3_n0b1 hn0 hb1
          · have hn1 : (n != 0) = true := by simp [hn]
            rw [nodeC_form (by dsimp only; omega) (by dsimp only; omega)]; exact node_bad_3_n1 hn1
        · obtain rfl : k = 4 := by omega
          by_cases hn : n = 0
          · have hn0 : (n != 0) = false := by simp [hn]
            by_cases hb0 : nb = 0
            · skip
              by_cases hs0 : nn = 0
              · skip
                by_cases hp0 : np = 0
                · skip
                  rw [nodeC_ok (by dsimp only; omega) (by dsimp only; omega)]; exact node_ok_4_n0b0s0p0 hrn hnc hnn hx hn0 hb0 hs0 hp0 (by omega)
                · have hp1 : 0 < np := by omega
                  by_cases hne : nn = np
                  · omega
                  · rw [nodeC_form (by dsimp only; omega) (by dsimp only; omega)]; exact node_bad_4x_n0b0s0p1 hn0 hb0 hs0 hp1 hne
              · have hs1 : 0 < nn := by omega
                by_cases hp0 : np = 0
                · skip
                  by_cases hne : nn = np
                  · omega
                  · rw [nodeC_form (by dsimp only; omega) (by dsimp only; omega)]; exact node_bad_4x_n0b0s1p0 hn0 hb0 hs1 hp0 hne
                · have hp1 : 0 < np := by omega
                  by_cases hne : nn = np
                  · rw [nodeC_ok (by dsimp only; omega) (by dsimp only; omega)]; exact node_ok_4_n0b0s1p1 hrn hnc hnn hx hn0 hb0 hs1 hp1 hne
                  · rw [nodeC_form (by dsimp only; omega) (by dsimp only; omega)]; exact node_bad_4x_n0b0s1p1 hn0 hb0 hs1 hp1 hne
            · have hb1 : 0 < nb := by omega
              rw [nodeC_form (by dsimp only; omega) (by dsimp only; omega)]; exact node_bad_4_n0b1 hn0 hb1
          · have hn1 : (n != 0) = true := by simp [hn]
            rw [nodeC_form (by dsimp only; omega) (by dsimp only; omega)]; exact node_bad_4_n1 hn1
end Go.Proofs.Ytolognhjdmkohaa
namespace Go.Proofs.Ytolognhjdmkohaa
open Go.RowKit
set_option linter.unusedVariables false
set_option linter.unusedSimpArgs false

/-- the variable at block g holds the fault (a, b) and may be written -/
def FC (w : World) (g : Nat) (a b : Int) : Prop :=
  g < w.heap.size ∧ w.cell? ⟨g, 0, none⟩ = some (.int .i64 a) ∧ w.cell? ⟨g, 1, none⟩ = some (.int .i64 b) ∧ w.frozen? ⟨g, 0, none⟩ = false ∧ w.frozen? ⟨g, 1, none⟩ = false
theorem FC.new (w : World) (a b : Int) : FC (w.alloc (.cells #[.int .i64 a, .int .i64 b] 29)) w.heap.size a b := ⟨by simp, by simp, by simp, by simp, by simp⟩
theorem FC.below {w w' : World} {B g : Nat} {a b : Int} (h : FC w g a b) (hb : Below B w w') (hg : g < B) : FC w' g a b := by
  obtain ⟨z, c0, c1, f0, f1⟩ := h
  exact ⟨Nat.lt_of_lt_of_le z hb.size, (hb.cell (by exact hg)).trans c0, (hb.cell (by exact hg)).trans c1, (hb.frozen (by exact hg)).trans f0, (hb.frozen (by exact hg)).trans f1⟩
theorem FC.on {w w' : World} {g : Nat} {a b : Int} (h : FC w g a b) (hb : Below w.heap.size w w') : FC w' g a b := h.below hb h.1
theorem FC.alloc {w : World} {g : Nat} {a b : Int} (h : FC w g a b) (o : Obj) : FC (w.alloc o) g a b := h.on ((Below.refl _ _).alloc (Nat.le_refl _) o)
theorem FC.drew {w : World} {g : Nat} {a b : Int} (h : FC w g a b) : FC w.drew g a b := h
theorem FC.far {w : World} {g h o : Nat} {a b : Int} {v : Value} (k : FC w h a b) (hne : g ≠ h) : FC (w.setCell ⟨g, o, none⟩ v) h a b := by
  obtain ⟨z, c0, c1, f0, f1⟩ := k
  refine ⟨by simpa using z, (World.cell?_setCell_far w _ _ v (by exact hne)).trans c0, (World.cell?_setCell_far w _ _ v (by exact hne)).trans c1, ?_, ?_⟩
  · rw [World.frozen?_setCell]; exact f0
  · rw [World.frozen?_setCell]; exact f1
theorem FC.put {w : World} {g : Nat} {a b : Int} (h : FC w g a b) (c d : Int) : FC ((w.setCell ⟨g, 0, none⟩ (.int .i64 c)).setCell ⟨g, 1, none⟩ (.int .i64 d)) g c d := by
  obtain ⟨z, c0, c1, f0, f1⟩ := h
  refine ⟨by simpa using z, ?_, ?_, ?_, ?_⟩
  · rw [World.cell?_setCell_other _ _ _ _ (by simp)]
    exact World.cell?_setCell_same w ⟨g, 0, none⟩ _ c0
  · exact World.cell?_setCell_same _ ⟨g, 1, none⟩ _ ((World.cell?_setCell_other w ⟨g, 0, none⟩ ⟨g, 1, none⟩ _ (by simp)).trans c1)
  · rw [World.frozen?_setCell, World.frozen?_setCell]; exact f0
  · rw [World.frozen?_setCell, World.frozen?_setCell]; exact f1
/-- a fault's variable is written: old memory stays -/
theorem below_put {B : Nat} {w w' : World} {g : Nat} (h : Below B w w') (hg : B ≤ g) (u v : Value) : Below B w ((w'.setCell ⟨g, 0, none⟩ u).setCell ⟨g, 1, none⟩ v) :=
  (h.setCell (p := ⟨g, 0, none⟩) hg _).setCell (p := ⟨g, 1, none⟩) hg _
theorem undrew {B : Nat} {w w' : World} (h : Below B w.drew w') : Below B w w' := ⟨h.os, h.tape, h.output, h.size, h.block⟩
theorem bel1 (w : World) (a : Obj) : Below w.heap.size w (w.alloc a) := (Below.refl _ _).alloc (Nat.le_refl _) a
theorem bel2 (w : World) (a b : Obj) : Below w.heap.size w ((w.alloc a).alloc b) := (bel1 w a).alloc (bel1 w a).size b
theorem bel3 (w : World) (a b c : Obj) : Below w.heap.size w (((w.alloc a).alloc b).alloc c) := (bel2 w a b).alloc (bel2 w a b).size c
theorem bel4 (w : World) (a b c d : Obj) : Below w.heap.size w ((((w.alloc a).alloc b).alloc c).alloc d) := (bel3 w a b c).alloc (bel3 w a b c).size d
theorem bel_up {w w1 : World} (h : Below w.heap.size w w1) (o : Obj) : Below w.heap.size w (w1.alloc o) := h.alloc h.size o
theorem bel_up2 {w w1 : World} (h : Below w.heap.size w w1) (o o' : Obj) : Below w.heap.size w ((w1.alloc o).alloc o') := bel_up (bel_up h o) o'
end Go.Proofs.Ytolognhjdmkohaa
namespace Go.Proofs.Ytolognhjdmkohaa
open Go.RowKit
set_option linter.unusedVariables false
set_option linter.unusedSimpArgs false

theorem vfault_calls (c i : Int) (w : World) : Calls Try.prog 46 #[.int .i64 c, .int .i64 i] w fun e w' => e = .returned (.agg #[.int .i64 c, .int .i64 i]) ∧ w.alloc (.cells #[.int .i64 c, .int .i64 i] 29) = w' := by
  go_enter Try.func46, Try.ntmps46
  go_wp2
  exact bodyPost_ret (v := .agg #[.int .i64 c, .int .i64 i]) (by simp [results, Try.results46, go_sem]) rfl ⟨rfl, rfl⟩
/-- a node whose lists and strings are of moderate length -/
def NdFits (d : Nd) : Prop := NdOk d ∧ d.bs.length ≤ 1048576 ∧ d.ns.length ≤ 1048576 ∧ ∀ x ∈ d.ns, x.length ≤ 1048576
def Fits : VF → Prop
  | .nil => True
  | .cons d p r => NdFits d ∧ p.len ≤ 1048576 ∧ Fits p ∧ Fits r
theorem Fits.drop : ∀ (F : VF) (i : Nat), Fits F → Fits (F.drop i) := by
  intro F
  induction F with
  | nil => intro i _; cases i <;> trivial
  | cons d p r _ ih =>
    intro i h
    cases i with
    | zero => exact h
    | succ i => exact ih i h.2.2.2
theorem NdFits.small {d : Nd} (h : NdFits d) : Small d.ns := fun x hx => Nat.le_trans (h.2.2.2 x hx) (by omega)

def ChkEnd (w : World) (r : Sum (Int × Int) Nat) (e : Ending) (w' : World) : Prop :=
  Below w.heap.size w w' ∧ ((∃ c i, r = .inl (c, i) ∧ e = .returned (.tuple #[.int .i64 0, .agg #[.int .i64 c, .int .i64 i]])) ∨ (∃ m : Nat, r = .inr m ∧ e = .returned (.tuple #[.int .i64 (m : Int), .agg #[.int .i64 0, .int .i64 0]])))
theorem chkF_split (d : Nd) (p r : VF) (n l : Nat) : chkF (.cons d p r) n l = match chkF (.cons d p .nil) n l with | .inl f => .inl f | .inr m => chkF r m l := by
  by_cases h1 : 600 ≤ n ∨ 10 < l
  · rw [chkF_many h1, chkF_many h1]
  · by_cases h2 : nodeC d p.len ≠ 0
    · rw [chkF_node h1 h2, chkF_node h1 h2]
    · cases hp : chkF p (n + 1) (l + 1) with
      | inl f => rw [chkF_inl h1 h2 hp, chkF_inl h1 h2 hp]
      | inr m => rw [chkF_inr h1 h2 hp, chkF_inr h1 h2 hp]; rfl
theorem chk_inl {d : Nd} {p r : VF} {n l : Nat} {f : Int × Int} (h : chkF (.cons d p .nil) n l = .inl f) : chkF (.cons d p r) n l = .inl f := by rw [chkF_split, h]
theorem chk_inr {d : Nd} {p r : VF} {n l m : Nat} (h : chkF (.cons d p .nil) n l = .inr m) : chkF (.cons d p r) n l = chkF r m l := by rw [chkF_split, h]

set_option maxRecDepth 100000 in
set_option maxHeartbeats 1000000 in
theorem check_many {w : World} {v : Value} {d : Nd} {p : VF} {num lev : Nat} (hv : VIn w w.heap.size v d p) (h : 600 ≤ num ∨ 10 < lev) (hn : num ≤ 600) (hl : lev ≤ 11) :
    Calls Try.prog 44 #[v, .int .i64 (num : Int), .int .i64 (lev : Int)] w (ChkEnd w (chkF (.cons d p .nil) num lev)) := by
  have HC := Lib.hid (chkF_many (d := d) (p := p) (r := .nil) h)
  obtain ⟨sb, sn, sp, rfl, Ab, nb, cb, An, nn, cn, Ap, cp, rfl, rfl, rfl, hbc, hnc, hpc, hpm, hrb, hrn, hp⟩ := hv
  clear hrb hrn hp
  rcases h with h | h
  · have h' : (600 : Int) ≤ (num : Int) := by omega
    go_enter Try.func44, Try.ntmps44
    go_wp2_with (go_at_call 46; refine (vfault_calls _ _ _).mono ?_; rintro e w' ⟨rfl, rfl⟩)
    refine bodyPost_ret (v := .tuple #[.int .i64 0, .agg #[.int .i64 2, .int .i64 (num : Int)]]) (by simp [results, Try.results44, go_sem]) rfl ?_
    exact ⟨bel3 _ _ _ _, .inl ⟨_, _, HC.out, rfl⟩⟩
  · by_cases h6 : (600 : Int) ≤ (num : Int)
    · go_enter Try.func44, Try.ntmps44
      go_wp2_with (go_at_call 46; refine (vfault_calls _ _ _).mono ?_; rintro e w' ⟨rfl, rfl⟩)
      refine bodyPost_ret (v := .tuple #[.int .i64 0, .agg #[.int .i64 2, .int .i64 (num : Int)]]) (by simp [results, Try.results44, go_sem]) rfl ?_
      exact ⟨bel3 _ _ _ _, .inl ⟨_, _, HC.out, rfl⟩⟩
    · have h' : (10 : Int) < (lev : Int) := by omega
      go_enter Try.func44, Try.ntmps44
      go_wp2_with (go_at_call 46; refine (vfault_calls _ _ _).mono ?_; rintro e w' ⟨rfl, rfl⟩)
      refine bodyPost_ret (v := .tuple #[.int .i64 0, .agg #[.int .i64 2, .int .i64 (num : Int)]]) (by simp [results, Try.results44, go_sem]) rfl ?_
      exact ⟨bel3 _ _ _ _, .inl ⟨_, _, HC.out, rfl⟩⟩

set_option maxRecDepth 100000 in
set_option maxHeartbeats 1000000 in
theorem check_node {w : World} {v : Value} {d : Nd} {p : VF} {num lev : Nat} (hv : VIn w w.heap.size v d p) (hf : NdFits d) (hn : num < 600) (hl : lev ≤ 10) (hc : nodeC d p.len ≠ 0) :
    Calls Try.prog 44 #[v, .int .i64 (num : Int), .int .i64 (lev : Int)] w (ChkEnd w (chkF (.cons d p .nil) num lev)) := by
  have HC := Lib.hid (chkF_node (d := d) (p := p) (r := .nil) (num := num) (lev := lev) (by omega) hc)
  have HV := Lib.hid hv
  obtain ⟨sb, sn, sp, rfl, Ab, nb, cb, An, nn, cn, Ap, cp, rfl, rfl, rfl, hbc, hnc, hpc, hpm, hrb, hrn, hp⟩ := hv
  have hnc0 : (nodeC d p.len != 0) = true := by simp [hc]
  have HF := Lib.hid hf
  clear hrb hrn hp hf hc
  have h1 : ¬ (600 : Int) ≤ (num : Int) := by omega
  have h2 : ¬ (10 : Int) < (lev : Int) := by omega
  go_enter Try.func44, Try.ntmps44
  go_wp2_with fail
  refine (checkNode_calls (d := d) (p := p) (HV.out.on (bel2 _ _ _)) HF.out.small (by have := HF.out.2.2.1; omega)).mono ?_
  rintro e w2 ⟨rfl, hb2⟩
  have F1 := (FC.new (w.alloc (.cells #[.int .i64 d.k, .int .i64 d.n, .slice Ab nb cb, .slice An nn cn, .slice Ap p.len cp] 26)) 0 0).on hb2
  simp only [alloc_size] at F1
  obtain ⟨z, c0, c1, f0, f1⟩ := F1
  have HB2 := Lib.hid (show Below w.heap.size w w2 from chain (bel2 _ _ _) hb2)
  clear hb2
  go_wp2_with (go_at_call 46; refine (vfault_calls _ _ _).mono ?_; rintro e w' ⟨rfl, rfl⟩)
  refine bodyPost_ret (v := .tuple #[.int .i64 0, .agg #[.int .i64 (nodeC d p.len), .int .i64 (num : Int)]]) (by simp [results, Try.results44, go_sem, c0, c1, z]) rfl ?_
  exact ⟨bel_up (below_put HB2.out (by omega) _ _) _, .inl ⟨_, _, HC.out, rfl⟩⟩

/-- some parts have been checked -/
def ChkRel (w : World) (g : Nat) (p : VF) (n l : Nat) (next k : Value) (wr : World) : Prop :=
  ∃ i m : Nat, i ≤ p.len ∧ k = .int .i64 (i : Int) ∧ next = .int .i64 (m : Int) ∧ m ≤ 600 ∧ chkF p n l = chkF (p.drop i) m l ∧ Below w.heap.size w wr ∧ FC wr g 0 0
/-- the contract of check, of one value -/
def ChkC (d : Nd) (p : VF) : Prop := NdFits d → Fits p → p.len ≤ 1048576 → ∀ (w : World) (v : Value) (num lev : Nat), VIn w w.heap.size v d p → num ≤ 600 → lev ≤ 11 →
  Calls Try.prog 44 #[v, .int .i64 (num : Int), .int .i64 (lev : Int)] w (ChkEnd w (chkF (.cons d p .nil) num lev))
theorem chk_pick {d : Nd} {p r F : VF} {i : Nat} (h : VF.All ChkC (F.drop i)) (hd : F.drop i = .cons d p r) (hf : Fits (F.drop i)) : ∀ (w : World) (v : Value) (num lev : Nat), VIn w w.heap.size v d p → num ≤ 600 → lev ≤ 11 →
    Calls Try.prog 44 #[v, .int .i64 (num : Int), .int .i64 (lev : Int)] w (ChkEnd w (chkF (.cons d p .nil) num lev)) := by
  rw [hd] at h hf
  exact h.1 hf.1 hf.2.2.1 hf.2.1
set_option maxRecDepth 100000 in
set_option maxHeartbeats 2000000 in
theorem check_parts {w : World} {v : Value} {d : Nd} {p : VF} {num lev : Nat} (hall : VF.All ChkC p) (hv : VIn w w.heap.size v d p) (hf : NdFits d) (hfp : Fits p) (hpl : p.len ≤ 1048576) (hn : num < 600) (hl : lev ≤ 10) (hc : nodeC d p.len = 0) :
    Calls Try.prog 44 #[v, .int .i64 (num : Int), .int .i64 (lev : Int)] w (ChkEnd w (chkF (.cons d p .nil) num lev)) := by
  have HV := Lib.hid hv
  obtain ⟨sb, sn, sp, rfl, Ab, nb, cb, An, nn, cn, Ap, cp, rfl, rfl, rfl, hbc, hnc, hpc, hpm, hrb, hrn, hp⟩ := hv
  have HNC := Lib.hid hc
  have HF := Lib.hid hf
  have HFP := Lib.hid hfp
  have HALL := Lib.hid hall
  have HP := Lib.hid hp
  clear hrb hrn hp hf hc hfp hall
  have h1 : ¬ (600 : Int) ≤ (num : Int) := by omega
  have h2 : ¬ (10 : Int) < (lev : Int) := by omega
  go_enter Try.func44, Try.ntmps44
  go_wp2_with fail
  refine (checkNode_calls (d := d) (p := p) (HV.out.on (bel2 _ _ _)) HF.out.small (by have := HF.out.2.2.1; omega)).mono ?_
  rintro e w2 ⟨rfl, hb2⟩
  rw [HNC.out]
  have F1 := (FC.new (w.alloc (.cells #[.int .i64 d.k, .int .i64 d.n, .slice Ab nb cb, .slice An nn cn, .slice Ap p.len cp] 26)) 0 0).on hb2
  simp only [alloc_size] at F1
  have HF1 := Lib.hid F1
  have hbox : w2.cell? ⟨w.heap.size, 4, none⟩ = some (.slice Ap p.len cp) := (hb2.cell (by simp only [alloc_size]; omega)).trans (cell_up (by simp))
  have HB2 := Lib.hid (show Below w.heap.size w w2 from chain (bel2 _ _ _) hb2)
  clear hb2 F1
  obtain ⟨np, hnp⟩ : ∃ np, p.len = np := ⟨_, rfl⟩
  have HNP := Lib.hid hnp
  rw [hnp] at hbox hpl hpc ⊢
  clear hnp
  go_wp2_with fail
  go_loopw [9, 33] (ChkRel w (w.heap.size + 1) p (num + 1) (lev + 1)) (fun _ k _ => np - (intOf k).toNat)
  case atStart => exact ⟨0, num + 1, Nat.zero_le _, rfl, by go_num, by omega, by rw [VF.drop_zero], HB2.out, HF1.out⟩
  case round =>
    obtain ⟨i, m, hi, rfl, rfl, hm, hch, hbw, hfc⟩ := hrel
    rw [HNP.out] at hi
    have HCH := Lib.hid hch
    have HBW := Lib.hid hbw
    have HFC := Lib.hid hfc
    have hzw := hbw.size
    have hzf : w.heap.size + 1 < wr.heap.size := hfc.1
    clear hch hbw hfc hbox
    by_cases hlt : i < np
    · obtain ⟨b, o, hAp, hb, hfin⟩ := HP.out (by rw [HNP.out]; omega)
      subst hAp
      obtain ⟨d', p', hdr⟩ := VF.drop_cons (F := p) (i := i) (by rw [HNP.out]; exact hlt)
      obtain ⟨sb', sn', sp', ⟨k0, k1, k2, k3, k4⟩, hd'⟩ := hfin.at_ hdr
      have HV' : Hid (VIn w w.heap.size (.agg #[.int .i64 d'.k, .int .i64 d'.n, sb', sn', sp']) d' p') := Lib.hid ⟨sb', sn', sp', rfl, hd'⟩
      obtain ⟨Ab', nb', cb', An', nn', cn', Ap', cp', rfl, rfl, rfl, _⟩ := hd'
      have q0 := (HBW.out.cell (by exact hb)).trans k0
      have q1 := (HBW.out.cell (by exact hb)).trans k1
      have q2 := (HBW.out.cell (by exact hb)).trans k2
      have q3 := (HBW.out.cell (by exact hb)).trans k3
      have q4 := (HBW.out.cell (by exact hb)).trans k4
      clear k0 k1 k2 k3 k4 hfin
      have HDR := Lib.hid hdr
      clear hdr
      have hli : (i : Int) < (np : Int) := by omega
      have h0 : (0 : Int) ≤ (i : Int) := by omega
      have hct := chk_pick (VF.all_drop HALL.out i) HDR.out (Fits.drop p i HFP.out)
      have HCT := Lib.hid hct
      clear hct
      go_wp2_with fail
      refine (HCT.out _ _ m (lev + 1) ((HV'.out.below HBW.out (Nat.le_refl _)).keep (fun q hq => (bel2 _ _ _).cell (by omega)) (by simp only [alloc_size]; omega)) hm (by omega)).mono ?_
      intro e w3 hend
      obtain ⟨hb3, hres⟩ := hend
      have F3 := (FC.new (wr.alloc (.cells #[.int .i64 d'.k, .int .i64 d'.n, .slice Ab' nb' cb', .slice An' nn' cn', .slice Ap' p'.len cp'] 26)) 0 0).on hb3
      simp only [alloc_size] at F3
      have R3 := (HFC.out.on (bel2 _ _ _)).on hb3
      have HB3 := Lib.hid (show Below w.heap.size w w3 from chain HBW.out (chain (bel2 _ _ _) hb3))
      have HF3 := Lib.hid F3
      have HR3 := Lib.hid R3
      have hz3 : wr.heap.size + 1 < w3.heap.size := F3.1
      clear hb3 F3 R3
      rcases hres with ⟨c, ix, hr, rfl⟩ | ⟨m', hr, rfl⟩
      · have hc0 : (c == 0) = false := by
          have := chkF_code _ _ _ _ _ hr
          simpa using this
        have hneq := flt_neq c ix 0 0
        have HR := Lib.hid (show chkF (.cons d p .nil) num lev = .inl (c, ix) from chkF_inl (by omega) (by rw [HNC.out]; simp) (by rw [HCH.out, HDR.out]; exact chk_inl hr))
        obtain ⟨z3, a0, a1, g0, g1⟩ := HF3.out
        obtain ⟨z4, r0, r1, e0, e1⟩ := HR3.out
        clear hr z4 r0 r1 e0 e1
        have P1 := HF3.out.put c ix
        have P2 := (HR3.out.far (g := wr.heap.size + 1) (o := 0) (v := .int .i64 c) (by omega)).far (g := wr.heap.size + 1) (o := 1) (v := .int .i64 ix) (by omega)
        have PB := below_put HB3.out (g := wr.heap.size + 1) (by omega) (.int .i64 c) (.int .i64 ix)
        go_wp2_with fail
        obtain ⟨W4, hW4⟩ : ∃ W4, ((w3.setCell ⟨wr.heap.size + 1, 0, none⟩ (.int .i64 c)).setCell ⟨wr.heap.size + 1, 1, none⟩ (.int .i64 ix)) = W4 := ⟨_, rfl⟩
        rw [hW4] at P1 P2 PB ⊢
        have HPB := Lib.hid PB
        clear hW4 PB z3 a0 a1 g0 g1
        obtain ⟨z3, a0, a1, g0, g1⟩ := P1
        obtain ⟨z4, r0, r1, e0, e1⟩ := P2
        go_region
        go_wp2_with fail
        refine bodyPost_ret (v := .tuple #[.int .i64 0, .agg #[.int .i64 c, .int .i64 ix]]) (by simp [results, Try.results44, go_sem, r0, r1, z4]) rfl ?_
        exact ⟨(below_put HPB.out (by omega) _ _).drew, .inl ⟨_, _, HR.out, rfl⟩⟩
      · have HR := Lib.hid (show chkF p (num + 1) (lev + 1) = chkF (p.drop (i + 1)) m' (lev + 1) by rw [HCH.out, HDR.out]; exact chk_inr hr)
        have hm' : m' ≤ 600 := (chkF_next _ _ _ _ hr).2 hm
        have hneq := flt_neq 0 0 0 0
        obtain ⟨z3, a0, a1, g0, g1⟩ := HF3.out
        clear hr
        go_wp2_with fail
        go_roundw
        case rel => exact ⟨i + 1, m', by rw [HNP.out]; omega, by go_num, rfl, hm', HR.out, below_put HB3.out (by omega) _ _, (HR3.out.far (by omega)).far (by omega)⟩
        case measure => simp [intOf]; omega
    · have HR := Lib.hid (show chkF (.cons d p .nil) num lev = .inr m by
        rw [chkF_inr (m := m) (by omega) (by rw [HNC.out]; simp) (by rw [HCH.out, VF.drop_nil (by rw [HNP.out]; omega)]; rfl)]; rfl)
      obtain ⟨z4, r0, r1, e0, e1⟩ := HFC.out
      go_wp2_with fail
      refine bodyPost_ret (v := .tuple #[.int .i64 (m : Int), .agg #[.int .i64 0, .int .i64 0]]) (by simp [results, Try.results44, go_sem, r0, r1, z4]) rfl ?_
      exact ⟨below_put HBW.out (by omega) _ _, .inr ⟨m, HR.out, rfl⟩⟩
theorem check_step (d : Nd) (p : VF) (hall : VF.All ChkC p) : ChkC d p := by
  intro hf hfp hpl w v num lev hv hn hl
  by_cases h : 600 ≤ num ∨ 10 < lev
  · exact check_many hv h hn hl
  · by_cases hc : nodeC d p.len = 0
    · exact check_parts hall hv hf hfp hpl (by omega) (by omega) hc
    · exact check_node hv hf (by omega) (by omega) hc
theorem check_calls {d : Nd} {p : VF} {w : World} {v : Value} {num lev : Nat} (hf : NdFits d) (hfp : Fits p) (hpl : p.len ≤ 1048576) (hv : VIn w w.heap.size v d p) (hn : num ≤ 600) (hl : lev ≤ 11) :
    Calls Try.prog 44 #[v, .int .i64 (num : Int), .int .i64 (lev : Int)] w (ChkEnd w (chkF (.cons d p .nil) num lev)) :=
  VF.all_each check_step d p hf hfp hpl w v num lev hv hn hl
end Go.Proofs.Ytolognhjdmkohaa
namespace Go.Proofs.Ytolognhjdmkohaa
open Go.RowKit
set_option linter.unusedVariables false
set_option linter.unusedSimpArgs false

/-- a node's encoding around that of its parts -/
def encOne (d : Nd) (np : Nat) (body : List UInt8) : List UInt8 := num d.k ++ (if d.k = 1 then num d.n else if d.k = 2 then chunk d.bs else num (np : Int) ++ body)
/-- the parts' encodings, each behind its name in a record -/
def encP : VF → Bool → List (List UInt8) → List UInt8
  | .nil, _, _ => []
  | .cons d p r, rc, ns => (if rc then chunk (ns.headD []) else []) ++ (encOne d p.len (encP p (d.k == 4) d.ns) ++ encP r rc ns.tail)
def encV (d : Nd) (p : VF) : List UInt8 := encOne d p.len (encP p (d.k == 4) d.ns)
theorem encP_split (F : VF) : ∀ (rc : Bool) (ns : List (List UInt8)) (i : Nat), encP F rc ns = encP (F.take i) rc ns ++ encP (F.drop i) rc (ns.drop i) := by
  induction F with
  | nil => intro rc ns i; cases i <;> rfl
  | cons d p r _ ih =>
    intro rc ns i
    cases i with
    | zero => rw [VF.take_zero, VF.drop_zero, List.drop_zero]; rfl
    | succ i =>
      show _ = encP (.cons d p (r.take i)) rc ns ++ encP (r.drop i) rc (ns.drop (i + 1))
      simp only [encP]
      rw [ih rc ns.tail i, List.drop_tail]
      simp only [List.append_assoc]
theorem encP_succ (F : VF) : ∀ (rc : Bool) (ns : List (List UInt8)) (i : Nat) (d : Nd) (p r : VF), F.drop i = .cons d p r →
    encP (F.take (i + 1)) rc ns = encP (F.take i) rc ns ++ ((if rc then chunk ((ns.drop i).headD []) else []) ++ encV d p) := by
  induction F with
  | nil => intro rc ns i d p r h; cases i <;> simp [VF.drop] at h
  | cons d' p' r' _ ih =>
    intro rc ns i d p r h
    cases i with
    | zero =>
      rw [VF.drop_zero] at h
      injection h with h1 h2 h3
      subst h1 h2 h3
      show encP (.cons d' p' (r'.take 0)) rc ns = _
      rw [VF.take_zero, VF.take_zero]
      simp [encP, encV]
    | succ i =>
      show encP (.cons d' p' (r'.take (i + 1))) rc ns = encP (.cons d' p' (r'.take i)) rc ns ++ _
      simp only [encP]
      rw [ih rc ns.tail i d p r h, List.drop_tail]
      simp only [List.append_assoc]
theorem encP_len {F : VF} {rc : Bool} {ns : List (List UInt8)} {i : Nat} : (encP (F.take i) rc ns).length ≤ (encP F rc ns).length := by
  rw [encP_split F rc ns i, List.length_append]; omega
theorem encV_parts {d : Nd} {p : VF} (h1 : ¬ d.k = 1) (h2 : ¬ d.k = 2) : encV d p = num d.k ++ (num (p.len : Int) ++ encP p (d.k == 4) d.ns) := by
  unfold encV encOne; rw [if_neg h1, if_neg h2]
theorem encV_num {d : Nd} {p : VF} (h1 : d.k = 1) : encV d p = num d.k ++ num d.n := by unfold encV encOne; rw [if_pos h1]
theorem encV_bytes {d : Nd} {p : VF} (h2 : d.k = 2) : encV d p = num d.k ++ chunk d.bs := by unfold encV encOne; rw [if_neg (by omega), if_pos h2]
theorem encV_part {F : VF} {rc : Bool} {ns : List (List UInt8)} {i : Nat} {d : Nd} {p r : VF} (h : F.drop i = .cons d p r) : (encV d p).length ≤ (encP F rc ns).length := by
  have h1 := encP_succ F rc ns i d p r h
  have h2 := encP_len (F := F) (rc := rc) (ns := ns) (i := i + 1)
  rw [h1] at h2
  simp only [List.length_append] at h2
  omega

/-- every node is right by itself -/
def GoodF : VF → Prop
  | .nil => True
  | .cons d p r => nodeC d p.len = 0 ∧ GoodF p ∧ GoodF r
theorem GoodF.drop : ∀ (F : VF) (i : Nat), GoodF F → GoodF (F.drop i) := by
  intro F
  induction F with
  | nil => intro i _; cases i <;> trivial
  | cons d p r _ ih =>
    intro i h
    cases i with
    | zero => exact h
    | succ i => exact ih i h.2.2
theorem chkF_good (F : VF) : ∀ (num lev m : Nat), chkF F num lev = .inr m → GoodF F := by
  induction F with
  | nil => intro _ _ _ _; trivial
  | cons d p r ih1 ih2 =>
    intro num lev m h
    by_cases h1 : 600 ≤ num ∨ 10 < lev
    · rw [chkF_many h1] at h; cases h
    · by_cases h2 : nodeC d p.len ≠ 0
      · rw [chkF_node h1 h2] at h; cases h
      · cases hp : chkF p (num + 1) (lev + 1) with
        | inl f => rw [chkF_inl h1 h2 hp] at h; cases h
        | inr k =>
          rw [chkF_inr h1 h2 hp] at h
          exact ⟨by simpa using h2, ih1 _ _ _ hp, ih2 _ _ _ h⟩
/-- the rules of a node that is right -/
theorem node_rules {d : Nd} {np : Nat} (h : nodeC d np = 0) : (1 ≤ d.k ∧ d.k ≤ 4) ∧ (d.k = 1 ∨ d.n = 0) ∧ (d.k = 2 ∨ d.bs = []) ∧ (d.k = 4 ∨ d.ns = []) ∧ (3 ≤ d.k ∨ np = 0) ∧ (d.k = 4 → d.ns.length = np) ∧ np ≤ 600 ∧ d.ns.all isName = true ∧ d.ns.Nodup := by
  by_cases hk : d.k < 1 ∨ 4 < d.k
  · rw [nodeC_kind hk] at h; cases h
  · by_cases hf : (d.k ≠ 1 ∧ d.n ≠ 0) ∨ (d.k ≠ 2 ∧ 0 < d.bs.length) ∨ (d.k ≠ 4 ∧ 0 < d.ns.length) ∨ (d.k < 3 ∧ 0 < np) ∨ (d.k = 4 ∧ d.ns.length ≠ np)
    · rw [nodeC_form hk hf] at h; cases h
    · rw [nodeC_ok hk hf] at h
      have h6 : ¬ 600 < np := fun h' => by rw [tail_14 h'] at h; cases h
      have h7 : d.ns.all isName = true := by
        cases e : d.ns.all isName with
        | true => rfl
        | false => rw [tail_7 h6 e] at h; cases h
      have h8 : d.ns.Nodup := by
        by_cases e : d.ns.Nodup
        · exact e
        · rw [tail_8 h6 h7 e] at h; cases h
      have z : ∀ {α : Type} (l : List α), ¬ 0 < l.length → l = [] := fun l hl => List.eq_nil_of_length_eq_zero (by omega)
      refine ⟨by omega, by omega, ?_, ?_, by omega, by omega, by omega, h7, h8⟩
      · by_cases e : d.k = 2
        · exact .inl e
        · exact .inr (z _ (by omega))
      · by_cases e : d.k = 4
        · exact .inl e
        · exact .inr (z _ (by omega))

/-- '[]byte(s)': the capacity, the world -/
def bcap (w : World) (s : ByteArray) : Nat := grownCap w s.size 0 5
def bworld (w : World) (s : ByteArray) : World := w.drew.alloc (.cells (bytesRow s (bcap w s)) 5 ((bytesRow s (bcap w s)).size, (bytesRow s (bcap w s)).size + 1))
theorem run_bytes (s : ByteArray) (w : World) : (convert 9 22 (.string s)).run Try.prog w = .ok (.slice (some ⟨w.heap.size, 0, none⟩) s.size (bcap w s)) (bworld w s) :=
  run_bytes_of_string w 9 22 5 s Try.underlying9 Try.underlying22 Try.underlying5
theorem bworld_below (w : World) (s : ByteArray) : Below w.heap.size w (bworld w s) := ((Below.refl _ _).drew).alloc (Nat.le_refl _) _
theorem bworld_size (w : World) (s : ByteArray) : (bworld w s).heap.size = w.heap.size + 1 := by simp [bworld]
theorem bytes_rd (w : World) (s : ByteArray) : Rd (bworld w s) (bworld w s).heap.size 1 (some ⟨w.heap.size, 0, none⟩) s.size (bv s.data.toList) := by
  refine ⟨by simp [bv], fun _ => ⟨_, _, rfl, by rw [bworld_size]; omega, fun j u hu => ?_⟩⟩
  have hj : j < s.size := by
    have := (List.getElem?_eq_some_iff.1 hu).1
    simpa [bv] using this
  unfold bworld
  rw [Nat.zero_add]
  have e := cell_of_row (w.drew.alloc (.cells (bytesRow s (bcap w s)) 5 ((bytesRow s (bcap w s)).size, (bytesRow s (bcap w s)).size + 1))) w.heap.size j (bytesRow s (bcap w s)) 5 _ (heap_alloc_new w.drew _)
  rw [e]
  have : (bytesRow s (bcap w s))[j]? = some (.int .u8 (s[j].toNat : Int)) := by
    unfold bytesRow
    rw [Array.getElem?_append_left (by simpa using hj)]
    rw [Array.getElem?_map, Array.getElem?_eq_getElem (by simpa using hj)]
    rfl
  rw [this, ← hu]
  simp only [bv, List.getElem?_map, byte_at hj, Option.map_some]
theorem bytes_rdg (w : World) (s : ByteArray) (g : Nat) (hg : g = w.heap.size) : Rd (bworld w s) (bworld w s).heap.size 1 (some ⟨g, 0, none⟩) s.size (bv s.data.toList) := by subst hg; exact bytes_rd w s
end Go.Proofs.Ytolognhjdmkohaa
