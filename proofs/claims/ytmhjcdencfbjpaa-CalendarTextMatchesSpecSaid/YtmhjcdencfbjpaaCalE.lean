/-
  The contract of calendar.Print.
-/
import Derived.Test.YtmhjcdencfbjpaaCalD
namespace Go.Proofs.Ytmhjcdencfbjpaa
open Go.RowKit
set_option linter.unusedVariables false
set_option linter.unusedSimpArgs false

/-- a result's fault, not yet written: its block, its cells -/
def FR (w : World) (g : Nat) : Prop :=
  g < w.heap.size ∧ w.cell? ⟨g, 0, none⟩ = some (.int .i64 0) ∧ w.cell? ⟨g, 1, none⟩ = some (.int .i64 0) ∧ w.frozen? ⟨g, 0, none⟩ = false ∧ w.frozen? ⟨g, 1, none⟩ = false
theorem FR.below {w w' : World} {B g : Nat} (h : FR w g) (hb : Below B w w') (hg : g < B) : FR w' g := by
  obtain ⟨z, c0, c1, f0, f1⟩ := h
  refine ⟨Nat.lt_of_lt_of_le z hb.size, ?_, ?_, ?_, ?_⟩
  · rw [hb.cell (by exact hg)]; exact c0
  · rw [hb.cell (by exact hg)]; exact c1
  · rw [hb.frozen (by exact hg)]; exact f0
  · rw [hb.frozen (by exact hg)]; exact f1
theorem FR.alloc {w : World} {g : Nat} (h : FR w g) (o : Obj) : FR (w.alloc o) g := h.below ((Below.refl _ _).alloc (Nat.le_refl _) o) h.1
theorem fr_after {w w1 : World} (hb1 : Below (w.alloc (Obj.cells #[Value.int IntKind.i64 0, Value.int IntKind.i64 0] 24)).heap.size (w.alloc (Obj.cells #[Value.int IntKind.i64 0, Value.int IntKind.i64 0] 24)) w1) : Below w.heap.size w w1 ∧ FR w1 w.heap.size := by
  refine ⟨((Below.refl _ _).alloc (Nat.le_refl _) _).trans (hb1.mono (by simp)), by have := hb1.size; simp at this; omega, ?_, ?_, ?_, ?_⟩
  · rw [hb1.cell (by simp)]; simp
  · rw [hb1.cell (by simp)]; simp
  · rw [hb1.frozen (by simp)]; simp
  · rw [hb1.frozen (by simp)]; simp
theorem FR.of_drew {w : World} {g : Nat} (h : FR w g) : FR w.drew g := h

/-- the text of a date -/
def dtext (y : Int) (m : Nat) (d : Int) : List UInt8 := four y ++ [45] ++ two (m : Int) ++ [45] ++ two d
theorem dtext_eq (y : Int) (m : Nat) (d : Int) : (⟨(four y).toArray⟩ : ByteArray) ++ ⟨#[45]⟩ ++ ⟨(two (m : Int)).toArray⟩ ++ ⟨#[45]⟩ ++ ⟨(two d).toArray⟩ = ⟨(dtext y m d).toArray⟩ := rfl
def PrintBad (w : World) (e : Ending) (w' : World) : Prop := e = .returned (.tuple #[.string ⟨#[]⟩, .agg #[.int .i64 4, .int .i64 (-1)]]) ∧ Below w.heap.size w w'
def PrintOk (n : Int) (w : World) (e : Ending) (w' : World) : Prop :=
  ∃ (y : Int) (m : Nat) (d : Int), e = .returned (.tuple #[.string ⟨(dtext y m d).toArray⟩, .agg #[.int .i64 0, .int .i64 0]]) ∧ Valid y m d ∧ num y m d = n ∧ Below w.heap.size w w'
set_option maxRecDepth 100000 in
set_option maxHeartbeats 400000 in
theorem print_no (n : Int) (w : World) (h : n < 1 ∨ 3652059 < n) : Calls Try.prog 19 #[.int .i64 n] w (PrintBad w) := by
  go_enter Try.func19, Try.ntmps19
  go_wp2_with fail
  refine (date_no n _ h).mono ?_
  rintro e w1 ⟨rfl, hb1⟩
  obtain ⟨hb0, hf⟩ := fr_after hb1
  clear hb1
  obtain ⟨z, c0, c1, f0, f1⟩ := hf
  go_wp2
  go_region
  all_goals go_wp2
  refine bodyPost_ret (v := .tuple #[.string ⟨#[]⟩, .agg #[.int .i64 4, .int .i64 (-1)]]) (by simp [results, Try.results19, go_sem, c0, c1, z]) rfl ?_
  exact ⟨rfl, (((hb0.setCell (p := ⟨w.heap.size, 0, none⟩) (Nat.le_refl _) _).setCell (p := ⟨w.heap.size, 1, none⟩) (Nat.le_refl _) _).alloc (by simp [World.setCell]; omega) _).drew⟩
set_option maxRecDepth 100000 in
set_option maxHeartbeats 400000 in
theorem print_yes (n : Int) (w : World) (h1 : 1 ≤ n) (h2 : n ≤ 3652059) : Calls Try.prog 19 #[.int .i64 n] w (PrintOk n w) := by
  go_enter Try.func19, Try.ntmps19
  go_wp2_with fail
  refine (date_yes n _ h1 h2).mono ?_
  rintro e w1 ⟨y, m, d, rfl, hv, hnum, hb1⟩
  obtain ⟨hb0, hf⟩ := fr_after hb1
  clear hb1
  have hd := dim_bd y (m : Int)
  obtain ⟨v1, v2, v3, v4, v5, v6⟩ := hv
  have HV := Lib.hid (show Valid y m d from ⟨v1, v2, v3, v4, v5, v6⟩)
  have HN := Lib.hid hnum
  have HF := Lib.hid (hf.alloc (Obj.cells #[Value.int IntKind.i64 0, Value.int IntKind.i64 0] 24))
  have HB := Lib.hid (hb0.alloc hb0.size (Obj.cells #[Value.int IntKind.i64 0, Value.int IntKind.i64 0] 24))
  clear hnum hb0 hf
  go_wp2_with fail
  generalize w1.alloc (Obj.cells #[Value.int IntKind.i64 0, Value.int IntKind.i64 0] 24) = W1 at *
  have hl4 : (four y).length = 4 := rfl
  have hl2 : (two (m : Int)).length = 2 := rfl
  have hl2' : (two d).length = 2 := rfl
  refine (digits_4 y _ (by omega) (by omega)).mono ?_
  rintro e w2 ⟨rfl, hb2⟩
  have HF2 := Lib.hid (HF.out.below hb2 HF.out.1)
  have HB2 := Lib.hid (chain HB.out hb2)
  clear hb2
  go_wp2_with fail
  refine (digits_2 (m : Int) _ (by omega) (by omega)).mono ?_
  rintro e w3 ⟨rfl, hb3⟩
  have HF3 := Lib.hid (HF2.out.below hb3 HF2.out.1)
  have HB3 := Lib.hid (chain HB2.out hb3)
  clear hb3
  go_wp2_with fail
  refine (digits_2 d _ (by omega) (by omega)).mono ?_
  rintro e w4 ⟨rfl, hb4⟩
  obtain ⟨z, c0, c1, f0, f1⟩ := HF3.out.below hb4 HF3.out.1
  have HB4 := Lib.hid (chain HB3.out hb4)
  clear hb4
  go_wp2_with fail
  refine bodyPost_ret (v := .tuple #[.string ⟨(dtext y m d).toArray⟩, .agg #[.int .i64 0, .int .i64 0]]) (by simp [results, Try.results19, go_sem, c0, c1, z]; exact dtext_eq y m d) rfl ?_
  exact ⟨y, m, d, rfl, HV.out, HN.out, (HB4.out.setCell (p := ⟨w.heap.size, 0, none⟩) (Nat.le_refl _) _).setCell (p := ⟨w.heap.size, 1, none⟩) (Nat.le_refl _) _⟩
end Go.Proofs.Ytmhjcdencfbjpaa
