/-
  A region that draws its order, reads, and calls what only makes new memory: one walk, in all worlds above the first.
-/
import Derived.Test.YtolognhjdmkohaaJ14
import Derived.Deep.QuietTactic
namespace Go.Proofs.Ytolognhjdmkohaa
open Go.RowKit
set_option linter.unusedVariables false
set_option linter.unusedSimpArgs false

/-- a world in which the old memory is as it was -/
def Abv (w : World) : Type := { w' : World // Below w.heap.size w w' }
instance (w : World) : Nonempty (Abv w) := ⟨⟨w, Below.refl _ _⟩⟩
def Abv.w {w : World} (x : Abv w) : World := x.1
theorem Abv.b {w : World} (x : Abv w) : Below w.heap.size w x.w := x.2
theorem Abv.cell {w : World} {q : Addr} {v : Value} (h : w.cell? q = some v) (x : Abv w) : x.w.cell? q = some v := by
  obtain ⟨cs, t, fr, h1, _⟩ := sm_of_cell h
  exact (x.b.cell (Array.getElem?_eq_some_iff.1 h1).1).trans h
theorem Abv.frozen {w : World} {q : Addr} {v : Value} (h : w.cell? q = some v) (hf : w.frozen? q = false) (x : Abv w) : x.w.frozen? q = false := by
  obtain ⟨cs, t, fr, h1, _⟩ := sm_of_cell h
  exact (World.frozen?_of_block (w := w) (a := q) (x.b.block _ (Array.getElem?_eq_some_iff.1 h1).1)).trans hf
theorem Calls.above {P : Program} {f : FuncId} {args : Array Value} {w : World} {x : Abv w} {v : Value} (h : Calls P f args x.w fun e w' => e = .returned v ∧ Below x.w.heap.size x.w w') : Calls P f args x.w fun e w'' => e = .returned v ∧ ∃ y : Abv w, w'' = y.w :=
  h.mono fun _ w' ⟨he, hb⟩ => ⟨he, ⟨w', chain x.b hb⟩, rfl⟩
theorem region_above {P : Program} {Q : Exit → Act → World → Prop} {id : Nat} {a : Act} {w : World} {l : List Oper} (hm : P.follows .mixedOrders = true) (hB : Region.lexB .any l.toArray = true)
    (h : wpQuiet P l.toArray (fun w' => ∃ x : Abv w, w' = x.w) (fun a' => ∀ w', (∃ x : Abv w, w' = x.w) → Q .normal a' w') l a) : (Code.region id l.toArray true).wp P Q a w :=
  wp_region_quiet (C := fun w' => ∃ x : Abv w, w' = x.w) hm hB ⟨⟨_, (Below.refl _ w).drew⟩, rfl⟩ (by simpa using h)
theorem at_above (c i : Int) {w : World} (x : Abv w) : Calls Try.prog 20 #[.int .i64 c, .int .i64 i] x.w fun e w'' => e = .returned (.agg #[.int .i64 c, .int .i64 i]) ∧ ∃ y : Abv w, w'' = y.w :=
  Calls.above ((at_calls c i x.w).mono fun e w' h => ⟨h.1, by rw [← h.2]; exact bel1 _ _⟩)
end Go.Proofs.Ytolognhjdmkohaa
