/-
  A value in which another one stands in place of a node: plainly, and the reference's list in memory.
-/
import Derived.Test.YtolognhjdmkohaaKPathM
import Derived.Test.YtolognhjdmkohaaKPar
namespace Go.Proofs.Ytolognhjdmkohaa
open Go.RowKit
set_option linter.unusedVariables false
set_option linter.unusedSimpArgs false

/-- another tree in place of the i-th -/
def VF.setAt : VF → Nat → Nd → VF → VF
  | .nil, _, _, _ => .nil
  | .cons _ _ r, 0, e, q => .cons e q r
  | .cons d p r, i + 1, e, q => .cons d p (r.setAt i e q)
theorem VF.len_setAt (F : VF) : ∀ (i : Nat) (e : Nd) (q : VF), (F.setAt i e q).len = F.len := by
  induction F with
  | nil => intro i e q; rfl
  | cons d p r _ ih => intro i e q; cases i <;> simp [VF.setAt, VF.len, ih]
theorem VF.setAt_take (F : VF) : ∀ (k i : Nat) (e : Nd) (q : VF), i ≤ k → (F.setAt k e q).take i = F.take i := by
  induction F with
  | nil => intro k i e q _; rfl
  | cons d p r _ ih =>
    intro k i e q h
    cases i with
    | zero => rw [VF.take_zero, VF.take_zero]
    | succ i =>
      cases k with
      | zero => omega
      | succ k => simp only [VF.setAt, VF.take]; rw [ih k i e q (by omega)]
theorem VF.setAt_other (F : VF) : ∀ (k i : Nat) (e : Nd) (q : VF) (d : Nd) (p r : VF), i ≠ k → F.drop i = .cons d p r → ∃ r', (F.setAt k e q).drop i = .cons d p r' := by
  induction F with
  | nil => intro k i e q d p r _ h; cases i <;> cases h
  | cons d0 p0 r0 _ ih =>
    intro k i e q d p r hne h
    cases i with
    | zero =>
      cases k with
      | zero => omega
      | succ k => cases h; exact ⟨_, rfl⟩
    | succ i =>
      cases k with
      | zero => exact ⟨r, h⟩
      | succ k => exact ih k i e q d p r (by omega) h
theorem VF.setAt_here (F : VF) : ∀ (k : Nat) (e : Nd) (q : VF), k < F.len → ∃ r', (F.setAt k e q).drop k = .cons e q r' := by
  induction F with
  | nil => intro k e q h; simp [VF.len] at h
  | cons d0 p0 r0 _ ih =>
    intro k e q h
    cases k with
    | zero => exact ⟨r0, rfl⟩
    | succ k => exact ih k e q (by simp [VF.len] at h; omega)
/-- another value in place of the node at a path -/
def repV : List Int → Nd → VF → Nd → VF → Nd × VF
  | [], _, _, e, q => (e, q)
  | k :: r, d, p, e, q => match p.drop k.toNat with
    | .nil => (d, p)
    | .cons d' p' _ => (d, p.setAt k.toNat (repV r d' p' e q).1 (repV r d' p' e q).2)
theorem repV_nil (d : Nd) (p : VF) (e : Nd) (q : VF) : repV [] d p e q = (e, q) := rfl
theorem repV_go {p : VF} {j : Nat} {d' : Nd} {p' r : VF} (h : p.drop j = .cons d' p' r) (d : Nd) (path : List Int) (e : Nd) (q : VF) : repV ((j : Int) :: path) d p e q = (d, p.setAt j (repV path d' p' e q).1 (repV path d' p' e q).2) := by
  rw [repV, Int.toNat_natCast, h]
/-- the blocks that the parts lie in: old ones or new ones, none of which is the row's own -/
def Sw (B0 : Nat) (wc wr : World) (v : Value) (b : Nat) : Prop := (b < B0 ∨ wc.heap.size ≤ b) ∧ b < wr.heap.size ∧ v.ownBlock ≠ some b
theorem wt_next {wc wr w6 w7 : World} {B0 g i g' c c' : Nat} {A : Option Addr} {k n sb sn : Value} {F p' : VF} {d' : Nd} {cs : List Value} {sb' sn' sp' : Value} {ob : Obj}
    (hbx : Bx wr g k n sb sn (.slice A i c)) (hrow : wr.ownsRow wc.heap.size 26 5 (.slice A i c) i cs) (hfc : FCells wr (Sw B0 wc wr (.slice A i c)) F cs) (hzc : wc.heap.size ≤ wr.heap.size) (hgc : g < wc.heap.size) (hgB : B0 ≤ g)
    (hb6 : Below wr.heap.size wr w6) (hv6 : HdS w6 (fun b => (b < B0 ∨ wr.heap.size ≤ b) ∧ b < w6.heap.size) d' p'.len (FInS w6 (fun b => (b < B0 ∨ wr.heap.size ≤ b) ∧ b < w6.heap.size) p') sb' sn' sp')
    (hg7 : (w6.alloc ob).grownBy w7 (Value.slice A i c).ownBlock)
    (hown7 : w7.ownsRow wc.heap.size 26 5 (.slice (some ⟨g', 0, none⟩) (i + 1) c') (i + 1) (cs ++ [.int .i64 d'.k, .int .i64 d'.n, sb', sn', sp']))
    (hat : (Value.slice A i c).ownBlock = some g' ∨ g' = w6.heap.size + 1) :
    Bx (w7.setCell ⟨g, 4, none⟩ (.slice (some ⟨g', 0, none⟩) (i + 1) c')) g k n sb sn (.slice (some ⟨g', 0, none⟩) (i + 1) c') ∧
    (w7.setCell ⟨g, 4, none⟩ (.slice (some ⟨g', 0, none⟩) (i + 1) c')).ownsRow wc.heap.size 26 5 (.slice (some ⟨g', 0, none⟩) (i + 1) c') (i + 1) (cs ++ [.int .i64 d'.k, .int .i64 d'.n, sb', sn', sp']) ∧
    FCells (w7.setCell ⟨g, 4, none⟩ (.slice (some ⟨g', 0, none⟩) (i + 1) c')) (Sw B0 wc (w7.setCell ⟨g, 4, none⟩ (.slice (some ⟨g', 0, none⟩) (i + 1) c')) (.slice (some ⟨g', 0, none⟩) (i + 1) c')) (F.snoc d' p') (cs ++ [.int .i64 d'.k, .int .i64 d'.n, sb', sn', sp']) ∧
    wc.heap.size ≤ (w7.setCell ⟨g, 4, none⟩ (.slice (some ⟨g', 0, none⟩) (i + 1) c')).heap.size ∧ Below g wr (w7.setCell ⟨g, 4, none⟩ (.slice (some ⟨g', 0, none⟩) (i + 1) c')) := by
  have hz7 := hg7.size
  have hz6 := hb6.size
  simp only [alloc_size] at hz7
  have hrl : ∀ b, (Value.slice A i c).ownBlock = some b → wc.heap.size ≤ b ∧ b < wr.heap.size := fun b hb => hrow.lt b hb
  have k67 : ∀ b, b < w6.heap.size → (Value.slice A i c).ownBlock ≠ some b → w7.heap[b]? = w6.heap[b]? := fun b hb hne => by
    rw [hg7.block b (by simp only [alloc_size]; omega) (fun e => hne e.symm)]
    exact Below.heap_alloc w6 _ b hb
  have k7r : ∀ b, b < wr.heap.size → (Value.slice A i c).ownBlock ≠ some b → w7.heap[b]? = wr.heap[b]? := fun b hb hne => (k67 b (by omega) hne).trans (hb6.block b hb)
  have hgne : (Value.slice A i c).ownBlock ≠ some g := fun e => by have := (hrl g e).1; omega
  have hg'c : wc.heap.size ≤ g' := by
    rcases hat with h | h
    · exact (hrl g' h).1
    · omega
  have hset : ∀ b, b ≠ g → (w7.setCell ⟨g, 4, none⟩ (.slice (some ⟨g', 0, none⟩) (i + 1) c')).heap[b]? = w7.heap[b]? := fun b hb => Below.heap_setCell _ _ _ _ (by exact hb)
  have hsz : (w7.setCell ⟨g, 4, none⟩ (.slice (some ⟨g', 0, none⟩) (i + 1) c')).heap.size = w7.heap.size := by simp
  have hbx7 : Bx w7 g k n sb sn (.slice A i c) := (k7r g (by omega) hgne).trans hbx
  have hnot : ∀ b, b < w6.heap.size → (Value.slice A i c).ownBlock ≠ some b → (Value.slice (some ⟨g', 0, none⟩) (i + 1) c').ownBlock ≠ some b := fun b hb h3 e => by
    have e' : g' = b := by simpa [Value.ownBlock] using e
    subst e'
    rcases hat with h | h
    · exact h3 h
    · omega
  refine ⟨hbx7.set4 _, own_set hown7 hgc, ?_, by rw [hsz]; omega, ?_⟩
  · refine FCells.snoc ?_ _ _ (FCells.keep (fun q hq => ?_) (fun b hb => ?_) _ _ hfc)
    · have hne : ∀ b, ((b < B0 ∨ wr.heap.size ≤ b) ∧ b < w6.heap.size) → (Value.slice A i c).ownBlock ≠ some b := fun b hb e => by have := hrl b e; omega
      have hk : ∀ q : Addr, ((q.block < B0 ∨ wr.heap.size ≤ q.block) ∧ q.block < w6.heap.size) → (w7.setCell ⟨g, 4, none⟩ (.slice (some ⟨g', 0, none⟩) (i + 1) c')).cell? q = w6.cell? q := fun q hq =>
        cell_of_heap ((hset q.block (by omega)).trans (k67 q.block hq.2 (hne _ hq))) q rfl
      have hS : ∀ b, ((b < B0 ∨ wr.heap.size ≤ b) ∧ b < w6.heap.size) → Sw B0 wc (w7.setCell ⟨g, 4, none⟩ (.slice (some ⟨g', 0, none⟩) (i + 1) c')) (.slice (some ⟨g', 0, none⟩) (i + 1) c') b := fun b hb =>
        ⟨by omega, by rw [hsz]; omega, hnot b hb.2 (hne b hb)⟩
      exact hv6.mono hk hS (FInS.keep hk hS p')
    · obtain ⟨h1, h2, h3⟩ := hq
      exact (cell_of_heap ((hset q.block (by omega)).trans (k7r q.block h2 h3)) q rfl)
    · obtain ⟨h1, h2, h3⟩ := hb
      exact ⟨h1, by rw [hsz]; omega, hnot b (by omega) h3⟩
  · have h1 : Below g wr (w6.alloc ob) := (hb6.mono (by omega)).alloc (by omega) _
    exact (h1.grown hg7 (by simp only [alloc_size]; omega) (fun b hb => by have := (hrl b hb).1; omega)).setCell (p := ⟨g, 4, none⟩) (Nat.le_refl _) _
end Go.Proofs.Ytolognhjdmkohaa
