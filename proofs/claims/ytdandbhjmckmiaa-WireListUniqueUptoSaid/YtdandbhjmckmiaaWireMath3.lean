/-
  The plain law of reading lists: what the readers of lists answer. No program in sight.
-/
import Derived.Test.YtdandbhjmckmiaaWireMath2
namespace Go.Proofs.Ytdandbhjmckmiaa
set_option linter.unusedVariables false
set_option linter.unusedSimpArgs false

section
variable {α : Type}
/-- what was read ahead, before the rest -/
def app (acc : List α) (r : List α × Int × Int × Int) : List α × Int × Int × Int := if r.2.2.1 ≠ 0 then r else (acc ++ r.1, r.2)
theorem app_nil (r : List α × Int × Int × Int) : app [] r = r := by unfold app; split <;> simp
theorem app_app (a b : List α) (r : List α × Int × Int × Int) : app a (app b r) = app (a ++ b) r := by
  unfold app
  by_cases h : r.2.2.1 ≠ 0
  · simp [h]
  · simp at h; simp [h]
/-- k elements, one behind the other -/
def rdL (one : Int → α × Int × Int × Int) : Nat → Int → List α × Int × Int × Int
  | 0, nx => ([], nx, 0, 0)
  | k + 1, nx => if (one nx).2.2.1 ≠ 0 then ([], 0, (one nx).2.2.1, (one nx).2.2.2) else app [(one nx).1] (rdL one k (one nx).2.1)
theorem rdL_fault {one : Int → α × Int × Int × Int} {k : Nat} {nx : Int} {x : α} {y c i : Int} (h : one nx = (x, y, c, i)) (hc : c ≠ 0) (acc : List α) : app acc (rdL one (k + 1) nx) = ([], 0, c, i) := by
  simp only [rdL, h]
  rw [if_pos hc]
  unfold app
  rw [if_pos hc]
theorem rdL_step {one : Int → α × Int × Int × Int} {k : Nat} {nx : Int} {x : α} {y i : Int} (h : one nx = (x, y, 0, i)) (acc : List α) : app acc (rdL one (k + 1) nx) = app (acc ++ [x]) (rdL one k y) := by
  simp only [rdL, h]
  rw [if_neg (by simp), app_app]
theorem rdL_end {one : Int → α × Int × Int × Int} {nx : Int} (acc : List α) : app acc (rdL one 0 nx) = (acc, nx, 0, 0) := by simp [rdL, app]
/-- a list with its length ahead of it -/
def readL (one : Int → α × Int × Int × Int) (bs : List UInt8) (a most : Int) : List α × Int × Int × Int :=
  if (readNum bs a).2.2.1 ≠ 0 then ([], 0, (readNum bs a).2.2.1, (readNum bs a).2.2.2)
  else if (readNum bs a).1 < 0 ∨ most < (readNum bs a).1 then ([], 0, 4, a)
  else rdL one (readNum bs a).1.toNat (readNum bs a).2.1
theorem readL_fault {one : Int → α × Int × Int × Int} {bs : List UInt8} {a most c i : Int} (h : readNum bs a = (0, 0, c, i)) (hc : c ≠ 0) : readL one bs a most = ([], 0, c, i) := by
  simp only [readL, h]; rw [if_pos hc]
theorem readL_range {one : Int → α × Int × Int × Int} {bs : List UInt8} {a most x y : Int} (h : readNum bs a = (x, y, 0, 0)) (hx : x < 0 ∨ most < x) : readL one bs a most = ([], 0, 4, a) := by
  simp only [readL, h]; rw [if_neg (by simp), if_pos hx]
theorem readL_go {one : Int → α × Int × Int × Int} {bs : List UInt8} {a most y : Int} {k : Nat} (h : readNum bs a = ((k : Int), y, 0, 0)) (hx : (k : Int) ≤ most) : readL one bs a most = app [] (rdL one k y) := by
  simp only [readL, h]; rw [if_neg (by simp), if_neg (by omega), app_nil, Int.toNat_natCast]
end

/-- where a number stands that was read -/
theorem readNum_next {bs : List UInt8} {a : Int} (hl : bs.length ≤ 9223372036854775807) :
    (∃ c i, c ≠ 0 ∧ readNum bs a = (0, 0, c, i)) ∨ ∃ (x : Int) (y : Nat), readNum bs a = (x, (y : Int), 0, 0) ∧ a + 1 ≤ (y : Int) ∧ y ≤ bs.length ∧ -9223372036854775808 ≤ x ∧ x ≤ 9223372036854775807 := by
  rcases readNum_or bs a hl with h | ⟨k, y, j, rfl, _, hr, h1, h2, h3⟩
  · exact .inl h
  · exact .inr ⟨_, k + j, hr, by omega, h1, h3⟩
end Go.Proofs.Ytdandbhjmckmiaa
