/-
  The examples of the document hold.
-/
import Derived.Test.YtdandbhjmckmiaaWireChunk
namespace Go.Proofs.Ytdandbhjmckmiaa
open Go.RowKit
set_option linter.unusedVariables false
set_option linter.unusedSimpArgs false

theorem Rd.lit (w : World) (cs : Array Value) (e : TypeId) : Rd (w.alloc (.cells cs e)) (w.heap.size + 1) 1 (some ⟨w.heap.size, 0, none⟩) cs.size cs.toList := by
  refine ⟨by simp, fun _ => ⟨_, _, rfl, by omega, fun j u hu => ?_⟩⟩
  rw [cell_of_row _ w.heap.size (0 + j) cs e (0, 0) (heap_alloc_new w _)]
  simpa using hu
/-- a cell of an older block, behind what made memory -/
theorem cell_far {w w' : World} {B b o : Nat} {u : Value} (hb : Below B w w') (hlt : b < B) (h : w.cell? ⟨b, o, none⟩ = some u) : w'.cell? ⟨b, o, none⟩ = some u := (hb.cell (by exact hlt)).trans h

set_option maxRecDepth 100000 in
set_option maxHeartbeats 400000 in
theorem example_calls (w : World) : Calls Try.prog 14 #[] w fun e w' => e = .returned (.bool true) ∧ Below w.heap.size w w' := by
  go_enter Try.func14, Try.ntmps14
  go_wp2_with fail
  have r1 : Rd (w.alloc (.cells #[.int .u8 7, .int .u8 129, .int .u8 1, .int .u8 5] 5)) (w.alloc (.cells #[.int .u8 7, .int .u8 129, .int .u8 1, .int .u8 5] 5)).heap.size 1 (some ⟨w.heap.size, 0, none⟩) 4 (bv [7, 129, 1, 5]) := (Rd.lit w #[.int .u8 7, .int .u8 129, .int .u8 1, .int .u8 5] 5).more (by simp)
  refine (readNumber_calls r1 1 (by decide)).mono ?_
  clear r1
  rintro e w1 ⟨rfl, hb1⟩
  rw [show readNum [7, 129, 1, 5] 1 = (-65, 3, 0, 0) by decide]
  have HB1 := Lib.hid (((Below.refl w.heap.size w).alloc (Nat.le_refl _) _).trans (hb1.mono (by simp)))
  clear hb1
  go_wp2_with fail
  generalize hW1 : w1.alloc (Obj.cells #[Value.int IntKind.i64 0, Value.int IntKind.i64 0] 28) = W1
  have r2 : Rd (W1.alloc (.cells #[.int .u8 4, .int .u8 65, .int .u8 66, .int .u8 9] 5)) (W1.alloc (.cells #[.int .u8 4, .int .u8 65, .int .u8 66, .int .u8 9] 5)).heap.size 1 (some ⟨W1.heap.size, 0, none⟩) 4 (bv [4, 65, 66, 9]) := (Rd.lit W1 #[.int .u8 4, .int .u8 65, .int .u8 66, .int .u8 9] 5).more (by simp)
  subst hW1
  simp only [World.size_alloc] at r2
  refine (readChunk_calls (r2.more (by simp)) 0 (by decide) (by decide)).mono ?_
  rintro e w2 ⟨A2, c2, rfl, hown2, hb2⟩
  rw [show readChunk [4, 65, 66, 9] 0 = ([65, 66], 3, 0, 0) by decide] at hown2 ⊢
  have HB2 := Lib.hid (HB1.out.trans (((((Below.refl w.heap.size w1).alloc HB1.out.size (.cells #[.int .i64 0, .int .i64 0] 28)).alloc (by have := HB1.out.size; simp; omega) _).trans (hb2.mono (by have := HB1.out.size; simp; omega)))))
  have q1 : w2.cell? ⟨w1.heap.size, 0, none⟩ = some (.int .i64 0) := cell_far hb2 (by simp; omega) (by simp)
  have s1 : w1.heap.size < w2.heap.size := by have := hb2.size; simp at this; omega
  have HO := Lib.hid hown2
  clear hown2 hb2
  go_wp2_with fail
  refine (number_calls (-65) _ (by decide) (by decide)).mono ?_
  rintro e w3 ⟨A3, c3, rfl, hown3, hb3⟩
  rw [show num (-65) = [129, 1] by decide] at hown3 ⊢
  have HB3 := Lib.hid (HB2.out.trans (((Below.refl w.heap.size w2).alloc HB2.out.size (.cells #[.int .i64 0, .int .i64 0] 28)).trans (hb3.mono (by have := HB2.out.size; simp; omega))))
  have q1' : w3.cell? ⟨w1.heap.size, 0, none⟩ = some (.int .i64 0) := cell_far hb3 (by simp; omega) (by rw [World.cell?_alloc_lt _ _ _ (by exact s1)]; exact q1)
  have q2 : w3.cell? ⟨w2.heap.size, 0, none⟩ = some (.int .i64 0) := cell_far hb3 (by simp) (by simp)
  have s2 : w2.heap.size < w3.heap.size := by have := hb3.size; simp at this; omega
  have s3 : w1.heap.size < w3.heap.size := by omega
  have HR2 := Lib.hid (((Rd.of_own HO.out).alloc (Nat.le_refl _) (.cells #[.int .i64 0, .int .i64 0] 28)).below (hb3.mono (by simp)))
  have HR3 := Lib.hid (Rd.of_own hown3)
  clear q1 s1 hown3 hb3
  go_wp2_with fail
  have r3 : Rd (w3.alloc (.cells #[.int .u8 129, .int .u8 1] 5)) (w3.heap.size + 1) 1 (some ⟨w3.heap.size, 0, none⟩) 2 (bv [129, 1]) := Rd.lit w3 #[.int .u8 129, .int .u8 1] 5
  have r4 : Rd (w3.alloc (.cells #[.int .u8 129, .int .u8 1] 5)) w3.heap.size 1 A3 2 (bv [129, 1]) := HR3.out.alloc (Nat.le_refl _) _
  refine (bytes_calls r4 r3).mono ?_
  rintro e w4 ⟨rfl, rfl⟩
  have hstr := run_str (n := 2) (c := c2) (bs := [65, 66]) (HR2.out.alloc (Nat.le_of_lt s2) (.cells #[.int .u8 129, .int .u8 1] 5))
  go_wp2
  go_ret
  exact ⟨rfl, HB3.out.alloc HB3.out.size _⟩

def EX : Ending → World → World → Prop := fun e w w' => e = .returned (.bool true) ∧ Below w.heap.size w w'

/-- wire.Number writes what the reference's Put writes -/
theorem numberMatches_calls (n : Int) (w : World) (h1 : -9223372036854775808 ≤ n) (h2 : n ≤ 9223372036854775807) :
    Calls Try.prog 3 #[.int .i64 n] w fun e w' => e = .returned (.bool true) ∧ Below w.heap.size w w' := by
  go_enter Try.func3, Try.ntmps3
  go_wp2_with fail
  refine (example_calls _).mono ?_
  rintro e w1 ⟨rfl, hb1⟩
  go_wp2_with fail
  refine (number_calls n _ h1 h2).mono ?_
  rintro e w2 ⟨A2, c2, rfl, hown2, hb2⟩
  go_wp2_with fail
  refine (put_calls n _ h1 h2).mono ?_
  rintro e w3 ⟨A3, c3, rfl, hown3, hb3⟩
  go_wp2_with fail
  refine (bytes_calls ((Rd.of_own hown2).below hb3) (Rd.of_own hown3)).mono ?_
  rintro e w4 ⟨rfl, rfl⟩
  rw [show (num n == num n) = true by simp]
  go_wp2_with fail
  go_ret
  exact ⟨rfl, hb1.trans ((hb2.mono hb1.size).trans (hb3.mono (Nat.le_trans hb1.size hb2.size)))⟩
end Go.Proofs.Ytdandbhjmckmiaa
