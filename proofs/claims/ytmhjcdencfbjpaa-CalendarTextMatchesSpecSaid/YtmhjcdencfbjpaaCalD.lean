/-
  The contracts of calendar.digits and Print.
-/
import Derived.Test.YtmhjcdencfbjpaaCalC
import Derived.Test.YtmhjcdencfbjpaaStr
import Derived.LoopN
namespace Go.Proofs.Ytmhjcdencfbjpaa
open Go.RowKit
set_option linter.unusedVariables false
set_option linter.unusedSimpArgs false

/-- a digit -/
def dgt (x : Int) : UInt8 := UInt8.ofNat (48 + x % 10).toNat
theorem dgt_toNat (x : Int) : ((dgt x).toNat : Int) = 48 + x % 10 := by
  unfold dgt
  rw [UInt8.toNat_ofNat', Nat.mod_eq_of_lt (by omega)]
  omega
def two (x : Int) : List UInt8 := [dgt (x / 10), dgt x]
def four (x : Int) : List UInt8 := [dgt (x / 10 / 10 / 10), dgt (x / 10 / 10), dgt (x / 10), dgt x]

theorem two_cells (n : Int) : bv (two n) = [.int .u8 (48 + n / 10 % 10), .int .u8 (48 + n % 10)] := by
  simp only [bv, two, List.map_cons, List.map_nil, dgt_toNat]
set_option maxRecDepth 100000 in
set_option maxHeartbeats 400000 in
theorem digits_2 (n : Int) (w : World) (h1 : 0 ≤ n) (h2 : n ≤ 99999) : Calls Try.prog 31 #[.int .i64 n, .int .i64 2] w fun e w' => e = .returned (.string ⟨(two n).toArray⟩) ∧ Below w.heap.size w w' := by
  have hmk : ∀ W : World, (Instr.makeSlice 50 (.int .i64 2) (.int .i64 2)).run Try.prog W = .ok (.slice (some ⟨W.heap.size, 0, none⟩) 2 2) (W.alloc (.cells #[.int .u8 0, .int .u8 0] 5)) := fun _ => by kernel_rfl
  have hrd : Rd (w.alloc (.cells #[.int .u8 (48 + n / 10 % 10), .int .u8 (48 + n % 10)] 5)) (w.heap.size + 1) 1 (some ⟨w.heap.size, 0, none⟩) 2 (bv (two n)) := by
    rw [two_cells]; exact Rd.lit w #[.int .u8 (48 + n / 10 % 10), .int .u8 (48 + n % 10)] 5
  have hstr := run_str (c := 2) hrd
  clear hrd
  go_enter Try.func31, Try.ntmps31
  go_wp2_with fail
  refine wp_loop_rounds 3 ?_
  rw [rounds_succ]
  go_wp2_with fail
  rw [rounds_succ]
  go_wp2_with fail
  rw [rounds_succ]
  go_wp2_with fail
  go_ret
  exact ⟨rfl, (Below.refl _ _).alloc (Nat.le_refl _) _⟩
theorem four_cells (n : Int) : bv (four n) = [.int .u8 (48 + n / 10 / 10 / 10 % 10), .int .u8 (48 + n / 10 / 10 % 10), .int .u8 (48 + n / 10 % 10), .int .u8 (48 + n % 10)] := by
  simp only [bv, four, List.map_cons, List.map_nil, dgt_toNat]
set_option maxRecDepth 100000 in
set_option maxHeartbeats 400000 in
theorem digits_4 (n : Int) (w : World) (h1 : 0 ≤ n) (h2 : n ≤ 99999) : Calls Try.prog 31 #[.int .i64 n, .int .i64 4] w fun e w' => e = .returned (.string ⟨(four n).toArray⟩) ∧ Below w.heap.size w w' := by
  have hmk : ∀ W : World, (Instr.makeSlice 50 (.int .i64 4) (.int .i64 4)).run Try.prog W = .ok (.slice (some ⟨W.heap.size, 0, none⟩) 4 4) (W.alloc (.cells #[.int .u8 0, .int .u8 0, .int .u8 0, .int .u8 0] 5)) := fun _ => by kernel_rfl
  have hrd : Rd (w.alloc (.cells #[.int .u8 (48 + n / 10 / 10 / 10 % 10), .int .u8 (48 + n / 10 / 10 % 10), .int .u8 (48 + n / 10 % 10), .int .u8 (48 + n % 10)] 5)) (w.heap.size + 1) 1 (some ⟨w.heap.size, 0, none⟩) 4 (bv (four n)) := by
    rw [four_cells]; exact Rd.lit w #[.int .u8 (48 + n / 10 / 10 / 10 % 10), .int .u8 (48 + n / 10 / 10 % 10), .int .u8 (48 + n / 10 % 10), .int .u8 (48 + n % 10)] 5
  have hstr := run_str (c := 4) hrd
  clear hrd
  go_enter Try.func31, Try.ntmps31
  go_wp2_with fail
  refine wp_loop_rounds 5 ?_
  rw [rounds_succ]
  go_wp2_with fail
  rw [rounds_succ]
  go_wp2_with fail
  rw [rounds_succ]
  go_wp2_with fail
  rw [rounds_succ]
  go_wp2_with fail
  rw [rounds_succ]
  go_wp2_with fail
  go_ret
  exact ⟨rfl, (Below.refl _ _).alloc (Nat.le_refl _) _⟩
end Go.Proofs.Ytmhjcdencfbjpaa
