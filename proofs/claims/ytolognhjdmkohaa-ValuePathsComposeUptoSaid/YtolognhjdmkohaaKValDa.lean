/-
  Walks of value.checkNode.
-/
import Derived.Test.YtolognhjdmkohaaJ5
namespace Go.Proofs.Ytolognhjdmkohaa
open Go.RowKit
set_option linter.unusedVariables false
set_option linter.unusedSimpArgs false

set_option maxRecDepth 100000 in
set_option maxHeartbeats 1000000 in
theorem node_bad_1_n1b1 {w : World} {n : Int} {Ab An Ap : Option Addr} {nb cb nn cn np cp : Nat} (hn1 : (n != 0) = true) (hb1 : 0 < nb) :
    Calls Try.prog 62 #[.agg #[.int .i64 1, .int .i64 n, .slice Ab nb cb, .slice An nn cn, .slice Ap np cp]] w fun e w' => e = .returned (.int .i64 6) ∧ Below w.heap.size w w' := by
  have hmf := makeF
  have hb1' : (0 : Int) < (nb : Int) := by omega
  go_enter Try.func62, Try.ntmps62
  go_wp2_with fail
  refine (has_lit (t := true) [1, 2, 3, 4] 1 (by simp only [alloc_size]) rfl rfl (by repeat (first | exact box0 _ _ _ _ _ _ _ | refine cell_up ?_)) (by decide) (by decide)).mono ?_
  rintro e w' ⟨rfl, rfl⟩
  go_wp2_with fail
  refine (has_lit (t := true) [1] 1 (by simp only [alloc_size]) rfl rfl (by repeat (first | exact box0 _ _ _ _ _ _ _ | refine cell_up ?_)) (by decide) (by decide)).mono ?_
  rintro e w' ⟨rfl, rfl⟩
  go_wp2_with fail
  refine (has_lit (t := false) [2] 1 (by simp only [alloc_size]) rfl rfl (by repeat (first | exact box0 _ _ _ _ _ _ _ | refine cell_up ?_)) (by decide) (by decide)).mono ?_
  rintro e w' ⟨rfl, rfl⟩
  go_wp2_with fail
  go_ret
  exact ⟨rfl, (by repeat (first | exact Below.refl _ _ | (refine Below.alloc ?_ (by first | exact Nat.le_refl _ | (simp only [alloc_size]; omega)) _)))⟩
set_option maxRecDepth 100000 in
set_option maxHeartbeats 1000000 in
theorem node_bad_1_n1b0s1 {w : World} {n : Int} {Ab An Ap : Option Addr} {nb cb nn cn np cp : Nat} (hn1 : (n != 0) = true) (hb0 : nb = 0) (hs1 : 0 < nn) :
    Calls Try.prog 62 #[.agg #[.int .i64 1, .int .i64 n, .slice Ab nb cb, .slice An nn cn, .slice Ap np cp]] w fun e w' => e = .returned (.int .i64 6) ∧ Below w.heap.size w w' := by
  have hmf := makeF
  subst hb0
  have hs1' : (0 : Int) < (nn : Int) := by omega
  go_enter Try.func62, Try.ntmps62
  go_wp2_with fail
  refine (has_lit (t := true) [1, 2, 3, 4] 1 (by simp only [alloc_size]) rfl rfl (by repeat (first | exact box0 _ _ _ _ _ _ _ | refine cell_up ?_)) (by decide) (by decide)).mono ?_
  rintro e w' ⟨rfl, rfl⟩
  go_wp2_with fail
  refine (has_lit (t := true) [1] 1 (by simp only [alloc_size]) rfl rfl (by repeat (first | exact box0 _ _ _ _ _ _ _ | refine cell_up ?_)) (by decide) (by decide)).mono ?_
  rintro e w' ⟨rfl, rfl⟩
  go_wp2_with fail
  refine (has_lit (t := false) [4] 1 (by simp only [alloc_size]) rfl rfl (by repeat (first | exact box0 _ _ _ _ _ _ _ | refine cell_up ?_)) (by decide) (by decide)).mono ?_
  rintro e w' ⟨rfl, rfl⟩
  go_wp2_with fail
  go_ret
  exact ⟨rfl, (by repeat (first | exact Below.refl _ _ | (refine Below.alloc ?_ (by first | exact Nat.le_refl _ | (simp only [alloc_size]; omega)) _)))⟩
set_option maxRecDepth 100000 in
set_option maxHeartbeats 1000000 in
theorem node_bad_1_n1b0s0p1 {w : World} {n : Int} {Ab An Ap : Option Addr} {nb cb nn cn np cp : Nat} (hn1 : (n != 0) = true) (hb0 : nb = 0) (hs0 : nn = 0) (hp1 : 0 < np) :
    Calls Try.prog 62 #[.agg #[.int .i64 1, .int .i64 n, .slice Ab nb cb, .slice An nn cn, .slice Ap np cp]] w fun e w' => e = .returned (.int .i64 6) ∧ Below w.heap.size w w' := by
  have hmf := makeF
  subst hb0
  subst hs0
  have hp1' : (0 : Int) < (np : Int) := by omega
  go_enter Try.func62, Try.ntmps62
  go_wp2_with fail
  refine (has_lit (t := true) [1, 2, 3, 4] 1 (by simp only [alloc_size]) rfl rfl (by repeat (first | exact box0 _ _ _ _ _ _ _ | refine cell_up ?_)) (by decide) (by decide)).mono ?_
  rintro e w' ⟨rfl, rfl⟩
  go_wp2_with fail
  refine (has_lit (t := true) [1] 1 (by simp only [alloc_size]) rfl rfl (by repeat (first | exact box0 _ _ _ _ _ _ _ | refine cell_up ?_)) (by decide) (by decide)).mono ?_
  rintro e w' ⟨rfl, rfl⟩
  go_wp2_with fail
  refine (has_lit (t := false) [3, 4] 1 (by simp only [alloc_size]) rfl rfl (by repeat (first | exact box0 _ _ _ _ _ _ _ | refine cell_up ?_)) (by decide) (by decide)).mono ?_
  rintro e w' ⟨rfl, rfl⟩
  go_wp2_with fail
  go_ret
  exact ⟨rfl, (by repeat (first | exact Below.refl _ _ | (refine Below.alloc ?_ (by first | exact Nat.le_refl _ | (simp only [alloc_size]; omega)) _)))⟩
set_option maxRecDepth 100000 in
set_option maxHeartbeats 1000000 in
theorem node_bad_1_n0b1 {w : World} {n : Int} {Ab An Ap : Option Addr} {nb cb nn cn np cp : Nat} (hn0 : (n != 0) = false) (hb1 : 0 < nb) :
    Calls Try.prog 62 #[.agg #[.int .i64 1, .int .i64 n, .slice Ab nb cb, .slice An nn cn, .slice Ap np cp]] w fun e w' => e = .returned (.int .i64 6) ∧ Below w.heap.size w w' := by
  have hmf := makeF
  have hb1' : (0 : Int) < (nb : Int) := by omega
  go_enter Try.func62, Try.ntmps62
  go_wp2_with fail
  refine (has_lit (t := true) [1, 2, 3, 4] 1 (by simp only [alloc_size]) rfl rfl (by repeat (first | exact box0 _ _ _ _ _ _ _ | refine cell_up ?_)) (by decide) (by decide)).mono ?_
  rintro e w' ⟨rfl, rfl⟩
  go_wp2_with fail
  refine (has_lit (t := false) [2] 1 (by simp only [alloc_size]) rfl rfl (by repeat (first | exact box0 _ _ _ _ _ _ _ | refine cell_up ?_)) (by decide) (by decide)).mono ?_
  rintro e w' ⟨rfl, rfl⟩
  go_wp2_with fail
  go_ret
  exact ⟨rfl, (by repeat (first | exact Below.refl _ _ | (refine Below.alloc ?_ (by first | exact Nat.le_refl _ | (simp only [alloc_size]; omega)) _)))⟩
set_option maxRecDepth 100000 in
set_option maxHeartbeats 1000000 in
theorem node_bad_1_n0b0s1 {w : World} {n : Int} {Ab An Ap : Option Addr} {nb cb nn cn np cp : Nat} (hn0 : (n != 0) = false) (hb0 : nb = 0) (hs1 : 0 < nn) :
    Calls Try.prog 62 #[.agg #[.int .i64 1, .int .i64 n, .slice Ab nb cb, .slice An nn cn, .slice Ap np cp]] w fun e w' => e = .returned (.int .i64 6) ∧ Below w.heap.size w w' := by
  have hmf := makeF
  subst hb0
  have hs1' : (0 : Int) < (nn : Int) := by omega
  go_enter Try.func62, Try.ntmps62
  go_wp2_with fail
  refine (has_lit (t := true) [1, 2, 3, 4] 1 (by simp only [alloc_size]) rfl rfl (by repeat (first | exact box0 _ _ _ _ _ _ _ | refine cell_up ?_)) (by decide) (by decide)).mono ?_
  rintro e w' ⟨rfl, rfl⟩
  go_wp2_with fail
  refine (has_lit (t := false) [4] 1 (by simp only [alloc_size]) rfl rfl (by repeat (first | exact box0 _ _ _ _ _ _ _ | refine cell_up ?_)) (by decide) (by decide)).mono ?_
  rintro e w' ⟨rfl, rfl⟩
  go_wp2_with fail
  go_ret
  exact ⟨rfl, (by repeat (first | exact Below.refl _ _ | (refine Below.alloc ?_ (by first | exact Nat.le_refl _ | (simp only [alloc_size]; omega)) _)))⟩
set_option maxRecDepth 100000 in
set_option maxHeartbeats 1000000 in
theorem node_bad_1_n0b0s0p1 {w : World} {n : Int} {Ab An Ap : Option Addr} {nb cb nn cn np cp : Nat} (hn0 : (n != 0) = false) (hb0 : nb = 0) (hs0 : nn = 0) (hp1 : 0 < np) :
    Calls Try.prog 62 #[.agg #[.int .i64 1, .int .i64 n, .slice Ab nb cb, .slice An nn cn, .slice Ap np cp]] w fun e w' => e = .returned (.int .i64 6) ∧ Below w.heap.size w w' := by
  have hmf := makeF
  subst hb0
  subst hs0
  have hp1' : (0 : Int) < (np : Int) := by omega
  go_enter Try.func62, Try.ntmps62
  go_wp2_with fail
  refine (has_lit (t := true) [1, 2, 3, 4] 1 (by simp only [alloc_size]) rfl rfl (by repeat (first | exact box0 _ _ _ _ _ _ _ | refine cell_up ?_)) (by decide) (by decide)).mono ?_
  rintro e w' ⟨rfl, rfl⟩
  go_wp2_with fail
  refine (has_lit (t := false) [3, 4] 1 (by simp only [alloc_size]) rfl rfl (by repeat (first | exact box0 _ _ _ _ _ _ _ | refine cell_up ?_)) (by decide) (by decide)).mono ?_
  rintro e w' ⟨rfl, rfl⟩
  go_wp2_with fail
  go_ret
  exact ⟨rfl, (by repeat (first | exact Below.refl _ _ | (refine Below.alloc ?_ (by first | exact Nat.le_refl _ | (simp only [alloc_size]; omega)) _)))⟩
set_option maxRecDepth 100000 in
set_option maxHeartbeats 1000000 in
theorem node_bad_2_n1 {w : World} {n : Int} {Ab An Ap : Option Addr} {nb cb nn cn np cp : Nat} (hn1 : (n != 0) = true) :
    Calls Try.prog 62 #[.agg #[.int .i64 2, .int .i64 n, .slice Ab nb cb, .slice An nn cn, .slice Ap np cp]] w fun e w' => e = .returned (.int .i64 6) ∧ Below w.heap.size w w' := by
  have hmf := makeF
  go_enter Try.func62, Try.ntmps62
  go_wp2_with fail
  refine (has_lit (t := true) [1, 2, 3, 4] 2 (by simp only [alloc_size]) rfl rfl (by repeat (first | exact box0 _ _ _ _ _ _ _ | refine cell_up ?_)) (by decide) (by decide)).mono ?_
  rintro e w' ⟨rfl, rfl⟩
  go_wp2_with fail
  refine (has_lit (t := false) [1] 2 (by simp only [alloc_size]) rfl rfl (by repeat (first | exact box0 _ _ _ _ _ _ _ | refine cell_up ?_)) (by decide) (by decide)).mono ?_
  rintro e w' ⟨rfl, rfl⟩
  go_wp2_with fail
  go_ret
  exact ⟨rfl, (by repeat (first | exact Below.refl _ _ | (refine Below.alloc ?_ (by first | exact Nat.le_refl _ | (simp only [alloc_size]; omega)) _)))⟩
set_option maxRecDepth 100000 in
set_option maxHeartbeats 1000000 in
theorem node_bad_2_n0b1s1 {w : World} {n : Int} {Ab An Ap : Option Addr} {nb cb nn cn np cp : Nat} (hn0 : (n != 0) = false) (hb1 : 0 < nb) (hs1 : 0 < nn) :
    Calls Try.prog 62 #[.agg #[.int .i64 2, .int .i64 n, .slice Ab nb cb, .slice An nn cn, .slice Ap np cp]] w fun e w' => e = .returned (.int .i64 6) ∧ Below w.heap.size w w' := by
  have hmf := makeF
  have hb1' : (0 : Int) < (nb : Int) := by omega
  have hs1' : (0 : Int) < (nn : Int) := by omega
  go_enter Try.func62, Try.ntmps62
  go_wp2_with fail
  refine (has_lit (t := true) [1, 2, 3, 4] 2 (by simp only [alloc_size]) rfl rfl (by repeat (first | exact box0 _ _ _ _ _ _ _ | refine cell_up ?_)) (by decide) (by decide)).mono ?_
  rintro e w' ⟨rfl, rfl⟩
  go_wp2_with fail
  refine (has_lit (t := true) [2] 2 (by simp only [alloc_size]) rfl rfl (by repeat (first | exact box0 _ _ _ _ _ _ _ | refine cell_up ?_)) (by decide) (by decide)).mono ?_
  rintro e w' ⟨rfl, rfl⟩
  go_wp2_with fail
  refine (has_lit (t := false) [4] 2 (by simp only [alloc_size]) rfl rfl (by repeat (first | exact box0 _ _ _ _ _ _ _ | refine cell_up ?_)) (by decide) (by decide)).mono ?_
  rintro e w' ⟨rfl, rfl⟩
  go_wp2_with fail
  go_ret
  exact ⟨rfl, (by repeat (first | exact Below.refl _ _ | (refine Below.alloc ?_ (by first | exact Nat.le_refl _ | (simp only [alloc_size]; omega)) _)))⟩
set_option maxRecDepth 100000 in
set_option maxHeartbeats 1000000 in
theorem node_bad_2_n0b1s0p1 {w : World} {n : Int} {Ab An Ap : Option Addr} {nb cb nn cn np cp : Nat} (hn0 : (n != 0) = false) (hb1 : 0 < nb) (hs0 : nn = 0) (hp1 : 0 < np) :
    Calls Try.prog 62 #[.agg #[.int .i64 2, .int .i64 n, .slice Ab nb cb, .slice An nn cn, .slice Ap np cp]] w fun e w' => e = .returned (.int .i64 6) ∧ Below w.heap.size w w' := by
  have hmf := makeF
  have hb1' : (0 : Int) < (nb : Int) := by omega
  subst hs0
  have hp1' : (0 : Int) < (np : Int) := by omega
  go_enter Try.func62, Try.ntmps62
  go_wp2_with fail
  refine (has_lit (t := true) [1, 2, 3, 4] 2 (by simp only [alloc_size]) rfl rfl (by repeat (first | exact box0 _ _ _ _ _ _ _ | refine cell_up ?_)) (by decide) (by decide)).mono ?_
  rintro e w' ⟨rfl, rfl⟩
  go_wp2_with fail
  refine (has_lit (t := true) [2] 2 (by simp only [alloc_size]) rfl rfl (by repeat (first | exact box0 _ _ _ _ _ _ _ | refine cell_up ?_)) (by decide) (by decide)).mono ?_
  rintro e w' ⟨rfl, rfl⟩
  go_wp2_with fail
  refine (has_lit (t := false) [3, 4] 2 (by simp only [alloc_size]) rfl rfl (by repeat (first | exact box0 _ _ _ _ _ _ _ | refine cell_up ?_)) (by decide) (by decide)).mono ?_
  rintro e w' ⟨rfl, rfl⟩
  go_wp2_with fail
  go_ret
  exact ⟨rfl, (by repeat (first | exact Below.refl _ _ | (refine Below.alloc ?_ (by first | exact Nat.le_refl _ | (simp only [alloc_size]; omega)) _)))⟩
set_option maxRecDepth 100000 in
set_option maxHeartbeats 1000000 in
theorem node_bad_2_n0b0s1 {w : World} {n : Int} {Ab An Ap : Option Addr} {nb cb nn cn np cp : Nat} (hn0 : (n != 0) = false) (hb0 : nb = 0) (hs1 : 0 < nn) :
    Calls Try.prog 62 #[.agg #[.int .i64 2, .int .i64 n, .slice Ab nb cb, .slice An nn cn, .slice Ap np cp]] w fun e w' => e = .returned (.int .i64 6) ∧ Below w.heap.size w w' := by
  have hmf := makeF
  subst hb0
  have hs1' : (0 : Int) < (nn : Int) := by omega
  go_enter Try.func62, Try.ntmps62
  go_wp2_with fail
  refine (has_lit (t := true) [1, 2, 3, 4] 2 (by simp only [alloc_size]) rfl rfl (by repeat (first | exact box0 _ _ _ _ _ _ _ | refine cell_up ?_)) (by decide) (by decide)).mono ?_
  rintro e w' ⟨rfl, rfl⟩
  go_wp2_with fail
  refine (has_lit (t := false) [4] 2 (by simp only [alloc_size]) rfl rfl (by repeat (first | exact box0 _ _ _ _ _ _ _ | refine cell_up ?_)) (by decide) (by decide)).mono ?_
  rintro e w' ⟨rfl, rfl⟩
  go_wp2_with fail
  go_ret
  exact ⟨rfl, (by repeat (first | exact Below.refl _ _ | (refine Below.alloc ?_ (by first | exact Nat.le_refl _ | (simp only [alloc_size]; omega)) _)))⟩
set_option maxRecDepth 100000 in
set_option maxHeartbeats 1000000 in
theorem node_bad_2_n0b0s0p1 {w : World} {n : Int} {Ab An Ap : Option Addr} {nb cb nn cn np cp : Nat} (hn0 : (n != 0) = false) (hb0 : nb = 0) (hs0 : nn = 0) (hp1 : 0 < np) :
    Calls Try.prog 62 #[.agg #[.int .i64 2, .int .i64 n, .slice Ab nb cb, .slice An nn cn, .slice Ap np cp]] w fun e w' => e = .returned (.int .i64 6) ∧ Below w.heap.size w w' := by
  have hmf := makeF
  subst hb0
  subst hs0
  have hp1' : (0 : Int) < (np : Int) := by omega
  go_enter Try.func62, Try.ntmps62
  go_wp2_with fail
  refine (has_lit (t := true) [1, 2, 3, 4] 2 (by simp only [alloc_size]) rfl rfl (by repeat (first | exact box0 _ _ _ _ _ _ _ | refine cell_up ?_)) (by decide) (by decide)).mono ?_
  rintro e w' ⟨rfl, rfl⟩
  go_wp2_with fail
  refine (has_lit (t := false) [3, 4] 2 (by simp only [alloc_size]) rfl rfl (by repeat (first | exact box0 _ _ _ _ _ _ _ | refine cell_up ?_)) (by decide) (by decide)).mono ?_
  rintro e w' ⟨rfl, rfl⟩
  go_wp2_with fail
  go_ret
  exact ⟨rfl, (by repeat (first | exact Below.refl _ _ | (refine Below.alloc ?_ (by first | exact Nat.le_refl _ | (simp only [alloc_size]; omega)) _)))⟩
end Go.Proofs.Ytolognhjdmkohaa
