/-
  Walks of value.checkNode.
-/
import Derived.Test.YtolognhjdmkohaaJ5
namespace Go.Proofs.Ytolognhjdmkohaa
open Go.RowKit
set_option linter.unusedVariables false
set_option linter.unusedSimpArgs false

set_option maxRecDepth 100000 in
set_option maxHeartbeats 1000000 in
theorem node_ok_2_n0b1s0p0 {w : World} {n : Int} {Ab An Ap : Option Addr} {nb cb nn cn np cp : Nat} {ns : List (List UInt8)} (hr : Rd w w.heap.size 1 An nn (sv ns)) (hncap : nn ≤ cn) (hnn : nn ≤ 9223372036854775807) (hx : Small ns) (hn0 : (n != 0) = false) (hb1 : 0 < nb) (hs0 : nn = 0) (hp0 : np = 0) :
    Calls Try.prog 62 #[.agg #[.int .i64 2, .int .i64 n, .slice Ab nb cb, .slice An nn cn, .slice Ap np cp]] w fun e w' => e = .returned (.int .i64 (tailC ns np)) ∧ Below w.heap.size w w' := by
  have hmf := makeF
  have HL := Lib.hid (show ns.length = nn by have := hr.len; rw [sv_len] at this; exact this)
  have HR := Lib.hid hr
  have HX := Lib.hid hx
  clear hr hx
  have hb1' : (0 : Int) < (nb : Int) := by omega
  have hs0' : ¬ (0 : Int) < (nn : Int) := by omega
  have hs0'' : ¬ 0 < nn := by omega
  clear hs0
  have hp0' : ¬ (0 : Int) < (np : Int) := by omega
  have hp0'' : ¬ 0 < np := by omega
  clear hp0
  go_enter Try.func62, Try.ntmps62
  go_wp2_with fail
  refine (has_lit (t := true) [1, 2, 3, 4] 2 (by simp only [alloc_size]) rfl rfl (by repeat (first | exact box0 _ _ _ _ _ _ _ | refine cell_up ?_)) (by decide) (by decide)).mono ?_
  rintro e w' ⟨rfl, rfl⟩
  go_wp2_with fail
  refine (has_lit (t := true) [2] 2 (by simp only [alloc_size]) rfl rfl (by repeat (first | exact box0 _ _ _ _ _ _ _ | refine cell_up ?_)) (by decide) (by decide)).mono ?_
  rintro e w' ⟨rfl, rfl⟩
  go_wp2_with fail
  refine (has_lit (t := false) [4] 2 (by simp only [alloc_size]) rfl rfl (by repeat (first | exact box0 _ _ _ _ _ _ _ | refine cell_up ?_)) (by decide) (by decide)).mono ?_
  rintro e w' ⟨rfl, rfl⟩
  have h600 : ¬ 600 < np := by omega
  have h600' : ¬ (600 : Int) < (np : Int) := by omega
  have HN6 := Lib.hid h600
  go_wp2_with fail
  refine (containsNames_calls (xs := ns) ((HR.out.below (by repeat (first | exact Below.refl _ _ | (refine Below.alloc ?_ (by first | exact Nat.le_refl _ | (simp only [alloc_size]; omega)) _)))).more (by simp only [alloc_size]; omega)) hnn HX.out).mono ?_
  rintro e w2 ⟨rfl, hb2⟩
  have HB2 := Lib.hid (show Below w.heap.size w w2 from chain (by repeat (first | exact Below.refl _ _ | (refine Below.alloc ?_ (by first | exact Nat.le_refl _ | (simp only [alloc_size]; omega)) _))) hb2)
  have hbox : w2.cell? ⟨w.heap.size, 3, none⟩ = some (.slice An nn cn) := (hb2.cell (by simp only [alloc_size]; omega)).trans (by repeat (first | exact box3 _ _ _ _ _ _ _ | refine cell_up ?_))
  clear hb2
  by_cases hall : ns.all isName = true
  · have HALL := Lib.hid hall
    rw [HALL.out]
    clear hall
    go_wp2_with fail
    go_loop [76] (DupRel ns) (fun k => nn - (intOf k).toNat)
    case atStart => exact ⟨0, Nat.zero_le _, rfl, by simp⟩
    case round =>
      obtain ⟨i, hi, rfl, hd⟩ := hrel
      rw [HL.out] at hi
      have HD := Lib.hid hd
      clear hd
      by_cases hlt : i < nn
      · omega
      · have HT := Lib.hid (tail_0 HN6.out HALL.out (by have := HD.out; rwa [List.take_of_length_le (by rw [HL.out]; omega)] at this))
        go_wp2_with fail
        go_ret
        exact ⟨by rw [HT.out]; rfl, HB2.out⟩
  · have HALL := Lib.hid (show ns.all isName = false by simpa using hall)
    have HT := Lib.hid (tail_7 HN6.out HALL.out)
    rw [HALL.out]
    clear hall
    go_wp2_with fail
    go_ret
    exact ⟨by rw [HT.out]; rfl, HB2.out⟩
set_option maxRecDepth 100000 in
set_option maxHeartbeats 1000000 in
theorem node_ok_2_n0b0s0p0 {w : World} {n : Int} {Ab An Ap : Option Addr} {nb cb nn cn np cp : Nat} {ns : List (List UInt8)} (hr : Rd w w.heap.size 1 An nn (sv ns)) (hncap : nn ≤ cn) (hnn : nn ≤ 9223372036854775807) (hx : Small ns) (hn0 : (n != 0) = false) (hb0 : nb = 0) (hs0 : nn = 0) (hp0 : np = 0) :
    Calls Try.prog 62 #[.agg #[.int .i64 2, .int .i64 n, .slice Ab nb cb, .slice An nn cn, .slice Ap np cp]] w fun e w' => e = .returned (.int .i64 (tailC ns np)) ∧ Below w.heap.size w w' := by
  have hmf := makeF
  have HL := Lib.hid (show ns.length = nn by have := hr.len; rw [sv_len] at this; exact this)
  have HR := Lib.hid hr
  have HX := Lib.hid hx
  clear hr hx
  have hb0' : ¬ (0 : Int) < (nb : Int) := by omega
  have hb0'' : ¬ 0 < nb := by omega
  clear hb0
  have hs0' : ¬ (0 : Int) < (nn : Int) := by omega
  have hs0'' : ¬ 0 < nn := by omega
  clear hs0
  have hp0' : ¬ (0 : Int) < (np : Int) := by omega
  have hp0'' : ¬ 0 < np := by omega
  clear hp0
  go_enter Try.func62, Try.ntmps62
  go_wp2_with fail
  refine (has_lit (t := true) [1, 2, 3, 4] 2 (by simp only [alloc_size]) rfl rfl (by repeat (first | exact box0 _ _ _ _ _ _ _ | refine cell_up ?_)) (by decide) (by decide)).mono ?_
  rintro e w' ⟨rfl, rfl⟩
  go_wp2_with fail
  refine (has_lit (t := false) [4] 2 (by simp only [alloc_size]) rfl rfl (by repeat (first | exact box0 _ _ _ _ _ _ _ | refine cell_up ?_)) (by decide) (by decide)).mono ?_
  rintro e w' ⟨rfl, rfl⟩
  have h600 : ¬ 600 < np := by omega
  have h600' : ¬ (600 : Int) < (np : Int) := by omega
  have HN6 := Lib.hid h600
  go_wp2_with fail
  refine (containsNames_calls (xs := ns) ((HR.out.below (by repeat (first | exact Below.refl _ _ | (refine Below.alloc ?_ (by first | exact Nat.le_refl _ | (simp only [alloc_size]; omega)) _)))).more (by simp only [alloc_size]; omega)) hnn HX.out).mono ?_
  rintro e w2 ⟨rfl, hb2⟩
  have HB2 := Lib.hid (show Below w.heap.size w w2 from chain (by repeat (first | exact Below.refl _ _ | (refine Below.alloc ?_ (by first | exact Nat.le_refl _ | (simp only [alloc_size]; omega)) _))) hb2)
  have hbox : w2.cell? ⟨w.heap.size, 3, none⟩ = some (.slice An nn cn) := (hb2.cell (by simp only [alloc_size]; omega)).trans (by repeat (first | exact box3 _ _ _ _ _ _ _ | refine cell_up ?_))
  clear hb2
  by_cases hall : ns.all isName = true
  · have HALL := Lib.hid hall
    rw [HALL.out]
    clear hall
    go_wp2_with fail
    go_loop [76] (DupRel ns) (fun k => nn - (intOf k).toNat)
    case atStart => exact ⟨0, Nat.zero_le _, rfl, by simp⟩
    case round =>
      obtain ⟨i, hi, rfl, hd⟩ := hrel
      rw [HL.out] at hi
      have HD := Lib.hid hd
      clear hd
      by_cases hlt : i < nn
      · omega
      · have HT := Lib.hid (tail_0 HN6.out HALL.out (by have := HD.out; rwa [List.take_of_length_le (by rw [HL.out]; omega)] at this))
        go_wp2_with fail
        go_ret
        exact ⟨by rw [HT.out]; rfl, HB2.out⟩
  · have HALL := Lib.hid (show ns.all isName = false by simpa using hall)
    have HT := Lib.hid (tail_7 HN6.out HALL.out)
    rw [HALL.out]
    clear hall
    go_wp2_with fail
    go_ret
    exact ⟨by rw [HT.out]; rfl, HB2.out⟩
end Go.Proofs.Ytolognhjdmkohaa
