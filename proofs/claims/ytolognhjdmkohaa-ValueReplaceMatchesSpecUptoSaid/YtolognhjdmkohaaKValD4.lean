/-
  Walks of value.checkNode.
-/
import Derived.Test.YtolognhjdmkohaaJ5
namespace Go.Proofs.Ytolognhjdmkohaa
open Go.RowKit
set_option linter.unusedVariables false
set_option linter.unusedSimpArgs false

set_option maxRecDepth 100000 in
set_option maxHeartbeats 1000000 in
theorem node_ok_4_n0b0s1p1 {w : World} {n : Int} {Ab An Ap : Option Addr} {nb cb nn cn np cp : Nat} {ns : List (List UInt8)} (hr : Rd w w.heap.size 1 An nn (sv ns)) (hncap : nn ≤ cn) (hnn : nn ≤ 9223372036854775807) (hx : Small ns) (hn0 : (n != 0) = false) (hb0 : nb = 0) (hs1 : 0 < nn) (hp1 : 0 < np) (heq : nn = np) :
    Calls Try.prog 62 #[.agg #[.int .i64 4, .int .i64 n, .slice Ab nb cb, .slice An nn cn, .slice Ap np cp]] w fun e w' => e = .returned (.int .i64 (tailC ns np)) ∧ Below w.heap.size w w' := by
  have hmf := makeF
  have HL := Lib.hid (show ns.length = nn by have := hr.len; rw [sv_len] at this; exact this)
  have HR := Lib.hid hr
  have HX := Lib.hid hx
  clear hr hx
  have hne' : ((nn : Int) != (np : Int)) = false := by rw [bne_eq_false_iff_eq]; omega
  have hle := Nat.le_of_eq heq
  clear heq
  have hb0' : ¬ (0 : Int) < (nb : Int) := by omega
  have hb0'' : ¬ 0 < nb := by omega
  clear hb0
  have hs1' : (0 : Int) < (nn : Int) := by omega
  have hp1' : (0 : Int) < (np : Int) := by omega
  go_enter Try.func62, Try.ntmps62
  go_wp2_with fail
  refine (has_lit (t := true) [1, 2, 3, 4] 4 (by simp only [alloc_size]) rfl rfl (by repeat (first | exact box0 _ _ _ _ _ _ _ | refine cell_up ?_)) (by decide) (by decide)).mono ?_
  rintro e w' ⟨rfl, rfl⟩
  go_wp2_with fail
  refine (has_lit (t := true) [4] 4 (by simp only [alloc_size]) rfl rfl (by repeat (first | exact box0 _ _ _ _ _ _ _ | refine cell_up ?_)) (by decide) (by decide)).mono ?_
  rintro e w' ⟨rfl, rfl⟩
  go_wp2_with fail
  refine (has_lit (t := true) [3, 4] 4 (by simp only [alloc_size]) rfl rfl (by repeat (first | exact box0 _ _ _ _ _ _ _ | refine cell_up ?_)) (by decide) (by decide)).mono ?_
  rintro e w' ⟨rfl, rfl⟩
  go_wp2_with fail
  refine (has_lit (t := true) [4] 4 (by simp only [alloc_size]) rfl rfl (by repeat (first | exact box0 _ _ _ _ _ _ _ | refine cell_up ?_)) (by decide) (by decide)).mono ?_
  rintro e w' ⟨rfl, rfl⟩
  by_cases h600 : 600 < np
  · have HT := Lib.hid (tail_14 (ns := ns) h600)
    have h600' : (600 : Int) < (np : Int) := by omega
    go_wp2_with fail
    go_ret
    exact ⟨by rw [HT.out]; rfl, (by repeat (first | exact Below.refl _ _ | (refine Below.alloc ?_ (by first | exact Nat.le_refl _ | (simp only [alloc_size]; omega)) _)))⟩
  · have h600' : ¬ (600 : Int) < (np : Int) := by omega
    have HN6 := Lib.hid h600
    go_wp2_with fail
    refine (containsNames_calls (xs := ns) ((HR.out.below (by repeat (first | exact Below.refl _ _ | (refine Below.alloc ?_ (by first | exact Nat.le_refl _ | (simp only [alloc_size]; omega)) _)))).more (by simp only [alloc_size]; omega)) hnn HX.out).mono ?_
    rintro e w2 ⟨rfl, hb2⟩
    have HB2 := Lib.hid (show Below w.heap.size w w2 from chain (by repeat (first | exact Below.refl _ _ | (refine Below.alloc ?_ (by first | exact Nat.le_refl _ | (simp only [alloc_size]; omega)) _))) hb2)
    have hbox : w2.cell? ⟨w.heap.size, 3, none⟩ = some (.slice An nn cn) := (hb2.cell (by simp only [alloc_size]; omega)).trans (by repeat (first | exact box3 _ _ _ _ _ _ _ | refine cell_up ?_))
    clear hb2
    by_cases hall : ns.all isName = true
    · have HALL := Lib.hid hall
      rw [HALL.out]
      clear hall
      go_wp2_with fail
      go_loop [76] (DupRel ns) (fun k => nn - (intOf k).toNat)
      case atStart => exact ⟨0, Nat.zero_le _, rfl, by simp⟩
      case round =>
        obtain ⟨i, hi, rfl, hd⟩ := hrel
        rw [HL.out] at hi
        have HD := Lib.hid hd
        clear hd
        by_cases hlt : i < nn
        · obtain ⟨b, o, s, rfl, hb, hy, hc⟩ := sv_at HR.out hlt
          have HY := Lib.hid hy
          have hc' : w2.cell? ⟨b, o + i, none⟩ = some (.string s) := (HB2.out.cell (by exact hb)).trans hc
          have HRW := Lib.hid ((HR.out.below HB2.out).cut (k := 0) (m := i) (c := cn) (by omega) hncap)
          have hcut := run_cut_h (P := Try.prog) slS (some ⟨b, o, none⟩) nn cn i (by omega)
          have hli : (i : Int) < (nn : Int) := by omega
          have h0 : (0 : Int) ≤ (i : Int) := by omega
          clear hy hc
          go_wp2_with fail
          refine (containsStrs_calls (xs := ns.take i) (by have := HRW.out; rwa [sv_cut] at this) (by omega)).mono ?_
          rintro e w3 ⟨rfl, rfl⟩
          clear hcut
          by_cases hdup : hasB (ns.take i) s.data.toList = true
          · have HDUP := Lib.hid hdup
            have HT := Lib.hid (tail_8 HN6.out HALL.out (dup_yes HY.out hdup))
            rw [HDUP.out]
            clear hdup
            go_wp2_with fail
            go_ret
            exact ⟨by rw [HT.out]; rfl, HB2.out⟩
          · have HDUP := Lib.hid (show hasB (ns.take i) s.data.toList = false by simpa using hdup)
            rw [HDUP.out]
            clear hdup
            go_wp2_with fail
            go_round
            case rel => exact ⟨i + 1, by rw [HL.out]; omega, by go_num, dup_more HY.out HD.out HDUP.out⟩
            case measure => simp [intOf]; omega
        · have HT := Lib.hid (tail_0 HN6.out HALL.out (by have := HD.out; rwa [List.take_of_length_le (by rw [HL.out]; omega)] at this))
          go_wp2_with fail
          go_ret
          exact ⟨by rw [HT.out]; rfl, HB2.out⟩
    · have HALL := Lib.hid (show ns.all isName = false by simpa using hall)
      have HT := Lib.hid (tail_7 HN6.out HALL.out)
      rw [HALL.out]
      clear hall
      go_wp2_with fail
      go_ret
      exact ⟨by rw [HT.out]; rfl, HB2.out⟩
set_option maxRecDepth 100000 in
set_option maxHeartbeats 1000000 in
theorem node_ok_4_n0b0s1p0 {w : World} {n : Int} {Ab An Ap : Option Addr} {nb cb nn cn np cp : Nat} {ns : List (List UInt8)} (hr : Rd w w.heap.size 1 An nn (sv ns)) (hncap : nn ≤ cn) (hnn : nn ≤ 9223372036854775807) (hx : Small ns) (hn0 : (n != 0) = false) (hb0 : nb = 0) (hs1 : 0 < nn) (hp0 : np = 0) (heq : nn = np) :
    Calls Try.prog 62 #[.agg #[.int .i64 4, .int .i64 n, .slice Ab nb cb, .slice An nn cn, .slice Ap np cp]] w fun e w' => e = .returned (.int .i64 (tailC ns np)) ∧ Below w.heap.size w w' := by
  have hmf := makeF
  have HL := Lib.hid (show ns.length = nn by have := hr.len; rw [sv_len] at this; exact this)
  have HR := Lib.hid hr
  have HX := Lib.hid hx
  clear hr hx
  omega
set_option maxRecDepth 100000 in
set_option maxHeartbeats 1000000 in
theorem node_ok_4_n0b0s0p1 {w : World} {n : Int} {Ab An Ap : Option Addr} {nb cb nn cn np cp : Nat} {ns : List (List UInt8)} (hr : Rd w w.heap.size 1 An nn (sv ns)) (hncap : nn ≤ cn) (hnn : nn ≤ 9223372036854775807) (hx : Small ns) (hn0 : (n != 0) = false) (hb0 : nb = 0) (hs0 : nn = 0) (hp1 : 0 < np) (heq : nn = np) :
    Calls Try.prog 62 #[.agg #[.int .i64 4, .int .i64 n, .slice Ab nb cb, .slice An nn cn, .slice Ap np cp]] w fun e w' => e = .returned (.int .i64 (tailC ns np)) ∧ Below w.heap.size w w' := by
  have hmf := makeF
  have HL := Lib.hid (show ns.length = nn by have := hr.len; rw [sv_len] at this; exact this)
  have HR := Lib.hid hr
  have HX := Lib.hid hx
  clear hr hx
  omega
set_option maxRecDepth 100000 in
set_option maxHeartbeats 1000000 in
theorem node_ok_4_n0b0s0p0 {w : World} {n : Int} {Ab An Ap : Option Addr} {nb cb nn cn np cp : Nat} {ns : List (List UInt8)} (hr : Rd w w.heap.size 1 An nn (sv ns)) (hncap : nn ≤ cn) (hnn : nn ≤ 9223372036854775807) (hx : Small ns) (hn0 : (n != 0) = false) (hb0 : nb = 0) (hs0 : nn = 0) (hp0 : np = 0) (heq : nn = np) :
    Calls Try.prog 62 #[.agg #[.int .i64 4, .int .i64 n, .slice Ab nb cb, .slice An nn cn, .slice Ap np cp]] w fun e w' => e = .returned (.int .i64 (tailC ns np)) ∧ Below w.heap.size w w' := by
  have hmf := makeF
  have HL := Lib.hid (show ns.length = nn by have := hr.len; rw [sv_len] at this; exact this)
  have HR := Lib.hid hr
  have HX := Lib.hid hx
  clear hr hx
  have hne' : ((nn : Int) != (np : Int)) = false := by rw [bne_eq_false_iff_eq]; omega
  have hle := Nat.le_of_eq heq
  clear heq
  have hb0' : ¬ (0 : Int) < (nb : Int) := by omega
  have hb0'' : ¬ 0 < nb := by omega
  clear hb0
  have hs0' : ¬ (0 : Int) < (nn : Int) := by omega
  have hs0'' : ¬ 0 < nn := by omega
  clear hs0
  have hp0' : ¬ (0 : Int) < (np : Int) := by omega
  have hp0'' : ¬ 0 < np := by omega
  clear hp0
  go_enter Try.func62, Try.ntmps62
  go_wp2_with fail
  refine (has_lit (t := true) [1, 2, 3, 4] 4 (by simp only [alloc_size]) rfl rfl (by repeat (first | exact box0 _ _ _ _ _ _ _ | refine cell_up ?_)) (by decide) (by decide)).mono ?_
  rintro e w' ⟨rfl, rfl⟩
  go_wp2_with fail
  refine (has_lit (t := true) [4] 4 (by simp only [alloc_size]) rfl rfl (by repeat (first | exact box0 _ _ _ _ _ _ _ | refine cell_up ?_)) (by decide) (by decide)).mono ?_
  rintro e w' ⟨rfl, rfl⟩
  have h600 : ¬ 600 < np := by omega
  have h600' : ¬ (600 : Int) < (np : Int) := by omega
  have HN6 := Lib.hid h600
  go_wp2_with fail
  refine (containsNames_calls (xs := ns) ((HR.out.below (by repeat (first | exact Below.refl _ _ | (refine Below.alloc ?_ (by first | exact Nat.le_refl _ | (simp only [alloc_size]; omega)) _)))).more (by simp only [alloc_size]; omega)) hnn HX.out).mono ?_
  rintro e w2 ⟨rfl, hb2⟩
  have HB2 := Lib.hid (show Below w.heap.size w w2 from chain (by repeat (first | exact Below.refl _ _ | (refine Below.alloc ?_ (by first | exact Nat.le_refl _ | (simp only [alloc_size]; omega)) _))) hb2)
  have hbox : w2.cell? ⟨w.heap.size, 3, none⟩ = some (.slice An nn cn) := (hb2.cell (by simp only [alloc_size]; omega)).trans (by repeat (first | exact box3 _ _ _ _ _ _ _ | refine cell_up ?_))
  clear hb2
  by_cases hall : ns.all isName = true
  · have HALL := Lib.hid hall
    rw [HALL.out]
    clear hall
    go_wp2_with fail
    go_loop [76] (DupRel ns) (fun k => nn - (intOf k).toNat)
    case atStart => exact ⟨0, Nat.zero_le _, rfl, by simp⟩
    case round =>
      obtain ⟨i, hi, rfl, hd⟩ := hrel
      rw [HL.out] at hi
      have HD := Lib.hid hd
      clear hd
      by_cases hlt : i < nn
      · omega
      · have HT := Lib.hid (tail_0 HN6.out HALL.out (by have := HD.out; rwa [List.take_of_length_le (by rw [HL.out]; omega)] at this))
        go_wp2_with fail
        go_ret
        exact ⟨by rw [HT.out]; rfl, HB2.out⟩
  · have HALL := Lib.hid (show ns.all isName = false by simpa using hall)
    have HT := Lib.hid (tail_7 HN6.out HALL.out)
    rw [HALL.out]
    clear hall
    go_wp2_with fail
    go_ret
    exact ⟨by rw [HT.out]; rfl, HB2.out⟩
end Go.Proofs.Ytolognhjdmkohaa
