/-
  The contract of calendar.Weekday; the examples of the document hold; the walks of the first laws on days.
-/
import Derived.Test.YtmhjcdencfbjpaaCalF
import Derived.Deep.RegionHeld3
namespace Go.Proofs.Ytmhjcdencfbjpaa
open Go.RowKit
set_option linter.unusedVariables false
set_option linter.unusedSimpArgs false

/-- a fault kept in a variable -/
def FK (w : World) (g : Nat) (a b : Int) : Prop := g < w.heap.size ∧ w.cell? ⟨g, 0, none⟩ = some (.int .i64 a) ∧ w.cell? ⟨g, 1, none⟩ = some (.int .i64 b)
theorem FK.new (w : World) (a b : Int) : FK (w.alloc (.cells #[.int .i64 a, .int .i64 b] 24)) w.heap.size a b := ⟨by simp, by simp, by simp⟩
theorem FK.below {w w' : World} {B g : Nat} {a b : Int} (h : FK w g a b) (hb : Below B w w') (hg : g < B) : FK w' g a b :=
  ⟨Nat.lt_of_lt_of_le h.1 hb.size, (hb.cell (by exact hg)).trans h.2.1, (hb.cell (by exact hg)).trans h.2.2⟩
theorem FK.on {w w' : World} {g : Nat} {a b : Int} (h : FK w g a b) (hb : Below w.heap.size w w') : FK w' g a b := h.below hb h.1
theorem FK.alloc {w : World} {g : Nat} {a b : Int} (h : FK w g a b) (o : Obj) : FK (w.alloc o) g a b := h.on ((Below.refl _ _).alloc (Nat.le_refl _) o)

theorem day_ok (y d : Int) (m : Nat) (w : World) (h : Valid y m d) : Calls Try.prog 12 #[.int .i64 y, .int .i64 (m : Int), .int .i64 d] w fun e w' => e = .returned (.tuple #[.int .i64 (num y m d), .agg #[.int .i64 0, .int .i64 0]]) ∧ Below w.heap.size w w' := by
  refine (day_calls y m d w).mono ?_
  rintro e w' ⟨rfl, hb⟩
  obtain ⟨h1, h2, h3, h4, h5, h6⟩ := h
  rw [dateF_ok (by omega) (by omega) (by omega)]
  refine ⟨?_, hb⟩
  simp only [if_true, Int.toNat_natCast]

theorem valid_1_3_1 : Valid 1 3 1 := ⟨by decide, by decide, by decide, by decide, by decide, by decide⟩
theorem valid_1_1_31 : Valid 1 1 31 := ⟨by decide, by decide, by decide, by decide, by decide, by decide⟩

set_option maxRecDepth 100000 in
set_option maxHeartbeats 400000 in
theorem example_calls (w : World) : Calls Try.prog 11 #[] w fun e w' => e = .returned (.bool true) ∧ Below w.heap.size w w' := by
  go_enter Try.func11, Try.ntmps11
  go_wp2_with fail
  refine (day_ok 1 1 3 _ valid_1_3_1).mono ?_
  rintro e w1 ⟨rfl, hb1⟩
  rw [show num 1 3 1 = 60 by decide]
  have HB1 := Lib.hid hb1
  clear hb1
  go_wp2_with fail
  have hp := print_at valid_1_3_1 (w1.alloc (.cells #[.int .i64 0, .int .i64 0] 24))
  rw [show num 1 3 1 = 60 by decide] at hp
  refine hp.mono ?_
  rintro e w2 ⟨rfl, hb2⟩
  clear hp
  have F1 := Lib.hid ((FK.new w1 0 0).on hb2)
  have HB2 := Lib.hid (chain (chain_alloc HB1.out (.cells #[.int .i64 0, .int .i64 0] 24)) hb2)
  clear hb2
  rw [show dtext 1 3 1 = [48, 48, 48, 49, 45, 48, 51, 45, 48, 49] by decide]
  go_wp2_with fail
  have hp := add_at valid_1_1_31 1 (w2.alloc (.cells #[.int .i64 0, .int .i64 0] 24))
  rw [show num 1 1 31 = 31 by decide, show addF 1 1 31 1 = (59, 0, 0) by decide] at hp
  refine hp.mono ?_
  rintro e w3 ⟨rfl, hb3⟩
  clear hp
  obtain ⟨z1, p1, _⟩ := (F1.out.alloc (.cells #[.int .i64 0, .int .i64 0] 24)).on hb3
  obtain ⟨z2, p2, _⟩ := (FK.new w2 0 0).on hb3
  have HB3 := Lib.hid (chain (chain_alloc HB2.out (.cells #[.int .i64 0, .int .i64 0] 24)) hb3)
  clear hb3
  go_wp2
  go_ret
  exact ⟨rfl, chain_alloc HB3.out _⟩

set_option maxRecDepth 100000 in
set_option maxHeartbeats 400000 in
theorem dayMatches_calls (y m d : Int) (w : World) :
    Calls Try.prog 3 #[.int .i64 y, .int .i64 m, .int .i64 d] w fun e w' => e = .returned (.bool true) ∧ Below w.heap.size w w' := by
  obtain ⟨cd, ix, hr⟩ : ∃ cd ix, dateF y m d = (cd, ix) := ⟨_, _, rfl⟩
  have HR := Lib.hid hr
  have hval : cd = 0 → Valid y m.toNat d := fun h => by
    subst h
    by_cases hy : y < 1 ∨ 9999 < y
    · rw [dateF_y hy] at hr; simp at hr
    · by_cases hm : m < 1 ∨ 12 < m
      · rw [dateF_m hy hm] at hr; simp at hr
      · by_cases hd : d < 1 ∨ dim y m < d
        · rw [dateF_d hy hm hd] at hr; simp at hr
        · refine ⟨by omega, by omega, by omega, by omega, by omega, ?_⟩
          rw [show ((m.toNat : Nat) : Int) = m by omega]; omega
  have HV := Lib.hid hval
  clear hr hval
  by_cases hcd : cd = 0
  · have HM := Lib.hid (show ((m.toNat : Nat) : Int) = m by
      have := (HV.out hcd).2.2.1; omega)
    subst hcd
    obtain ⟨v1, v2, v3, v4, v5, v6⟩ := HV.out rfl
    have hdb := dim_bd y ((m.toNat : Nat) : Int)
    generalize m.toNat = k at *
    have hmk := HM.out
    subst hmk
    go_enter Try.func3, Try.ntmps3
    go_wp2_with fail
    refine (example_calls _).mono ?_
    rintro e w1 ⟨rfl, hb1⟩
    have HB1 := Lib.hid hb1
    clear hb1
    go_wp2_with fail
    refine (day_calls y k d _).mono ?_
    rintro e w2 ⟨rfl, hb2⟩
    have HB2 := Lib.hid (chain HB1.out hb2)
    clear hb2
    rw [HR.out]
    simp only [if_true, Int.toNat_natCast]
    go_wp2_with fail
    refine (dateFault_calls y k d _).mono ?_
    rintro e w3 ⟨rfl, hb3⟩
    rw [HR.out]
    obtain ⟨z1, p1, p1'⟩ := (FK.new w2 0 ix).on hb3
    have HB3 := Lib.hid (chain (chain_alloc HB2.out _) hb3)
    clear hb3
    go_wp2_with fail
    refine (dayOf_calls y d k _ v1 v2 v3 v4 (by omega) (by omega)).mono ?_
    rintro e w4 ⟨rfl, rfl⟩
    go_wp2_with fail
    go_ret
    exact ⟨rfl, chain_alloc HB3.out _⟩
  · have hcd' : (cd != 0) = true := by simp [hcd]
    have hcd2 : (cd == 0) = false := by simp [hcd]
    go_enter Try.func3, Try.ntmps3
    go_wp2_with fail
    refine (example_calls _).mono ?_
    rintro e w1 ⟨rfl, hb1⟩
    have HB1 := Lib.hid hb1
    clear hb1
    go_wp2_with fail
    refine (day_calls y m d _).mono ?_
    rintro e w2 ⟨rfl, hb2⟩
    have HB2 := Lib.hid (chain HB1.out hb2)
    clear hb2
    rw [HR.out]
    simp only [hcd, if_false]
    have HCD := Lib.hid hcd
    clear hcd
    go_wp2_with fail
    refine (dateFault_calls y m d _).mono ?_
    rintro e w3 ⟨rfl, hb3⟩
    rw [HR.out]
    obtain ⟨z1, p1, p1'⟩ := (FK.new w2 cd ix).on hb3
    have HB3 := Lib.hid (chain (chain_alloc HB2.out _) hb3)
    clear hb3
    go_wp2_with fail
    go_ret
    exact ⟨rfl, chain_alloc HB3.out _⟩
end Go.Proofs.Ytmhjcdencfbjpaa
