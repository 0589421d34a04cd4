/-
  The contract of calendar.Date.
-/
import Derived.Test.YtmhjcdencfbjpaaCalB
namespace Go.Proofs.Ytmhjcdencfbjpaa
open Go.RowKit
set_option linter.unusedVariables false
set_option linter.unusedSimpArgs false

theorem check_yes (n : Int) (w : World) (h1 : 1 ≤ n) (h2 : n ≤ 3652059) : Calls Try.prog 28 #[.int .i64 n] w fun e w' => e = .returned (.agg #[.int .i64 0, .int .i64 0]) ∧ w.alloc (Obj.cells #[Value.int IntKind.i64 0, Value.int IntKind.i64 0] 24) = w' := by
  go_enter Try.func28, Try.ntmps28
  go_wp2_with (go_at_call 24; refine (fault_calls _ _ _).mono ?_; rintro e w' ⟨rfl, rfl⟩)
  refine bodyPost_ret (v := .agg #[.int .i64 0, .int .i64 0]) (by simp [results, Try.results28, go_sem]) rfl ?_
  exact ⟨rfl, rfl⟩
theorem check_no (n : Int) (w : World) (h : n < 1 ∨ 3652059 < n) : Calls Try.prog 28 #[.int .i64 n] w fun e w' => e = .returned (.agg #[.int .i64 4, .int .i64 (-1)]) ∧ (w.alloc (.cells #[.int .i64 4, .int .i64 (-1)] 24)).alloc (.cells #[.int .i64 4, .int .i64 (-1)] 24) = w' := by
  rcases h with h | h
  · go_enter Try.func28, Try.ntmps28
    go_wp2_with (go_at_call 24; refine (fault_calls _ _ _).mono ?_; rintro e w' ⟨rfl, rfl⟩)
    refine bodyPost_ret (v := .agg #[.int .i64 4, .int .i64 (-1)]) (by simp [results, Try.results28, go_sem]) rfl ?_
    exact ⟨rfl, rfl⟩
  · have h' : ¬ n < 1 := by omega
    go_enter Try.func28, Try.ntmps28
    go_wp2_with (go_at_call 24; refine (fault_calls _ _ _).mono ?_; rintro e w' ⟨rfl, rfl⟩)
    refine bodyPost_ret (v := .agg #[.int .i64 4, .int .i64 (-1)]) (by simp [results, Try.results28, go_sem]) rfl ?_
    exact ⟨rfl, rfl⟩

theorem fault_und : Try.prog.underlying 24 = some (.struct (Try.prog.fieldsOf 24)) := by kernel_rfl
/-- what calendar.Date answers out of its range -/
def DateBad (w : World) (e : Ending) (w' : World) : Prop := e = .returned (.tuple #[.int .i64 0, .int .i64 0, .int .i64 0, .agg #[.int .i64 4, .int .i64 (-1)]]) ∧ Below w.heap.size w w'
/-- and within it -/
def DateOk (n : Int) (w : World) (e : Ending) (w' : World) : Prop :=
  ∃ (y : Int) (m : Nat) (d : Int), e = .returned (.tuple #[.int .i64 y, .int .i64 (m : Int), .int .i64 d, .agg #[.int .i64 0, .int .i64 0]]) ∧ Valid y m d ∧ num y m d = n ∧ Below w.heap.size w w'
set_option maxRecDepth 100000 in
set_option maxHeartbeats 400000 in
theorem date_no (n : Int) (w : World) (h : n < 1 ∨ 3652059 < n) : Calls Try.prog 15 #[.int .i64 n] w (DateBad w) := by
  go_enter Try.func15, Try.ntmps15
  go_wp2_with (go_at_call 28; refine (check_no _ _ h).mono ?_; rintro e w' ⟨rfl, rfl⟩)
  go_region
  all_goals go_wp2
  refine bodyPost_ret (v := .tuple #[.int .i64 0, .int .i64 0, .int .i64 0, .agg #[.int .i64 4, .int .i64 (-1)]]) (by simp [results, Try.results15, go_sem]) rfl ?_
  exact ⟨rfl, by repeat (first | exact Below.refl _ _ | refine Below.drew ?_ | refine Below.alloc ?_ (by simp; try omega) _)⟩

def DYRel (n : Int) (t : Value) : Prop := ∃ y : Int, 1 ≤ y ∧ y ≤ 9999 ∧ bef y < n ∧ t = .int .i64 y
def DMRel (n y : Int) (r k : Value) : Prop := ∃ m : Nat, 1 ≤ m ∧ m ≤ 12 ∧ cum y (m - 1) < n - bef y ∧ k = .int .i64 (m : Int) ∧ r = .int .i64 (n - bef y - cum y (m - 1))
theorem bef_guess (n : Int) (h : 1 ≤ n) (h2 : n ≤ 3652059) : bef (n / 366 + 1) < n ∧ 1 ≤ n / 366 + 1 ∧ n / 366 + 1 ≤ 9999 := by unfold bef; omega
theorem date_fin {w w' : World} {n y : Int} {m : Nat} (h1 : 1 ≤ y) (h2 : y ≤ 9999) (h3 : 1 ≤ m) (h4 : m ≤ 12) (h5 : cum y (m - 1) < n - bef y) (h6 : n - bef y - cum y (m - 1) ≤ dim y (m : Int)) (hb : Below w.heap.size w w') :
    DateOk n w (.returned (.tuple #[.int .i64 y, .int .i64 (m : Int), .int .i64 (n - bef y - cum y (m - 1)), .agg #[.int .i64 0, .int .i64 0]])) w' :=
  ⟨y, m, _, rfl, ⟨h1, h2, h3, h4, by omega, h6⟩, by unfold num; omega, hb⟩

set_option maxRecDepth 100000 in
set_option maxHeartbeats 1000000 in
theorem date_yes (n : Int) (w : World) (h1 : 1 ≤ n) (h2 : n ≤ 3652059) : Calls Try.prog 15 #[.int .i64 n] w (DateOk n w) := by
  obtain ⟨g0, g1, g2⟩ := bef_guess n h1 h2
  go_enter Try.func15, Try.ntmps15
  go_wp2_with (go_at_call 28; refine (check_yes _ _ h1 h2).mono ?_; rintro e w' ⟨rfl, rfl⟩)
  go_loop [7] (fun t => DYRel n t) (fun t => (9999 - intOf t).toNat)
  case atStart => exact ⟨_, g1, g2, g0, rfl⟩
  case round =>
    obtain ⟨y, hy1, hy2, hy3, rfl⟩ := hrel
    clear g0 g1 g2
    have hby := bef_bd y hy1 (by omega)
    have hby1 := bef_bd (y + 1) (by omega) (by omega)
    by_cases hc : y < 9999 ∧ bef (y + 1) < n
    · obtain ⟨hlt, hd⟩ := hc
      go_wp2_with (go_at_call 29; refine (before_calls _ _ (by omega) (by omega)).mono ?_; rintro e w' ⟨rfl, rfl⟩)
      go_round
      case rel => exact ⟨y + 1, by omega, by omega, hd, rfl⟩
      case measure => simp [intOf]; omega
    · have hz : n ≤ bef (y + 1) := by
        by_cases e : y = 9999
        · subst e; have := bef_max; show n ≤ bef 10000; omega
        · omega
      have hsucc := bef_succ y
      have hlp := lp_01 y
      have c12 := cum_12 y
      have HZ := Lib.hid (show n - bef y ≤ cum y 12 by omega)
      have hnb : 0 < n - bef y ∧ n - bef y ≤ 366 := by omega
      by_cases hlt : y < 9999
      · have hd : ¬ bef (y + 1) < n := by omega
        clear hc hsucc c12 hz
        go_wp2_with (go_at_call 29; refine (before_calls _ _ (by omega) (by omega)).mono ?_; rintro e w' ⟨rfl, rfl⟩)
        go_loop [0, 8] (fun r k => DMRel n y r k) (fun _ k => (12 - intOf k).toNat)
        case atStart => exact ⟨1, by omega, by omega, by simp [cum]; omega, rfl, by simp [cum]⟩
        case round =>
          obtain ⟨m, hm1, hm2, hm3, rfl, rfl⟩ := hrel
          have hst := cum_step y m hm1
          have hdb := dim_bd y (m : Int)
          have hcb := cum_bd y (m - 1) (by omega)
          by_cases hgo : dim y (m : Int) < n - bef y - cum y (m - 1)
          · have hm12 : m < 12 := by
              have := HZ.out
              rcases Nat.lt_or_ge m 12 with h | h
              · exact h
              · obtain rfl : m = 12 := by omega
                omega
            have HN := Lib.hid (show n - bef y - cum y (m - 1) - dim y (m : Int) = n - bef y - cum y m by omega)
            have HM := Lib.hid (show cum y m < n - bef y by omega)
            clear hst
            generalize cum y (m - 1) = q at *
            go_wp2_with (go_at_call 25; refine (monthDays_calls y (m : Int) _ (by omega) (by omega) (by omega) (by omega)).mono ?_; rintro e w' ⟨rfl, rfl⟩)
            go_round
            case rel => exact ⟨m + 1, by omega, by omega, by rw [Nat.add_sub_cancel]; exact HM.out, by go_num, by rw [Nat.add_sub_cancel, ← HN.out]⟩
            case measure => simp [intOf]; omega
          · have HD := Lib.hid (show n - bef y - cum y (m - 1) ≤ dim y (m : Int) by omega)
            have HM3 := Lib.hid hm3
            clear hst hm3
            go_wp2_with (go_at_call 25; refine (monthDays_calls y (m : Int) _ (by omega) (by omega) (by omega) (by omega)).mono ?_; rintro e w' ⟨rfl, rfl⟩)
            refine bodyPost_ret (v := .tuple #[.int .i64 y, .int .i64 (m : Int), .int .i64 (n - bef y - cum y (m - 1)), .agg #[.int .i64 0, .int .i64 0]]) (by simp [results, Try.results15, go_sem]) rfl ?_
            exact date_fin hy1 hy2 hm1 hm2 HM3.out HD.out (by repeat (first | exact Below.refl _ _ | refine Below.drew ?_ | refine Below.alloc ?_ (by simp; try omega) _))
      · clear hc hsucc c12 hz
        go_wp2_with (go_at_call 29; refine (before_calls _ _ (by omega) (by omega)).mono ?_; rintro e w' ⟨rfl, rfl⟩)
        go_loop [0, 8] (fun r k => DMRel n y r k) (fun _ k => (12 - intOf k).toNat)
        case atStart => exact ⟨1, by omega, by omega, by simp [cum]; omega, rfl, by simp [cum]⟩
        case round =>
          obtain ⟨m, hm1, hm2, hm3, rfl, rfl⟩ := hrel
          have hst := cum_step y m hm1
          have hdb := dim_bd y (m : Int)
          have hcb := cum_bd y (m - 1) (by omega)
          by_cases hgo : dim y (m : Int) < n - bef y - cum y (m - 1)
          · have hm12 : m < 12 := by
              have := HZ.out
              rcases Nat.lt_or_ge m 12 with h | h
              · exact h
              · obtain rfl : m = 12 := by omega
                omega
            have HN := Lib.hid (show n - bef y - cum y (m - 1) - dim y (m : Int) = n - bef y - cum y m by omega)
            have HM := Lib.hid (show cum y m < n - bef y by omega)
            clear hst
            generalize cum y (m - 1) = q at *
            go_wp2_with (go_at_call 25; refine (monthDays_calls y (m : Int) _ (by omega) (by omega) (by omega) (by omega)).mono ?_; rintro e w' ⟨rfl, rfl⟩)
            go_round
            case rel => exact ⟨m + 1, by omega, by omega, by rw [Nat.add_sub_cancel]; exact HM.out, by go_num, by rw [Nat.add_sub_cancel, ← HN.out]⟩
            case measure => simp [intOf]; omega
          · have HD := Lib.hid (show n - bef y - cum y (m - 1) ≤ dim y (m : Int) by omega)
            have HM3 := Lib.hid hm3
            clear hst hm3
            go_wp2_with (go_at_call 25; refine (monthDays_calls y (m : Int) _ (by omega) (by omega) (by omega) (by omega)).mono ?_; rintro e w' ⟨rfl, rfl⟩)
            refine bodyPost_ret (v := .tuple #[.int .i64 y, .int .i64 (m : Int), .int .i64 (n - bef y - cum y (m - 1)), .agg #[.int .i64 0, .int .i64 0]]) (by simp [results, Try.results15, go_sem]) rfl ?_
            exact date_fin hy1 hy2 hm1 hm2 HM3.out HD.out (by repeat (first | exact Below.refl _ _ | refine Below.drew ?_ | refine Below.alloc ?_ (by simp; try omega) _))
end Go.Proofs.Ytmhjcdencfbjpaa
