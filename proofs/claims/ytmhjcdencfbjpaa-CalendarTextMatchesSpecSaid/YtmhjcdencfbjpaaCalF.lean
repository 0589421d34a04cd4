/-
  The contracts of calendar.AddMonths and Weekday; the examples of the document.
-/
import Derived.Test.YtmhjcdencfbjpaaCalE
namespace Go.Proofs.Ytmhjcdencfbjpaa
open Go.RowKit
set_option linter.unusedVariables false
set_option linter.unusedSimpArgs false

/-- every number is the number of a date -/
theorem date_of (n : Nat) : 1 ≤ n → n ≤ 3652059 → ∃ (y : Int) (m : Nat) (d : Int), Valid y m d ∧ num y m d = (n : Int) := by
  induction n with
  | zero => intro h; omega
  | succ n ih =>
    intro h1 h2
    by_cases h0 : n = 0
    · subst h0; exact ⟨1, 1, 1, ⟨by decide, by decide, by decide, by decide, by decide, by decide⟩, by decide⟩
    · obtain ⟨y, m, d, hv, hn⟩ := ih (by omega) (by omega)
      have hx := num_next hv
      by_cases hy : (nextD y m d).1 = 10000
      · exfalso
        have h9 : y = 9999 ∧ m = 12 := by
          have := hv.2.1
          unfold nextD at hy
          split at hy
          · simp only at hy; omega
          · split at hy
            · simp only at hy; omega
            · simp only at hy; omega
        obtain ⟨rfl, rfl⟩ := h9
        have hm := bef_max
        have hyr := num_year hv
        unfold nextD at hx hy
        split at hx
        · rename_i hd; rw [if_pos hd] at hy; simp at hy
        · rename_i hd
          simp only [Nat.reduceAdd, if_true] at hx
          have e : num (9999 + 1) 1 1 = 3652060 := by decide
          rw [e] at hx
          omega
      · exact ⟨_, _, _, next_valid hv hy, by rw [hx, hn]; omega⟩
theorem date_ofI (n : Int) (h1 : 1 ≤ n) (h2 : n ≤ 3652059) : ∃ (y : Int) (m : Nat) (d : Int), Valid y m d ∧ num y m d = n := by
  obtain ⟨k, rfl⟩ := Int.eq_ofNat_of_zero_le (show 0 ≤ n by omega)
  exact date_of k (by omega) (by omega)

theorem date_at {y : Int} {m : Nat} {d : Int} (hv : Valid y m d) (w : World) : Calls Try.prog 15 #[.int .i64 (num y m d)] w fun e w' => e = .returned (.tuple #[.int .i64 y, .int .i64 (m : Int), .int .i64 d, .agg #[.int .i64 0, .int .i64 0]]) ∧ Below w.heap.size w w' := by
  have hr := num_range hv
  refine (date_yes _ w hr.1 hr.2).mono ?_
  rintro e w' ⟨y', m', d', rfl, hv', hn, hb⟩
  obtain ⟨rfl, rfl, rfl⟩ := num_inj hv' hv hn
  exact ⟨rfl, hb⟩
theorem print_at {y : Int} {m : Nat} {d : Int} (hv : Valid y m d) (w : World) : Calls Try.prog 19 #[.int .i64 (num y m d)] w fun e w' => e = .returned (.tuple #[.string ⟨(dtext y m d).toArray⟩, .agg #[.int .i64 0, .int .i64 0]]) ∧ Below w.heap.size w w' := by
  have hr := num_range hv
  refine (print_yes _ w hr.1 hr.2).mono ?_
  rintro e w' ⟨y', m', d', rfl, hv', hn, hb⟩
  obtain ⟨rfl, rfl, rfl⟩ := num_inj hv' hv hn
  exact ⟨rfl, hb⟩

/-- a day of a month that has it, or the last one -/
def mn (a b : Int) : Int := if a ≤ b then a else b
/-- what calendar.AddMonths answers -/
def addF (y : Int) (m : Nat) (d k : Int) : Int × Int × Int :=
  if k < -120000 ∨ 120000 < k then (0, 4, -2)
  else if 12 * (y - 1) + (m : Int) - 1 + k < 0 ∨ 119988 ≤ 12 * (y - 1) + (m : Int) - 1 + k then (0, 4, -3)
  else (num ((12 * (y - 1) + (m : Int) - 1 + k) / 12 + 1) ((12 * (y - 1) + (m : Int) - 1 + k) % 12 + 1).toNat (mn d (dim ((12 * (y - 1) + (m : Int) - 1 + k) / 12 + 1) ((12 * (y - 1) + (m : Int) - 1 + k) % 12 + 1))), 0, 0)
def AddEnd (w : World) (r : Int × Int × Int) (e : Ending) (w' : World) : Prop := e = .returned (.tuple #[.int .i64 r.1, .agg #[.int .i64 r.2.1, .int .i64 r.2.2]]) ∧ Below w.heap.size w w'
theorem add_fin {w w' : World} {yy d b v : Int} {mm : Nat} (h : mn d b = v) (hb : Below w.heap.size w w') : AddEnd w (num yy (mm : Int).toNat (mn d b), 0, 0) (.returned (.tuple #[.int .i64 (num yy mm v), .agg #[.int .i64 0, .int .i64 0]])) w' := by
  rw [h, Int.toNat_natCast]; exact ⟨rfl, hb⟩
set_option maxRecDepth 100000 in
set_option maxHeartbeats 400000 in
theorem add_no (n k : Int) (w : World) (h : n < 1 ∨ 3652059 < n) : Calls Try.prog 20 #[.int .i64 n, .int .i64 k] w (AddEnd w (0, 4, -1)) := by
  go_enter Try.func20, Try.ntmps20
  go_wp2_with fail
  refine (date_no n _ h).mono ?_
  rintro e w1 ⟨rfl, hb1⟩
  obtain ⟨hb0, hf⟩ := fr_after hb1
  clear hb1
  obtain ⟨z, c0, c1, f0, f1⟩ := hf
  go_wp2
  go_region
  all_goals go_wp2
  refine bodyPost_ret (v := .tuple #[.int .i64 0, .agg #[.int .i64 4, .int .i64 (-1)]]) (by simp [results, Try.results20, go_sem, c0, c1, z]) rfl ?_
  exact ⟨rfl, (((hb0.setCell (p := ⟨w.heap.size, 0, none⟩) (Nat.le_refl _) _).setCell (p := ⟨w.heap.size, 1, none⟩) (Nat.le_refl _) _).alloc (by simp [World.setCell]; omega) _).drew⟩
set_option maxRecDepth 100000 in
set_option maxHeartbeats 400000 in
theorem add_at {y : Int} {m : Nat} {d : Int} (hv : Valid y m d) (k : Int) (w : World) : Calls Try.prog 20 #[.int .i64 (num y m d), .int .i64 k] w (AddEnd w (addF y m d k)) := by
  obtain ⟨v1, v2, v3, v4, v5, v6⟩ := hv
  have hdb := dim_bd y (m : Int)
  have HV := Lib.hid (show Valid y m d from ⟨v1, v2, v3, v4, v5, v6⟩)
  by_cases hk : k < -120000 ∨ 120000 < k
  · have HA := Lib.hid (show addF y m d k = (0, 4, -2) by unfold addF; rw [if_pos hk])
    rw [HA.out]
    by_cases hk1 : k < -120000
    · clear hk
      go_enter Try.func20, Try.ntmps20
      go_wp2_with fail
      refine (date_at HV.out _).mono ?_
      rintro e w1 ⟨rfl, hb1⟩
      obtain ⟨hb0, hf⟩ := fr_after hb1
      clear hb1
      obtain ⟨z, c0, c1, f0, f1⟩ := hf
      go_wp2_with (go_at_call 24; refine (fault_calls _ _ _).mono ?_; rintro e w' ⟨rfl, rfl⟩)
      refine bodyPost_ret (v := .tuple #[.int .i64 0, .agg #[.int .i64 4, .int .i64 (-2)]]) (by simp [results, Try.results20, go_sem, c0, c1, z]) rfl ?_
      exact ⟨rfl, ((((hb0.setCell (p := ⟨w.heap.size, 0, none⟩) (Nat.le_refl _) _).setCell (p := ⟨w.heap.size, 1, none⟩) (Nat.le_refl _) _).alloc (by simp [World.setCell]; omega) _).alloc (by simp [World.setCell]; omega) _)⟩
    · have hk2 : 120000 < k := by omega
      clear hk
      go_enter Try.func20, Try.ntmps20
      go_wp2_with fail
      refine (date_at HV.out _).mono ?_
      rintro e w1 ⟨rfl, hb1⟩
      obtain ⟨hb0, hf⟩ := fr_after hb1
      clear hb1
      obtain ⟨z, c0, c1, f0, f1⟩ := hf
      go_wp2_with (go_at_call 24; refine (fault_calls _ _ _).mono ?_; rintro e w' ⟨rfl, rfl⟩)
      refine bodyPost_ret (v := .tuple #[.int .i64 0, .agg #[.int .i64 4, .int .i64 (-2)]]) (by simp [results, Try.results20, go_sem, c0, c1, z]) rfl ?_
      exact ⟨rfl, ((((hb0.setCell (p := ⟨w.heap.size, 0, none⟩) (Nat.le_refl _) _).setCell (p := ⟨w.heap.size, 1, none⟩) (Nat.le_refl _) _).alloc (by simp [World.setCell]; omega) _).alloc (by simp [World.setCell]; omega) _)⟩
  · have hk1 : ¬ k < -120000 := by omega
    have hk2 : ¬ 120000 < k := by omega
    by_cases hq : 12 * (y - 1) + (m : Int) - 1 + k < 0 ∨ 119988 ≤ 12 * (y - 1) + (m : Int) - 1 + k
    · have HA := Lib.hid (show addF y m d k = (0, 4, -3) by unfold addF; rw [if_neg hk, if_pos hq])
      rw [HA.out]
      by_cases hq1 : 12 * (y - 1) + (m : Int) - 1 + k < 0
      · clear hk hq
        go_enter Try.func20, Try.ntmps20
        go_wp2_with fail
        refine (date_at HV.out _).mono ?_
        rintro e w1 ⟨rfl, hb1⟩
        obtain ⟨hb0, hf⟩ := fr_after hb1
        clear hb1
        obtain ⟨z, c0, c1, f0, f1⟩ := hf
        go_wp2_with (go_at_call 24; refine (fault_calls _ _ _).mono ?_; rintro e w' ⟨rfl, rfl⟩)
        refine bodyPost_ret (v := .tuple #[.int .i64 0, .agg #[.int .i64 4, .int .i64 (-3)]]) (by simp [results, Try.results20, go_sem, c0, c1, z]) rfl ?_
        exact ⟨rfl, ((((hb0.setCell (p := ⟨w.heap.size, 0, none⟩) (Nat.le_refl _) _).setCell (p := ⟨w.heap.size, 1, none⟩) (Nat.le_refl _) _).alloc (by simp [World.setCell]; omega) _).alloc (by simp [World.setCell]; omega) _)⟩
      · have hq2 : 119988 ≤ 12 * (y - 1) + (m : Int) - 1 + k := by omega
        clear hk hq
        go_enter Try.func20, Try.ntmps20
        go_wp2_with fail
        refine (date_at HV.out _).mono ?_
        rintro e w1 ⟨rfl, hb1⟩
        obtain ⟨hb0, hf⟩ := fr_after hb1
        clear hb1
        obtain ⟨z, c0, c1, f0, f1⟩ := hf
        go_wp2_with (go_at_call 24; refine (fault_calls _ _ _).mono ?_; rintro e w' ⟨rfl, rfl⟩)
        refine bodyPost_ret (v := .tuple #[.int .i64 0, .agg #[.int .i64 4, .int .i64 (-3)]]) (by simp [results, Try.results20, go_sem, c0, c1, z]) rfl ?_
        exact ⟨rfl, ((((hb0.setCell (p := ⟨w.heap.size, 0, none⟩) (Nat.le_refl _) _).setCell (p := ⟨w.heap.size, 1, none⟩) (Nat.le_refl _) _).alloc (by simp [World.setCell]; omega) _).alloc (by simp [World.setCell]; omega) _)⟩
    · have HA := Lib.hid (show addF y m d k = (num ((12 * (y - 1) + (m : Int) - 1 + k) / 12 + 1) ((12 * (y - 1) + (m : Int) - 1 + k) % 12 + 1).toNat (mn d (dim ((12 * (y - 1) + (m : Int) - 1 + k) / 12 + 1) ((12 * (y - 1) + (m : Int) - 1 + k) % 12 + 1))), 0, 0) by unfold addF; rw [if_neg hk, if_neg hq])
      rw [HA.out]
      have hq1 : ¬ 12 * (y - 1) + (m : Int) - 1 + k < 0 := by omega
      have hq2 : ¬ 119988 ≤ 12 * (y - 1) + (m : Int) - 1 + k := by omega
      clear hk hq
      go_enter Try.func20, Try.ntmps20
      go_wp2_with fail
      refine (date_at HV.out _).mono ?_
      rintro e w1 ⟨rfl, hb1⟩
      obtain ⟨hb0, hf⟩ := fr_after hb1
      clear hb1
      have HF := Lib.hid (hf.alloc (Obj.cells #[Value.int IntKind.i64 0, Value.int IntKind.i64 0] 24))
      have HB := Lib.hid (hb0.alloc hb0.size (Obj.cells #[Value.int IntKind.i64 0, Value.int IntKind.i64 0] 24))
      clear hb0 hf
      go_wp2_with fail
      generalize w1.alloc (Obj.cells #[Value.int IntKind.i64 0, Value.int IntKind.i64 0] 24) = W1 at *
      generalize 12 * (y - 1) + (m : Int) - 1 + k = q at *
      go_wp2_with fail
      have hyy : 1 ≤ q / 12 + 1 ∧ q / 12 + 1 ≤ 9999 := by omega
      have hmmb : 1 ≤ q % 12 + 1 ∧ q % 12 + 1 ≤ 12 := by omega
      generalize q / 12 + 1 = yy at *
      generalize q % 12 + 1 = mi at *
      obtain ⟨mm, rfl⟩ := Int.eq_ofNat_of_zero_le (show 0 ≤ mi by omega)
      have hdd := dim_bd yy (mm : Int)
      refine (monthDays_calls yy (mm : Int) _ (by omega) (by omega) (by omega) (by omega)).mono ?_
      rintro e w' ⟨rfl, rfl⟩
      clear HA
      by_cases hmn : d ≤ dim yy (mm : Int)
      · have HMN := Lib.hid (show mn d (dim yy (mm : Int)) = d by unfold mn; rw [if_pos hmn])
        go_wp2_with fail
        refine (number_calls yy d mm _ (by omega) (by omega) (by omega) (by omega) (by omega) (by omega)).mono ?_
        rintro e w' ⟨rfl, rfl⟩
        obtain ⟨z, c0, c1, f0, f1⟩ := HF.out
        have hb0 := HB.out
        go_wp2_with fail
        refine bodyPost_ret (v := .tuple #[.int .i64 (num yy mm d), .agg #[.int .i64 0, .int .i64 0]]) (by simp [results, Try.results20, go_sem, c0, c1, z]) rfl ?_
        exact add_fin HMN.out ((hb0.setCell (p := ⟨w.heap.size, 0, none⟩) (Nat.le_refl _) _).setCell (p := ⟨w.heap.size, 1, none⟩) (Nat.le_refl _) _)
      · have HMN := Lib.hid (show mn d (dim yy (mm : Int)) = dim yy (mm : Int) by unfold mn; rw [if_neg hmn])
        go_wp2_with fail
        refine (number_calls yy (dim yy (mm : Int)) mm _ (by omega) (by omega) (by omega) (by omega) (by omega) (by omega)).mono ?_
        rintro e w' ⟨rfl, rfl⟩
        obtain ⟨z, c0, c1, f0, f1⟩ := HF.out
        have hb0 := HB.out
        go_wp2_with fail
        refine bodyPost_ret (v := .tuple #[.int .i64 (num yy mm (dim yy (mm : Int))), .agg #[.int .i64 0, .int .i64 0]]) (by simp [results, Try.results20, go_sem, c0, c1, z]) rfl ?_
        exact add_fin HMN.out ((hb0.setCell (p := ⟨w.heap.size, 0, none⟩) (Nat.le_refl _) _).setCell (p := ⟨w.heap.size, 1, none⟩) (Nat.le_refl _) _)
end Go.Proofs.Ytmhjcdencfbjpaa
