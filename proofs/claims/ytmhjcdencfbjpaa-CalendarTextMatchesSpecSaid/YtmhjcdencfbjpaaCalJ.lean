/-
  The texts of dates are ordered as the dates are.
-/
import Derived.Test.YtmhjcdencfbjpaaCalI
namespace Go.Proofs.Ytmhjcdencfbjpaa
open Go.RowKit
set_option linter.unusedVariables false
set_option linter.unusedSimpArgs false

theorem dgt_nat (x : Int) : (dgt x).toNat = (48 + x % 10).toNat := by
  have : 0 ≤ x % 10 ∧ x % 10 < 10 := by omega
  unfold dgt; rw [UInt8.toNat_ofNat']; omega
theorem dgt_lt (x y : Int) : decide (dgt x < dgt y) = decide (x % 10 < y % 10) := by
  have := dgt_nat x
  have := dgt_nat y
  rw [decide_eq_decide, UInt8.lt_iff_toNat_lt]; omega
theorem dgt_eq (x y : Int) : (dgt x == dgt y) = decide (x % 10 = y % 10) := by
  have := dgt_nat x
  have := dgt_nat y
  rw [show (dgt x == dgt y) = decide (dgt x = dgt y) from rfl, decide_eq_decide, ← UInt8.toNat_inj]; omega
theorem two_less (x y : Int) (r s : List UInt8) (h1 : 0 ≤ x) (h2 : x < 100) (h3 : 0 ≤ y) (h4 : y < 100) : Op.bytesLess (two x ++ r) (two y ++ s) = (decide (x < y) || (decide (x = y) && Op.bytesLess r s)) := by
  simp only [two, List.cons_append, List.nil_append, Op.bytesLess, dgt_lt, dgt_eq]
  generalize Op.bytesLess r s = t
  rw [Bool.eq_iff_iff]
  cases t <;> simp <;> omega
theorem four_less (x y : Int) (r s : List UInt8) (h1 : 0 ≤ x) (h2 : x < 10000) (h3 : 0 ≤ y) (h4 : y < 10000) : Op.bytesLess (four x ++ r) (four y ++ s) = (decide (x < y) || (decide (x = y) && Op.bytesLess r s)) := by
  simp only [four, List.cons_append, List.nil_append, Op.bytesLess, dgt_lt, dgt_eq]
  generalize Op.bytesLess r s = t
  rw [Bool.eq_iff_iff]
  cases t <;> simp <;> omega
theorem dash_less (r s : List UInt8) : Op.bytesLess ([45] ++ r) ([45] ++ s) = Op.bytesLess r s := by simp [Op.bytesLess]
theorem dtext_less {y y' : Int} {m m' : Nat} {d d' : Int} (h : Valid y m d) (h' : Valid y' m' d') : Op.bytesLess (dtext y m d) (dtext y' m' d') = decide (num y m d < num y' m' d') := by
  obtain ⟨h1, h2, h3, h4, h5, h6⟩ := h
  obtain ⟨g1, g2, g3, g4, g5, g6⟩ := h'
  have hb := dim_bd y (m : Int)
  have hb' := dim_bd y' (m' : Int)
  have e := two_less d d' [] [] (by omega) (by omega) (by omega) (by omega)
  simp only [List.append_nil, Op.bytesLess, Bool.and_false, Bool.or_false] at e
  unfold dtext
  simp only [List.append_assoc]
  rw [four_less _ _ _ _ (by omega) (by omega) (by omega) (by omega), dash_less, two_less _ _ _ _ (by omega) (by omega) (by omega) (by omega), dash_less, e]
  rw [Bool.eq_iff_iff, decide_eq_true_eq, num_lt_iff ⟨h1, h2, h3, h4, h5, h6⟩ ⟨g1, g2, g3, g4, g5, g6⟩]
  simp [Int.natCast_inj]

/-- calendar.Print answers this text and this fault -/
def PA (n : Int) (s : ByteArray) (c i : Int) : Prop :=
  ∀ w, Calls Try.prog 19 #[.int .i64 n] w fun e w' => e = .returned (.tuple #[.string s, .agg #[.int .i64 c, .int .i64 i]]) ∧ Below w.heap.size w w'
theorem pa_no {n : Int} (h : n < 1 ∨ 3652059 < n) : PA n ⟨#[]⟩ 4 (-1) := fun w => print_no n w h
theorem pa_at {y : Int} {m : Nat} {d : Int} (hv : Valid y m d) : PA (num y m d) ⟨(dtext y m d).toArray⟩ 0 0 := fun w => print_at hv w
theorem pa_any (n : Int) : ∃ s c i, PA n s c i := by
  by_cases hn : 1 ≤ n ∧ n ≤ 3652059
  · obtain ⟨y, m, d, hv, rfl⟩ := date_ofI n hn.1 hn.2
    exact ⟨_, _, _, pa_at hv⟩
  · exact ⟨_, _, _, pa_no (by omega)⟩

set_option maxRecDepth 100000 in
set_option maxHeartbeats 400000 in
theorem ordered_no1 (a b : Int) (s t : ByteArray) (c i c' i' : Int) (w : World) (hs : PA a s c i) (ht : PA b t c' i') (h : a < 1 ∨ 3652059 < a) (hc : c = 4) :
    Calls Try.prog 6 #[.int .i64 a, .int .i64 b] w fun e w' => e = .returned (.bool true) ∧ Below w.heap.size w w' := by
  have HS := Lib.hid hs
  have HT := Lib.hid ht
  clear hs ht
  subst hc
  go_enter Try.func6, Try.ntmps6
  go_wp2_with fail
  refine (example_calls _).mono ?_
  rintro e w1 ⟨rfl, hb1⟩
  have HB1 := Lib.hid hb1
  clear hb1
  go_wp2_with fail
  refine (HS.out _).mono ?_
  rintro e w2 ⟨rfl, hb2⟩
  have HB2 := Lib.hid (chain HB1.out hb2)
  clear hb2
  go_wp2_with fail
  refine (HT.out _).mono ?_
  rintro e w3 ⟨rfl, hb3⟩
  obtain ⟨z1, p1, p1'⟩ := ((FK.new w2 4 i).on hb3).alloc (.cells #[.int .i64 c', .int .i64 i'] 24)
  obtain ⟨z2, p2, p2'⟩ := FK.new w3 c' i'
  have HB3 := Lib.hid (chain (chain_alloc HB2.out _) hb3)
  clear hb3
  go_wp2_with (first | (go_at_call 16; first | (refine (in_no _ (by omega)).mono ?_; rintro e w' ⟨rfl, rfl⟩)))
  go_ret
  exact ⟨rfl, chain_alloc HB3.out _⟩

set_option maxRecDepth 100000 in
set_option maxHeartbeats 400000 in
theorem ordered_no2 (a b : Int) (s t : ByteArray) (c i c' i' : Int) (w : World) (hs : PA a s c i) (ht : PA b t c' i') (h1 : 1 ≤ a) (h2 : a ≤ 3652059) (h : b < 1 ∨ 3652059 < b) (hc : c = 0) (hc' : c' = 4) :
    Calls Try.prog 6 #[.int .i64 a, .int .i64 b] w fun e w' => e = .returned (.bool true) ∧ Below w.heap.size w w' := by
  have HS := Lib.hid hs
  have HT := Lib.hid ht
  clear hs ht
  subst hc hc'
  go_enter Try.func6, Try.ntmps6
  go_wp2_with fail
  refine (example_calls _).mono ?_
  rintro e w1 ⟨rfl, hb1⟩
  have HB1 := Lib.hid hb1
  clear hb1
  go_wp2_with fail
  refine (HS.out _).mono ?_
  rintro e w2 ⟨rfl, hb2⟩
  have HB2 := Lib.hid (chain HB1.out hb2)
  clear hb2
  go_wp2_with fail
  refine (HT.out _).mono ?_
  rintro e w3 ⟨rfl, hb3⟩
  obtain ⟨z1, p1, p1'⟩ := ((FK.new w2 0 i).on hb3).alloc (.cells #[.int .i64 4, .int .i64 i'] 24)
  obtain ⟨z2, p2, p2'⟩ := FK.new w3 4 i'
  have HB3 := Lib.hid (chain (chain_alloc HB2.out _) hb3)
  clear hb3
  go_wp2_with (first | (go_at_call 16; first | (refine (in_yes _ (by omega) (by omega)).mono ?_; rintro e w' ⟨rfl, rfl⟩) | (refine (in_no _ (by omega)).mono ?_; rintro e w' ⟨rfl, rfl⟩)))
  go_ret
  exact ⟨rfl, chain_alloc HB3.out _⟩

set_option maxRecDepth 100000 in
set_option maxHeartbeats 400000 in
theorem ordered_yes (a b : Int) (s t : ByteArray) (c i c' i' : Int) (w : World) (hs : PA a s c i) (ht : PA b t c' i') (h1 : 1 ≤ a) (h2 : a ≤ 3652059) (h3 : 1 ≤ b) (h4 : b ≤ 3652059) (hc : c = 0) (hc' : c' = 0) (hl : decide (a < b) = Op.bytesLess s.toList t.toList) :
    Calls Try.prog 6 #[.int .i64 a, .int .i64 b] w fun e w' => e = .returned (.bool true) ∧ Below w.heap.size w w' := by
  have HS := Lib.hid hs
  have HT := Lib.hid ht
  clear hs ht
  subst hc hc'
  go_enter Try.func6, Try.ntmps6
  go_wp2_with fail
  refine (example_calls _).mono ?_
  rintro e w1 ⟨rfl, hb1⟩
  have HB1 := Lib.hid hb1
  clear hb1
  go_wp2_with fail
  refine (HS.out _).mono ?_
  rintro e w2 ⟨rfl, hb2⟩
  have HB2 := Lib.hid (chain HB1.out hb2)
  clear hb2
  go_wp2_with fail
  refine (HT.out _).mono ?_
  rintro e w3 ⟨rfl, hb3⟩
  obtain ⟨z1, p1, p1'⟩ := ((FK.new w2 0 i).on hb3).alloc (.cells #[.int .i64 0, .int .i64 i'] 24)
  obtain ⟨z2, p2, p2'⟩ := FK.new w3 0 i'
  have HB3 := Lib.hid (chain (chain_alloc HB2.out _) hb3)
  clear hb3
  go_wp2_with (first | (go_at_call 16; first | (refine (in_yes _ (by omega) (by omega)).mono ?_; rintro e w' ⟨rfl, rfl⟩)))
  go_ret
  exact ⟨rfl, chain_alloc HB3.out _⟩

theorem ordered_calls (a b : Int) (w : World) :
    Calls Try.prog 6 #[.int .i64 a, .int .i64 b] w fun e w' => e = .returned (.bool true) ∧ Below w.heap.size w w' := by
  by_cases ha : 1 ≤ a ∧ a ≤ 3652059
  · obtain ⟨y, m, d, hv, rfl⟩ := date_ofI a ha.1 ha.2
    by_cases hb : 1 ≤ b ∧ b ≤ 3652059
    · obtain ⟨y', m', d', hv', rfl⟩ := date_ofI b hb.1 hb.2
      exact ordered_yes _ _ _ _ _ _ _ _ w (pa_at hv) (pa_at hv') ha.1 ha.2 hb.1 hb.2 rfl rfl (by rw [ByteArray.toList_eq, ByteArray.toList_eq]; exact (dtext_less hv hv').symm)
    · exact ordered_no2 _ _ _ _ _ _ _ _ w (pa_at hv) (pa_no (by omega)) ha.1 ha.2 (by omega) rfl rfl
  · obtain ⟨t, c', i', ht⟩ := pa_any b
    exact ordered_no1 _ _ _ _ _ _ _ _ w (pa_no (by omega)) ht (by omega) rfl
end Go.Proofs.Ytmhjcdencfbjpaa
