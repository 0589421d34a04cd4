/-
  The reference: names.
-/
/-
  The reference: the code of a node.
-/
import Derived.Test.YtolognhjdmkohaaJ7
import Derived.Deep.QuietTactic
import Derived.BigQuiet
namespace Go.Proofs.Ytolognhjdmkohaa
open Go.RowKit
set_option linter.unusedVariables false
set_option linter.unusedSimpArgs false

theorem wr_u8 (c : UInt8) : wrap64 (c.toNat : Int) = (c.toNat : Int) := by
  have := c.toNat_lt
  unfold wrap64
  omega
theorem in_is {n l h : Int} {b : Bool} (e : (decide (l ≤ n) && decide (n ≤ h)) = b) (w : World) :
    Calls Try.prog 23 #[.int .i64 n, .int .i64 l, .int .i64 h] w fun e w' => e = .returned (.bool b) ∧ w = w' := by
  rw [← e]; exact in_calls n l h w
def RnRel (s : ByteArray) (k : Value) : Prop := ∃ i : Nat, k = .int .i64 (i : Int) ∧ i ≤ s.size ∧ (s.data.toList.take i).all okC = true
theorem nm_next {s : ByteArray} {i : Nat} (h : (s.data.toList.take i).all okC = true) (hi : i < s.size) (hc : okC s[i] = true) : (s.data.toList.take (i + 1)).all okC = true := by
  have hx := byte_at hi
  obtain ⟨h1, h2⟩ := List.getElem?_eq_some_iff.1 hx
  rw [List.take_succ_eq_append_getElem h1, List.all_append, h, h2]
  simp [hc]
theorem nm_bad {s : ByteArray} {i : Nat} (hi : i < s.size) (hc : okC s[i] = false) : s.data.toList.all okC = false := by
  have hx := byte_at hi
  obtain ⟨h1, h2⟩ := List.getElem?_eq_some_iff.1 hx
  rw [List.all_eq_false]
  exact ⟨s[i], by rw [← h2]; exact List.getElem_mem h1, by simp [hc]⟩
set_option maxRecDepth 100000 in
set_option maxHeartbeats 1000000 in
theorem refName_calls (s : ByteArray) (w : World) (hs : s.size ≤ 9223372036854775807) : Calls Try.prog 29 #[.string s] w fun e w' => e = .returned (.bool (isName s.data.toList)) ∧ w = w' := by
  by_cases h0 : 1 ≤ s.size ∧ s.size ≤ 32
  · obtain ⟨hp, h32⟩ := h0
    have b1 : (decide ((1 : Int) ≤ (s.size : Int)) && decide ((s.size : Int) ≤ 32)) = true := by simp; omega
    have hpos : 0 < s.size := by omega
    have HX := byte_at (s := s) (k := 0) hpos
    by_cases hc : 97 ≤ s[0].toNat ∧ s[0].toNat ≤ 122
    · have HK := Lib.hid (isName_all (l := s.data.toList) (by simpa using h32) HX hc)
      have b2 : (decide ((97 : Int) ≤ (s[0].toNat : Int)) && decide ((s[0].toNat : Int) ≤ 122)) = true := by simp; omega
      clear HX hc
      go_enter Try.func29, Try.ntmps29
      go_wp2_with fail
      refine (in_is b1 _).mono ?_
      rintro e w' ⟨rfl, rfl⟩
      go_wp2_with fail
      try rw [wr_u8]
      refine (in_is b2 _).mono ?_
      rintro e w' ⟨rfl, rfl⟩
      go_wp2_with fail
      go_loop [3] (RnRel s) (fun k => s.size - (intOf k).toNat)
      case atStart => exact ⟨0, rfl, Nat.zero_le _, rfl⟩
      case round =>
        obtain ⟨i, rfl, hi, hall⟩ := hrel
        have HA := Lib.hid hall
        clear hall b1 b2
        by_cases hlt : i < s.size
        · have hli : (i : Int) < (s.size : Int) := by omega
          have h00 : (0 : Int) ≤ (i : Int) := by omega
          have HLT := Lib.hid hlt
          obtain ⟨c, hc⟩ : ∃ c, s[i].toNat = c := ⟨_, rfl⟩
          have HC := Lib.hid hc
          by_cases k1 : 97 ≤ c ∧ c ≤ 122
          · have HOK := Lib.hid (nm_next HA.out hlt (okC_letter (by omega) (by omega)))
            have b1 : (decide ((97 : Int) ≤ (s[i].toNat : Int)) && decide ((s[i].toNat : Int) ≤ 122)) = true := by simp; omega
            clear k1 hc
            go_wp2_with fail
            try rw [wr_u8]
            refine (in_is b1 _).mono ?_
            rintro e w' ⟨rfl, rfl⟩
            go_wp2_with fail
            go_round
            case rel => exact ⟨i + 1, by go_num, hlt, HOK.out⟩
            case measure => simp [intOf]; omega
          · have b1 : (decide ((97 : Int) ≤ (s[i].toNat : Int)) && decide ((s[i].toNat : Int) ≤ 122)) = false := by
              rw [Bool.and_eq_false_iff, decide_eq_false_iff_not, decide_eq_false_iff_not]; omega
            by_cases k2 : 48 ≤ c ∧ c ≤ 57
            · have HOK := Lib.hid (nm_next HA.out hlt (okC_digit (by omega) (by omega)))
              have b2 : (decide ((48 : Int) ≤ (s[i].toNat : Int)) && decide ((s[i].toNat : Int) ≤ 57)) = true := by simp; omega
              clear k1 k2 hc
              go_wp2_with fail
              try rw [wr_u8]
              refine (in_is b1 _).mono ?_
              rintro e w' ⟨rfl, rfl⟩
              go_wp2_with fail
              try rw [wr_u8]
              refine (in_is b2 _).mono ?_
              rintro e w' ⟨rfl, rfl⟩
              go_wp2_with fail
              go_round
              case rel => exact ⟨i + 1, by go_num, hlt, HOK.out⟩
              case measure => simp [intOf]; omega
            · have b2 : (decide ((48 : Int) ≤ (s[i].toNat : Int)) && decide ((s[i].toNat : Int) ≤ 57)) = false := by
                rw [Bool.and_eq_false_iff, decide_eq_false_iff_not, decide_eq_false_iff_not]; omega
              have hok : okC s[i] = isSgn s[i] := okC_other (by omega) (by omega)
              clear k1 k2
              go_wp2_with fail
              try rw [wr_u8]
              refine (in_is b1 _).mono ?_
              rintro e w' ⟨rfl, rfl⟩
              go_wp2_with fail
              try rw [wr_u8]
              refine (in_is b2 _).mono ?_
              rintro e w' ⟨rfl, rfl⟩
              by_cases k3 : s[i] = 45 ∨ s[i] = 95 ∨ s[i] = 46
              · have HOK := Lib.hid (nm_next HA.out hlt (hok.trans (by rcases k3 with e | e | e <;> rw [e] <;> decide)))
                have hcc : (s[i].toNat : Int) = 45 ∨ (s[i].toNat : Int) = 95 ∨ (s[i].toNat : Int) = 46 := by rcases k3 with e | e | e <;> rw [e] <;> decide
                clear k3 hok HC hc c
                rcases hcc with e | e | e
                · go_wp2_with fail
                  go_round
                  case rel => exact ⟨i + 1, by go_num, hlt, HOK.out⟩
                  case measure => simp [intOf]; omega
                · go_wp2_with fail
                  go_round
                  case rel => exact ⟨i + 1, by go_num, hlt, HOK.out⟩
                  case measure => simp [intOf]; omega
                · have m1 : ((s[i].toNat : Int) != 45) = true := by rw [e]; decide
                  have m2 : ((s[i].toNat : Int) != 95) = true := by rw [e]; decide
                  have m3 : ((s[i].toNat : Int) != 46) = false := by rw [e]; decide
                  go_wp2_with fail
                  · rename_i h
                    exact absurd (m3.symm.trans h.2) (by decide)
                  · go_round
                    case rel => exact ⟨i + 1, by go_num, hlt, HOK.out⟩
                    case measure => simp [intOf]; omega
              · have HOK := Lib.hid (nm_bad hlt (hok.trans (by simpa [isSgn, and_assoc] using k3)))
                have n1 : ¬ (s[i].toNat : Int) = 45 := fun e => k3 (.inl (UInt8.toNat_inj.1 (by show s[i].toNat = 45; omega)))
                have n2 : ¬ (s[i].toNat : Int) = 95 := fun e => k3 (.inr (.inl (UInt8.toNat_inj.1 (by show s[i].toNat = 95; omega))))
                have n3 : ¬ (s[i].toNat : Int) = 46 := fun e => k3 (.inr (.inr (UInt8.toNat_inj.1 (by show s[i].toNat = 46; omega))))
                clear k3 hok HC hc c
                have m1 : ((s[i].toNat : Int) != 45) = true := by simpa using n1
                have m2 : ((s[i].toNat : Int) != 95) = true := by simpa using n2
                have m3 : ((s[i].toNat : Int) != 46) = true := by simpa using n3
                go_wp2_with fail
                · go_ret
                  exact ⟨by rw [HK.out, HOK.out]; rfl, rfl⟩
                · rename_i h
                  rcases h with (h | h) | h
                  · exact absurd (m1.symm.trans h) (by decide)
                  · exact absurd (m2.symm.trans h) (by decide)
                  · exact absurd (m3.symm.trans h) (by decide)
        · have HK2 := Lib.hid (show s.data.toList.all okC = true by have := HA.out; rw [List.take_of_length_le (by simp; omega)] at this; exact this)
          go_wp2_with fail
          go_ret
          exact ⟨by rw [HK.out, HK2.out]; rfl, rfl⟩
    · have HK := Lib.hid (isName_head (l := s.data.toList) HX hc)
      have b2 : (decide ((97 : Int) ≤ (s[0].toNat : Int)) && decide ((s[0].toNat : Int) ≤ 122)) = false := by
        rw [Bool.and_eq_false_iff, decide_eq_false_iff_not, decide_eq_false_iff_not]; omega
      clear HX hc
      go_enter Try.func29, Try.ntmps29
      go_wp2_with fail
      refine (in_is b1 _).mono ?_
      rintro e w' ⟨rfl, rfl⟩
      go_wp2_with fail
      try rw [wr_u8]
      refine (in_is b2 _).mono ?_
      rintro e w' ⟨rfl, rfl⟩
      go_wp2_with fail
      go_ret
      exact ⟨by rw [HK.out]; rfl, rfl⟩
  · have HK := Lib.hid (show isName s.data.toList = false by
      rcases Nat.eq_zero_or_pos s.size with h | h
      · rw [List.eq_nil_of_length_eq_zero (l := s.data.toList) (by simpa using h)]; rfl
      · exact isName_long (by simp; omega))
    have b1 : (decide ((1 : Int) ≤ (s.size : Int)) && decide ((s.size : Int) ≤ 32)) = false := by
      rw [Bool.and_eq_false_iff, decide_eq_false_iff_not, decide_eq_false_iff_not]; omega
    clear h0
    go_enter Try.func29, Try.ntmps29
    go_wp2_with fail
    refine (in_is b1 _).mono ?_
    rintro e w' ⟨rfl, rfl⟩
    go_wp2_with fail
    go_ret
    exact ⟨by rw [HK.out]; rfl, rfl⟩
end Go.Proofs.Ytolognhjdmkohaa
namespace Go.Proofs.Ytolognhjdmkohaa
open Go.RowKit
set_option linter.unusedVariables false
set_option linter.unusedSimpArgs false

set_option maxRecDepth 100000 in
set_option maxHeartbeats 4000000 in
theorem code_bad {w : World} {v : Value} {d : Nd} {p : VF} (hv : VIn w w.heap.size v d p) (hb : d.bs.length ≤ 1099511627776) (hn : d.ns.length ≤ 1099511627776) (hp : p.len ≤ 1099511627776) (hk : ¬ (d.k < 1 ∨ 4 < d.k))
    (hf : (d.k ≠ 1 ∧ d.n ≠ 0) ∨ (d.k ≠ 2 ∧ 0 < d.bs.length) ∨ (d.k ≠ 4 ∧ 0 < d.ns.length) ∨ (d.k < 3 ∧ 0 < p.len) ∨ (d.k = 4 ∧ d.ns.length ≠ p.len)) :
    Calls Try.prog 42 #[v] w fun e w' => e = .returned (.int .i64 (nodeC d p.len)) ∧ Below w.heap.size w w' := by
  rw [nodeC_form hk hf]
  obtain ⟨sb, sn, sp, rfl, Ab, nb, cb, An, nn, cn, Ap, cp, rfl, rfl, rfl, hbc, hnc, hpc, hpm, hrb, hrn, hpp⟩ := hv
  have e1 : d.bs.length = nb := by have := hrb.len; rw [bv_len] at this; exact this
  have e2 : d.ns.length = nn := by have := hrn.len; rw [sv_len] at this; exact this
  obtain ⟨np, e3⟩ : ∃ np, p.len = np := ⟨_, rfl⟩
  obtain ⟨k, e4⟩ : ∃ k, d.k = k := ⟨_, rfl⟩
  obtain ⟨n, e5⟩ : ∃ n, d.n = n := ⟨_, rfl⟩
  rw [e1, e2, e3, e4, e5] at hf
  rw [e4] at hk
  rw [e3, e4, e5]
  rw [e1] at hb
  rw [e2] at hn
  rw [e3] at hp
  clear e1 e2 e3 e4 e5 hrb hrn hpp hbc hnc hpc hpm
  have b1 : (decide ((1 : Int) ≤ k) && decide (k ≤ 4)) = true := by simp; omega
  go_enter Try.func42, Try.ntmps42
  go_wp2_with fail
  refine (in_is b1 _).mono ?_
  rintro e w' ⟨rfl, rfl⟩
  have hk4 : k = 1 ∨ k = 2 ∨ k = 3 ∨ k = 4 := by omega
  clear b1 hk
  by_cases hn0 : n = 0
  · subst hn0
    rcases hk4 with rfl | rfl | rfl | rfl
    all_goals simp only [ne_eq, not_true_eq_false, false_and, and_false, true_and, false_or, or_false, Int.reduceEq, not_false_eq_true, Int.reduceLT] at hf
    all_goals go_wp2_with fail
    all_goals first
      | (go_ret; exact ⟨rfl, bel1 _ _⟩)
      | (exfalso; omega)
  · have hn0' : (n != 0) = true := by simpa using hn0
    rcases hk4 with rfl | rfl | rfl | rfl
    all_goals simp only [ne_eq, not_true_eq_false, false_and, and_false, true_and, false_or, or_false, Int.reduceEq, not_false_eq_true, Int.reduceLT] at hf
    all_goals go_wp2_with fail
    all_goals first
      | (go_ret; exact ⟨rfl, bel1 _ _⟩)
      | (exfalso; omega)
end Go.Proofs.Ytolognhjdmkohaa
