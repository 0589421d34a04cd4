/-
  The reference: the code of a node of the right form.
-/
import Derived.Test.YtolognhjdmkohaaJ16
import Derived.Test.YtolognhjdmkohaaJ14
namespace Go.Proofs.Ytolognhjdmkohaa
open Go.RowKit
set_option linter.unusedVariables false
set_option linter.unusedSimpArgs false

def AllRel (ns : List (List UInt8)) (k : Value) : Prop := ∃ i : Nat, k = .int .i64 (i : Int) ∧ i ≤ ns.length ∧ (ns.take i).all isName = true
theorem alln_next {ns : List (List UInt8)} {i : Nat} {x : List UInt8} (h : (ns.take i).all isName = true) (hx : ns[i]? = some x) (hn : isName x = true) : (ns.take (i + 1)).all isName = true := by
  rw [List.take_add_one, hx, Option.toList_some, List.all_append, h]
  simp [hn]
theorem alln_bad {ns : List (List UInt8)} {i : Nat} {x : List UInt8} (hx : ns[i]? = some x) (hn : isName x = false) : ns.all isName = false := by
  rw [List.all_eq_false]
  exact ⟨x, List.mem_of_getElem? hx, by simp [hn]⟩
def DupW (ns : List (List UInt8)) (W : World) (k : Value) (wr : World) : Prop := ∃ i nq : Nat, k = .int .i64 (i : Int) ∧ i ≤ ns.length ∧ (ns.take i).Nodup ∧ wr = W.drewN nq
def InnW (ns : List (List UInt8)) (W : World) (i : Nat) (s : List UInt8) (k : Value) (wr : World) : Prop := ∃ j nq : Nat, k = .int .i64 (j : Int) ∧ j ≤ i ∧ hasB (ns.take j) s = false ∧ wr = W.drewN nq
set_option maxRecDepth 100000 in
set_option maxHeartbeats 4000000 in
theorem code_good {w : World} {v : Value} {d : Nd} {p : VF} (hv : VIn w w.heap.size v d p) (hsz : ∀ x ∈ d.ns, x.length ≤ 1099511627776) (hn : d.ns.length ≤ 1099511627776) (hp : p.len ≤ 1099511627776) (hk : ¬ (d.k < 1 ∨ 4 < d.k))
    (hf : ¬ ((d.k ≠ 1 ∧ d.n ≠ 0) ∨ (d.k ≠ 2 ∧ 0 < d.bs.length) ∨ (d.k ≠ 4 ∧ 0 < d.ns.length) ∨ (d.k < 3 ∧ 0 < p.len) ∨ (d.k = 4 ∧ d.ns.length ≠ p.len))) :
    Calls Try.prog 42 #[v] w fun e w' => e = .returned (.int .i64 (nodeC d p.len)) ∧ Below w.heap.size w w' := by
  rw [nodeC_ok hk hf]
  obtain ⟨sb, sn, sp, rfl, Ab, nb, cb, An, nn, cn, Ap, cp, rfl, rfl, rfl, hbc, hnc, hpc, hpm, hrb, hrn, hpp⟩ := hv
  have HRN := Lib.hid hrn
  have e1 : d.bs.length = nb := by have := hrb.len; rw [bv_len] at this; exact this
  have e2 : d.ns.length = nn := by have := hrn.len; rw [sv_len] at this; exact this
  have HE2 := Lib.hid e2
  have HSZ := Lib.hid hsz
  obtain ⟨np, e3⟩ : ∃ np, p.len = np := ⟨_, rfl⟩
  obtain ⟨k, e4⟩ : ∃ k, d.k = k := ⟨_, rfl⟩
  obtain ⟨n, e5⟩ : ∃ n, d.n = n := ⟨_, rfl⟩
  rw [e1, e2, e3, e4, e5] at hf
  rw [e4] at hk
  rw [e3, e4, e5]
  rw [e2] at hn
  rw [e3] at hp
  clear e1 e2 e3 e4 e5 hrb hrn hpp hbc hnc hpc hpm hsz
  have b1 : (decide ((1 : Int) ≤ k) && decide (k ≤ 4)) = true := by simp; omega
  have hk4 : k = 1 ∨ k = 2 ∨ k = 3 ∨ k = 4 := by omega
  go_enter Try.func42, Try.ntmps42
  go_wp2_with fail
  refine (in_is b1 _).mono ?_
  rintro e w' ⟨rfl, rfl⟩
  clear b1 hk
  obtain ⟨W, hW⟩ : ∃ W, w.alloc (.cells #[.int .i64 k, .int .i64 n, .slice Ab nb cb, .slice An nn cn, .slice Ap np cp] 26) = W := ⟨_, rfl⟩
  have HBX := Lib.hid (show Bx W w.heap.size (.int .i64 k) (.int .i64 n) (.slice Ab nb cb) (.slice An nn cn) (.slice Ap np cp) by rw [← hW]; exact Bx.new _ _ _ _ _ _)
  have HBW := Lib.hid (show Below w.heap.size w W by rw [← hW]; exact bel1 _ _)
  rw [hW]
  clear hW
  obtain ⟨q0, q1, q2, q3, q4⟩ := HBX.out.cells
  go_upto_region 3 with (fail)
  go_cut [50] (fun t wx => t = .bool false ∧ wx = W)
  case first =>
    rcases hk4 with rfl | rfl | rfl | rfl
    all_goals simp only [ne_eq, not_true_eq_false, false_and, and_false, true_and, false_or, or_false, Int.reduceEq, not_false_eq_true, Int.reduceLT, not_or, Decidable.not_not, not_and] at hf
    all_goals
      (try have a0 : n = 0 := by omega)
      (try have a1 : ¬ (0 : Int) < (nb : Int) := by omega)
      (try have a2 : ¬ (0 : Int) < (nn : Int) := by omega)
      (try have a3 : ¬ (0 : Int) < (np : Int) := by omega)
      (try have a4 : ¬ 0 < nb := by omega)
      (try have a5 : ¬ 0 < nn := by omega)
      (try have a6 : ¬ 0 < np := by omega)
      (try subst a0)
      clear hf
      go_wp2_with fail
      go_meet
      exact ⟨rfl, rfl⟩
  case rest =>
    obtain ⟨rfl, rfl⟩ := hcut
    go_upto_region 5 with (fail)
    go_cut [62] (fun t wx => t = .bool false ∧ wx = wc)
    case first =>
      by_cases h4 : k = 4
      · subst h4
        have a5 : ((nn : Int) != (np : Int)) = false := by rw [bne_eq_false_iff_eq]; omega
        go_wp2_with fail
        go_meet
        exact ⟨rfl, rfl⟩
      · have a5 : (k == 4) = false := by simpa using h4
        go_wp2_with fail
        go_meet
        exact ⟨rfl, rfl⟩
    case rest =>
      obtain ⟨rfl, rfl⟩ := hcut
      clear hk4 hf
      by_cases h600 : 600 < np
      · have HT := Lib.hid (tail_14 (ns := d.ns) h600)
        have h600' : (600 : Int) < (np : Int) := by omega
        go_wp2_with fail
        go_ret
        exact ⟨by rw [HT.out]; rfl, HBW.out⟩
      · have h600' : ¬ (600 : Int) < (np : Int) := by omega
        have HN6 := Lib.hid h600
        go_wp2_with fail
        go_loop [3] (AllRel d.ns) (fun k => nn - (intOf k).toNat)
        case atStart => exact ⟨0, rfl, Nat.zero_le _, rfl⟩
        case round =>
          obtain ⟨i, rfl, hi, hall⟩ := hrel
          rw [HE2.out] at hi
          have HA := Lib.hid hall
          clear hall
          by_cases hlt : i < nn
          · obtain ⟨b, o, s, rfl, hb, hy, hc⟩ := sv_at HRN.out hlt
            have HY := Lib.hid hy
            have hc' := (HBW.out.cell (p := ⟨b, o + i, none⟩) hb).trans hc
            have HS := Lib.hid (show s.size ≤ 9223372036854775807 by have := HSZ.out _ (List.mem_of_getElem? hy); simp at this; omega)
            have hli : (i : Int) < (nn : Int) := by omega
            have h0 : (0 : Int) ≤ (i : Int) := by omega
            clear hy hc
            go_wp2_with fail
            refine (refName_calls s _ HS.out).mono ?_
            rintro e w3 ⟨rfl, rfl⟩
            cases hnm : isName s.data.toList
            · have HT := Lib.hid (tail_7 HN6.out (alln_bad HY.out hnm))
              clear hnm
              go_wp2_with fail
              go_ret
              exact ⟨by rw [HT.out]; rfl, HBW.out⟩
            · have HN := Lib.hid (alln_next HA.out HY.out hnm)
              clear hnm
              go_wp2_with fail
              go_round
              case rel => exact ⟨i + 1, by go_num, by rw [HE2.out]; omega, HN.out⟩
              case measure => simp [intOf]; omega
          · have HALL := Lib.hid (show d.ns.all isName = true by have := HA.out; rwa [List.take_of_length_le (by rw [HE2.out]; omega)] at this)
            go_wp2_with fail
            clear hlt hi HA
            go_loopw [4] (DupW d.ns wc) (fun k _ => nn - (intOf k).toNat)
            case atStart => exact ⟨0, 0, rfl, Nat.zero_le _, by simp, rfl⟩
            case round =>
              obtain ⟨i, nq, rfl, hi, hd, rfl⟩ := hrel
              rw [HE2.out] at hi
              have HD := Lib.hid hd
              clear hd
              by_cases hlt : i < nn
              · obtain ⟨b, o, s, rfl, hb, hy, hc⟩ := sv_at HRN.out hlt
                have HY := Lib.hid hy
                have hc' := (HBW.out.cell (p := ⟨b, o + i, none⟩) hb).trans hc
                have HB := Lib.hid hb
                have hli : (i : Int) < (nn : Int) := by omega
                have h0 : (0 : Int) ≤ (i : Int) := by omega
                clear hy hc
                go_wp2_with fail
                go_loopw [5] (InnW d.ns wc i s.data.toList) (fun k _ => i - (intOf k).toNat)
                case atStart => exact ⟨0, nq, rfl, Nat.zero_le _, rfl, rfl⟩
                case round =>
                  obtain ⟨j, mq, rfl, hj, hh, rfl⟩ := hrel
                  have HH := Lib.hid hh
                  clear hh
                  by_cases hjl : j < i
                  · obtain ⟨b2, o2, t, hA2, _, hy2, hc2⟩ := sv_at HRN.out (show j < nn by omega)
                    injection hA2 with hA2
                    injection hA2 with hA2 hA3
                    subst hA2 hA3
                    have HY2 := Lib.hid hy2
                    have hc2' := (HBW.out.cell (p := ⟨b, o + j, none⟩) HB.out).trans hc2
                    have hjl' : (j : Int) < (i : Int) := by omega
                    have hjn : (j : Int) < (nn : Int) := by omega
                    have hj0 : (0 : Int) ≤ (j : Int) := by omega
                    clear hy2 hc2
                    go_upto_region 20 with (fail)
                    go_quiet (fail)
                    by_cases hst : s.data.toList = t.data.toList
                    · have hd2 : (s.toList == t.toList) = true := by rw [Lib.toList_data, Lib.toList_data]; simpa using hst
                      have HT := Lib.hid (tail_8 HN6.out HALL.out (dup_yes HY.out (sr_yes (i := j) (by rw [List.getElem?_take_of_lt hjl, HY2.out, hst]))))
                      rw [hd2]
                      clear hst
                      go_wp2_with fail
                      go_ret
                      exact ⟨by rw [HT.out]; rfl, HBW.out.trans ⟨rfl, rfl, rfl, Nat.le_refl _, fun _ _ => rfl⟩⟩
                    · have hd2 : (s.toList == t.toList) = false := by rw [Lib.toList_data, Lib.toList_data]; simpa using hst
                      have HM := Lib.hid (sr_more HY2.out hst HH.out)
                      rw [hd2]
                      clear hst
                      go_wp2_with fail
                      go_roundw
                      case rel => exact ⟨j + 1, _, by go_num, by omega, HM.out, rfl⟩
                      case measure => simp [intOf]; omega
                  · have HM := Lib.hid (dup_more HY.out HD.out (show hasB (d.ns.take i) s.data.toList = false by rw [show i = j by omega]; exact HH.out))
                    go_wp2_with fail
                    go_roundw
                    case rel => exact ⟨i + 1, mq, by go_num, by rw [HE2.out]; omega, HM.out, rfl⟩
                    case measure => simp [intOf]; omega
              · have HT := Lib.hid (tail_0 HN6.out HALL.out (by have := HD.out; rwa [List.take_of_length_le (by rw [HE2.out]; omega)] at this))
                go_wp2_with fail
                go_ret
                exact ⟨by rw [HT.out]; rfl, HBW.out.trans ⟨rfl, rfl, rfl, Nat.le_refl _, fun _ _ => rfl⟩⟩
end Go.Proofs.Ytolognhjdmkohaa
