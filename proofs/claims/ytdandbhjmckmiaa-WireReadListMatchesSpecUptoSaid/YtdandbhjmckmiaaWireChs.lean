/-
  The comparison of two lists of byte strings; the laws on wire.ReadList.
-/
import Derived.Test.YtdandbhjmckmiaaWireMath4
namespace Go.Proofs.Ytdandbhjmckmiaa
open Go.RowKit
set_option linter.unusedVariables false
set_option linter.unusedSimpArgs false

theorem quiet_l {P : Program} {f : FuncId} {args : Array Value} {w : World} {n : Nat} {v : Value} (h : Calls P f args (w.drewN n) fun e w' => e = .returned v ∧ w.drewN n = w') : Calls P f args (w.drewN n) fun e w'' => e = .returned v ∧ ∃ m, w'' = w.drewN m :=
  h.mono fun _ _ ⟨he, hm⟩ => ⟨he, n, hm.symm⟩
theorem quiet_al {P : Program} {f : FuncId} {args : Array Value} {w : World} {a n : Nat} {v : Value} (h : Calls P f args (w.drewN (a + n)) fun e w' => e = .returned v ∧ w.drewN (a + n) = w') : Calls P f args (w.drewN (a + n)) fun e w'' => e = .returned v ∧ ∃ m, w'' = w.drewN (a + m) :=
  h.mono fun _ _ ⟨he, hm⟩ => ⟨he, n, hm.symm⟩

def CmpRelC (w : World) (xs ys : List (List UInt8)) (k : Value) (wr : World) : Prop := ∃ i nq : Nat, k = .int .i64 (i : Int) ∧ i ≤ xs.length ∧ xs.take i = ys.take i ∧ wr = w.drewN nq

set_option maxRecDepth 100000 in
set_option maxHeartbeats 400000 in
theorem chunks_calls {w : World} {B B' : Nat} {A A' : Option Addr} {n n' c c' : Nat} {xs ys : List (List UInt8)} (ha : Chs w B A n xs) (hb : Chs w B' A' n' ys) (hm : n ≤ 140737488355328) :
    Calls Try.prog 33 #[.slice A n c, .slice A' n' c'] w (Quiet w (.bool (xs == ys))) := by
  have hl : xs.length = n := ha.len
  have hl' : ys.length = n' := hb.len
  have HA := Lib.hid ha
  have HB := Lib.hid hb
  have HL := Lib.hid hl
  have HL' := Lib.hid hl'
  clear ha hb hl hl'
  by_cases hnn : n = n'
  · have hd : ((n : Int) != (n' : Int)) = false := by simp [hnn]
    have HNN := Lib.hid hnn
    clear hnn
    go_enter Try.func33, Try.ntmps33
    go_wp2_with fail
    go_loopw [5] (fun k wr => CmpRelC w xs ys k wr) (fun k _ => n - (intOf k).toNat)
    case atStart => exact ⟨0, 0, rfl, Nat.zero_le _, rfl, rfl⟩
    case round =>
      obtain ⟨i, nq, rfl, hi, ht, rfl⟩ := hrel
      rw [HL.out] at hi
      have HT := Lib.hid ht
      clear ht
      by_cases hlt : i < n
      · obtain ⟨b, o, x, A1, n1, c1, rfl, hbB, hxi, hcell, hr1, _⟩ := HA.out.at_ hlt
        obtain ⟨b', o', y, A2, n2, c2, rfl, hbB', hyi, hcell', hr2, _⟩ := HB.out.at_ (k := i) (by have := HNN.out; omega)
        have HX := Lib.hid hxi
        have HY := Lib.hid hyi
        have HR1 := Lib.hid hr1
        have HR2 := Lib.hid hr2
        have hli : (i : Int) < (n : Int) := by omega
        have hli' : (i : Int) < (n' : Int) := by have := HNN.out; omega
        have h0 : (0 : Int) ≤ (i : Int) := by omega
        have hlt' : i < n' := by omega
        clear hxi hyi hr1 hr2
        go_upto_region 6 with (fail)
        by_cases hxy : x = y
        · have hd2 : (x == y) = true := by simp [hxy]
          have HXY := Lib.hid hxy
          clear hxy
          go_quiet ((go_at_call 15; first | exact quiet_al (bytes_calls (by exact HR1.out) (by exact HR2.out)) | exact quiet_l (bytes_calls (by exact HR1.out) (by exact HR2.out))))
          go_wp2_with fail
          go_roundw
          case rel => exact ⟨i + 1, _, by go_num, by rw [HL.out]; omega, take_eq_succ HT.out HX.out HY.out HXY.out, rfl⟩
          case measure => simp [intOf]; omega
        · have hd2 : (x == y) = false := by simp [hxy]
          have HXY := Lib.hid hxy
          clear hxy
          go_quiet ((go_at_call 15; first | exact quiet_al (bytes_calls (by exact HR1.out) (by exact HR2.out)) | exact quiet_l (bytes_calls (by exact HR1.out) (by exact HR2.out))))
          go_wp2_with fail
          go_ret
          rw [show (xs == ys) = false by simp; exact ne_of_at HX.out HY.out HXY.out]
          exact ⟨rfl, _, World.drewN_drewN _ _ _⟩
      · go_wp2_with fail
        go_ret
        rw [show (xs == ys) = true by
          simp
          have := HT.out
          rw [List.take_of_length_le (by rw [HL.out]; omega), List.take_of_length_le (by rw [HL'.out]; have := HNN.out; omega)] at this
          exact this]
        exact ⟨rfl, _, rfl⟩
  · have hd : ((n : Int) != (n' : Int)) = true := by simp; omega
    have HNN := Lib.hid (show (xs == ys) = false by simp; rintro rfl; exact hnn (by rw [← HL.out, HL'.out]))
    clear hnn
    go_enter Try.func33, Try.ntmps33
    go_wp2_with fail
    go_ret
    rw [HNN.out]
    exact ⟨rfl, 0, rfl⟩

theorem readList_tot {bs : List UInt8} (hl : bs.length ≤ 9223372036854775807) : tot (readList bs).1 ≤ bs.length := by
  rcases readLC_or hl 0 (bs.length : Int) with ⟨c, j, hc, hr⟩ | ⟨m, y, hr, ht, hy⟩
  · rw [readList_fault hr hc]; simp [tot]
  · by_cases hlt : (y : Int) < (bs.length : Int)
    · rw [readList_short hr hlt]; simp [tot]
    · rw [readList_whole hr hlt]; simp only; omega

set_option maxRecDepth 100000 in
set_option maxHeartbeats 400000 in
theorem readListMatches_calls {w : World} {A : Option Addr} {n c : Nat} {bs : List UInt8} (h : Rd w w.heap.size 1 A n (bv bs)) (hn : n ≤ 1048576) (hnc : n ≤ c) :
    Calls Try.prog 11 #[.slice A n c] w fun e w' => e = .returned (.bool true) ∧ Below w.heap.size w w' := by
  obtain ⟨x, cd, ix, hr⟩ : ∃ x cd ix, readList bs = (x, cd, ix) := ⟨_, _, _, rfl⟩
  have hl : bs.length = n := by have := h.len; rw [bv_len] at this; exact this
  have hxl : x.length ≤ 1048576 := by have := readList_tot (bs := bs) (by omega); rw [hr] at this; simp only at this; have := tot_len x; omega
  have HR := Lib.hid hr
  clear hr hl
  go_enter Try.func11, Try.ntmps11
  go_wp2_with fail
  refine (example_calls _).mono ?_
  rintro e w1 ⟨rfl, hb1⟩
  have HB1 := Lib.hid hb1
  clear hb1
  go_wp2_with fail
  refine (readList_calls ((h.below HB1.out).more HB1.out.size) (by omega) hnc).mono ?_
  rintro e w2 ⟨A2, c2, rfl, hown2, hb2⟩
  have HB2 := Lib.hid (chain HB1.out hb2)
  clear hb2
  rw [HR.out] at hown2 ⊢
  have HO2 := Lib.hid hown2.chs
  clear hown2
  go_wp2_with fail
  have hx := chain_alloc HB2.out (.cells #[.int .i64 cd, .int .i64 ix] 28)
  refine (getList_calls ((h.below hx).more hx.size) (by omega) hnc).mono ?_
  rintro e w3 ⟨A3, c3, rfl, hown3, hb3⟩
  obtain ⟨z1, q1, q2⟩ := keep_fault hb3
  have HB3 := Lib.hid (chain hx hb3)
  have HO2' := Lib.hid ((HO2.out.below ((Below.refl _ _).alloc (Nat.le_refl _) (.cells #[.int .i64 cd, .int .i64 ix] 28))).below (hb3.mono (by simp)))
  rw [HR.out] at hown3 ⊢
  have HO3 := Lib.hid hown3.chs
  clear hb3 hx hown3
  go_wp2_with fail
  refine (chunks_calls (HO2'.out.below ((Below.refl _ _).alloc (Nat.le_of_lt z1) _)) (HO3.out.below ((Below.refl _ _).alloc (Nat.le_refl _) _)) (by omega)).mono ?_
  rintro e w4 ⟨rfl, nq, rfl⟩
  rw [show (x == x) = true by simp]
  go_wp2
  go_ret
  exact ⟨rfl, (chain_alloc HB3.out _).trans (below_drewN' _ _ _)⟩

set_option maxRecDepth 100000 in
set_option maxHeartbeats 400000 in
theorem listUnique_calls {w : World} {A : Option Addr} {n c : Nat} {bs : List UInt8} (h : Rd w w.heap.size 1 A n (bv bs)) (hn : n ≤ 1048576) (hnc : n ≤ c) :
    Calls Try.prog 13 #[.slice A n c] w fun e w' => e = .returned (.bool true) ∧ Below w.heap.size w w' := by
  obtain ⟨x, cd, ix, hr⟩ : ∃ x cd ix, readList bs = (x, cd, ix) := ⟨_, _, _, rfl⟩
  have hl : bs.length = n := by have := h.len; rw [bv_len] at this; exact this
  have hxl : tot x ≤ 1048576 := by have := readList_tot (bs := bs) (by omega); rw [hr] at this; simp only at this; omega
  have HR := Lib.hid hr
  have HL := Lib.hid hl
  clear hr hl
  by_cases hcd : cd = 0
  · subst hcd
    have HI := Lib.hid (readList_inv (by rw [HL.out]; omega) HR.out)
    go_enter Try.func13, Try.ntmps13
    go_wp2_with fail
    refine (example_calls _).mono ?_
    rintro e w1 ⟨rfl, hb1⟩
    have HB1 := Lib.hid hb1
    clear hb1
    go_wp2_with fail
    refine (readList_calls ((h.below HB1.out).more HB1.out.size) (by omega) hnc).mono ?_
    rintro e w2 ⟨A2, c2, rfl, hown2, hb2⟩
    have HB2 := Lib.hid (chain HB1.out hb2)
    clear hb2
    rw [HR.out] at hown2 ⊢
    have HO2 := Lib.hid hown2.chs
    clear hown2
    go_wp2_with fail
    have hx := chain_alloc HB2.out (.cells #[.int .i64 0, .int .i64 ix] 28)
    refine (list_calls ((HO2.out.below ((Below.refl _ _).alloc (Nat.le_refl _) _)).more (by simp)) hxl).mono ?_
    rintro e w3 ⟨A3, c3, rfl, hown3, hb3⟩
    rw [HI.out] at hown3 ⊢
    have HB3 := Lib.hid (chain hx hb3)
    go_wp2_with fail
    refine (bytes_calls (Rd.of_own hown3) (h.below HB3.out)).mono ?_
    rintro e w4 ⟨rfl, rfl⟩
    rw [show (bs == bs) = true by simp]
    go_wp2
    go_ret
    exact ⟨rfl, HB3.out⟩
  · have HX := Lib.hid (show x = [] by
      rcases readLC_or (bs := bs) (by rw [HL.out]; omega) 0 (bs.length : Int) with ⟨c', j, hc', hr'⟩ | ⟨m, y, hr', _, _⟩
      · have := HR.out; rw [readList_fault hr' hc'] at this; simp only [Prod.mk.injEq] at this; exact this.1.symm
      · by_cases hlt : (y : Int) < (bs.length : Int)
        · have := HR.out; rw [readList_short hr' hlt] at this; simp only [Prod.mk.injEq] at this; exact this.1.symm
        · have := HR.out; rw [readList_whole hr' hlt] at this; simp only [Prod.mk.injEq] at this; exact absurd this.2.1.symm hcd)
    have hd : (cd != 0) = true := by simp [hcd]
    clear hcd
    go_enter Try.func13, Try.ntmps13
    go_wp2_with fail
    refine (example_calls _).mono ?_
    rintro e w1 ⟨rfl, hb1⟩
    have HB1 := Lib.hid hb1
    clear hb1
    go_wp2_with fail
    refine (readList_calls ((h.below HB1.out).more HB1.out.size) (by omega) hnc).mono ?_
    rintro e w2 ⟨A2, c2, rfl, hown2, hb2⟩
    have HB2 := Lib.hid (chain HB1.out hb2)
    clear hb2 hown2
    rw [HR.out, HX.out]
    go_wp2
    go_ret
    exact ⟨rfl, chain_alloc HB2.out _⟩

set_option maxRecDepth 100000 in
set_option maxHeartbeats 400000 in
theorem listRoundTrip_calls {w : World} {A : Option Addr} {n c : Nat} {l : List (List UInt8)} (h : Chs w w.heap.size A n l) (cut : Int) (ht : tot l ≤ 1048576) :
    Calls Try.prog 12 #[.slice A n c, .int .i64 cut] w fun e w' => e = .returned (.bool true) ∧ Below w.heap.size w w' := by
  have hbl := listAcc_len l l.length ht
  rw [listAcc_all l l.length (Nat.le_refl _)] at hbl
  have hn : n ≤ 1048576 := by have := tot_len l; have := h.len; omega
  have HR := Lib.hid (readList_enc l ht)
  have HLN := Lib.hid h.len
  have HT := Lib.hid ht
  have HH := Lib.hid h
  have HC := Lib.hid (fun c => readList_cut l ht c)
  clear h ht
  generalize hbs : listEnc l = bs at *
  have HBS := Lib.hid hbs
  clear hbs
  go_enter Try.func12, Try.ntmps12
  go_wp2_with fail
  refine (example_calls _).mono ?_
  rintro e w1 ⟨rfl, hb1⟩
  have HB1 := Lib.hid hb1
  clear hb1
  go_wp2_with fail
  refine (list_calls ((HH.out.below HB1.out).more HB1.out.size) HT.out).mono ?_
  rintro e w2 ⟨A2, c2, rfl, hown2, hb2⟩
  rw [HBS.out] at hown2 ⊢
  have HB2 := Lib.hid (chain HB1.out hb2)
  have HO2 := Lib.hid (Rd.of_own hown2)
  have hcap := (own_cap hown2).1
  clear hb2 hown2
  go_wp2_with fail
  refine (readList_calls HO2.out (by omega) hcap).mono ?_
  rintro e w3 ⟨A3, c3, rfl, hown3, hb3⟩
  rw [HR.out] at hown3 ⊢
  have HB3 := Lib.hid (chain HB2.out hb3)
  have HO3 := Lib.hid hown3.chs
  have HO2' := Lib.hid (HO2.out.below hb3)
  have hz3 := hb3.size
  clear hb3 hown3
  go_wp2_with fail
  have hx := chain_alloc HB3.out (.cells #[.int .i64 0, .int .i64 0] 28)
  refine (chunks_calls (HH.out.below hx) (HO3.out.below ((Below.refl _ _).alloc (Nat.le_refl _) _)) (by omega)).mono ?_
  rintro e w4 ⟨rfl, nq, rfl⟩
  rw [show (l == l) = true by simp]
  by_cases hcut : 0 ≤ cut ∧ cut ≤ (bs.length : Int) - 1
  · obtain ⟨k, rfl⟩ := Int.eq_ofNat_of_zero_le hcut.1
    have hk : k < bs.length := by omega
    have hd : (decide ((0 : Int) ≤ (k : Int)) && decide ((k : Int) ≤ (bs.length : Int) - 1)) = true := by simp; omega
    have hd2 : decide ((k : Int) ≤ (bs.length : Int) - 1) = true := decide_eq_true (by omega)
    obtain ⟨cd, ix, hcd, hcc⟩ := HC.out k hk
    have HCC := Lib.hid hcc
    have HCD := Lib.hid hcd
    have hsl := fun W => run_cut_h slB A2 bs.length c2 k (by omega) W
    have HRC := Lib.hid ((HO2'.out.cut (k := 0) (m := k) (c := c2) (by omega) hcap).below ((((Below.refl w2.heap.size w3).alloc hz3 (.cells #[.int .i64 0, .int .i64 0] 28)).trans (below_drewN' _ _ nq))))
    clear hcut hcc hcd
    go_wp2_with (go_at_call 34; refine (in_calls _ _ _ _).mono ?_; rintro e w' ⟨rfl, rfl⟩)
    refine (readList_calls (bs := bs.take k) (by have := HRC.out; rw [bv_cut, List.drop_zero] at this; exact this.more (Nat.le_trans hz3 (by simp))) (by omega) (by omega)).mono ?_
    rintro e w5 ⟨A5, c5, rfl, hown5, hb5⟩
    rw [HCC.out] at hown5 ⊢
    have HB5 := Lib.hid (chain (hx.trans (below_drewN' _ _ nq)) hb5)
    clear hown5 hb5 hx
    have HCD' := HCD.out
    clear HCD
    rcases HCD' with rfl | rfl
    · go_wp2_with fail
      go_ret
      exact ⟨rfl, chain_alloc HB5.out _⟩
    · go_wp2_with fail
      go_ret
      exact ⟨rfl, chain_alloc HB5.out _⟩
  · have hd : (decide ((0 : Int) ≤ cut) && decide (cut ≤ (bs.length : Int) - 1)) = false := by simp; omega
    clear hcut
    go_wp2_with (go_at_call 34; refine (in_calls _ _ _ _).mono ?_; rintro e w' ⟨rfl, rfl⟩)
    go_ret
    exact ⟨rfl, hx.trans (below_drewN' _ _ _)⟩
end Go.Proofs.Ytdandbhjmckmiaa
