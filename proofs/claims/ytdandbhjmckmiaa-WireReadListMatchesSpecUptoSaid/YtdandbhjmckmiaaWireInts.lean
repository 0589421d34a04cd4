/-
  The comparison of two lists of numbers; the law on wire.ReadSlice at numbers.
-/
import Derived.Test.YtdandbhjmckmiaaWireReadL
import Derived.Deep.QuietTactic
import Derived.BigQuiet
namespace Go.Proofs.Ytdandbhjmckmiaa
open Go.RowKit
set_option linter.unusedVariables false
set_option linter.unusedSimpArgs false

def CmpRel (w : World) (xs ys : List Int) (k : Value) (wr : World) : Prop := ∃ i nq : Nat, k = .int .i64 (i : Int) ∧ i ≤ xs.length ∧ xs.take i = ys.take i ∧ wr = w.drewN nq
theorem take_eq_succ {α : Type} {xs ys : List α} {i : Nat} {x y : α} (h : xs.take i = ys.take i) (hx : xs[i]? = some x) (hy : ys[i]? = some y) (e : x = y) : xs.take (i + 1) = ys.take (i + 1) := by
  obtain ⟨h1, rfl⟩ := List.getElem?_eq_some_iff.1 hx
  obtain ⟨h2, rfl⟩ := List.getElem?_eq_some_iff.1 hy
  rw [List.take_succ_eq_append_getElem h1, List.take_succ_eq_append_getElem h2, h, e]
theorem ne_of_at {α : Type} {xs ys : List α} {i : Nat} {x y : α} (hx : xs[i]? = some x) (hy : ys[i]? = some y) (e : x ≠ y) : xs ≠ ys := by
  rintro rfl
  rw [hx] at hy
  injection hy with hy
  exact e hy
/-- an answer, nothing but draws -/
def Quiet (w : World) (v : Value) (e : Ending) (w' : World) : Prop := e = .returned v ∧ ∃ n, w' = w.drewN n
theorem below_drewN' (B : Nat) (w : World) (n : Nat) : Below B w (w.drewN n) := ⟨rfl, rfl, rfl, Nat.le_refl _, fun _ _ => rfl⟩

set_option maxRecDepth 100000 in
set_option maxHeartbeats 400000 in
theorem ints_calls {w : World} {B B' : Nat} {A A' : Option Addr} {n n' c c' : Nat} {xs ys : List Int} (ha : Rd w B 1 A n (iv xs)) (hb : Rd w B' 1 A' n' (iv ys)) (hm : n ≤ 140737488355328) :
    Calls Try.prog 30 #[.slice A n c, .slice A' n' c'] w (Quiet w (.bool (xs == ys))) := by
  have hl : xs.length = n := by have := ha.len; rw [iv_len] at this; exact this
  have hl' : ys.length = n' := by have := hb.len; rw [iv_len] at this; exact this
  have HA := Lib.hid ha
  have HB := Lib.hid hb
  have HL := Lib.hid hl
  have HL' := Lib.hid hl'
  clear ha hb hl hl'
  by_cases hnn : n = n'
  · have hd : ((n : Int) != (n' : Int)) = false := by simp [hnn]
    have HNN := Lib.hid hnn
    clear hnn
    go_enter Try.func30, Try.ntmps30
    go_wp2_with fail
    go_loopw [5] (fun k wr => CmpRel w xs ys k wr) (fun k _ => n - (intOf k).toNat)
    case atStart => exact ⟨0, 0, rfl, Nat.zero_le _, rfl, rfl⟩
    case round =>
      obtain ⟨i, nq, rfl, hi, ht, rfl⟩ := hrel
      rw [HL.out] at hi
      have HT := Lib.hid ht
      clear ht
      by_cases hlt : i < n
      · obtain ⟨b, o, x, rfl, hbB, hxi, hcell⟩ := iv_at HA.out hlt
        obtain ⟨b', o', y, rfl, hbB', hyi, hcell'⟩ := iv_at HB.out (k := i) (by have := HNN.out; omega)
        have HX := Lib.hid hxi
        have HY := Lib.hid hyi
        have hli : (i : Int) < (n : Int) := by omega
        have hli' : (i : Int) < (n' : Int) := by have := HNN.out; omega
        have h0 : (0 : Int) ≤ (i : Int) := by omega
        have hlt' : i < n' := by omega
        clear hxi hyi
        go_upto_region 6 with (fail)
        go_quiet (fail)
        by_cases hxy : x = y
        · have hd2 : (x != y) = false := by simp [hxy]
          have HXY := Lib.hid hxy
          clear hxy
          go_wp2_with fail
          go_roundw
          case rel => exact ⟨i + 1, _, by go_num, by rw [HL.out]; omega, take_eq_succ HT.out HX.out HY.out HXY.out, rfl⟩
          case measure => simp [intOf]; omega
        · have hd2 : (x != y) = true := by simp [hxy]
          have HXY := Lib.hid hxy
          clear hxy
          go_wp2_with fail
          go_ret
          rw [show (xs == ys) = false by simp; exact ne_of_at HX.out HY.out HXY.out]
          exact ⟨rfl, _, World.drewN_drewN _ _ _⟩
      · go_wp2_with fail
        go_ret
        rw [show (xs == ys) = true by
          simp
          have := HT.out
          rw [List.take_of_length_le (by rw [HL.out]; omega), List.take_of_length_le (by rw [HL'.out]; have := HNN.out; omega)] at this
          exact this]
        exact ⟨rfl, _, rfl⟩
  · have hd : ((n : Int) != (n' : Int)) = true := by simp; omega
    have HNN := Lib.hid (show (xs == ys) = false by simp; rintro rfl; exact hnn (by rw [← HL.out, HL'.out]))
    clear hnn
    go_enter Try.func30, Try.ntmps30
    go_wp2_with fail
    go_ret
    rw [HNN.out]
    exact ⟨rfl, 0, rfl⟩

theorem readInts_calls {w : World} {A : Option Addr} {n c : Nat} {bs : List UInt8} (h : Rd w w.heap.size 1 A n (bv bs)) (at_ most : Int) (hn : n ≤ 16777216) :
    Calls Try.prog 28 #[.slice A n c, .int .i64 at_, .int .i64 most, .func (.func 18) #[] #[]] w (NumsEnd w (readL (readNum bs) bs at_ most)) := by
  have hl : bs.length = n := by have := h.len; rw [bv_len] at this; exact this
  rcases readNum_next (bs := bs) (a := at_) (by omega) with ⟨cd, ix, hcd, hr⟩ | ⟨x, y, hr, _, hy, hx1, hx2⟩
  · rw [readL_fault hr hcd]
    exact readInts_fault h at_ most hn hr hcd
  · by_cases h0 : x < 0
    · rw [readL_range hr (.inl h0)]
      exact readInts_neg h at_ most hn hr h0
    · by_cases hm : most < x
      · rw [readL_range hr (.inr hm)]
        exact readInts_much h at_ most hn hr (by omega) hm
      · obtain ⟨k, rfl⟩ := Int.eq_ofNat_of_zero_le (show 0 ≤ x by omega)
        rw [readL_go hr (by omega)]
        exact readInts_go h at_ most hn hr (by omega) hx2 (by omega)

theorem getInts_calls {w : World} {A : Option Addr} {n c : Nat} {bs : List UInt8} (h : Rd w w.heap.size 1 A n (bv bs)) (at_ most : Int) (hn : n ≤ 16777216) :
    Calls Try.prog 29 #[.slice A n c, .int .i64 at_, .int .i64 most] w (NumsEnd w (readL (readNum bs) bs at_ most)) := by
  have hl : bs.length = n := by have := h.len; rw [bv_len] at this; exact this
  rcases readNum_next (bs := bs) (a := at_) (by omega) with ⟨cd, ix, hcd, hr⟩ | ⟨x, y, hr, _, hy, hx1, hx2⟩
  · rw [readL_fault hr hcd]
    exact getInts_fault h at_ most hn hr hcd
  · by_cases h0 : x < 0
    · rw [readL_range hr (.inl h0)]
      exact getInts_neg h at_ most hn hr h0
    · by_cases hm : most < x
      · rw [readL_range hr (.inr hm)]
        exact getInts_much h at_ most hn hr (by omega) hm
      · obtain ⟨k, rfl⟩ := Int.eq_ofNat_of_zero_le (show 0 ≤ x by omega)
        rw [readL_go hr (by omega)]
        exact getInts_go h at_ most hn hr (by omega) hx2 (by omega)

theorem rdI_len {bs : List UInt8} (hl : bs.length ≤ 9223372036854775807) (k : Nat) : ∀ y : Nat, (rdL (readNum bs) k (y : Int)).1.length ≤ bs.length := by
  suffices H : ∀ y : Nat, (rdL (readNum bs) k (y : Int)).1.length = 0 ∨ (rdL (readNum bs) k (y : Int)).1.length + y ≤ bs.length by
    intro y
    rcases H y with h | h <;> omega
  induction k with
  | zero => intro y; left; rfl
  | succ k ih =>
    intro y
    rcases readNum_next (bs := bs) (a := (y : Int)) hl with ⟨cd, ix, hcd, hr⟩ | ⟨x, y', hr, h1, h2, _⟩
    · left
      have := rdL_fault (k := k) hr hcd []
      rw [app_nil] at this
      rw [this]; rfl
    · have := rdL_step (k := k) hr []
      rw [app_nil] at this
      rw [this]
      unfold app
      split
      · rcases ih y' with h | h
        · exact .inl h
        · right; omega
      · right
        simp only [List.nil_append, List.length_append, List.length_cons, List.length_nil]
        rcases ih y' with h | h <;> omega
theorem readLI_len {bs : List UInt8} (hl : bs.length ≤ 9223372036854775807) (a most : Int) : (readL (readNum bs) bs a most).1.length ≤ bs.length := by
  rcases readNum_next (bs := bs) (a := a) hl with ⟨cd, ix, hcd, hr⟩ | ⟨x, y, hr, _, hy, _⟩
  · rw [readL_fault hr hcd]; simp
  · by_cases h : x < 0 ∨ most < x
    · rw [readL_range hr h]; simp
    · obtain ⟨k, rfl⟩ := Int.eq_ofNat_of_zero_le (show 0 ≤ x by omega)
      rw [readL_go hr (by omega), app_nil]
      exact rdI_len hl k y

set_option maxRecDepth 100000 in
set_option maxHeartbeats 400000 in
theorem numbersMatch_calls {w : World} {A : Option Addr} {n c : Nat} {bs : List UInt8} (h : Rd w w.heap.size 1 A n (bv bs)) (at_ most : Int) (hn : n ≤ 1048576) :
    Calls Try.prog 10 #[.slice A n c, .int .i64 at_, .int .i64 most] w fun e w' => e = .returned (.bool true) ∧ Below w.heap.size w w' := by
  obtain ⟨x, nx, cd, ix, hr⟩ : ∃ x nx cd ix, readL (readNum bs) bs at_ most = (x, nx, cd, ix) := ⟨_, _, _, _, rfl⟩
  have hl : bs.length = n := by have := h.len; rw [bv_len] at this; exact this
  have hxl : x.length ≤ 1048576 := by have := readLI_len (bs := bs) (by omega) at_ most; rw [hr] at this; simp only at this; omega
  have HR := Lib.hid hr
  clear hr hl
  go_enter Try.func10, Try.ntmps10
  go_wp2_with fail
  refine (example_calls _).mono ?_
  rintro e w1 ⟨rfl, hb1⟩
  have HB1 := Lib.hid hb1
  clear hb1
  go_wp2_with fail
  refine (readInts_calls ((h.below HB1.out).more HB1.out.size) at_ most (by omega)).mono ?_
  rintro e w2 ⟨A2, c2, rfl, hown2, hb2⟩
  have HB2 := Lib.hid (chain HB1.out hb2)
  clear hb2
  rw [HR.out] at hown2 ⊢
  have HO2 := Lib.hid (Rd.of_own hown2)
  clear hown2
  go_wp2_with fail
  have hx := chain_alloc HB2.out (.cells #[.int .i64 cd, .int .i64 ix] 28)
  refine (getInts_calls ((h.below hx).more hx.size) at_ most (by omega)).mono ?_
  rintro e w3 ⟨A3, c3, rfl, hown3, hb3⟩
  obtain ⟨z1, q1, q2⟩ := keep_fault hb3
  have HB3 := Lib.hid (chain hx hb3)
  have HO2' := Lib.hid ((HO2.out.alloc (Nat.le_refl _) (.cells #[.int .i64 cd, .int .i64 ix] 28)).below (hb3.mono (by simp)))
  rw [HR.out] at hown3 ⊢
  have HO3 := Lib.hid (Rd.of_own hown3)
  clear hb3 hx hown3
  go_wp2_with fail
  refine (ints_calls (HO2'.out.alloc (Nat.le_of_lt z1) _) (HO3.out.alloc (Nat.le_refl _) _) (by omega)).mono ?_
  rintro e w4 ⟨rfl, nq, rfl⟩
  rw [show (x == x) = true by simp]
  go_wp2
  go_ret
  exact ⟨rfl, (chain_alloc HB3.out _).trans (below_drewN' _ _ _)⟩
end Go.Proofs.Ytdandbhjmckmiaa
