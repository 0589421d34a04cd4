/-
  The contract of wire.ReadNumber.
-/
import Derived.Test.YtdandbhjmckmiaaWireNum
import Derived.Deep.DeepCutAuto
namespace Go.Proofs.Ytdandbhjmckmiaa
open Go.RowKit
set_option linter.unusedVariables false
set_option linter.unusedSimpArgs false

/-- what a reader of a number answers -/
def NumEnd (w : World) (r : Int × Int × Int × Int) (e : Ending) (w' : World) : Prop :=
  e = .returned (.tuple #[.int .i64 r.1, .int .i64 r.2.1, .agg #[.int .i64 r.2.2.1, .int .i64 r.2.2.2]]) ∧ Below w.heap.size w w'

def ReadRel (l : List UInt8) (u i : Value) : Prop :=
  ∃ x k : Nat, u = .int .u64 (x : Int) ∧ i = .int .i64 (k : Int) ∧ k ≤ 9 ∧ k ≤ l.length ∧ x < 128 ^ k ∧ dec l = comb x k (decF k (l.drop k))

theorem read_inl {w w' : World} {bs : List UInt8} {k : Nat} {e : Nat} (hr : readNum bs k = (match dec (bs.drop k) with | .inl e => (0, 0, (e : Int), (k : Int)) | .inr p => (zag p.1, (k : Int) + (p.2 : Int), 0, 0)))
    (hd : dec (bs.drop k) = .inl e) (hb : Below w.heap.size w w') : NumEnd w (readNum bs k) (.returned (.tuple #[.int .i64 0, .int .i64 0, .agg #[.int .i64 (e : Int), .int .i64 k]])) w' := by
  rw [hr, hd]; exact ⟨rfl, hb⟩
theorem read_inr {w w' : World} {bs : List UInt8} {k : Nat} {y j : Nat} {m : Int} (hr : readNum bs k = (match dec (bs.drop k) with | .inl e => (0, 0, (e : Int), (k : Int)) | .inr p => (zag p.1, (k : Int) + (p.2 : Int), 0, 0)))
    (hd : dec (bs.drop k) = .inr (y, j)) (hm : m = (k : Int) + (j : Int)) (hb : Below w.heap.size w w') : NumEnd w (readNum bs k) (.returned (.tuple #[.int .i64 (zag y), .int .i64 m, .agg #[.int .i64 0, .int .i64 0]])) w' := by
  subst hm; rw [hr, hd]; exact ⟨rfl, hb⟩
theorem read_trunc {bs : List UInt8} {k i x : Nat} {r : Sum Nat (Nat × Nat)} (hd : r = comb x i (decF i ((bs.drop k).drop i))) (h : k + i = bs.length) : r = .inl 15 := by
  rw [hd, List.drop_drop, List.drop_of_length_le (by omega)]; rfl
theorem read_cons {bs : List UInt8} {k i : Nat} (h : k + i < bs.length) : (bs.drop k).drop i = bs[k + i] :: (bs.drop k).drop (i + 1) := by
  rw [List.drop_drop, List.drop_eq_getElem_cons h, List.drop_drop, Nat.add_assoc]
theorem read_lt (x i c : Nat) (hx : x < 128 ^ i) : x + 128 ^ i * (c % 128) < 128 ^ (i + 1) := by
  rw [Nat.pow_succ]
  generalize 128 ^ i = q at *
  have : q * (c % 128) ≤ q * 127 := Nat.mul_le_mul_left _ (by omega)
  omega
def synB (i c : Nat) : Bool := decide ((i = 9 ∧ 1 < c) ∨ (0 < i ∧ c = 0))
theorem synB_yes {i c : Nat} (h : (i = 9 ∧ 1 < c) ∨ (0 < i ∧ c = 0)) : synB i c = true := decide_eq_true h
theorem synB_no {i c : Nat} (h : ¬ ((i = 9 ∧ 1 < c) ∨ (0 < i ∧ c = 0))) : synB i c = false := decide_eq_false h

set_option maxRecDepth 100000 in
set_option maxHeartbeats 400000 in
theorem readNumber_calls {w : World} {A : Option Addr} {n c : Nat} {bs : List UInt8} (h : Rd w w.heap.size 1 A n (bv bs)) (at_ : Int) (hn : n ≤ maxLen) :
    Calls Try.prog 18 #[.slice A n c, .int .i64 at_] w (NumEnd w (readNum bs at_)) := by
  unfold maxLen at hn
  have hnl : bs.length = n := by have := h.len; rw [bv_len] at this; exact this
  by_cases h0 : at_ < 0
  · have HR := Lib.hid (show readNum bs at_ = (0, 0, 4, -2) by unfold readNum; rw [if_pos (.inl h0)])
    clear hnl
    go_enter Try.func18, Try.ntmps18
    go_wp2_with (go_at_call 35; refine (fault_calls _ _ _).mono ?_; rintro e w' ⟨rfl, rfl⟩)
    rw [HR.out]
    refine bodyPost_ret (v := .tuple #[.int .i64 0, .int .i64 0, .agg #[.int .i64 4, .int .i64 (-2)]]) (by simp [results, Try.results18, go_sem]) rfl ⟨rfl, ?_⟩
    exact ((Below.refl _ _).alloc (Nat.le_refl _) _).alloc (by simp) _
  · by_cases h1 : (n : Int) < at_
    · have HR := Lib.hid (show readNum bs at_ = (0, 0, 4, -2) by unfold readNum; rw [if_pos (.inr (by omega))])
      clear hnl
      go_enter Try.func18, Try.ntmps18
      go_wp2_with (go_at_call 35; refine (fault_calls _ _ _).mono ?_; rintro e w' ⟨rfl, rfl⟩)
      rw [HR.out]
      refine bodyPost_ret (v := .tuple #[.int .i64 0, .int .i64 0, .agg #[.int .i64 4, .int .i64 (-2)]]) (by simp [results, Try.results18, go_sem]) rfl ⟨rfl, ?_⟩
      exact ((Below.refl _ _).alloc (Nat.le_refl _) _).alloc (by simp) _
    · obtain ⟨k, rfl⟩ := Int.eq_ofNat_of_zero_le (show 0 ≤ at_ by omega)
      have hk : k ≤ n := by omega
      have HR := Lib.hid (show readNum bs k = (match dec (bs.drop k) with | .inl e => (0, 0, (e : Int), (k : Int)) | .inr p => (zag p.1, (k : Int) + (p.2 : Int), 0, 0)) by
        unfold readNum; rw [if_neg (by omega)]; rfl)
      have HNL := Lib.hid hnl
      have d1 : decide ((k : Int) < 0) = false := decide_eq_false (by omega)
      have d2 : decide (n < k) = false := decide_eq_false (by omega)
      clear hnl h0 h1
      go_enter Try.func18, Try.ntmps18
      go_wp2_with fail
      go_loop [7, 19] (fun u i => ReadRel (bs.drop k) u i) (fun _ i => 10 - (intOf i).toNat)
      case atStart => exact ⟨0, 0, rfl, rfl, by omega, by simp, by simp, by simp [comb_zero, dec]⟩
      case round =>
        obtain ⟨x, i, rfl, rfl, hi9, hil, hx, hd⟩ := hrel
        have hil2 : k + i ≤ n := by rw [List.length_drop, HNL.out] at hil; omega
        have HD := Lib.hid hd
        have HI := Lib.hid hil
        clear hd hil
        by_cases hend : k + i = n
        · have hee : ((k : Int) + (i : Int) == (n : Int)) = true := by simp; omega
          have HH := Lib.hid hend
          clear hend
          go_wp2_with (go_at_call 35; refine (fault_calls _ _ _).mono ?_; rintro e w' ⟨rfl, rfl⟩)
          refine bodyPost_ret (v := .tuple #[.int .i64 0, .int .i64 0, .agg #[.int .i64 15, .int .i64 k]]) (by simp [results, Try.results18, go_sem]) rfl ?_
          exact read_inl HR.out (read_trunc HD.out (by rw [HNL.out]; exact HH.out)) (((Below.refl _ _).alloc (Nat.le_refl _) _).alloc (by simp) _)
        · have hlt : k + i < n := by omega
          have hee : ((k : Int) + (i : Int) == (n : Int)) = false := by simp; omega
          obtain ⟨b, o, u, rfl, hbB, hu, hcell⟩ := h.at_ hlt
          have hci : k + i < bs.length := by rw [HNL.out]; exact hlt
          obtain rfl : u = .int .u8 ((bs[k + i].toNat : Nat) : Int) := by simpa [bv, List.getElem?_eq_getElem hci] using hu.symm
          have HB := Lib.hid (read_cons (bs := bs) (k := k) (i := i) hci)
          have hc256 : (bs[k + i].toNat : Int) < 256 := by have := UInt8.toNat_lt bs[k + i]; omega
          clear hu h
          generalize bs[k + i] = cb at *
          go_upto_region 10 with (fail)
          go_cut [49] (fun t wx => t = .bool (synB i cb.toNat) ∧ wx = (w.alloc (Obj.cells #[Value.int IntKind.i64 0, Value.int IntKind.i64 0] 28)))
          case first =>
            by_cases g1 : i = 9
            · have g1' : ((i : Int) == 9) = true := by rw [g1]; rfl
              by_cases g2 : 1 < cb.toNat
              · have g2' : (1 : Int) < (cb.toNat : Int) := by omega
                have HS := Lib.hid (synB_yes (i := i) (c := cb.toNat) (.inl ⟨g1, g2⟩))
                clear g1
                go_wp2_with fail
                go_meet
                exact ⟨by rw [HS.out], rfl⟩
              · have g2' : ¬ (1 : Int) < (cb.toNat : Int) := by omega
                have g3 : (0 : Int) < (i : Int) := by omega
                by_cases g4 : cb.toNat = 0
                · have g4' : ((cb.toNat : Int) == 0) = true := by rw [g4]; rfl
                  have HS := Lib.hid (synB_yes (i := i) (c := cb.toNat) (.inr ⟨by omega, g4⟩))
                  clear g1 g4
                  go_wp2_with fail
                  go_meet
                  exact ⟨by rw [HS.out], rfl⟩
                · have g4' : ((cb.toNat : Int) == 0) = false := by simp; omega
                  have HS := Lib.hid (synB_no (i := i) (c := cb.toNat) (by omega))
                  clear g1 g4
                  go_wp2_with fail
                  go_meet
                  exact ⟨by rw [HS.out], rfl⟩
            · have g1' : ((i : Int) == 9) = false := by simp; omega
              by_cases g3 : 0 < i
              · have g3' : (0 : Int) < (i : Int) := by omega
                by_cases g4 : cb.toNat = 0
                · have g4' : ((cb.toNat : Int) == 0) = true := by rw [g4]; rfl
                  have HS := Lib.hid (synB_yes (i := i) (c := cb.toNat) (.inr ⟨by omega, g4⟩))
                  clear g1 g4
                  go_wp2_with fail
                  go_meet
                  exact ⟨by rw [HS.out], rfl⟩
                · have g4' : ((cb.toNat : Int) == 0) = false := by simp; omega
                  have HS := Lib.hid (synB_no (i := i) (c := cb.toNat) (by omega))
                  clear g1 g4
                  go_wp2_with fail
                  go_meet
                  exact ⟨by rw [HS.out], rfl⟩
              · have g3' : ¬ (0 : Int) < (i : Int) := by omega
                have HS := Lib.hid (synB_no (i := i) (c := cb.toNat) (by omega))
                clear g1
                go_wp2_with fail
                go_meet
                exact ⟨by rw [HS.out], rfl⟩
          case rest =>
            obtain ⟨rfl, rfl⟩ := hcut
            by_cases hs : (i = 9 ∧ 1 < cb.toNat) ∨ (0 < i ∧ cb.toNat = 0)
            · have HS := Lib.hid hs
              rw [synB_yes hs]
              clear hs
              go_wp2_with (go_at_call 35; refine (fault_calls _ _ _).mono ?_; rintro e w' ⟨rfl, rfl⟩)
              refine bodyPost_ret (v := .tuple #[.int .i64 0, .int .i64 0, .agg #[.int .i64 1, .int .i64 k]]) (by simp [results, Try.results18, go_sem]) rfl ?_
              exact read_inl HR.out (by rw [HD.out, HB.out, comb_syn _ _ _ _ HS.out]) (((Below.refl _ _).alloc (Nat.le_refl _) _).alloc (by simp) _)
            · have HS := Lib.hid hs
              rw [synB_no hs]
              clear hs
              go_upto_region 11 with (fail)
              go_cut [7] (fun u wx => u = .int .u64 ((x + 128 ^ i * (cb.toNat % 128) : Nat) : Int) ∧ wx = (w.alloc (Obj.cells #[Value.int IntKind.i64 0, Value.int IntKind.i64 0] 28)))
              case first =>
                go_wp2_with fail
                go_meet
                exact ⟨by rw [or_shl x i cb.toNat hx hi9 (by omega) (by have := HS.out; omega)], rfl⟩
              case rest =>
                obtain ⟨rfl, rfl⟩ := hcut
                by_cases hc : cb.toNat < 128
                · have HV := Lib.hid (show dec (bs.drop k) = .inr (x + 128 ^ i * (cb.toNat % 128), i + 1) by
                    rw [HD.out, HB.out, comb_end _ _ _ _ HS.out hc, Nat.mod_eq_of_lt hc])
                  have hv := (dec_inv HV.out).2.2.2
                  generalize x + 128 ^ i * (cb.toNat % 128) = y at *
                  have hc' : (cb.toNat : Int) < 128 := by omega
                  have HY := Lib.hid hv
                  clear hv
                  go_wp2_with fail
                  rw [zag_bits y HY.out]
                  refine bodyPost_ret (v := .tuple #[.int .i64 (zag y), .int .i64 ((k : Int) + (i : Int) + 1), .agg #[.int .i64 0, .int .i64 0]]) (by simp [results, Try.results18, go_sem]) rfl ?_
                  exact read_inr HR.out HV.out (by omega) ((Below.refl _ _).alloc (Nat.le_refl _) _)
                · have hc' : ¬ (cb.toNat : Int) < 128 := by omega
                  have HN := Lib.hid (show dec (bs.drop k) = comb (x + 128 ^ i * (cb.toNat % 128)) (i + 1) (decF (i + 1) ((bs.drop k).drop (i + 1))) by
                    rw [HD.out, HB.out, comb_next _ _ _ _ HS.out hc, show cb.toNat % 128 = cb.toNat - 128 by omega])
                  have hy := read_lt x i cb.toNat hx
                  have hi8 : i < 9 := by have := HS.out; omega
                  generalize x + 128 ^ i * (cb.toNat % 128) = y at *
                  go_wp2_with fail
                  go_round
                  case rel => exact ⟨y, i + 1, rfl, by go_num, by omega, by rw [List.length_drop, HNL.out]; omega, hy, HN.out⟩
                  case measure => simp [intOf]; omega
end Go.Proofs.Ytdandbhjmckmiaa
