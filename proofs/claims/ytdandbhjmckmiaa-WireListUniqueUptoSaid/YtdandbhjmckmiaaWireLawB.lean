/-
  The walks of the laws on reading numbers and byte strings, on prefixes and on round trips of numbers.
-/
import Derived.Test.YtdandbhjmckmiaaWireLawA
namespace Go.Proofs.Ytdandbhjmckmiaa
open Go.RowKit
set_option linter.unusedVariables false
set_option linter.unusedSimpArgs false

theorem Below.size_le {B : Nat} {w w' : World} (h : Below B w w') : w.heap.size ≤ w'.heap.size := h.size
/-- a chain of calls, each of which makes memory of its own -/
theorem chain {w w1 w2 : World} (h1 : Below w.heap.size w w1) (h2 : Below w1.heap.size w1 w2) : Below w.heap.size w w2 := h1.trans (h2.mono h1.size)
theorem chain_alloc {w w1 : World} (h1 : Below w.heap.size w w1) (o : Obj) : Below w.heap.size w (w1.alloc o) := h1.alloc h1.size o

/-- the cells of a fault laid ahead of a call that makes memory of its own -/
theorem keep_fault {w w1 : World} {a b : Int} (hb : Below (w.alloc (.cells #[.int .i64 a, .int .i64 b] 28)).heap.size (w.alloc (.cells #[.int .i64 a, .int .i64 b] 28)) w1) :
    w.heap.size < w1.heap.size ∧ w1.cell? ⟨w.heap.size, 0, none⟩ = some (.int .i64 a) ∧ w1.cell? ⟨w.heap.size, 1, none⟩ = some (.int .i64 b) := by
  refine ⟨by have := hb.size; simp at this; omega, ?_, ?_⟩
  · rw [hb.cell (by simp)]; simp
  · rw [hb.cell (by simp)]; simp

set_option maxRecDepth 100000 in
set_option maxHeartbeats 400000 in
theorem readNumberMatches_calls {w : World} {A : Option Addr} {n c : Nat} {bs : List UInt8} (h : Rd w w.heap.size 1 A n (bv bs)) (at_ : Int) (hn : n ≤ maxLen) :
    Calls Try.prog 4 #[.slice A n c, .int .i64 at_] w fun e w' => e = .returned (.bool true) ∧ Below w.heap.size w w' := by
  obtain ⟨x, nx, cd, ix, hr⟩ : ∃ x nx cd ix, readNum bs at_ = (x, nx, cd, ix) := ⟨_, _, _, _, rfl⟩
  have HR := Lib.hid hr
  clear hr
  go_enter Try.func4, Try.ntmps4
  go_wp2_with fail
  refine (example_calls _).mono ?_
  rintro e w1 ⟨rfl, hb1⟩
  have HB1 := Lib.hid hb1
  clear hb1
  go_wp2_with fail
  refine (readNumber_calls ((h.below HB1.out).more HB1.out.size) at_ hn).mono ?_
  rintro e w2 ⟨rfl, hb2⟩
  have HB2 := Lib.hid (chain HB1.out hb2)
  clear hb2
  rw [HR.out]
  go_wp2_with fail
  have hx := chain_alloc HB2.out (.cells #[.int .i64 cd, .int .i64 ix] 28)
  refine (get_calls ((h.below hx).more hx.size) at_ hn).mono ?_
  rintro e w3 ⟨rfl, hb3⟩
  obtain ⟨z1, q1, q2⟩ := keep_fault hb3
  have HB3 := Lib.hid (chain hx hb3)
  clear hb3 hx
  rw [HR.out]
  go_wp2
  go_ret
  exact ⟨rfl, chain_alloc HB3.out _⟩

set_option maxRecDepth 100000 in
set_option maxHeartbeats 400000 in
theorem readChunkMatches_calls {w : World} {A : Option Addr} {n c : Nat} {bs : List UInt8} (h : Rd w w.heap.size 1 A n (bv bs)) (at_ : Int) (hn : n ≤ 140737488355328) (hc : n ≤ c) :
    Calls Try.prog 5 #[.slice A n c, .int .i64 at_] w fun e w' => e = .returned (.bool true) ∧ Below w.heap.size w w' := by
  obtain ⟨x, nx, cd, ix, hr⟩ : ∃ x nx cd ix, readChunk bs at_ = (x, nx, cd, ix) := ⟨_, _, _, _, rfl⟩
  have HR := Lib.hid hr
  clear hr
  go_enter Try.func5, Try.ntmps5
  go_wp2_with fail
  refine (example_calls _).mono ?_
  rintro e w1 ⟨rfl, hb1⟩
  have HB1 := Lib.hid hb1
  clear hb1
  go_wp2_with fail
  refine (readChunk_calls ((h.below HB1.out).more HB1.out.size) at_ hn hc).mono ?_
  rintro e w2 ⟨A2, c2, rfl, hown2, hb2⟩
  have HB2 := Lib.hid (chain HB1.out hb2)
  clear hb2
  rw [HR.out] at hown2 ⊢
  have HO2 := Lib.hid (Rd.of_own hown2)
  clear hown2
  go_wp2_with fail
  have hx := chain_alloc HB2.out (.cells #[.int .i64 cd, .int .i64 ix] 28)
  refine (getChunk_calls ((h.below hx).more hx.size) at_ hn hc).mono ?_
  rintro e w3 ⟨A3, c3, rfl, hown3, hb3⟩
  obtain ⟨z1, q1, q2⟩ := keep_fault hb3
  have HB3 := Lib.hid (chain hx hb3)
  have HO2' := Lib.hid ((HO2.out.alloc (Nat.le_refl _) (.cells #[.int .i64 cd, .int .i64 ix] 28)).below (hb3.mono (by simp)))
  rw [HR.out] at hown3 ⊢
  have HO3 := Lib.hid (Rd.of_own hown3)
  clear hb3 hx hown3
  go_wp2_with fail
  refine (bytes_calls (HO2'.out.alloc (Nat.le_of_lt z1) _) (HO3.out.alloc (Nat.le_refl _) _)).mono ?_
  rintro e w4 ⟨rfl, rfl⟩
  rw [show (x == x) = true by simp]
  go_wp2
  go_ret
  exact ⟨rfl, chain_alloc HB3.out _⟩

set_option maxRecDepth 100000 in
set_option maxHeartbeats 400000 in
theorem prefixFree_calls (m n : Int) (w : World) (h1 : -9223372036854775808 ≤ m) (h2 : m ≤ 9223372036854775807) (h3 : -9223372036854775808 ≤ n) (h4 : n ≤ 9223372036854775807) :
    Calls Try.prog 7 #[.int .i64 m, .int .i64 n] w fun e w' => e = .returned (.bool true) ∧ Below w.heap.size w w' := by
  go_enter Try.func7, Try.ntmps7
  go_wp2_with fail
  refine (example_calls _).mono ?_
  rintro e w1 ⟨rfl, hb1⟩
  have HB1 := Lib.hid hb1
  clear hb1
  go_wp2_with fail
  refine (number_calls m _ h1 h2).mono ?_
  rintro e w2 ⟨A2, c2, rfl, hown2, hb2⟩
  have HB2 := Lib.hid (chain HB1.out hb2)
  clear hb2
  have HO2 := Lib.hid (Rd.of_own hown2)
  clear hown2
  go_wp2_with fail
  refine (number_calls n _ h3 h4).mono ?_
  rintro e w3 ⟨A3, c3, rfl, hown3, hb3⟩
  have HB3 := Lib.hid (chain HB2.out hb3)
  have HO2' := Lib.hid (HO2.out.below hb3)
  have HO3 := Lib.hid (Rd.of_own hown3)
  have hcap := (own_cap hown3).1
  have H1 := Lib.hid (show -9223372036854775808 ≤ m ∧ m ≤ 9223372036854775807 ∧ -9223372036854775808 ≤ n ∧ n ≤ 9223372036854775807 from ⟨h1, h2, h3, h4⟩)
  clear hb3 hown3 h1 h2 h3 h4
  by_cases hmn : m = n
  · have hd : (m == n) = true := by simp [hmn]
    clear hmn
    go_wp2_with fail
    go_ret
    exact ⟨rfl, HB3.out⟩
  · have hd : (m == n) = false := by simp [hmn]
    have HN := Lib.hid hmn
    clear hmn
    by_cases hl : (num n).length < (num m).length
    · have hl' : ((num n).length : Int) < ((num m).length : Int) := by omega
      go_wp2_with fail
      go_ret
      exact ⟨rfl, HB3.out⟩
    · have hl' : ¬ ((num n).length : Int) < ((num m).length : Int) := by omega
      have hsl := fun W => run_cut_h slB A3 (num n).length c3 (num m).length (by omega) W
      have HC := Lib.hid (HO3.out.cut (k := 0) (m := (num m).length) (c := c3) (by omega) hcap)
      go_wp2_with fail
      refine (bytes_calls (b := (num n).take (num m).length) HO2'.out (by have := HC.out; rw [bv_cut] at this; exact this)).mono ?_
      rintro e w4 ⟨rfl, rfl⟩
      rw [show (num m == (num n).take (num m).length) = false by
        have := num_prefix H1.out.1 H1.out.2.1 H1.out.2.2.1 H1.out.2.2.2 HN.out; simp; exact this]
      go_wp2_with fail
      go_ret
      exact ⟨rfl, HB3.out⟩

set_option maxRecDepth 100000 in
set_option maxHeartbeats 400000 in
theorem numberRoundTrip_calls {w : World} {A A' : Option Addr} {nf cf nb cb : Nat} {fs bs : List UInt8} (hf : Rd w w.heap.size 1 A nf (bv fs)) (n : Int) (hb : Rd w w.heap.size 1 A' nb (bv bs))
    (h1 : -9223372036854775808 ≤ n) (h2 : n ≤ 9223372036854775807) (hnf : nf ≤ 1048576) (hnb : nb ≤ 1048576) :
    Calls Try.prog 6 #[.slice A nf cf, .int .i64 n, .slice A' nb cb] w fun e w' => e = .returned (.bool true) ∧ Below w.heap.size w w' := by
  have hlf : fs.length = nf := by have := hf.len; rw [bv_len] at this; exact this
  have hlb : bs.length = nb := by have := hb.len; rw [bv_len] at this; exact this
  have hnl := num_len n h1 h2
  have HR := Lib.hid (show readNum ((fs ++ num n) ++ bs) (nf : Int) = (n, ((nf + (num n).length : Nat) : Int), 0, 0) by rw [← hlf]; exact num_back fs bs h1 h2)
  have HLF := Lib.hid hlf
  have HLB := Lib.hid hlb
  have HF := Lib.hid hf
  have HBB := Lib.hid hb
  clear hlf hlb hf hb
  go_enter Try.func6, Try.ntmps6
  go_wp2_with fail
  refine (example_calls _).mono ?_
  rintro e w1 ⟨rfl, hb1⟩
  have HB1 := Lib.hid hb1
  clear hb1
  go_wp2_with fail
  refine (number_calls n _ h1 h2).mono ?_
  rintro e w2 ⟨A2, c2, rfl, hown2, hb2⟩
  have HB2 := Lib.hid (chain HB1.out hb2)
  have HO2 := Lib.hid (Rd.of_own hown2)
  clear hb2 hown2 h1 h2
  go_wp2_with fail
  refine (join_calls (HF.out.below HB2.out) HO2.out (Nat.le_refl _) (by omega)).mono ?_
  rintro e w3 ⟨A3, c3, rfl, hown3, hb3⟩
  have HB3 := Lib.hid (chain HB2.out hb3)
  have HO3 := Lib.hid (Rd.of_own hown3)
  clear hb3 hown3
  have hl3 : (fs ++ num n).length = nf + (num n).length := by rw [List.length_append, HLF.out]
  go_wp2_with fail
  refine (join_calls (a := fs ++ num n) (by have := HO3.out; rw [hl3] at this; exact this) (HBB.out.below HB3.out) HB3.out.size (by omega)).mono ?_
  rintro e w4 ⟨A4, c4, rfl, hown4, hb4⟩
  have HB4 := Lib.hid (chain HB3.out hb4)
  have HO4 := Lib.hid (Rd.of_own hown4)
  have hl4 : ((fs ++ num n) ++ bs).length = nf + (num n).length + nb := by rw [List.length_append, List.length_append, HLF.out, HLB.out]
  rw [hl4]
  rw [hl4] at HO4
  clear hb4 hown4 hl3 hl4
  go_wp2_with fail
  refine (readNumber_calls HO4.out nf (by simp only [maxLen]; omega)).mono ?_
  rintro e w5 ⟨rfl, hb5⟩
  have HB5 := Lib.hid (chain HB4.out hb5)
  clear hb5
  rw [HR.out]
  have hd : (((nf : Int) + ((num n).length : Int)) == ((nf : Int) + ((num n).length : Int) + (nb : Int) - (nb : Int))) = true := by simp
  go_wp2_with fail
  go_ret
  exact ⟨rfl, chain_alloc HB5.out _⟩
end Go.Proofs.Ytdandbhjmckmiaa
