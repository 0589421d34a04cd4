/-
  Byte strings in memory: as cells, as results, as strings; the contracts of the comparisons and of the makers of faults.
-/
import Derived.Test.YtdandbhjmckmiaaChecked
import Derived.Test.YtdandbhjmckmiaaKit
import Derived.Outline
import Derived.KernelRfl
namespace Go.Proofs.Ytdandbhjmckmiaa
open Go.RowKit
set_option linter.unusedVariables false
set_option linter.unusedSimpArgs false

theorem slB : SlT Try.prog 24 5 1 1 := SlT.mk' Try.underlying24 (z := .int .u8 0) (by kernel_rfl) rfl (by decide) (by decide)
/-- bytes as cells -/
def bv (bs : List UInt8) : List Value := bs.map fun b => .int .u8 (b.toNat : Int)
theorem bv_len (bs : List UInt8) : (bv bs).length = bs.length := by simp [bv]
theorem bv_app (a b : List UInt8) : bv (a ++ b) = bv a ++ bv b := by simp [bv]
theorem bv_one (bs : List UInt8) : ∀ u ∈ bv bs, u.oneCell' = true := by
  intro u hu
  simp only [bv, List.mem_map] at hu
  obtain ⟨b, _, rfl⟩ := hu
  rfl

/-- what a call that makes a byte string answers -/
def Made (w : World) (bs : List UInt8) (e : Ending) (w' : World) : Prop :=
  ∃ A c, e = .returned (.slice A bs.length c) ∧ w'.ownsRow w.heap.size 5 1 (.slice A bs.length c) bs.length (bv bs) ∧ Below w.heap.size w w'

/-- one byte more -/
theorem own_snoc {w : World} {base : Nat} {A : Option Addr} {c : Nat} {acc : List UInt8} {b : UInt8} {v : Int} (h : w.ownsRow base 5 1 (.slice A (acc.length + 1) c) (acc.length + 1) (bv acc ++ [.int .u8 v])) (hv : v = (b.toNat : Int)) :
    w.ownsRow base 5 1 (.slice A (acc ++ [b]).length c) (acc ++ [b]).length (bv (acc ++ [b])) := by
  subst hv
  rw [bv_app, List.length_append]
  exact h
theorem made_snoc {w0 w : World} {A : Option Addr} {c : Nat} {acc : List UInt8} {b : UInt8} {v : Int} (h : w.ownsRow w0.heap.size 5 1 (.slice A (acc.length + 1) c) (acc.length + 1) (bv acc ++ [.int .u8 v])) (hv : v = (b.toNat : Int)) (hb : Below w0.heap.size w0 w) :
    Made w0 (acc ++ [b]) (.returned (.slice A (acc.length + 1) c)) w := ⟨A, c, by simp, own_snoc h hv, hb⟩
theorem snoc_len (acc : List UInt8) (b : UInt8) : acc.length + 1 = (acc ++ [b]).length := by simp


theorem foldl_push (ns : List UInt8) : ∀ s : ByteArray, (ns.map (fun b => ((b.toNat : Nat) : Int))).foldl (fun r n => r.push (UInt8.ofNat n.toNat)) s = ⟨s.data ++ ns.toArray⟩ := by
  induction ns with
  | nil => intro s; simp
  | cons b ns ih =>
    intro s
    simp only [List.map_cons, List.foldl_cons]
    rw [ih]
    congr 1
    simp [ByteArray.push]
/-- 'string(b)' -/
theorem run_str {w : World} {B : Nat} {A : Option Addr} {n c : Nat} {bs : List UInt8} (h : Rd w B 1 A n (bv bs)) :
    (convert 24 9 (.slice A n c)).run Try.prog w = .ok (.string ⟨bs.toArray⟩) w := by
  rw [run_convert_bytes_string w 24 9 5 A n c Try.underlying24 Try.underlying5 Try.underlying9]
  have hl := h.len
  rw [bv_len] at hl
  rcases A with _ | ad
  · have hn : n = 0 := by
      rcases Nat.eq_zero_or_pos n with h0 | h0
      · exact h0
      · obtain ⟨b, o, e, _⟩ := h.2 h0
        cases e
    subst hn
    obtain rfl : bs = [] := List.eq_nil_of_length_eq_zero hl
    rfl
  · have hload : (loadCells ad n).run Try.prog w = .ok ((bs.map (fun b => ((b.toNat : Nat) : Int))).map (Value.int .u8)).toArray w := by
      have e : (bs.map (fun b => ((b.toNat : Nat) : Int))).map (Value.int .u8) = bv bs := by simp [bv]
      rw [e]
      have hn : n = (bv bs).length := by rw [bv_len]; omega
      rw [hn]
      refine run_loadCells_list w ad (bv bs) ?_
      intro j v hv
      have hj : j < (bv bs).length := (List.getElem?_eq_some_iff.1 hv).1
      obtain ⟨b, o, e, _, hc⟩ := h.2 (by omega)
      injection e with e
      subst e
      have e : (⟨b, o, none⟩ : Addr).add j = ⟨b, o + j, none⟩ := by unfold Addr.add; split <;> simp_all
      rw [e]
      exact hc j v hv
    rw [run_bytesToString w ad n c _ hload, foldl_push]
    have e0 : ByteArray.empty.data = #[] := rfl
    rw [e0, Array.empty_append]

/-- the comparison of two byte strings -/
theorem bytes_calls {w : World} {B B' : Nat} {A A' : Option Addr} {n n' c c' : Nat} {a b : List UInt8} (ha : Rd w B 1 A n (bv a)) (hb : Rd w B' 1 A' n' (bv b)) :
    Calls Try.prog 15 #[.slice A n c, .slice A' n' c'] w fun e w' => e = .returned (.bool (a == b)) ∧ w = w' := by
  have ra := run_str (c := c) ha
  have rb := run_str (c := c') hb
  go_enter Try.func15, Try.ntmps15
  go_wp2
  go_ret
  exact ⟨rfl, rfl⟩

/-- a fault as a value -/
def flt (c i : Int) : Value := .agg #[.int .i64 c, .int .i64 i]
/-- a fault as a block -/
def fblk (c i : Int) : Obj := .cells #[.int .i64 c, .int .i64 i] 28
theorem fault_calls (c i : Int) (w : World) : Calls Try.prog 35 #[.int .i64 c, .int .i64 i] w fun e w' => e = .returned (.agg #[.int .i64 c, .int .i64 i]) ∧ w.alloc (.cells #[.int .i64 c, .int .i64 i] 28) = w' := by
  go_enter Try.func35, Try.ntmps35
  go_wp2
  exact bodyPost_ret (v := .agg #[.int .i64 c, .int .i64 i]) (by simp [results, Try.results35, go_sem]) rfl ⟨rfl, rfl⟩
theorem at_calls (c i : Int) (w : World) : Calls Try.prog 36 #[.int .i64 c, .int .i64 i] w fun e w' => e = .returned (.agg #[.int .i64 c, .int .i64 i]) ∧ w.alloc (.cells #[.int .i64 c, .int .i64 i] 28) = w' := by
  go_enter Try.func36, Try.ntmps36
  go_wp2
  exact bodyPost_ret (v := .agg #[.int .i64 c, .int .i64 i]) (by simp [results, Try.results36, go_sem]) rfl ⟨rfl, rfl⟩

theorem fault_und : Try.prog.underlying 28 = some (.struct (Try.prog.fieldsOf 28)) := by kernel_rfl
theorem fault_std : Try.prog.stoodInHeld 28 = false := by kernel_rfl
theorem run_fault_eq (d : Nat) (a b c e : Int) (w : World) : (Op.equalIn (d + 2) 28 (.agg #[.int .i64 a, .int .i64 b]) (.agg #[.int .i64 c, .int .i64 e])).run Try.prog w = .ok (a == c && b == e) w := by
  rw [run_equalIn_struct w (d + 1) 28 _ _ fault_und fault_std]
  go_simp
  by_cases h1 : a = c <;> by_cases h2 : b = e <;> simp [h1, h2]
theorem flt_neq (a b c d : Int) (w : World) : (binOp .neq 28 (.agg #[.int .i64 a, .int .i64 b]) (.agg #[.int .i64 c, .int .i64 d])).run Try.prog w = .ok (.bool (!(a == c && b == d))) w := by
  rw [run_neq_struct, run_fault_eq 9998]; rfl
theorem flt_eql (a b c d : Int) (w : World) : (binOp .eql 28 (.agg #[.int .i64 a, .int .i64 b]) (.agg #[.int .i64 c, .int .i64 d])).run Try.prog w = .ok (.bool (a == c && b == d)) w := by
  rw [run_eql_struct, run_fault_eq 9998]; rfl

theorem in_calls (n l h : Int) (w : World) :
    Calls Try.prog 34 #[.int .i64 n, .int .i64 l, .int .i64 h] w fun e w' => e = .returned (.bool (decide (l ≤ n) && decide (n ≤ h))) ∧ w = w' := by
  by_cases h1 : l ≤ n
  · have d1 : decide (l ≤ n) = true := by simp [h1]
    by_cases h2 : n ≤ h
    · have d2 : decide (n ≤ h) = true := by simp [h2]
      rw [d1, d2]
      go_enter Try.func34, Try.ntmps34
      go_wp2
      go_ret
      exact ⟨rfl, rfl⟩
    · have d2 : decide (n ≤ h) = false := by simp; omega
      rw [d1, d2]
      go_enter Try.func34, Try.ntmps34
      go_wp2
      go_ret
      exact ⟨rfl, rfl⟩
  · have d1 : decide (l ≤ n) = false := by simp; omega
    rw [d1]
    go_enter Try.func34, Try.ntmps34
    go_wp2
    go_ret
    exact ⟨rfl, rfl⟩
end Go.Proofs.Ytdandbhjmckmiaa
