/-
  Byte strings in memory: as cells, as strings.
-/
import Derived.Test.YtmhjcdencfbjpaaChecked
import Derived.Test.YtmhjcdencfbjpaaKit
import Derived.KernelRfl
namespace Go.Proofs.Ytmhjcdencfbjpaa
open Go.RowKit
set_option linter.unusedVariables false
set_option linter.unusedSimpArgs false

theorem slB : SlT Try.prog 50 5 1 1 := SlT.mk' Try.underlying50 (z := .int .u8 0) (by kernel_rfl) rfl (by decide) (by decide)
/-- bytes as cells -/
def bv (bs : List UInt8) : List Value := bs.map fun b => .int .u8 (b.toNat : Int)
theorem bv_len (bs : List UInt8) : (bv bs).length = bs.length := by simp [bv]
theorem bv_app (a b : List UInt8) : bv (a ++ b) = bv a ++ bv b := by simp [bv]
theorem bv_one (bs : List UInt8) : ∀ u ∈ bv bs, u.oneCell' = true := by
  intro u hu
  simp only [bv, List.mem_map] at hu
  obtain ⟨b, _, rfl⟩ := hu
  rfl

theorem foldl_push (ns : List UInt8) : ∀ s : ByteArray, (ns.map (fun b => ((b.toNat : Nat) : Int))).foldl (fun r n => r.push (UInt8.ofNat n.toNat)) s = ⟨s.data ++ ns.toArray⟩ := by
  induction ns with
  | nil => intro s; simp
  | cons b ns ih =>
    intro s
    simp only [List.map_cons, List.foldl_cons]
    rw [ih]
    congr 1
    simp [ByteArray.push]
/-- 'string(b)' -/
theorem run_str {w : World} {B : Nat} {A : Option Addr} {n c : Nat} {bs : List UInt8} (h : Rd w B 1 A n (bv bs)) :
    (convert 50 9 (.slice A n c)).run Try.prog w = .ok (.string ⟨bs.toArray⟩) w := by
  rw [run_convert_bytes_string w 50 9 5 A n c Try.underlying50 Try.underlying5 Try.underlying9]
  have hl := h.len
  rw [bv_len] at hl
  rcases A with _ | ad
  · have hn : n = 0 := by
      rcases Nat.eq_zero_or_pos n with h0 | h0
      · exact h0
      · obtain ⟨b, o, e, _⟩ := h.2 h0
        cases e
    subst hn
    obtain rfl : bs = [] := List.eq_nil_of_length_eq_zero hl
    rfl
  · have hload : (loadCells ad n).run Try.prog w = .ok ((bs.map (fun b => ((b.toNat : Nat) : Int))).map (Value.int .u8)).toArray w := by
      have e : (bs.map (fun b => ((b.toNat : Nat) : Int))).map (Value.int .u8) = bv bs := by simp [bv]
      rw [e]
      have hn : n = (bv bs).length := by rw [bv_len]; omega
      rw [hn]
      refine run_loadCells_list w ad (bv bs) ?_
      intro j v hv
      have hj : j < (bv bs).length := (List.getElem?_eq_some_iff.1 hv).1
      obtain ⟨b, o, e, _, hc⟩ := h.2 (by omega)
      injection e with e
      subst e
      have e : (⟨b, o, none⟩ : Addr).add j = ⟨b, o + j, none⟩ := by unfold Addr.add; split <;> simp_all
      rw [e]
      exact hc j v hv
    rw [run_bytesToString w ad n c _ hload, foldl_push]
    have e0 : ByteArray.empty.data = #[] := rfl
    rw [e0, Array.empty_append]


theorem Rd.lit (w : World) (cs : Array Value) (e : TypeId) : Rd (w.alloc (.cells cs e)) (w.heap.size + 1) 1 (some ⟨w.heap.size, 0, none⟩) cs.size cs.toList := by
  refine ⟨by simp, fun _ => ⟨_, _, rfl, by omega, fun j u hu => ?_⟩⟩
  rw [cell_of_row _ w.heap.size (0 + j) cs e (0, 0) (heap_alloc_new w _)]
  simpa using hu
end Go.Proofs.Ytmhjcdencfbjpaa
