/-
  The contract of the reference's Cut: the parts of a text.
-/
import Derived.Test.YtmhjcdencfbjpaaCalN
import Derived.Test.YtmhjcdencfbjpaaKit2
import Derived.Lib.Strings
namespace Go.Proofs.Ytmhjcdencfbjpaa
open Go.RowKit
set_option linter.unusedVariables false
set_option linter.unusedSimpArgs false

theorem slS : SlT Try.prog 42 9 1 16 := SlT.mk' Try.underlying42 (z := .string ⟨#[]⟩) (by kernel_rfl) rfl (by decide) (by decide)
/-- strings as cells -/
def sv (l : List (List UInt8)) : List Value := l.map fun p => .string ⟨p.toArray⟩
theorem sv_len (l : List (List UInt8)) : (sv l).length = l.length := by simp [sv]
theorem ext_eq (s : ByteArray) (a b : Nat) : s.extract a b = ⟨((s.data.toList.drop a).take (b - a)).toArray⟩ := by
  have h := Lib.extract_data s a b
  obtain ⟨⟨l⟩⟩ := s
  rw [ByteArray.extract_mk] at h ⊢
theorem sv_snoc (l : List (List UInt8)) (s : ByteArray) (a k : Nat) : sv l ++ [.string (s.extract a k)] = sv (l ++ [(s.data.toList.drop a).take (k - a)]) := by
  simp [sv, ext_eq]

def CRel (sep : UInt8) (l : List UInt8) (w : World) (out start i : Value) (wr : World) : Prop :=
  ∃ (k a : Nat) (ps : List (List UInt8)) (A : Option Addr) (c : Nat), i = .int .i64 (k : Int) ∧ start = .int .i64 (a : Int) ∧ out = .slice A ps.length c ∧
    wr.ownsRow w.heap.size 9 1 (.slice A ps.length c) ps.length (sv ps) ∧ Below w.heap.size w wr ∧ a ≤ k ∧ ps.length ≤ k ∧ k ≤ l.length + 1 ∧
    ((k ≤ l.length ∧ cutL sep l = ps ++ cutL sep (l.drop a) ∧ ∀ x ∈ (l.drop a).take (k - a), x ≠ sep) ∨ (k = l.length + 1 ∧ cutL sep l = ps))
theorem crel_skip {sep : UInt8} {l : List UInt8} {k a : Nat} {ps : List (List UInt8)} {x : UInt8} (hx : l[k]? = some x) (hne : x ≠ sep) (ha : a ≤ k)
    (h : cutL sep l = ps ++ cutL sep (l.drop a) ∧ ∀ x ∈ (l.drop a).take (k - a), x ≠ sep) : cutL sep l = ps ++ cutL sep (l.drop a) ∧ ∀ x ∈ (l.drop a).take (k + 1 - a), x ≠ sep := by
  refine ⟨h.1, ?_⟩
  have e : (l.drop a)[k - a]? = some x := by rw [List.getElem?_drop, show a + (k - a) = k by omega]; exact hx
  rw [show k + 1 - a = (k - a) + 1 by omega, List.take_add_one, e, Option.toList_some]
  intro y hy
  rcases List.mem_append.1 hy with hy | hy
  · exact h.2 y hy
  · rw [List.mem_singleton.1 hy]; exact hne
theorem crel_sep {sep : UInt8} {l : List UInt8} {k a : Nat} {ps : List (List UInt8)} (hx : l[k]? = some sep) (ha : a ≤ k)
    (h : cutL sep l = ps ++ cutL sep (l.drop a) ∧ ∀ x ∈ (l.drop a).take (k - a), x ≠ sep) :
    cutL sep l = (ps ++ [(l.drop a).take (k - a)]) ++ cutL sep (l.drop (k + 1)) ∧ ∀ x ∈ (l.drop (k + 1)).take (k + 1 - (k + 1)), x ≠ sep := by
  refine ⟨?_, by simp⟩
  have hk : k < l.length := (List.getElem?_eq_some_iff.1 hx).1
  have e1 : (l.drop a).drop (k - a) = sep :: l.drop (k + 1) := by
    rw [List.drop_drop, show a + (k - a) = k by omega, List.drop_eq_getElem_cons hk, (List.getElem?_eq_some_iff.1 hx).2]
  have e : l.drop a = (l.drop a).take (k - a) ++ sep :: l.drop (k + 1) := by
    rw [← e1, List.take_append_drop]
  rw [h.1, List.append_assoc]
  congr 1
  rw [List.singleton_append]
  conv => lhs; rw [e]
  exact cutL_seg sep _ _ h.2
theorem crel_end {sep : UInt8} {l : List UInt8} {a : Nat} {ps : List (List UInt8)} 
    (h : cutL sep l = ps ++ cutL sep (l.drop a) ∧ ∀ x ∈ (l.drop a).take (l.length - a), x ≠ sep) : cutL sep l = ps ++ [(l.drop a).take (l.length - a)] := by
  have e : (l.drop a).take (l.length - a) = l.drop a := List.take_of_length_le (by simp)
  rw [e] at h ⊢
  rw [h.1, cutL_last sep _ h.2]
def CutEnd (sep : UInt8) (l : List UInt8) (w : World) (e : Ending) (w' : World) : Prop :=
  ∃ A c, e = .returned (.slice A (cutL sep l).length c) ∧ w'.ownsRow w.heap.size 9 1 (.slice A (cutL sep l).length c) (cutL sep l).length (sv (cutL sep l)) ∧ Below w.heap.size w w'
set_option maxRecDepth 100000 in
set_option maxHeartbeats 1000000 in
theorem cut_calls (s : ByteArray) (b : UInt8) (w : World) (hs : s.size ≤ 1048576) : Calls Try.prog 23 #[.string s, .int .u8 (b.toNat : Int)] w (CutEnd b s.data.toList w) := by
  have HL := Lib.hid (show s.data.toList.length = s.size from by simp)
  go_enter Try.func23, Try.ntmps23
  go_wp2_with fail
  go_loopw [5, 6, 7] (CRel b s.data.toList w) (fun _ _ i _ => s.size + 1 - (intOf i).toNat)
  case atStart => exact ⟨0, 0, [], none, 0, rfl, rfl, rfl, World.ownsRow_nil _ _ _ _, Below.refl _ _, Nat.le_refl _, Nat.le_refl _, by omega, .inl ⟨by omega, by simp, by simp⟩⟩
  case round =>
    obtain ⟨k, a, ps, A, c, rfl, rfl, rfl, hown, hbel, hak, hpk, hk, hrel⟩ := hrel
    rw [HL.out] at hk hrel
    by_cases hend : k ≤ s.size
    · have hr : cutL b s.data.toList = ps ++ cutL b (s.data.toList.drop a) ∧ ∀ x ∈ (s.data.toList.drop a).take (k - a), x ≠ b := by
        rcases hrel with h | h
        · exact h.2
        · omega
      have HR := Lib.hid hr
      clear hr hrel
      have HB := Lib.hid hbel
      have hz := hbel.size
      clear hbel
      by_cases hlt : k < s.size
      · have hkb : ((k : Int) == (s.size : Int)) = false := by simp; omega
        have HX := Lib.hid (byte_at (s := s) (k := k) hlt)
        by_cases hsep : s[k] = b
        · have hbb : ((s[k].toNat : Int) == (b.toNat : Int)) = true := by rw [hsep]; simp
          have HX2 := Lib.hid (show s.data.toList[k]? = some b by rw [HX.out, hsep])
          clear hsep
          go_wp2_with (at_builtin; refine wpList_app1G _ slS rfl (.tmp 25) (.tmp 30) rfl w.heap.size A ps.length c (sv ps) rfl hown _ _ rfl rfl rfl (by omega) hz ?_; intro A' c' w' hown' hgrow hbel'; rw [sv_snoc] at hown')
          go_roundw
          case rel => exact ⟨k + 1, k + 1, ps ++ [(s.data.toList.drop a).take (k - a)], A', c', by go_num, by go_num, by simp, by simpa using hown', HB.out.trans hbel', Nat.le_refl _, by simp; omega, by rw [HL.out]; omega, .inl ⟨by rw [HL.out]; omega, crel_sep HX2.out hak HR.out⟩⟩
          case measure => simp [intOf]; omega
        · have hbb : ((s[k].toNat : Int) == (b.toNat : Int)) = false := by
            rw [beq_eq_false_iff_ne]; intro e; exact hsep (UInt8.toNat_inj.1 (by omega))
          have HNE := Lib.hid hsep
          clear hsep
          go_wp2_with fail
          go_roundw
          case rel => exact ⟨k + 1, a, ps, A, c, by go_num, rfl, rfl, hown, HB.out, by omega, by omega, by rw [HL.out]; omega, .inl ⟨by rw [HL.out]; omega, crel_skip HX.out HNE.out hak HR.out⟩⟩
          case measure => simp [intOf]; omega
      · have HKE := Lib.hid (show k = s.size by omega)
        have hkb : ((k : Int) == (s.size : Int)) = true := by simp; omega
        go_wp2_with (at_builtin; refine wpList_app1G _ slS rfl (.tmp 25) (.tmp 30) rfl w.heap.size A ps.length c (sv ps) rfl hown _ _ rfl rfl rfl (by omega) hz ?_; intro A' c' w' hown' hgrow hbel'; rw [sv_snoc] at hown')
        go_roundw
        case rel =>
          have hR := HR.out
          have hkl : k = s.data.toList.length := HKE.out.trans HL.out.symm
          refine ⟨k + 1, k + 1, ps ++ [(s.data.toList.drop a).take (k - a)], A', c', by go_num, by go_num, by simp, by simpa using hown', HB.out.trans hbel', Nat.le_refl _, by simp; omega, by rw [HL.out]; omega, .inr ⟨by omega, ?_⟩⟩
          rw [hkl] at hR ⊢
          exact crel_end hR
        case measure => simp [intOf]; omega
    · have HKE := Lib.hid (show k = s.size + 1 by omega)
      have HC : Hid (cutL b s.data.toList = ps) := Lib.hid (by
        rcases hrel with h | h
        · omega
        · exact h.2)
      clear hrel
      go_wp2_with fail
      go_ret
      refine ⟨A, c, ?_, ?_, hbel⟩
      · rw [HC.out]; rfl
      · rw [HC.out]; exact hown
end Go.Proofs.Ytmhjcdencfbjpaa
