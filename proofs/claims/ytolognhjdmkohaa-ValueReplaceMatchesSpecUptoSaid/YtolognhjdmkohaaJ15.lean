/-
  The fixed examples, plain; the makers of small values.
-/
/-
  The fixed examples answer true.
-/
import Derived.Test.YtolognhjdmkohaaJ12
import Derived.Test.YtolognhjdmkohaaKValFb
import Derived.Test.YtolognhjdmkohaaJ14
namespace Go.Proofs.Ytolognhjdmkohaa
open Go.RowKit
set_option linter.unusedVariables false
set_option linter.unusedSimpArgs false

abbrev nNum (n : Int) : Nd := ⟨1, n, [], []⟩
abbrev nList : Nd := ⟨3, 0, [], []⟩
theorem ex_e1 : encV nList (.cons (nNum 1) .nil .nil) = [6, 2, 2, 2] := by decide
theorem ex_v1 : valF nList (.cons (nNum 1) .nil .nil) = (0, 0) := by decide
theorem ex_d1 : decV [6, 2, 2, 2] = .inr (nList, .cons (nNum 1) .nil .nil) := by rfl
theorem ex_v2 : valF nList (.cons (nNum 5) .nil (.cons ⟨2, 0, [120], []⟩ .nil .nil)) = (0, 0) := by decide
theorem ex_p2 : pathV nList (.cons (nNum 5) .nil (.cons ⟨2, 0, [120], []⟩ .nil .nil)) [1] 0 = .inr (⟨2, 0, [120], []⟩, .nil) := by rfl
theorem ex_v3 : valF ⟨4, 0, [], [[97]]⟩ (.cons (nNum 7) .nil .nil) = (0, 0) := by decide
theorem ex_f3 : findV ⟨4, 0, [], [[97]]⟩ (.cons (nNum 7) .nil .nil) [97] = [[0]] := by rfl
theorem ex_m1 : Mod nList (.cons (nNum 1) .nil .nil) := ⟨⟨by unfold NdOk; decide, by decide, by decide, by simp⟩, ⟨⟨by unfold NdOk; decide, by decide, by decide, by simp⟩, by decide, trivial, trivial⟩, by decide, by rw [ex_e1]; decide⟩
theorem ex_m2 : Mod nList (.cons (nNum 5) .nil (.cons ⟨2, 0, [120], []⟩ .nil .nil)) :=
  ⟨⟨by unfold NdOk; decide, by decide, by decide, by simp⟩, ⟨⟨by unfold NdOk; decide, by decide, by decide, by simp⟩, by decide, trivial, ⟨by unfold NdOk; decide, by decide, by decide, by simp⟩, by decide, trivial, trivial⟩, by decide, by decide⟩
theorem ex_m3 : Mod ⟨4, 0, [], [[97]]⟩ (.cons (nNum 7) .nil .nil) := ⟨⟨by unfold NdOk; decide, by decide, by decide, by simp⟩, ⟨⟨by unfold NdOk; decide, by decide, by decide, by simp⟩, by decide, trivial, trivial⟩, by decide, by decide⟩
theorem rd_none (w : World) (B s : Nat) : Rd w B s none 0 [] := ⟨by simp, fun h => absurd h (Nat.lt_irrefl _)⟩
theorem vin_num (w : World) (B : Nat) (n : Int) : VIn w B (.agg #[.int .i64 1, .int .i64 n, .slice none 0 0, .slice none 0 0, .slice none 0 0]) (nNum n) .nil :=
  ⟨_, _, _, rfl, none, 0, 0, none, 0, 0, none, 0, rfl, rfl, rfl, Nat.le_refl _, Nat.le_refl _, Nat.le_refl _, Nat.zero_le _, rd_none _ _ _, rd_none _ _ _, fun h => absurd h (Nat.lt_irrefl _)⟩
set_option maxRecDepth 100000 in
theorem num_mk (n : Int) (w : World) : Calls Try.prog 38 #[.int .i64 n] w fun e w' => e = .returned (.agg #[.int .i64 1, .int .i64 n, .slice none 0 0, .slice none 0 0, .slice none 0 0]) ∧ Below w.heap.size w w' := by
  go_enter Try.func38, Try.ntmps38
  go_wp2_with fail
  refine bodyPost_ret (v := .agg #[.int .i64 1, .int .i64 n, .slice none 0 0, .slice none 0 0, .slice none 0 0]) (by simp [results, Try.results38, go_sem]) rfl ?_
  exact ⟨rfl, bel1 _ _⟩
theorem cell_newN (w : World) (cs : Array Value) (T : TypeId) (j : Nat) : (w.alloc (.cells cs T)).cell? ⟨w.heap.size, j, none⟩ = cs[j]? := cell_of_row _ w.heap.size j _ T (0, 0) (heap_alloc_new w _)
theorem hd_on {w w' : World} {d : Nd} {p : VF} {sb sn sp : Value} (h : Hd w w.heap.size d p.len (FIn w w.heap.size p) sb sn sp) (hb : Below w.heap.size w w') : Hd w' w'.heap.size d p.len (FIn w' w'.heap.size p) sb sn sp :=
  h.mono (fun q hq => hb.cell hq) hb.size (FIn.keep (fun q hq => hb.cell hq) hb.size p)
set_option maxRecDepth 100000 in
theorem str_mk (w : World) : Calls Try.prog 40 #[.string ⟨#[120]⟩] w fun e w' => (∃ v, e = .returned v ∧ VIn w' w'.heap.size v ⟨2, 0, [120], []⟩ .nil) ∧ Below w.heap.size w w' := by
  obtain ⟨c1, W1, hcv, hbx, hrd, hb1, hc1⟩ : ∃ c1 W1, (convert 9 22 (.string ⟨#[120]⟩)).run Try.prog (w.alloc (.cells #[.int .i64 0, .int .i64 0, .slice none 0 0, .slice none 0 0, .slice none 0 0] 26)) = .ok (.slice (some ⟨w.heap.size + 1, 0, none⟩) 1 c1) W1 ∧
      Bx W1 w.heap.size (.int .i64 0) (.int .i64 0) (.slice none 0 0) (.slice none 0 0) (.slice none 0 0) ∧ Rd W1 W1.heap.size 1 (some ⟨w.heap.size + 1, 0, none⟩) 1 (bv [120]) ∧ Below w.heap.size w W1 ∧ 1 ≤ c1 := by
    refine ⟨bcap (w.alloc (.cells #[.int .i64 0, .int .i64 0, .slice none 0 0, .slice none 0 0, .slice none 0 0] 26)) ⟨#[120]⟩, bworld (w.alloc (.cells #[.int .i64 0, .int .i64 0, .slice none 0 0, .slice none 0 0, .slice none 0 0] 26)) ⟨#[120]⟩, by
      have h := run_bytes ⟨#[120]⟩ (w.alloc (.cells #[.int .i64 0, .int .i64 0, .slice none 0 0, .slice none 0 0, .slice none 0 0] 26))
      rw [alloc_size] at h
      exact h, (Bx.new _ _ _ _ _ _).on (bworld_below _ _), ?_, chain (bel1 _ _) (bworld_below _ _), grownCap_ge _ _ _ _⟩
    have h := bytes_rd (w.alloc (.cells #[.int .i64 0, .int .i64 0, .slice none 0 0, .slice none 0 0, .slice none 0 0] 26)) ⟨#[120]⟩
    rw [alloc_size] at h
    exact h
  have HBX := Lib.hid hbx
  have HRD := Lib.hid hrd
  have HB1 := Lib.hid hb1
  obtain ⟨q0, q1, q2, q3, q4⟩ := hbx.cells
  have qf := hbx.free
  clear hbx hrd hb1
  go_enter Try.func40, Try.ntmps40
  go_wp2_with fail
  obtain ⟨W9, hW9⟩ : ∃ W9, (((((W1.setCell ⟨w.heap.size, 0, none⟩ (.int .i64 2)).setCell ⟨w.heap.size, 1, none⟩ (.int .i64 0)).setCell ⟨w.heap.size, 2, none⟩ (.slice (some ⟨w.heap.size + 1, 0, none⟩) 1 c1)).setCell ⟨w.heap.size, 3, none⟩ (.slice none 0 0)).setCell ⟨w.heap.size, 4, none⟩ (.slice none 0 0)) = W9 := ⟨_, rfl⟩
  have hb9 : Bx W9 w.heap.size (.int .i64 2) (.int .i64 0) (.slice (some ⟨w.heap.size + 1, 0, none⟩) 1 c1) (.slice none 0 0) (.slice none 0 0) := by rw [← hW9]; exact HBX.out.set5 _ _ _ _ _
  have HZ9 := Lib.hid (show W9.heap.size = W1.heap.size by rw [← hW9]; simp)
  have HC9 := Lib.hid (show ∀ q : Addr, w.heap.size ≠ q.block → W9.cell? q = W1.cell? q by rw [← hW9]; exact fun q hq => cell_set5 q hq)
  have HB9 := Lib.hid (show Below w.heap.size w W9 by rw [← hW9]; exact below5 HB1.out (Nat.le_refl _) _ _ _ _ _)
  rw [hW9]
  clear hW9 q0 q1 q2 q3 q4 qf
  have hl9 := hb9.lt
  obtain ⟨y0, y1, y2, y3, y4⟩ := hb9.cells
  refine bodyPost_ret (v := .agg #[.int .i64 2, .int .i64 0, .slice (some ⟨w.heap.size + 1, 0, none⟩) 1 c1, .slice none 0 0, .slice none 0 0]) (by simp [results, Try.results40, go_sem, y0, y1, y2, y3, y4, hl9]) rfl ?_
  refine ⟨⟨_, rfl, _, _, _, rfl, _, 1, c1, none, 0, 0, none, 0, rfl, rfl, rfl, hc1, Nat.le_refl _, Nat.le_refl _, Nat.zero_le _, ?_, rd_none _ _ _, fun h => absurd h (Nat.lt_irrefl _)⟩, HB9.out⟩
  obtain ⟨h1, h2⟩ := HRD.out
  refine ⟨h1, fun h0 => ?_⟩
  obtain ⟨b, o, e, hb, hc⟩ := h2 h0
  injection e with e
  injection e with e1 e2
  subst e1 e2
  exact ⟨_, _, rfl, by rw [HZ9.out]; exact hb, fun j u hu => (HC9.out _ (by simp)).trans (hc j u hu)⟩
set_option maxRecDepth 100000 in
theorem seq_mk {w : World} {a b : Value} {d1 d2 : Nd} {p1 p2 : VF} (ha : VIn w w.heap.size a d1 p1) (hb : VIn w w.heap.size b d2 p2) : Calls Try.prog 39 #[a, b] w fun e w' => (∃ v, e = .returned v ∧ VIn w' w'.heap.size v nList (.cons d1 p1 (.cons d2 p2 .nil))) ∧ Below w.heap.size w w' := by
  obtain ⟨sb, sn, sp, rfl, hd1⟩ := ha
  obtain ⟨sb2, sn2, sp2, rfl, hd2⟩ := hb
  have H1 := Lib.hid hd1
  have H2 := Lib.hid hd2
  obtain ⟨Ab, nb, cb, An, nn, cn, Ap, cp, rfl, rfl, rfl, _⟩ := hd1
  obtain ⟨Ab2, nb2, cb2, An2, nn2, cn2, Ap2, cp2, rfl, rfl, rfl, _⟩ := hd2
  go_enter Try.func39, Try.ntmps39
  go_wp2_with fail
  obtain ⟨W2, hW2⟩ : ∃ W2, (((w.alloc (.cells #[.int .i64 d1.k, .int .i64 d1.n, .slice Ab nb cb, .slice An nn cn, .slice Ap p1.len cp] 26)).alloc (.cells #[.int .i64 d2.k, .int .i64 d2.n, .slice Ab2 nb2 cb2, .slice An2 nn2 cn2, .slice Ap2 p2.len cp2] 26)).alloc
    (.cells #[.int .i64 3, .int .i64 0, .slice none 0 0, .slice none 0 0, .slice (some ⟨w.heap.size + 1 + 1 + 1, 0, none⟩) 2 2] 26)) = W2 := ⟨_, rfl⟩
  rw [hW2]
  have hz2 : W2.heap.size = w.heap.size + 1 + 1 + 1 := by rw [← hW2]; simp
  have hb2 : Below w.heap.size w W2 := by rw [← hW2]; exact bel3 _ _ _ _
  have hx2 : Bx W2 (w.heap.size + 1 + 1) (.int .i64 3) (.int .i64 0) (.slice none 0 0) (.slice none 0 0) (.slice (some ⟨w.heap.size + 1 + 1 + 1, 0, none⟩) 2 2) := by
    rw [← hW2]; have h := Bx.new ((w.alloc (.cells #[.int .i64 d1.k, .int .i64 d1.n, .slice Ab nb cb, .slice An nn cn, .slice Ap p1.len cp] 26)).alloc (.cells #[.int .i64 d2.k, .int .i64 d2.n, .slice Ab2 nb2 cb2, .slice An2 nn2 cn2, .slice Ap2 p2.len cp2] 26)) (.int .i64 3) (.int .i64 0) (.slice none 0 0) (.slice none 0 0) (.slice (some ⟨w.heap.size + 1 + 1 + 1, 0, none⟩) 2 2)
    simp only [alloc_size] at h; exact h
  clear hW2
  obtain ⟨q0, q1, q2, q3, q4⟩ := hx2.cells
  have q0' := fun ob => cell_up (o := ob) q0
  have q1' := fun ob => cell_up (o := ob) q1
  have q2' := fun ob => cell_up (o := ob) q2
  have q3' := fun ob => cell_up (o := ob) q3
  have q4' := fun ob => cell_up (o := ob) q4
  refine bodyPost_ret (v := .agg #[.int .i64 3, .int .i64 0, .slice none 0 0, .slice none 0 0, .slice (some ⟨w.heap.size + 1 + 1 + 1, 0, none⟩) 2 2]) (by simp [results, Try.results39, go_sem, q0', q1', q2', q3', q4', hz2]) rfl ?_
  refine ⟨⟨_, rfl, _, _, _, rfl, none, 0, 0, none, 0, 0, _, 2, rfl, rfl, rfl, Nat.le_refl _, Nat.le_refl _, Nat.le_refl _, by decide, rd_none _ _ _, rd_none _ _ _, fun _ => ⟨_, _, rfl, by simp [hz2], ?_⟩⟩, bel_up hb2 _⟩
  rw [← hz2]
  exact ⟨⟨_, _, _, ⟨cell_newN _ _ _ _, cell_newN _ _ _ _, cell_newN _ _ _ _, cell_newN _ _ _ _, cell_newN _ _ _ _⟩, hd_on H1.out (bel_up hb2 _)⟩, ⟨_, _, _, ⟨cell_newN _ _ _ _, cell_newN _ _ _ _, cell_newN _ _ _ _, cell_newN _ _ _ _, cell_newN _ _ _ _⟩, hd_on H2.out (bel_up hb2 _)⟩, trivial⟩
set_option maxRecDepth 100000 in
theorem rec_mk {w : World} {a : Value} {d1 : Nd} {p1 : VF} (ha : VIn w w.heap.size a d1 p1) : Calls Try.prog 41 #[a] w fun e w' => (∃ v, e = .returned v ∧ VIn w' w'.heap.size v ⟨4, 0, [], [[97]]⟩ (.cons d1 p1 .nil)) ∧ Below w.heap.size w w' := by
  obtain ⟨sb, sn, sp, rfl, hd1⟩ := ha
  have H1 := Lib.hid hd1
  obtain ⟨Ab, nb, cb, An, nn, cn, Ap, cp, rfl, rfl, rfl, _⟩ := hd1
  go_enter Try.func41, Try.ntmps41
  go_wp2_with fail
  obtain ⟨W2, hW2⟩ : ∃ W2, (((w.alloc (.cells #[.int .i64 d1.k, .int .i64 d1.n, .slice Ab nb cb, .slice An nn cn, .slice Ap p1.len cp] 26)).alloc
    (.cells #[.int .i64 4, .int .i64 0, .slice none 0 0, .slice (some ⟨w.heap.size + 1 + 1, 0, none⟩) 1 1, .slice (some ⟨w.heap.size + 1 + 1 + 1, 0, none⟩) 1 1] 26)).alloc (.cells #[.string ⟨#[97]⟩] 9)) = W2 := ⟨_, rfl⟩
  rw [hW2]
  have hz2 : W2.heap.size = w.heap.size + 1 + 1 + 1 := by rw [← hW2]; simp
  have hb2 : Below w.heap.size w W2 := by rw [← hW2]; exact bel3 _ _ _ _
  have hx2 : Bx W2 (w.heap.size + 1) (.int .i64 4) (.int .i64 0) (.slice none 0 0) (.slice (some ⟨w.heap.size + 1 + 1, 0, none⟩) 1 1) (.slice (some ⟨w.heap.size + 1 + 1 + 1, 0, none⟩) 1 1) := by
    rw [← hW2]; have h := (Bx.new (w.alloc (.cells #[.int .i64 d1.k, .int .i64 d1.n, .slice Ab nb cb, .slice An nn cn, .slice Ap p1.len cp] 26)) (.int .i64 4) (.int .i64 0) (.slice none 0 0) (.slice (some ⟨w.heap.size + 1 + 1, 0, none⟩) 1 1) (.slice (some ⟨w.heap.size + 1 + 1 + 1, 0, none⟩) 1 1)).on (bel1 _ (.cells #[.string ⟨#[97]⟩] 9))
    simp only [alloc_size] at h; exact h
  have hs2 : W2.cell? ⟨w.heap.size + 1 + 1, 0, none⟩ = some (.string ⟨#[97]⟩) := by
    rw [← hW2]; have h := cell_new1 ((w.alloc (.cells #[.int .i64 d1.k, .int .i64 d1.n, .slice Ab nb cb, .slice An nn cn, .slice Ap p1.len cp] 26)).alloc (.cells #[.int .i64 4, .int .i64 0, .slice none 0 0, .slice (some ⟨w.heap.size + 1 + 1, 0, none⟩) 1 1, .slice (some ⟨w.heap.size + 1 + 1 + 1, 0, none⟩) 1 1] 26)) (.string ⟨#[97]⟩) 9
    simp only [alloc_size] at h; exact h
  clear hW2
  obtain ⟨q0, q1, q2, q3, q4⟩ := hx2.cells
  have q0' := fun ob => cell_up (o := ob) q0
  have q1' := fun ob => cell_up (o := ob) q1
  have q2' := fun ob => cell_up (o := ob) q2
  have q3' := fun ob => cell_up (o := ob) q3
  have q4' := fun ob => cell_up (o := ob) q4
  refine bodyPost_ret (v := .agg #[.int .i64 4, .int .i64 0, .slice none 0 0, .slice (some ⟨w.heap.size + 1 + 1, 0, none⟩) 1 1, .slice (some ⟨w.heap.size + 1 + 1 + 1, 0, none⟩) 1 1]) (by simp [results, Try.results41, go_sem, q0', q1', q2', q3', q4', hz2]) rfl ?_
  refine ⟨⟨_, rfl, _, _, _, rfl, none, 0, 0, _, 1, 1, _, 1, rfl, rfl, rfl, Nat.le_refl _, Nat.le_refl _, Nat.le_refl _, by decide, rd_none _ _ _, ⟨rfl, fun _ => ⟨_, _, rfl, by simp [hz2], fun j u hu => ?_⟩⟩, fun _ => ⟨_, _, rfl, by simp [hz2], ?_⟩⟩, bel_up hb2 _⟩
  · cases j with
    | zero => simp [sv] at hu; subst hu; exact cell_up hs2
    | succ j => simp [sv] at hu
  · rw [← hz2]
    exact ⟨⟨_, _, _, ⟨cell_newN _ _ _ _, cell_newN _ _ _ _, cell_newN _ _ _ _, cell_newN _ _ _ _, cell_newN _ _ _ _⟩, hd_on H1.out (bel_up hb2 _)⟩, trivial⟩
end Go.Proofs.Ytolognhjdmkohaa
namespace Go.Proofs.Ytolognhjdmkohaa
open Go.RowKit
set_option linter.unusedVariables false
set_option linter.unusedSimpArgs false

theorem vin_list1 (w : World) (n : Int) : VIn (w.alloc (.cells #[.int .i64 1, .int .i64 n, .slice none 0 0, .slice none 0 0, .slice none 0 0] 26)) (w.alloc (.cells #[.int .i64 1, .int .i64 n, .slice none 0 0, .slice none 0 0, .slice none 0 0] 26)).heap.size
    (.agg #[.int .i64 3, .int .i64 0, .slice none 0 0, .slice none 0 0, .slice (some ⟨w.heap.size, 0, none⟩) 1 1]) nList (.cons (nNum n) .nil .nil) := by
  refine ⟨_, _, _, rfl, none, 0, 0, none, 0, 0, _, 1, rfl, rfl, rfl, Nat.le_refl _, Nat.le_refl _, Nat.le_refl _, by decide, rd_none _ _ _, rd_none _ _ _, fun _ => ⟨_, _, rfl, by simp, ?_⟩⟩
  obtain ⟨sb, sn, sp, e, hd⟩ := vin_num (w.alloc (.cells #[.int .i64 1, .int .i64 n, .slice none 0 0, .slice none 0 0, .slice none 0 0] 26)) (w.alloc (.cells #[.int .i64 1, .int .i64 n, .slice none 0 0, .slice none 0 0, .slice none 0 0] 26)).heap.size n
  injection e with e
  simp only [Array.mk.injEq, List.cons.injEq, and_true, true_and] at e
  obtain ⟨rfl, rfl, rfl⟩ := e
  exact ⟨⟨_, _, _, ⟨cell_newN _ _ _ _, cell_newN _ _ _ _, cell_newN _ _ _ _, cell_newN _ _ _ _, cell_newN _ _ _ _⟩, hd⟩, trivial⟩
theorem enc_ex {w : World} {v : Value} (hv : VIn w w.heap.size v nList (.cons (nNum 1) .nil .nil)) : Calls Try.prog 16 #[v] w fun e w' => ∃ A c, e = .returned (.tuple #[.slice A 4 c, .agg #[.int .i64 0, .int .i64 0]]) ∧ w'.ownsRow w.heap.size 5 1 (.slice A 4 c) 4 (bv [6, 2, 2, 2]) ∧ Below w.heap.size w w' := by
  refine (encodeE_calls ex_m1 hv).mono ?_
  rintro e w' ⟨hb, ⟨c, i, hc, h, _⟩ | ⟨A, c, m, _, _, _, he, ho⟩⟩
  · rw [ex_v1] at h
    injection h with h1 h2
    exact absurd h1.symm hc
  · rw [ex_e1] at he ho
    exact ⟨A, c, he, ho, hb⟩
theorem dec_ex {w : World} {A : Option Addr} {c : Nat} (hd : Rd w w.heap.size 1 A 4 (bv [6, 2, 2, 2])) (hc : 4 ≤ c) : Calls Try.prog 19 #[.slice A 4 c] w fun e w' => ∃ Ab nb cb An nn cn b o cp, e = .returned (.tuple #[.agg #[.int .i64 3, .int .i64 0, .slice Ab nb cb, .slice An nn cn, .slice (some ⟨b, o, none⟩) 1 cp], .agg #[.int .i64 0, .int .i64 0]]) ∧
    b < w'.heap.size ∧ w'.cell? ⟨b, o + 1, none⟩ = some (.int .i64 1) ∧ Below w.heap.size w w' := by
  refine (decode_calls hd hc).mono ?_
  rintro e w' ⟨hb, ⟨c, i, _, h, _⟩ | ⟨d, p, v, h, he, hv⟩⟩
  · rw [ex_d1] at h; cases h
  · rw [ex_d1] at h
    injection h with h
    injection h with h1 h2
    subst h1 h2
    obtain ⟨sb, sn, sp, rfl, Ab, nb, cb, An, nn, cn, Ap, cp, rfl, rfl, rfl, _, _, _, _, _, _, hp⟩ := hv
    obtain ⟨b, o, rfl, hbS, ⟨⟨_, _, _, hc5, _⟩, _⟩⟩ := hp (by decide)
    exact ⟨Ab, nb, cb, An, nn, cn, b, o, cp, he, hbS.2, hc5.2.1, hb⟩
theorem at_ex {w : World} {v : Value} {A : Option Addr} {c : Nat} (hv : VIn w w.heap.size v nList (.cons (nNum 5) .nil (.cons ⟨2, 0, [120], []⟩ .nil .nil))) (hr : Rd w w.heap.size 1 A 1 (iv [1])) : Calls Try.prog 25 #[v, .slice A 1 c] w fun e w' => ∃ A1 c1 An nn cn Ap np cp, e = .returned (.tuple #[.agg #[.int .i64 2, .int .i64 0, .slice A1 1 c1, .slice An nn cn, .slice Ap np cp], .agg #[.int .i64 0, .int .i64 0]]) ∧
    Rd w' w'.heap.size 1 A1 1 (bv [120]) ∧ Below w.heap.size w w' := by
  refine (at_calls2 ex_m2 hv hr (by decide)).mono ?_
  rintro e w' ⟨hb, ⟨c, i, hc, h, _⟩ | ⟨j, _, h, _⟩ | ⟨d', p', v, _, h, he, hv⟩⟩
  · rw [ex_v2] at h
    injection h with h1 h2
    exact absurd h1.symm hc
  · rw [ex_p2] at h; cases h
  · rw [ex_p2] at h
    injection h with h
    injection h with h1 h2
    subst h1 h2
    obtain ⟨sb, sn, sp, rfl, Ab, nb, cb, An, nn, cn, Ap, cp, rfl, rfl, rfl, _, _, _, _, hrb, _, _⟩ := hv
    have hr1 := hrb.rd (B := w'.heap.size) (fun b hb => hb.2)
    obtain rfl : nb = 1 := by have := hrb.1; simpa [bv] using this.symm
    exact ⟨Ab, cb, An, nn, cn, Ap, _, cp, he, hr1, hb⟩
theorem find_ex {w : World} {v : Value} (hv : VIn w w.heap.size v ⟨4, 0, [], [[97]]⟩ (.cons (nNum 7) .nil .nil)) : Calls Try.prog 27 #[v, .string ⟨#[97]⟩] w fun e w' => ∃ A c, e = .returned (.tuple #[.slice A 1 c, .agg #[.int .i64 0, .int .i64 0]]) ∧ OwnI w' w.heap.size A c [[0]] ∧ Below w.heap.size w w' := by
  refine (findF_calls ex_m3 hv (by decide)).mono ?_
  rintro e w' ⟨hb, ⟨c, i, hc, h, _⟩ | ⟨_, h, _⟩ | ⟨A, c, _, _, he, ho⟩⟩
  · rw [ex_v3] at h
    injection h with h1 h2
    exact absurd h1.symm hc
  · have : isName [97] = true := by decide
    exact absurd h (by rw [show (⟨#[97]⟩ : ByteArray).data.toList = [97] from rfl, this]; decide)
  · rw [show (⟨#[97]⟩ : ByteArray).data.toList = [97] from rfl, ex_f3] at he ho
    exact ⟨A, c, he, ho, hb⟩
theorem bytes_ex {w : World} {A : Option Addr} {c : Nat} (h : Rd w w.heap.size 1 A 4 (bv [6, 2, 2, 2])) : Calls Try.prog 17 #[.slice A 4 c, .slice (some ⟨w.heap.size, 0, none⟩) 4 4] (w.alloc (.cells #[.int .u8 6, .int .u8 2, .int .u8 2, .int .u8 2] 5)) fun e w' =>
    e = .returned (.bool true) ∧ (w.alloc (.cells #[.int .u8 6, .int .u8 2, .int .u8 2, .int .u8 2] 5)) = w' :=
  (bytes_calls (h.on (bel1 _ _)) (b := [6, 2, 2, 2]) (B' := (w.alloc (.cells #[.int .u8 6, .int .u8 2, .int .u8 2, .int .u8 2] 5)).heap.size) ⟨rfl, fun _ => ⟨_, _, rfl, by simp, fun j u hu => (by rw [Nat.zero_add]; exact (cell_newN _ _ _ _).trans (by simpa [bv] using hu))⟩⟩).mono fun e w' h => ⟨h.1.trans (by rfl), h.2⟩
theorem Lss.on {w w' : World} {n : Nat} {A : Option Addr} {l : List (List Int)} (h : Lss w w.heap.size A n l) (hb : Below w.heap.size w w') : Lss w' w'.heap.size A n l := by
  obtain ⟨vs, h1, h2, h3⟩ := h
  refine ⟨vs, h1.on hb, h2, fun j b hj => ?_⟩
  obtain ⟨A', n', c', e, hr, hn⟩ := h3 j b hj
  exact ⟨A', n', c', e, hr.on hb, hn⟩
theorem lists_ex {w : World} {A : Option Addr} {c : Nat} (h : Lss w w.heap.size A 1 [[0]]) : Calls Try.prog 30 #[.slice A 1 c, .slice (some ⟨w.heap.size + 1, 0, none⟩) 1 1] ((w.alloc (.cells #[.int .i64 0] 3)).alloc (.cells #[.slice (some ⟨w.heap.size, 0, none⟩) 1 1] 46)) fun e w' =>
    e = .returned (.bool true) ∧ Below w.heap.size w w' := by
  have hl : Lss ((w.alloc (.cells #[.int .i64 0] 3)).alloc (.cells #[.slice (some ⟨w.heap.size, 0, none⟩) 1 1] 46)) ((w.alloc (.cells #[.int .i64 0] 3)).alloc (.cells #[.slice (some ⟨w.heap.size, 0, none⟩) 1 1] 46)).heap.size (some ⟨w.heap.size + 1, 0, none⟩) 1 [[0]] := by
    refine ⟨[.slice (some ⟨w.heap.size, 0, none⟩) 1 1], ⟨rfl, fun _ => ⟨_, _, rfl, by simp, fun j u hu => ?_⟩⟩, rfl, fun j b hj => ?_⟩
    · rw [Nat.zero_add]
      have := cell_newN (w.alloc (.cells #[.int .i64 0] 3)) #[.slice (some ⟨w.heap.size, 0, none⟩) 1 1] 46 j
      rw [alloc_size] at this
      exact this.trans (by simpa using hu)
    · cases j with
      | succ j => simp at hj
      | zero =>
        simp at hj
        subst hj
        refine ⟨_, 1, 1, rfl, ⟨rfl, fun _ => ⟨_, _, rfl, by simp; omega, fun j u hu => ?_⟩⟩, by decide⟩
        rw [Nat.zero_add]
        exact cell_up ((cell_newN _ _ _ _).trans (by simpa [iv] using hu))
  refine (lists_calls (c := c) (c' := 1) (h.on (bel2 _ _ _)) hl (by decide)).mono ?_
  rintro e w' ⟨rfl, n, rfl⟩
  exact ⟨rfl, (bel2 _ _ _).trans ⟨rfl, rfl, rfl, Nat.le_refl _, fun _ _ => rfl⟩⟩
set_option maxRecDepth 100000 in
set_option maxHeartbeats 4000000 in
theorem example_calls (w : World) : Calls Try.prog 13 #[] w fun e w' => e = .returned (.bool true) ∧ Below w.heap.size w w' := by
  go_enter Try.func13, Try.ntmps13
  go_wp2_with fail
  refine (num_mk 1 _).mono ?_
  rintro e w1 ⟨rfl, hb1⟩
  have HB1 := Lib.hid hb1
  clear hb1
  go_wp2_with fail
  refine (enc_ex (vin_list1 w1 1)).mono ?_
  rintro e w2 ⟨A2, c2, rfl, hown2, hb2⟩
  have HB2 := Lib.hid (chain HB1.out (chain (bel1 _ _) hb2))
  have HO2 := Lib.hid hown2
  clear hb2 hown2
  go_wp2_with fail
  refine (dec_ex (by rw [← alloc_size w2 (.cells #[.int .i64 0, .int .i64 0] 29)]; exact ⟨rfl, fun _ => ⟨_, _, rfl, by simp, fun j u hu => (by rw [Nat.zero_add]; exact (cell_newN _ _ _ _).trans (by simpa [bv] using hu))⟩⟩) (by decide)).mono ?_
  rintro e w3 ⟨Ab3, nb3, cb3, An3, nn3, cn3, b3, o3, cp3, rfl, hlt3, hce3, hb3⟩
  have HF2 := Lib.hid (((FC.new w2 0 0).on (bel1 _ _)).on hb3)
  have HB3 := Lib.hid (chain (bel2 _ _ _) hb3)
  have HLT3 := Lib.hid hlt3
  have HCE3 := Lib.hid hce3
  clear hb3 hlt3 hce3
  go_wp2_with fail
  refine (num_mk 5 _).mono ?_
  rintro e w4 ⟨rfl, hb4⟩
  have HX3 := Lib.hid (((Bx.new w3 (.int .i64 3) (.int .i64 0) (.slice Ab3 nb3 cb3) (.slice An3 nn3 cn3) (.slice (some ⟨b3, o3, none⟩) 1 cp3)).on (bel1 _ (.cells #[.int .i64 0, .int .i64 0] 29))).on hb4)
  have HF4 := Lib.hid ((FC.new (w3.alloc (.cells #[.int .i64 3, .int .i64 0, .slice Ab3 nb3 cb3, .slice An3 nn3 cn3, .slice (some ⟨b3, o3, none⟩) 1 cp3] 26)) 0 0).on hb4)
  rw [alloc_size] at HF4
  have HB4 := Lib.hid (chain (bel2 _ _ _) hb4)
  clear hb4
  go_wp2_with fail
  refine (str_mk _).mono ?_
  rintro e w5 ⟨⟨v5, rfl, hv5⟩, hb5⟩
  have HB5 := Lib.hid hb5
  have HV5 := Lib.hid hv5
  clear hb5 hv5
  go_wp2_with fail
  refine (seq_mk (vin_num _ _ 5) HV5.out).mono ?_
  rintro e w6 ⟨⟨v6, rfl, hv6⟩, hb6⟩
  have HB6 := Lib.hid hb6
  have HV6 := Lib.hid hv6
  clear hb6 hv6
  go_wp2_with fail
  refine (at_ex (HV6.out.on (bel1 _ _)) ⟨rfl, fun _ => ⟨_, _, rfl, by simp, fun j u hu => (by rw [Nat.zero_add]; exact (cell_newN _ _ _ _).trans (by simpa [iv] using hu))⟩⟩).mono ?_
  rintro e w7 ⟨A7, c7, An7, nn7, cn7, Ap7, np7, cp7, rfl, hr7, hb7⟩
  have HB7 := Lib.hid (chain (bel1 _ _) hb7)
  have HR7 := Lib.hid hr7
  clear hb7 hr7
  go_wp2_with fail
  refine (num_mk 7 _).mono ?_
  rintro e w8 ⟨rfl, hb8⟩
  have HX5 := Lib.hid (((Bx.new w7 (.int .i64 2) (.int .i64 0) (.slice A7 1 c7) (.slice An7 nn7 cn7) (.slice Ap7 np7 cp7)).on (bel1 _ (.cells #[.int .i64 0, .int .i64 0] 29))).on hb8)
  have HF6 := Lib.hid ((FC.new (w7.alloc (.cells #[.int .i64 2, .int .i64 0, .slice A7 1 c7, .slice An7 nn7 cn7, .slice Ap7 np7 cp7] 26)) 0 0).on hb8)
  rw [alloc_size] at HF6
  have HB8 := Lib.hid (chain (bel2 _ _ _) hb8)
  clear hb8
  go_wp2_with fail
  refine (rec_mk (vin_num _ _ 7)).mono ?_
  rintro e w9 ⟨⟨v9, rfl, hv9⟩, hb9⟩
  have HB9 := Lib.hid hb9
  have HV9 := Lib.hid hv9
  clear hb9 hv9
  go_wp2_with fail
  refine (find_ex HV9.out).mono ?_
  rintro e w10 ⟨A10, c10, rfl, ho10, hb10⟩
  have HBa := Lib.hid (chain HB9.out hb10)
  have HO10 := Lib.hid ho10
  clear hb10 ho10
  go_upto_region 5 with (fail)
  obtain ⟨W, hW⟩ : ∃ W, w10.alloc (.cells #[.int .i64 0, .int .i64 0] 29) = W := ⟨_, rfl⟩
  have HBW := Lib.hid (show Below w10.heap.size w10 W by rw [← hW]; exact bel1 _ _)
  have HF8 := Lib.hid (show FC W w10.heap.size 0 0 by rw [← hW]; exact FC.new _ _ _)
  rw [hW]
  clear hW
  have k8 : Below w8.heap.size w8 W := chain HBa.out HBW.out
  have k7 : Below w7.heap.size w7 W := chain HB8.out k8
  have k4 : Below w4.heap.size w4 W := chain (chain HB5.out (chain HB6.out HB7.out)) k7
  have k3 : Below w3.heap.size w3 W := chain HB4.out k4
  have k2 : Below w2.heap.size w2 W := chain HB3.out k3
  have K3 := Lib.hid k3
  have K2 := Lib.hid k2
  have K7 := Lib.hid k7
  have f2 := HF2.out.on k3
  have f4 := HF4.out.on k4
  have f6 := HF6.out.on k8
  have f8 := HF8.out
  have x3 := (HX3.out.on k4).cells
  have x5 := (HX5.out.on k8).cells
  have e3 := (k3.cell (p := ⟨b3, o3 + 1, none⟩) HLT3.out).trans HCE3.out
  clear k8 k7 k4 k3 k2
  obtain ⟨za, a0, a1, fa0, fa1⟩ := f2
  obtain ⟨zb, b0, b1, fb0, fb1⟩ := f4
  obtain ⟨zc, c0, c1, fc0, fc1⟩ := f6
  obtain ⟨zd, d0, d1, fd0, fd1⟩ := f8
  obtain ⟨p0, p1, p2, p3, p4⟩ := x3
  obtain ⟨r0, r1, r2, r3, r4⟩ := x5
  have n3 : ∀ ob, (W.alloc ob).cell? ⟨w3.heap.size, 4, none⟩ = some (.slice (some ⟨b3, o3, none⟩) 1 cp3) := fun ob => cell_up p4
  have n4 : ∀ ob, (W.alloc ob).cell? ⟨b3, o3 + 1, none⟩ = some (.int .i64 1) := fun ob => cell_up e3
  have n5 : ∀ ob, (W.alloc ob).cell? ⟨w7.heap.size, 2, none⟩ = some (.slice A7 1 c7) := fun ob => cell_up r2
  have hst := run_str (c := c7) ((HR7.out.on K7.out).on (bel1 W (.cells #[.int .u8 6, .int .u8 2, .int .u8 2, .int .u8 2] 5)))
  have H2W := Lib.hid ((Rd.of_own HO2.out).on K2.out)
  have HLS := Lib.hid (((HO10.out.lss (by simp)).on HBW.out).on (bel1 W (.cells #[.int .u8 6, .int .u8 2, .int .u8 2, .int .u8 2] 5)))
  have HBZ := Lib.hid (show Below w.heap.size w (W.alloc (.cells #[.int .u8 6, .int .u8 2, .int .u8 2, .int .u8 2] 5)) from bel_up (chain HB2.out K2.out) _)
  have hls := lists_ex (c := c10) HLS.out
  simp only [alloc_size] at hls
  have HLE := Lib.hid hls
  clear hls
  go_wp2_with (first
    | (go_at_call 17; refine (bytes_ex H2W.out).mono ?_; rintro e w' ⟨rfl, rfl⟩)
    | (go_at_call 30; refine HLE.out.mono ?_; rintro e w11 ⟨rfl, hb11⟩))
  go_ret
  exact ⟨rfl, HBZ.out.trans (hb11.mono (by have := HBZ.out.size; simp only [alloc_size] at this; omega))⟩
end Go.Proofs.Ytolognhjdmkohaa
