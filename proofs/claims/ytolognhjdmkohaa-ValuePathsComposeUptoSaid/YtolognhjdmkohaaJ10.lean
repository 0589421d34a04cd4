/-
  The contracts of the deferred call of value.Decode.
-/
/-
  The contracts of the reader: a number, a chunk.
-/
/-
  What the reader reads: a value in a byte string, plain.
-/
/-
  The contract of the reader's value: numbers, byte strings, faults.
-/
import Derived.Test.YtolognhjdmkohaaJ9
import Derived.Defers
import Derived.Recover
import Derived.Test.YtolognhjdmkohaaJ2
import Derived.WalkLawsBesides
namespace Go.Proofs.Ytolognhjdmkohaa
open Go.RowKit
set_option linter.unusedVariables false
set_option linter.unusedSimpArgs false

set_option maxRecDepth 100000 in
theorem caught_idle (g h : Nat) (w : World) :
    CallsD Try.prog 49 #[.pointer (some ⟨g, 0, none⟩), .pointer (some ⟨h, 0, none⟩)] .returning w fun e u' w' => e = .returned (.tuple #[]) ∧ u' = .returning ∧ w' = w := by
  refine callsD_of_wpS Try.func49 rfl fun c₀ cs hu => ?_
  apply wpS_seq
  apply wpS_region
  simp [wpOpsS, go_sem, recoverD, hu, Try.ntmps49, Exit.thenS]
  refine wpS_of_wp ?_
  simp only [Array.replicate_succ, Array.replicate_zero, List.push_toArray, List.append_toArray, List.nil_append, List.cons_append, List.setIfInBounds_toArray, List.set_cons_zero, List.set_cons_succ]
  go_wp2_with fail
  cases c₀
  simp_all [bodyPostS, results, Try.results49]
set_option maxRecDepth 100000 in
theorem caught_corrupt (g k : Nat) (a b c d e : Value) (i j : Int) (w : World) (hb : Bx w g a b c d e) (hf : FC w k i j) (hne : g ≠ k) :
    CallsD Try.prog 49 #[.pointer (some ⟨g, 0, none⟩), .pointer (some ⟨k, 0, none⟩)] (.panicking [{ v := .iface 80 (.agg #[]), recovered := false }]) w fun e u' w' =>
      e = .returned (.tuple #[]) ∧ u' = .panicking [{ v := .iface 80 (.agg #[]), recovered := true }] ∧ Bx w' g (.int .i64 0) (.int .i64 0) (.slice none 0 0) (.slice none 0 0) (.slice none 0 0) ∧ FC w' k 16 (-1) ∧ (∀ B w0, Below B w0 w → B ≤ g → B ≤ k → Below B w0 w') := by
  refine callsD_of_wpS Try.func49 rfl fun c₀ cs hu => ?_
  apply wpS_seq
  apply wpS_region
  simp [wpOpsS, go_sem, recoverD, hu, Try.ntmps49, Exit.thenS]
  refine wpS_of_wp ?_
  simp only [Array.replicate_succ, Array.replicate_zero, List.push_toArray, List.append_toArray, List.nil_append, List.cons_append, List.setIfInBounds_toArray, List.set_cons_zero, List.set_cons_succ]
  have hta : ∀ W : World, (Instr.typeAssert (.iface 80 (.agg #[])) 20 80 true).run Try.prog W = .ok (.tuple #[.agg #[], .bool true]) W := fun _ => by kernel_rfl
  have HB := Lib.hid (hb.on (bel2 _ (.cells #[] 80) (.cells #[.int .i64 16, .int .i64 (-1)] 29)))
  have HF := Lib.hid ((hf.alloc (.cells #[] 80)).alloc (.cells #[.int .i64 16, .int .i64 (-1)] 29))
  have HLT := Lib.hid (show ∀ B w0, Below B w0 w → B ≤ g → B ≤ k → Below B w0 ((w.alloc (.cells #[] 80)).alloc (.cells #[.int .i64 16, .int .i64 (-1)] 29)) from fun B w0 h1 h2 h3 => (h1.alloc (by have := hb.lt; omega) _).alloc (by have := hb.lt; simp only [alloc_size]; omega) _)
  clear hb hf hu
  go_wp2_with fail
  refine (vfault_calls _ _ _).mono ?_
  rintro e w' ⟨rfl, rfl⟩
  obtain ⟨W, hW⟩ : ∃ W, (w.alloc (.cells #[] 80)).alloc (.cells #[.int .i64 16, .int .i64 (-1)] 29) = W := ⟨_, rfl⟩
  rw [hW] at HB HF HLT ⊢
  clear hW hta
  obtain ⟨s0, s1, s2, s3, s4⟩ := HB.out.cells
  have sf := HB.out.free
  obtain ⟨z4, r0, r1, e0, e1⟩ := HF.out
  have hne1 : ¬ g = k := hne
  have hne2 : ¬ k = g := fun e => hne e.symm
  go_wp2_with fail
  obtain ⟨W9, hW9⟩ : ∃ W9, (((((((W.setCell ⟨g, 0, none⟩ (.int .i64 0)).setCell ⟨g, 1, none⟩ (.int .i64 0)).setCell ⟨g, 2, none⟩ (.slice none 0 0)).setCell ⟨g, 3, none⟩ (.slice none 0 0)).setCell ⟨g, 4, none⟩ (.slice none 0 0)).setCell ⟨k, 0, none⟩ (.int .i64 16)).setCell ⟨k, 1, none⟩ (.int .i64 (-1))) = W9 := ⟨_, rfl⟩
  obtain ⟨p1, p2, p3, p4, p5⟩ := put57 HB.out HF.out hne hW9
  rw [hW9]
  exact ⟨rfl, _, rfl, .tuple #[], by simp [results, Try.results49], rfl, rfl, p1, p2, fun B w0 h1 h2 h3 => p4 B w0 (HLT.out B w0 h1 h2 h3) h2 h3⟩
end Go.Proofs.Ytolognhjdmkohaa
namespace Go.Proofs.Ytolognhjdmkohaa
open Go.RowKit
set_option linter.unusedVariables false
set_option linter.unusedSimpArgs false

/-- the reader at block g: its bytes, its place -/
def Rr (w : World) (g : Nat) (sl : Value) (x : Int) : Prop := w.heap[g]? = some (.cells #[sl, .int .i64 x] 84 (0, 0))
/-- memory is as it was, but for the reader's block -/
structure Rf (w w' : World) (g : Nat) : Prop where
  os : w'.os = w.os
  tape : w'.tape = w.tape
  output : w'.output = w.output
  size : w.heap.size ≤ w'.heap.size
  block : ∀ k, k < w.heap.size → k ≠ g → w'.heap[k]? = w.heap[k]?
theorem Rf.refl (w : World) (g : Nat) : Rf w w g := ⟨rfl, rfl, rfl, Nat.le_refl _, fun _ _ _ => rfl⟩
theorem Rf.trans {w w1 w2 : World} {g : Nat} (h1 : Rf w w1 g) (h2 : Rf w1 w2 g) : Rf w w2 g :=
  ⟨h2.os.trans h1.os, h2.tape.trans h1.tape, h2.output.trans h1.output, Nat.le_trans h1.size h2.size, fun k hk hg => (h2.block k (Nat.lt_of_lt_of_le hk h1.size) hg).trans (h1.block k hk hg)⟩
theorem Rf.of {w w' : World} {g : Nat} (h : Below w.heap.size w w') : Rf w w' g := ⟨h.os, h.tape, h.output, h.size, fun k hk _ => h.block k hk⟩
theorem Rf.drew {w w' : World} {g : Nat} (h : Rf w w' g) : Rf w w'.drew g := ⟨h.os, h.tape, h.output, h.size, h.block⟩
theorem Rf.set {w w' : World} {g o : Nat} {x : Value} (h : Rf w w' g) : Rf w (w'.setCell ⟨g, o, none⟩ x) g :=
  ⟨h.os, h.tape, h.output, by simpa using h.size, fun k hk hg => (Below.heap_setCell _ _ _ _ (by exact hg)).trans (h.block k hk hg)⟩
theorem Rf.below {w w' : World} {g B : Nat} (h : Rf w w' g) (hB : B ≤ g) (hz : B ≤ w.heap.size) : Below B w w' := ⟨h.os, h.tape, h.output, h.size, fun k hk => h.block k (by omega) (by omega)⟩
theorem Rr.lt {w : World} {g : Nat} {sl : Value} {x : Int} (h : Rr w g sl x) : g < w.heap.size := (Array.getElem?_eq_some_iff.1 h).1
theorem Rr.cells {w : World} {g : Nat} {sl : Value} {x : Int} (h : Rr w g sl x) : w.cell? ⟨g, 0, none⟩ = some sl ∧ w.cell? ⟨g, 1, none⟩ = some (.int .i64 x) := by
  refine ⟨?_, ?_⟩ <;> (rw [cell_of_row w g _ _ _ _ h]; rfl)
theorem Rr.free {w : World} {g : Nat} {sl : Value} {x : Int} (h : Rr w g sl x) (o : Nat) : w.frozen? ⟨g, o, none⟩ = false := by
  unfold World.frozen?
  simp [Rr] at h
  simp [h]
theorem Rr.on {w w' : World} {g : Nat} {sl : Value} {x : Int} (h : Rr w g sl x) (hb : Below w.heap.size w w') : Rr w' g sl x := (hb.block g h.lt).trans h
theorem Rr.set {w : World} {g : Nat} {sl : Value} {x : Int} (h : Rr w g sl x) (y : Int) : Rr (w.setCell ⟨g, 1, none⟩ (.int .i64 y)) g sl y := by
  unfold Rr at h ⊢
  simp only [World.setCell, Array.getElem?_modify, h]
  simp
theorem fc_last {W w3 : World} {a b : Int} (h : Below (W.alloc (.cells #[.int .i64 a, .int .i64 b] 29)).drew.heap.size (W.alloc (.cells #[.int .i64 a, .int .i64 b] 29)).drew w3) : FC w3 W.heap.size a b :=
  (FC.new W a b).on (beldrew h)
/-- the reader's panic -/
def corrupt : Ending := .panicked [{ v := .iface 80 (.agg #[]), recovered := false }]
/-- what the reader's number answers -/
def NbEnd (w : World) (g : Nat) (sl : Value) (r : Int × Int × Int × Int) (e : Ending) (w' : World) : Prop :=
  Rf w w' g ∧ ((r.2.2.1 ≠ 0 ∧ e = corrupt) ∨ (r.2.2.1 = 0 ∧ e = .returned (.int .i64 r.1) ∧ Rr w' g sl r.2.1))
set_option maxRecDepth 100000 in
set_option maxHeartbeats 1000000 in
theorem rnumber_calls {w : World} {g B : Nat} {A : Option Addr} {n c : Nat} {bs : List UInt8} {x : Int} (hr : Rr w g (.slice A n c) x) (hd : Rd w B 1 A n (bv bs)) (hB : B ≤ g) (hn : n ≤ 4000) :
    Calls Try.prog 66 #[.pointer (some ⟨g, 0, none⟩)] w (NbEnd w g (.slice A n c) (readNum bs x)) := by
  have HR := Lib.hid hr
  have hlt := hr.lt
  have HD := Lib.hid (show Rd w w.heap.size 1 A n (bv bs) from hd.more (by omega))
  obtain ⟨c0, c1⟩ := hr.cells
  clear hd hr
  obtain ⟨v, y, cd, ix, hres⟩ : ∃ v y cd ix, readNum bs x = (v, y, cd, ix) := ⟨_, _, _, _, rfl⟩
  have HRES := Lib.hid hres
  clear hres
  go_enter Try.func66, Try.ntmps66
  go_upto_region 1 with (fail)
  go_cut [3, 4, 5] (fun s t u wx => s = .int .i64 v ∧ t = .int .i64 y ∧ ∃ h, u = .pointer (some ⟨h, 0, none⟩) ∧ w.heap.size ≤ h ∧ FC wx h cd ix ∧ Below w.heap.size w wx)
  case first =>
    go_region_held3 (fun w' => w'.cell? ⟨g, 0, none⟩ = some (.slice A n c) ∧ w'.cell? ⟨g, 1, none⟩ = some (.int .i64 x))
      (first
        | (with_reducible exact ⟨c0, c1⟩) | (with_reducible exact ⟨cell_drew c0, cell_drew c1⟩) | (with_reducible exact ⟨cell_drew (cell_up c0), cell_drew (cell_up c1)⟩) | (with_reducible exact ⟨k0, k1⟩) | (with_reducible exact ⟨cell_up k0, cell_up k1⟩)
        | (with_reducible exact ⟨(World.cell?_setCell_far _ _ _ _ hgn).trans ((World.cell?_setCell_far _ _ _ _ hgn).trans k0), (World.cell?_setCell_far _ _ _ _ hgn).trans ((World.cell?_setCell_far _ _ _ _ hgn).trans k1)⟩))
      (first
        | (go_at_call 81; refine (readNumber_calls (bs := bs) (by exact HD.out.on (by repeat (first | exact Below.refl _ _ | refine Below.drew ?_ | refine bel_up ?_ _))) x (by unfold maxLen; omega)).mono ?_; rintro e w3 ⟨he, hb3⟩; rw [HRES.out] at he; subst he; have hB3 : Below w.heap.size w w3 := (by first | (with_reducible exact beldrewA hb3) | (with_reducible exact beldrew hb3)); have k0 := (hB3.cell (p := ⟨g, 0, none⟩) (by exact hlt)).trans c0; have k1 := (hB3.cell (p := ⟨g, 1, none⟩) (by exact hlt)).trans c1; have hgn : w.heap.size ≠ g := (by omega); (first | ((with_reducible have o3 := fc_last hb3); obtain ⟨z3, a0, a1, f0, f1⟩ := o3) | skip)))
    all_goals go_wp2_with fail
    · go_meet
      exact ⟨rfl, rfl, _, rfl, hB3.size, FC.new _ _ _, bel_up hB3 _⟩
    · go_meet
      exact ⟨rfl, rfl, _, rfl, Nat.le_refl _, FC.put ⟨z3, a0, a1, f0, f1⟩ _ _, below_put hB3 (Nat.le_refl _) _ _⟩
  case rest =>
    obtain ⟨rfl, rfl, h, rfl, hh, ⟨z3, a0, a1, f0, f1⟩, hbx⟩ := hcut
    obtain ⟨k0, k1⟩ := (HR.out.on hbx).cells
    have kf := (HR.out.on hbx).free
    have HRX := Lib.hid (HR.out.on hbx)
    have HBX := Lib.hid hbx
    clear hbx
    by_cases hcd : cd = 0
    · subst hcd
      have hi0 : (0 == (0 : Int)) = true := rfl
      have hneq := flt_neq 0 ix 0 0
      have HIX := Lib.hid (show ix = 0 by
        rcases readNum_or bs x (by have := HD.out.len; rw [bv_len] at this; omega) with ⟨c, i, hc, h⟩ | ⟨_, _, _, _, _, h, _⟩
        · rw [HRES.out] at h; simp at h; omega
        · rw [HRES.out] at h; simp at h; omega)
      have hix := HIX.out
      subst hix
      go_wp2_with fail
      go_ret
      exact ⟨(Rf.of HBX.out).set, .inr ⟨by rw [HRES.out], by rw [HRES.out]; rfl, by rw [HRES.out]; exact HRX.out.set _⟩⟩
    · have hc0 : (cd == 0) = false := by simpa using hcd
      have hneq := flt_neq cd ix 0 0
      have HC := Lib.hid hcd
      clear hcd
      go_wp2_with fail
      exact ⟨rfl, Rf.of HBX.out, .inl ⟨by rw [HRES.out]; exact HC.out, rfl⟩⟩
/-- what the reader's chunk answers -/
def CkEnd (w : World) (g : Nat) (sl : Value) (r : List UInt8 × Int × Int × Int) (e : Ending) (w' : World) : Prop :=
  Rf w w' g ∧ ((r.2.2.1 ≠ 0 ∧ e = corrupt) ∨ (r.2.2.1 = 0 ∧ ∃ A c, e = .returned (.slice A r.1.length c) ∧ w'.ownsRow w.heap.size 5 1 (.slice A r.1.length c) r.1.length (bv r.1) ∧ Rr w' g sl r.2.1))
set_option maxRecDepth 100000 in
set_option maxHeartbeats 1000000 in
theorem rchunk_calls {w : World} {g B : Nat} {A : Option Addr} {n c : Nat} {bs : List UInt8} {x : Int} (hr : Rr w g (.slice A n c) x) (hd : Rd w B 1 A n (bv bs)) (hB : B ≤ g) (hn : n ≤ 4000) (hnc : n ≤ c) :
    Calls Try.prog 67 #[.pointer (some ⟨g, 0, none⟩)] w (CkEnd w g (.slice A n c) (readChunk bs x)) := by
  have HR := Lib.hid hr
  have hlt := hr.lt
  have HD := Lib.hid (show Rd w w.heap.size 1 A n (bv bs) from hd.more (by omega))
  obtain ⟨c0, c1⟩ := hr.cells
  clear hd hr
  obtain ⟨v, y, cd, ix, hres⟩ : ∃ v y cd ix, readChunk bs x = (v, y, cd, ix) := ⟨_, _, _, _, rfl⟩
  have HRES := Lib.hid hres
  clear hres
  go_enter Try.func67, Try.ntmps67
  go_upto_region 1 with (fail)
  go_cut [3, 4, 5] (fun s t u wx => (∃ A3 c3, s = .slice A3 v.length c3 ∧ wx.ownsRow w.heap.size 5 1 (.slice A3 v.length c3) v.length (bv v)) ∧ t = .int .i64 y ∧ ∃ h, u = .pointer (some ⟨h, 0, none⟩) ∧ w.heap.size ≤ h ∧ FC wx h cd ix ∧ Below w.heap.size w wx)
  case first =>
    go_region_held3 (fun w' => w'.cell? ⟨g, 0, none⟩ = some (.slice A n c) ∧ w'.cell? ⟨g, 1, none⟩ = some (.int .i64 x))
      (first
        | (with_reducible exact ⟨c0, c1⟩) | (with_reducible exact ⟨cell_drew c0, cell_drew c1⟩) | (with_reducible exact ⟨cell_drew (cell_up c0), cell_drew (cell_up c1)⟩) | (with_reducible exact ⟨k0, k1⟩) | (with_reducible exact ⟨cell_up k0, cell_up k1⟩)
        | (with_reducible exact ⟨(World.cell?_setCell_far _ _ _ _ hgn).trans ((World.cell?_setCell_far _ _ _ _ hgn).trans k0), (World.cell?_setCell_far _ _ _ _ hgn).trans ((World.cell?_setCell_far _ _ _ _ hgn).trans k1)⟩))
      (first
        | (go_at_call 82; refine (readChunk_calls (bs := bs) (by exact HD.out.on (by repeat (first | exact Below.refl _ _ | refine Below.drew ?_ | refine bel_up ?_ _))) x (by omega) hnc).mono ?_; rintro e w3 ⟨A3, c3, he, hown3, hb3⟩; rw [HRES.out] at he hown3; subst he; have hB3 : Below w.heap.size w w3 := (by first | (with_reducible exact beldrewA hb3) | (with_reducible exact beldrew hb3)); have k0 := (hB3.cell (p := ⟨g, 0, none⟩) (by exact hlt)).trans c0; have k1 := (hB3.cell (p := ⟨g, 1, none⟩) (by exact hlt)).trans c1; have hgn : w.heap.size ≠ g := (by omega); (first | ((with_reducible have o3 := fc_last hb3); obtain ⟨z3, a0, a1, f0, f1⟩ := o3) | skip)))
    all_goals go_wp2_with fail
    · go_meet
      exact ⟨⟨A3, c3, rfl, (own_mono hown3 (by exact Nat.le_refl _)).alloc _⟩, rfl, _, rfl, hB3.size, FC.new _ _ _, bel_up hB3 _⟩
    · go_meet
      exact ⟨⟨A3, c3, rfl, own_mono (own_set (own_set hown3 (by simp only [World.size_drew, alloc_size]; omega)) (by simp only [World.size_drew, alloc_size]; omega)) (by simp only [World.size_drew, alloc_size]; omega)⟩, rfl, _, rfl, Nat.le_refl _, FC.put ⟨z3, a0, a1, f0, f1⟩ _ _, below_put hB3 (Nat.le_refl _) _ _⟩
  case rest =>
    obtain ⟨⟨A3, c3, rfl, hown⟩, rfl, h, rfl, hh, ⟨z3, a0, a1, f0, f1⟩, hbx⟩ := hcut
    have HOWN := Lib.hid hown
    clear hown
    obtain ⟨k0, k1⟩ := (HR.out.on hbx).cells
    have kf := (HR.out.on hbx).free
    have HRX := Lib.hid (HR.out.on hbx)
    have HBX := Lib.hid hbx
    clear hbx
    by_cases hcd : cd = 0
    · subst hcd
      have hi0 : (0 == (0 : Int)) = true := rfl
      have hneq := flt_neq 0 ix 0 0
      have HIX := Lib.hid (show ix = 0 by
        have h := HRES.out
        unfold readChunk at h
        simp only at h
        split at h
        · rename_i hne; simp at h; exact absurd h.2.2.1 hne
        · split at h
          · simp at h
          · split at h
            · simp at h
            · simp at h; exact h.2.2.symm)
      have hix := HIX.out
      subst hix
      go_wp2_with fail
      go_ret
      exact ⟨(Rf.of HBX.out).set, .inr ⟨by rw [HRES.out], A3, c3, by rw [HRES.out]; rfl, by rw [HRES.out]; exact own_ty HOWN.out ⟨_, _, HRX.out⟩ (by decide), by rw [HRES.out]; exact HRX.out.set _⟩⟩
    · have hc0 : (cd == 0) = false := by simpa using hcd
      have hneq := flt_neq cd ix 0 0
      have HC := Lib.hid hcd
      clear hcd
      go_wp2_with fail
      exact ⟨rfl, Rf.of HBX.out, .inl ⟨by rw [HRES.out]; exact HC.out, rfl⟩⟩
end Go.Proofs.Ytolognhjdmkohaa
namespace Go.Proofs.Ytolognhjdmkohaa
set_option linter.unusedVariables false
set_option linter.unusedSimpArgs false

def VF.app : VF → VF → VF
  | .nil, G => G
  | .cons d p r, G => .cons d p (r.app G)
theorem VF.app_nil (F : VF) : F.app .nil = F := by
  induction F with
  | nil => rfl
  | cons d p r _ ih => simp [VF.app, ih]
theorem VF.snoc_app (F : VF) (d : Nd) (p G : VF) : (F.snoc d p).app G = F.app (.cons d p G) := by
  induction F with
  | nil => rfl
  | cons d' p' r _ ih => simp [VF.snoc, VF.app, ih]
theorem VF.len_app (F G : VF) : (F.app G).len = F.len + G.len := by
  induction F with
  | nil => simp [VF.app, VF.len]
  | cons d p r _ ih => simp [VF.app, VF.len, ih]; omega
/-- one part: its name in a record, then its value -/
def stepP (one : Int → Option (Nd × VF × Int)) (bs : List UInt8) (rc : Bool) (x : Int) : Option (List (List UInt8) × Nd × VF × Int) :=
  if rc = true then (if (readChunk bs x).2.2.1 ≠ 0 then none else match one (readChunk bs x).2.1 with | none => none | some (d, p, y) => some ([(readChunk bs x).1], d, p, y))
  else match one x with | none => none | some (d, p, y) => some ([], d, p, y)
/-- so many parts -/
def rdPs (one : Int → Option (Nd × VF × Int)) (bs : List UInt8) (rc : Bool) : Nat → Int → Option (List (List UInt8) × VF × Int)
  | 0, x => some ([], .nil, x)
  | n + 1, x => match stepP one bs rc x with
    | none => none
    | some (nm, d, p, y) => match rdPs one bs rc n y with
      | none => none
      | some (ns, F, z) => some (nm ++ ns, .cons d p F, z)
/-- a value; f: how many levels may come below -/
def rdV : Nat → List UInt8 → Int → Option (Nd × VF × Int)
  | f, bs, x =>
    if (readNum bs x).2.2.1 ≠ 0 then none
    else if (readNum bs x).1 = 1 then
      (if (readNum bs (readNum bs x).2.1).2.2.1 ≠ 0 then none else some (⟨1, (readNum bs (readNum bs x).2.1).1, [], []⟩, .nil, (readNum bs (readNum bs x).2.1).2.1))
    else if (readNum bs x).1 = 2 then
      (if (readChunk bs (readNum bs x).2.1).2.2.1 ≠ 0 then none else some (⟨2, 0, (readChunk bs (readNum bs x).2.1).1, []⟩, .nil, (readChunk bs (readNum bs x).2.1).2.1))
    else if (readNum bs (readNum bs x).2.1).2.2.1 ≠ 0 then none
    else match f with
      | 0 => none
      | f + 1 =>
        if (readNum bs (readNum bs x).2.1).1 < 0 ∨ (bs.length : Int) - (readNum bs (readNum bs x).2.1).2.1 < (readNum bs (readNum bs x).2.1).1 then none
        else match rdPs (rdV f bs) bs ((readNum bs x).1 == 4) (readNum bs (readNum bs x).2.1).1.toNat (readNum bs (readNum bs x).2.1).2.1 with
          | none => none
          | some (ns, F, z) => some (⟨(readNum bs x).1, 0, [], ns⟩, F, z)
/-- what stands behind some parts that have been read -/
def more (ns : List (List UInt8)) (F : VF) : Option (List (List UInt8) × VF × Int) → Option (List (List UInt8) × VF × Int)
  | none => none
  | some (ns', F', z) => some (ns ++ ns', F.app F', z)
theorem more_nil (r : Option (List (List UInt8) × VF × Int)) : more [] .nil r = r := by cases r <;> simp [more, VF.app]
theorem more_none (one : Int → Option (Nd × VF × Int)) (bs : List UInt8) (rc : Bool) (n : Nat) (x : Int) (ns : List (List UInt8)) (F : VF) (h : stepP one bs rc x = none) : more ns F (rdPs one bs rc (n + 1) x) = none := by
  simp [rdPs, h, more]
theorem more_step (one : Int → Option (Nd × VF × Int)) (bs : List UInt8) (rc : Bool) (n : Nat) (x : Int) (ns nm : List (List UInt8)) (F : VF) (d : Nd) (p : VF) (y : Int) (h : stepP one bs rc x = some (nm, d, p, y)) :
    more ns F (rdPs one bs rc (n + 1) x) = more (ns ++ nm) (F.snoc d p) (rdPs one bs rc n y) := by
  simp only [rdPs, h]
  cases rdPs one bs rc n y with
  | none => rfl
  | some t => obtain ⟨ns', F', z⟩ := t; simp [more, VF.snoc_app]
theorem more_end (one : Int → Option (Nd × VF × Int)) (bs : List UInt8) (rc : Bool) (x : Int) (ns : List (List UInt8)) (F : VF) : more ns F (rdPs one bs rc 0 x) = some (ns, F, x) := by
  simp [rdPs, more, VF.app_nil]
theorem step_no {one : Int → Option (Nd × VF × Int)} {bs : List UInt8} {x : Int} (h : one x = none) : stepP one bs false x = none := by simp [stepP, h]
theorem step_yes {one : Int → Option (Nd × VF × Int)} {bs : List UInt8} {x y : Int} {d : Nd} {p : VF} (h : one x = some (d, p, y)) : stepP one bs false x = some ([], d, p, y) := by simp [stepP, h]
theorem step_rfault {one : Int → Option (Nd × VF × Int)} {bs : List UInt8} {x : Int} (h : (readChunk bs x).2.2.1 ≠ 0) : stepP one bs true x = none := by simp [stepP, h]
theorem step_rno {one : Int → Option (Nd × VF × Int)} {bs s : List UInt8} {x y i : Int} (h : readChunk bs x = (s, y, 0, i)) (h1 : one y = none) : stepP one bs true x = none := by simp [stepP, h, h1]
theorem step_ryes {one : Int → Option (Nd × VF × Int)} {bs s : List UInt8} {x y z i : Int} {d : Nd} {p : VF} (h : readChunk bs x = (s, y, 0, i)) (h1 : one y = some (d, p, z)) : stepP one bs true x = some ([s], d, p, z) := by simp [stepP, h, h1]
end Go.Proofs.Ytolognhjdmkohaa
namespace Go.Proofs.Ytolognhjdmkohaa
open Go.RowKit
set_option linter.unusedVariables false
set_option linter.unusedSimpArgs false

theorem Bx.rf {w w' : World} {g h : Nat} {a b c d e : Value} (k : Bx w h a b c d e) (hf : Rf w w' g) (hne : h ≠ g) : Bx w' h a b c d e := (hf.block h k.lt hne).trans k
theorem Rr.alloc {w : World} {g : Nat} {sl : Value} {x : Int} (h : Rr w g sl x) (o : Obj) : Rr (w.alloc o) g sl x := h.on (bel1 _ _)
theorem Rf.alloc {w w' : World} {g : Nat} (h : Rf w w' g) (o : Obj) : Rf w (w'.alloc o) g := h.trans (Rf.of (bel1 _ _))
theorem Rf.setN {w w' : World} {g k o : Nat} {x : Value} (h : Rf w w' g) (hk : w.heap.size ≤ k) : Rf w (w'.setCell ⟨k, o, none⟩ x) g :=
  ⟨h.os, h.tape, h.output, by simpa using h.size, fun b hb hg => (Below.heap_setCell _ _ _ _ (by show b ≠ k; omega)).trans (h.block b hb hg)⟩
theorem Rf.set5 {w w' : World} {g k : Nat} {x0 x1 x2 x3 x4 : Value} (h : Rf w w' g) (hk : w.heap.size ≤ k) : Rf w (((((w'.setCell ⟨k, 0, none⟩ x0).setCell ⟨k, 1, none⟩ x1).setCell ⟨k, 2, none⟩ x2).setCell ⟨k, 3, none⟩ x3).setCell ⟨k, 4, none⟩ x4) g :=
  ((((h.setN hk).setN hk).setN hk).setN hk).setN hk
theorem Rr.far {w : World} {g k o : Nat} {sl x' : Value} {x : Int} (h : Rr w g sl x) (hne : g ≠ k) : Rr (w.setCell ⟨k, o, none⟩ x') g sl x := by
  unfold Rr at h ⊢
  rw [Below.heap_setCell _ _ _ _ (by exact hne)]; exact h
theorem Rr.far5 {w : World} {g k : Nat} {sl x0 x1 x2 x3 x4 : Value} {x : Int} (h : Rr w g sl x) (hne : g ≠ k) : Rr (((((w.setCell ⟨k, 0, none⟩ x0).setCell ⟨k, 1, none⟩ x1).setCell ⟨k, 2, none⟩ x2).setCell ⟨k, 3, none⟩ x3).setCell ⟨k, 4, none⟩ x4) g sl x :=
  ((((h.far hne).far hne).far hne).far hne).far hne
theorem Bx.set1 {w : World} {g : Nat} {a b c d e : Value} (h : Bx w g a b c d e) (x : Value) : Bx (w.setCell ⟨g, 1, none⟩ x) g a x c d e := by
  unfold Bx at h ⊢
  simp only [World.setCell, Array.getElem?_modify, h]
  simp
theorem Bx.set2 {w : World} {g : Nat} {a b c d e : Value} (h : Bx w g a b c d e) (x : Value) : Bx (w.setCell ⟨g, 2, none⟩ x) g a b x d e := by
  unfold Bx at h ⊢
  simp only [World.setCell, Array.getElem?_modify, h]
  simp
theorem Bx.set3 {w : World} {g : Nat} {a b c d e : Value} (h : Bx w g a b c d e) (x : Value) : Bx (w.setCell ⟨g, 3, none⟩ x) g a b c x e := by
  unfold Bx at h ⊢
  simp only [World.setCell, Array.getElem?_modify, h]
  simp
theorem Rd.rf {w w' : World} {B g n : Nat} {A : Option Addr} {xs : List Value} (h : Rd w B 1 A n xs) (hf : Rf w w' g) (hB : B ≤ g) (hz : g < w.heap.size) : Rd w' B 1 A n xs := h.below (hf.below hB (by omega))
theorem RdS.none_ (w : World) (S : Nat → Prop) : RdS w S none 0 [] := ⟨rfl, fun h => absurd h (by omega)⟩
/-- what the reader's value answers -/
def RvEnd (w : World) (g : Nat) (sl : Value) (r : Option (Nd × VF × Int)) (e : Ending) (w' : World) : Prop :=
  Rf w w' g ∧ ((r = none ∧ e = corrupt) ∨ (∃ d p y v, r = some (d, p, y) ∧ e = .returned v ∧ VInS w' (fun b => w.heap.size ≤ b ∧ b < w'.heap.size) v d p ∧ Rr w' g sl y))
section
variable {f : Nat} {bs : List UInt8} {x k x1 m x2 i j c : Int}
theorem rdV_f0 (h : readNum bs x = (k, x1, c, i)) (hc : c ≠ 0) : rdV f bs x = none := by
  unfold rdV; simp [h, hc]
theorem rdV_n0 (h : readNum bs x = (1, x1, 0, i)) (h2 : readNum bs x1 = (m, x2, c, j)) (hc : c ≠ 0) : rdV f bs x = none := by
  unfold rdV; simp [h, h2, hc]
theorem rdV_n1 (h : readNum bs x = (1, x1, 0, i)) (h2 : readNum bs x1 = (m, x2, 0, j)) : rdV f bs x = some (⟨1, m, [], []⟩, .nil, x2) := by
  unfold rdV; simp [h, h2]
theorem rdV_c0 {s : List UInt8} (h : readNum bs x = (2, x1, 0, i)) (h2 : readChunk bs x1 = (s, x2, c, j)) (hc : c ≠ 0) : rdV f bs x = none := by
  unfold rdV; simp [h, h2, hc]
theorem rdV_c1 {s : List UInt8} (h : readNum bs x = (2, x1, 0, i)) (h2 : readChunk bs x1 = (s, x2, 0, j)) : rdV f bs x = some (⟨2, 0, s, []⟩, .nil, x2) := by
  unfold rdV; simp [h, h2]
theorem rdV_l0 (h : readNum bs x = (k, x1, 0, i)) (k1 : k ≠ 1) (k2 : k ≠ 2) (h2 : readNum bs x1 = (m, x2, c, j)) (hc : c ≠ 0) : rdV f bs x = none := by
  unfold rdV; simp [h, h2, hc, k1, k2]
theorem rdV_l1 (h : readNum bs x = (k, x1, 0, i)) (k1 : k ≠ 1) (k2 : k ≠ 2) (h2 : readNum bs x1 = (m, x2, 0, j)) : rdV 0 bs x = none := by
  unfold rdV; simp [h, h2, k1, k2]
theorem rdV_l2 (h : readNum bs x = (k, x1, 0, i)) (k1 : k ≠ 1) (k2 : k ≠ 2) (h2 : readNum bs x1 = (m, x2, 0, j)) (hm : m < 0 ∨ (bs.length : Int) - x2 < m) : rdV (f + 1) bs x = none := by
  unfold rdV; simp only [h, h2, ne_eq, not_true_eq_false, if_false, k1, k2, hm, if_true]
theorem rdV_l3 (h : readNum bs x = (k, x1, 0, i)) (k1 : k ≠ 1) (k2 : k ≠ 2) (h2 : readNum bs x1 = (m, x2, 0, j)) (hm : ¬ (m < 0 ∨ (bs.length : Int) - x2 < m)) :
    rdV (f + 1) bs x = match rdPs (rdV f bs) bs (k == 4) m.toNat x2 with | none => none | some (ns, F, z) => some (⟨k, 0, [], ns⟩, F, z) := by
  unfold rdV; simp only [h, h2, ne_eq, not_true_eq_false, if_false, k1, k2, hm]
  all_goals (cases rdPs (rdV f bs) bs (k == 4) m.toNat x2 <;> rfl)
end
end Go.Proofs.Ytolognhjdmkohaa
