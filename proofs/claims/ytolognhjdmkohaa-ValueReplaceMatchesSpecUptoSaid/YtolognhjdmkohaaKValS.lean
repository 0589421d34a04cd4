/-
  The walks of the reader's value: numbers, byte strings, faults.
-/
import Derived.Test.YtolognhjdmkohaaJ10
namespace Go.Proofs.Ytolognhjdmkohaa
open Go.RowKit
set_option linter.unusedVariables false
set_option linter.unusedSimpArgs false

set_option maxRecDepth 100000 in
set_option maxHeartbeats 1000000 in
theorem rvalue_f0 {w : World} {g B f : Nat} {A : Option Addr} {n c : Nat} {bs : List UInt8} {x lev k x1 m x2 cd ix jx : Int} {s : List UInt8} (hr : Rr w g (.slice A n c) x) (hd : Rd w B 1 A n (bv bs)) (hB : B ≤ g) (hn : n ≤ 4000) (hnc : n ≤ c) (h1 : readNum bs x = (k, x1, cd, ix)) (hcd : cd ≠ 0) :
    Calls Try.prog 50 #[.pointer (some ⟨g, 0, none⟩), .int .i64 lev] w (RvEnd w g (.slice A n c) (rdV f bs x)) := by
  have HR := Lib.hid hr
  have HD := Lib.hid hd
  have H1 := Lib.hid h1
  have HE := Lib.hid (rdV_f0 (f := f) h1 hcd)
  have hlt := hr.lt
  have HC := Lib.hid hcd
  clear hr hd h1 hcd
  go_enter Try.func50, Try.ntmps50
  go_wp2_with fail
  refine (rnumber_calls (bs := bs) (HR.out.alloc _) (HD.out.alloc (by omega) _) hB hn).mono ?_
  rintro e w2 ⟨hf2, hres⟩
  rw [H1.out] at hres
  rcases hres with ⟨_, rfl⟩ | ⟨h0, _⟩
  · unfold corrupt
    go_wp2_with fail
    exact ⟨rfl, (Rf.of (bel1 w _)).trans hf2, .inl ⟨HE.out, rfl⟩⟩
  · exact absurd h0 HC.out
set_option maxRecDepth 100000 in
set_option maxHeartbeats 1000000 in
theorem rvalue_n0 {w : World} {g B f : Nat} {A : Option Addr} {n c : Nat} {bs : List UInt8} {x lev k x1 m x2 cd ix jx : Int} {s : List UInt8} (hr : Rr w g (.slice A n c) x) (hd : Rd w B 1 A n (bv bs)) (hB : B ≤ g) (hn : n ≤ 4000) (hnc : n ≤ c) (h1 : readNum bs x = (1, x1, 0, ix)) (h2 : readNum bs x1 = (m, x2, cd, jx)) (hcd : cd ≠ 0) :
    Calls Try.prog 50 #[.pointer (some ⟨g, 0, none⟩), .int .i64 lev] w (RvEnd w g (.slice A n c) (rdV f bs x)) := by
  have HR := Lib.hid hr
  have HD := Lib.hid hd
  have H1 := Lib.hid h1
  have HE := Lib.hid (rdV_n0 (f := f) h1 h2 hcd)
  have hlt := hr.lt
  have H2 := Lib.hid h2
  have HC := Lib.hid hcd
  clear hr hd h1 h2 hcd
  go_enter Try.func50, Try.ntmps50
  go_wp2_with fail
  refine (rnumber_calls (bs := bs) (HR.out.alloc _) (HD.out.alloc (by omega) _) hB hn).mono ?_
  rintro e w2 ⟨hf2, hres⟩
  rw [H1.out] at hres
  rcases hres with ⟨h0, _⟩ | ⟨_, rfl, hr2⟩
  · exact absurd rfl h0
  have hf2' := (Rf.of (g := g) (bel1 w (.cells #[.int .i64 0, .int .i64 0, .slice none 0 0, .slice none 0 0, .slice none 0 0] 26))).trans hf2
  have HF2 := Lib.hid hf2'
  have HR2 := Lib.hid (hr2.alloc (.cells #[.int .i64 1, .int .i64 0, .slice none 0 0, .slice none 0 0, .slice none 0 0] 26))
  have HB2 := Lib.hid (((Bx.new w (.int .i64 0) (.int .i64 0) (.slice none 0 0) (.slice none 0 0) (.slice none 0 0)).rf hf2 (by omega)).on (bel1 _ (.cells #[.int .i64 1, .int .i64 0, .slice none 0 0, .slice none 0 0, .slice none 0 0] 26)))
  have HD2 := Lib.hid ((HD.out.rf hf2' hB hlt).alloc (by have := hf2'.size; omega) (.cells #[.int .i64 1, .int .i64 0, .slice none 0 0, .slice none 0 0, .slice none 0 0] 26))
  have hz2 : w.heap.size < w2.heap.size := by have := hf2.size; simp only [alloc_size] at this; omega
  clear hf2 hf2' hr2
  go_wp2_with fail
  refine (rnumber_calls (bs := bs) HR2.out HD2.out hB hn).mono ?_
  rintro e w3 ⟨hf3, hres⟩
  rw [H2.out] at hres
  rcases hres with ⟨_, rfl⟩ | ⟨h0, _⟩
  · unfold corrupt
    go_wp2_with fail
    exact ⟨rfl, (HF2.out.alloc _).trans hf3, .inl ⟨HE.out, rfl⟩⟩
  · exact absurd h0 HC.out
set_option maxRecDepth 100000 in
set_option maxHeartbeats 1000000 in
theorem rvalue_n1 {w : World} {g B f : Nat} {A : Option Addr} {n c : Nat} {bs : List UInt8} {x lev k x1 m x2 cd ix jx : Int} {s : List UInt8} (hr : Rr w g (.slice A n c) x) (hd : Rd w B 1 A n (bv bs)) (hB : B ≤ g) (hn : n ≤ 4000) (hnc : n ≤ c) (h1 : readNum bs x = (1, x1, 0, ix)) (h2 : readNum bs x1 = (m, x2, 0, jx)) :
    Calls Try.prog 50 #[.pointer (some ⟨g, 0, none⟩), .int .i64 lev] w (RvEnd w g (.slice A n c) (rdV f bs x)) := by
  have HR := Lib.hid hr
  have HD := Lib.hid hd
  have H1 := Lib.hid h1
  have HE := Lib.hid (rdV_n1 (f := f) h1 h2)
  have hlt := hr.lt
  have H2 := Lib.hid h2
  clear hr hd h1 h2
  go_enter Try.func50, Try.ntmps50
  go_wp2_with fail
  refine (rnumber_calls (bs := bs) (HR.out.alloc _) (HD.out.alloc (by omega) _) hB hn).mono ?_
  rintro e w2 ⟨hf2, hres⟩
  rw [H1.out] at hres
  rcases hres with ⟨h0, _⟩ | ⟨_, rfl, hr2⟩
  · exact absurd rfl h0
  have hf2' := (Rf.of (g := g) (bel1 w (.cells #[.int .i64 0, .int .i64 0, .slice none 0 0, .slice none 0 0, .slice none 0 0] 26))).trans hf2
  have HF2 := Lib.hid hf2'
  have HR2 := Lib.hid (hr2.alloc (.cells #[.int .i64 1, .int .i64 0, .slice none 0 0, .slice none 0 0, .slice none 0 0] 26))
  have HB2 := Lib.hid (((Bx.new w (.int .i64 0) (.int .i64 0) (.slice none 0 0) (.slice none 0 0) (.slice none 0 0)).rf hf2 (by omega)).on (bel1 _ (.cells #[.int .i64 1, .int .i64 0, .slice none 0 0, .slice none 0 0, .slice none 0 0] 26)))
  have HD2 := Lib.hid ((HD.out.rf hf2' hB hlt).alloc (by have := hf2'.size; omega) (.cells #[.int .i64 1, .int .i64 0, .slice none 0 0, .slice none 0 0, .slice none 0 0] 26))
  have hz2 : w.heap.size < w2.heap.size := by have := hf2.size; simp only [alloc_size] at this; omega
  clear hf2 hf2' hr2
  go_wp2_with fail
  refine (rnumber_calls (bs := bs) HR2.out HD2.out hB hn).mono ?_
  rintro e w3 ⟨hf3, hres⟩
  rw [H2.out] at hres
  rcases hres with ⟨h0, _⟩ | ⟨_, rfl, hr3⟩
  · exact absurd rfl h0
  have HF3 := Lib.hid ((HF2.out.alloc (.cells #[.int .i64 1, .int .i64 0, .slice none 0 0, .slice none 0 0, .slice none 0 0] 26)).trans hf3)
  have hbx := (Bx.new w2 (.int .i64 1) (.int .i64 0) (.slice none 0 0) (.slice none 0 0) (.slice none 0 0)).rf hf3 (by omega)
  have hrs := HB2.out.rf hf3 (by omega)
  have hz3 : w2.heap.size < w3.heap.size := hbx.lt
  have hb4 := hbx.set1 (.int .i64 m)
  have hs4 := hrs.far (h := w2.heap.size) (o := 1) (x := .int .i64 m) (by omega)
  have HR4 := Lib.hid (hr3.far (k := w2.heap.size) (o := 1) (x' := .int .i64 m) (by omega))
  have HF4 := Lib.hid (HF3.out.setN (k := w2.heap.size) (o := 1) (x := .int .i64 m) (by omega))
  obtain ⟨q0, q1, q2, q3, q4⟩ := hbx.cells
  have qf := hbx.free
  obtain ⟨w4, hw4⟩ : ∃ w4, w3.setCell ⟨w2.heap.size, 1, none⟩ (.int .i64 m) = w4 := ⟨_, rfl⟩
  rw [hw4] at hb4 hs4 HR4 HF4
  obtain ⟨y0, y1, y2, y3, y4⟩ := hb4.cells
  obtain ⟨s0, s1, s2, s3, s4⟩ := hs4.cells
  have sf := hs4.free
  have HS4 := Lib.hid hs4
  have hlt4 : w.heap.size < w4.heap.size := hs4.lt
  clear hf3 hr3 hbx hrs hb4 hs4
  go_wp2_with fail
  obtain ⟨W9, hW9⟩ : ∃ W9, (((((w4.setCell ⟨w.heap.size, 0, none⟩ (.int .i64 1)).setCell ⟨w.heap.size, 1, none⟩ (.int .i64 m)).setCell ⟨w.heap.size, 2, none⟩ (.slice none 0 0)).setCell ⟨w.heap.size, 3, none⟩ (.slice none 0 0)).setCell ⟨w.heap.size, 4, none⟩ (.slice none 0 0)) = W9 := ⟨_, rfl⟩
  have hb9 : Bx W9 w.heap.size (.int .i64 1) (.int .i64 m) (.slice none 0 0) (.slice none 0 0) (.slice none 0 0) := by rw [← hW9]; exact HS4.out.set5 _ _ _ _ _
  have HF9 := Lib.hid (show Rf w W9 g by rw [← hW9]; exact HF4.out.set5 (Nat.le_refl _))
  have HR9 := Lib.hid (show Rr W9 g (.slice A n c) x2 by rw [← hW9]; exact HR4.out.far5 (by omega))
  rw [hW9]
  have hl9 := hb9.lt
  obtain ⟨t0, t1, t2, t3, t4⟩ := hb9.cells
  clear hW9 q0 q1 q2 q3 q4 qf y0 y1 y2 y3 y4 s0 s1 s2 s3 s4 sf hw4
  refine bodyPost_ret (v := .agg #[.int .i64 1, .int .i64 m, .slice none 0 0, .slice none 0 0, .slice none 0 0]) (by simp [results, Try.results50, go_sem, t0, t1, t2, t3, t4, hl9]) rfl ?_

  exact ⟨HF9.out, .inr ⟨_, _, x2, _, HE.out, rfl, ⟨_, _, _, rfl, none, 0, 0, none, 0, 0, none, 0, rfl, rfl, rfl, Nat.le_refl _, Nat.le_refl _, Nat.le_refl _, Nat.zero_le _, RdS.none_ _ _, RdS.none_ _ _, fun h => absurd h (by simp [VF.len])⟩, HR9.out⟩⟩
set_option maxRecDepth 100000 in
set_option maxHeartbeats 1000000 in
theorem rvalue_c0 {w : World} {g B f : Nat} {A : Option Addr} {n c : Nat} {bs : List UInt8} {x lev k x1 m x2 cd ix jx : Int} {s : List UInt8} (hr : Rr w g (.slice A n c) x) (hd : Rd w B 1 A n (bv bs)) (hB : B ≤ g) (hn : n ≤ 4000) (hnc : n ≤ c) (h1 : readNum bs x = (2, x1, 0, ix)) (h2 : readChunk bs x1 = (s, x2, cd, jx)) (hcd : cd ≠ 0) :
    Calls Try.prog 50 #[.pointer (some ⟨g, 0, none⟩), .int .i64 lev] w (RvEnd w g (.slice A n c) (rdV f bs x)) := by
  have HR := Lib.hid hr
  have HD := Lib.hid hd
  have H1 := Lib.hid h1
  have HE := Lib.hid (rdV_c0 (f := f) h1 h2 hcd)
  have hlt := hr.lt
  have H2 := Lib.hid h2
  have HC := Lib.hid hcd
  clear hr hd h1 h2 hcd
  go_enter Try.func50, Try.ntmps50
  go_wp2_with fail
  refine (rnumber_calls (bs := bs) (HR.out.alloc _) (HD.out.alloc (by omega) _) hB hn).mono ?_
  rintro e w2 ⟨hf2, hres⟩
  rw [H1.out] at hres
  rcases hres with ⟨h0, _⟩ | ⟨_, rfl, hr2⟩
  · exact absurd rfl h0
  have hf2' := (Rf.of (g := g) (bel1 w (.cells #[.int .i64 0, .int .i64 0, .slice none 0 0, .slice none 0 0, .slice none 0 0] 26))).trans hf2
  have HF2 := Lib.hid hf2'
  have HR2 := Lib.hid (hr2.alloc (.cells #[.int .i64 2, .int .i64 0, .slice none 0 0, .slice none 0 0, .slice none 0 0] 26))
  have HB2 := Lib.hid (((Bx.new w (.int .i64 0) (.int .i64 0) (.slice none 0 0) (.slice none 0 0) (.slice none 0 0)).rf hf2 (by omega)).on (bel1 _ (.cells #[.int .i64 2, .int .i64 0, .slice none 0 0, .slice none 0 0, .slice none 0 0] 26)))
  have HD2 := Lib.hid ((HD.out.rf hf2' hB hlt).alloc (by have := hf2'.size; omega) (.cells #[.int .i64 2, .int .i64 0, .slice none 0 0, .slice none 0 0, .slice none 0 0] 26))
  have hz2 : w.heap.size < w2.heap.size := by have := hf2.size; simp only [alloc_size] at this; omega
  clear hf2 hf2' hr2
  go_wp2_with fail
  refine (rchunk_calls (bs := bs) HR2.out HD2.out hB hn hnc).mono ?_
  rintro e w3 ⟨hf3, hres⟩
  rw [H2.out] at hres
  rcases hres with ⟨_, rfl⟩ | ⟨h0, _⟩
  · unfold corrupt
    go_wp2_with fail
    exact ⟨rfl, (HF2.out.alloc _).trans hf3, .inl ⟨HE.out, rfl⟩⟩
  · exact absurd h0 HC.out
set_option maxRecDepth 100000 in
set_option maxHeartbeats 1000000 in
theorem rvalue_c1 {w : World} {g B f : Nat} {A : Option Addr} {n c : Nat} {bs : List UInt8} {x lev k x1 m x2 cd ix jx : Int} {s : List UInt8} (hr : Rr w g (.slice A n c) x) (hd : Rd w B 1 A n (bv bs)) (hB : B ≤ g) (hn : n ≤ 4000) (hnc : n ≤ c) (h1 : readNum bs x = (2, x1, 0, ix)) (h2 : readChunk bs x1 = (s, x2, 0, jx)) :
    Calls Try.prog 50 #[.pointer (some ⟨g, 0, none⟩), .int .i64 lev] w (RvEnd w g (.slice A n c) (rdV f bs x)) := by
  have HR := Lib.hid hr
  have HD := Lib.hid hd
  have H1 := Lib.hid h1
  have HE := Lib.hid (rdV_c1 (f := f) h1 h2)
  have hlt := hr.lt
  have H2 := Lib.hid h2
  clear hr hd h1 h2
  go_enter Try.func50, Try.ntmps50
  go_wp2_with fail
  refine (rnumber_calls (bs := bs) (HR.out.alloc _) (HD.out.alloc (by omega) _) hB hn).mono ?_
  rintro e w2 ⟨hf2, hres⟩
  rw [H1.out] at hres
  rcases hres with ⟨h0, _⟩ | ⟨_, rfl, hr2⟩
  · exact absurd rfl h0
  have hf2' := (Rf.of (g := g) (bel1 w (.cells #[.int .i64 0, .int .i64 0, .slice none 0 0, .slice none 0 0, .slice none 0 0] 26))).trans hf2
  have HF2 := Lib.hid hf2'
  have HR2 := Lib.hid (hr2.alloc (.cells #[.int .i64 2, .int .i64 0, .slice none 0 0, .slice none 0 0, .slice none 0 0] 26))
  have HB2 := Lib.hid (((Bx.new w (.int .i64 0) (.int .i64 0) (.slice none 0 0) (.slice none 0 0) (.slice none 0 0)).rf hf2 (by omega)).on (bel1 _ (.cells #[.int .i64 2, .int .i64 0, .slice none 0 0, .slice none 0 0, .slice none 0 0] 26)))
  have HD2 := Lib.hid ((HD.out.rf hf2' hB hlt).alloc (by have := hf2'.size; omega) (.cells #[.int .i64 2, .int .i64 0, .slice none 0 0, .slice none 0 0, .slice none 0 0] 26))
  have hz2 : w.heap.size < w2.heap.size := by have := hf2.size; simp only [alloc_size] at this; omega
  clear hf2 hf2' hr2
  go_wp2_with fail
  refine (rchunk_calls (bs := bs) HR2.out HD2.out hB hn hnc).mono ?_
  rintro e w3 ⟨hf3, hres⟩
  rw [H2.out] at hres
  rcases hres with ⟨h0, _⟩ | ⟨_, A3, c3, rfl, hown3, hr3⟩
  · exact absurd rfl h0
  have HOWN := Lib.hid hown3
  clear hown3
  have HF3 := Lib.hid ((HF2.out.alloc (.cells #[.int .i64 2, .int .i64 0, .slice none 0 0, .slice none 0 0, .slice none 0 0] 26)).trans hf3)
  have hbx := (Bx.new w2 (.int .i64 2) (.int .i64 0) (.slice none 0 0) (.slice none 0 0) (.slice none 0 0)).rf hf3 (by omega)
  have hrs := HB2.out.rf hf3 (by omega)
  have hz3 : w2.heap.size < w3.heap.size := hbx.lt
  have hb4 := hbx.set2 (.slice A3 s.length c3)
  have hs4 := hrs.far (h := w2.heap.size) (o := 2) (x := .slice A3 s.length c3) (by omega)
  have HR4 := Lib.hid (hr3.far (k := w2.heap.size) (o := 2) (x' := .slice A3 s.length c3) (by omega))
  have HF4 := Lib.hid (HF3.out.setN (k := w2.heap.size) (o := 2) (x := .slice A3 s.length c3) (by omega))
  have HO4 := Lib.hid (own_mono (own_ty (o := 2) (x := .slice A3 s.length c3) HOWN.out hbx.ty (by decide)) (base' := w.heap.size) (by have := HF2.out.size; simp only [alloc_size]; omega))
  obtain ⟨q0, q1, q2, q3, q4⟩ := hbx.cells
  have qf := hbx.free
  obtain ⟨w4, hw4⟩ : ∃ w4, w3.setCell ⟨w2.heap.size, 2, none⟩ (.slice A3 s.length c3) = w4 := ⟨_, rfl⟩
  rw [hw4] at hb4 hs4 HR4 HF4 HO4
  obtain ⟨y0, y1, y2, y3, y4⟩ := hb4.cells
  obtain ⟨s0, s1, s2, s3, s4⟩ := hs4.cells
  have sf := hs4.free
  have HS4 := Lib.hid hs4
  have hlt4 : w.heap.size < w4.heap.size := hs4.lt
  clear hf3 hr3 hbx hrs hb4 hs4
  go_wp2_with fail
  obtain ⟨W9, hW9⟩ : ∃ W9, (((((w4.setCell ⟨w.heap.size, 0, none⟩ (.int .i64 2)).setCell ⟨w.heap.size, 1, none⟩ (.int .i64 0)).setCell ⟨w.heap.size, 2, none⟩ (.slice A3 s.length c3)).setCell ⟨w.heap.size, 3, none⟩ (.slice none 0 0)).setCell ⟨w.heap.size, 4, none⟩ (.slice none 0 0)) = W9 := ⟨_, rfl⟩
  have hb9 : Bx W9 w.heap.size (.int .i64 2) (.int .i64 0) (.slice A3 s.length c3) (.slice none 0 0) (.slice none 0 0) := by rw [← hW9]; exact HS4.out.set5 _ _ _ _ _
  have HF9 := Lib.hid (show Rf w W9 g by rw [← hW9]; exact HF4.out.set5 (Nat.le_refl _))
  have HR9 := Lib.hid (show Rr W9 g (.slice A n c) x2 by rw [← hW9]; exact HR4.out.far5 (by omega))
  have HO9 := Lib.hid (show W9.ownsRow w.heap.size 5 1 (.slice A3 s.length c3) s.length (bv s) by rw [← hW9]; exact own_ty5 HO4.out HS4.out.ty (by decide))
  rw [hW9]
  have hl9 := hb9.lt
  obtain ⟨t0, t1, t2, t3, t4⟩ := hb9.cells
  clear hW9 q0 q1 q2 q3 q4 qf y0 y1 y2 y3 y4 s0 s1 s2 s3 s4 sf hw4
  refine bodyPost_ret (v := .agg #[.int .i64 2, .int .i64 0, .slice A3 s.length c3, .slice none 0 0, .slice none 0 0]) (by simp [results, Try.results50, go_sem, t0, t1, t2, t3, t4, hl9]) rfl ?_

  exact ⟨HF9.out, .inr ⟨_, _, x2, _, HE.out, rfl, ⟨_, _, _, rfl, A3, s.length, c3, none, 0, 0, none, 0, rfl, rfl, rfl, (own_cap HO9.out).1, Nat.le_refl _, Nat.le_refl _, Nat.zero_le _, RdS.own HO9.out (fun b h1 h2 => ⟨h1, h2⟩), RdS.none_ _ _, fun h => absurd h (by simp [VF.len])⟩, HR9.out⟩⟩
end Go.Proofs.Ytolognhjdmkohaa
