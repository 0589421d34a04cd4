/-
  The walks of the reader's value: lists that are refused.
-/
/-
  The reader's lists, in memory: some names and parts have been read.
-/
import Derived.Test.YtolognhjdmkohaaKValS
import Derived.Deep.QuietTactic
import Derived.BigQuiet
import Derived.IntWalk
namespace Go.Proofs.Ytolognhjdmkohaa
open Go.RowKit
set_option linter.unusedVariables false
set_option linter.unusedSimpArgs false

set_option maxRecDepth 100000 in
set_option maxHeartbeats 1000000 in
theorem rvalue_l0 {w : World} {g B f : Nat} {A : Option Addr} {n c : Nat} {bs : List UInt8} {x lev k x1 m x2 cd ix jx : Int} {s : List UInt8} (hr : Rr w g (.slice A n c) x) (hd : Rd w B 1 A n (bv bs)) (hB : B ≤ g) (hn : n ≤ 4000) (hnc : n ≤ c) (h1 : readNum bs x = (k, x1, 0, ix)) (k1 : k ≠ 1) (k2 : k ≠ 2) (h2 : readNum bs x1 = (m, x2, cd, jx)) (hcd : cd ≠ 0) :
    Calls Try.prog 50 #[.pointer (some ⟨g, 0, none⟩), .int .i64 lev] w (RvEnd w g (.slice A n c) (rdV f bs x)) := by
  have HR := Lib.hid hr
  have HD := Lib.hid hd
  have H1 := Lib.hid h1
  have HE := Lib.hid (rdV_l0 (f := f) h1 k1 k2 h2 hcd)
  have hlt := hr.lt
  have H2 := Lib.hid h2
  have kb1 : (k == 1) = false := by simpa using k1
  have kb2 : (k == 2) = false := by simpa using k2
  have HC := Lib.hid hcd
  clear hr hd h1 h2 k1 k2 hcd
  go_enter Try.func50, Try.ntmps50
  go_wp2_with fail
  refine (rnumber_calls (bs := bs) (HR.out.alloc _) (HD.out.alloc (by omega) _) hB hn).mono ?_
  rintro e w2 ⟨hf2, hres⟩
  rw [H1.out] at hres
  rcases hres with ⟨h0, _⟩ | ⟨_, rfl, hr2⟩
  · exact absurd rfl h0
  have hf2' := (Rf.of (g := g) (bel1 w (.cells #[.int .i64 0, .int .i64 0, .slice none 0 0, .slice none 0 0, .slice none 0 0] 26))).trans hf2
  have HF2 := Lib.hid hf2'
  have HR2 := Lib.hid (hr2.alloc (.cells #[.int .i64 k, .int .i64 0, .slice none 0 0, .slice none 0 0, .slice none 0 0] 26))
  have HB2 := Lib.hid (((Bx.new w (.int .i64 0) (.int .i64 0) (.slice none 0 0) (.slice none 0 0) (.slice none 0 0)).rf hf2 (by omega)).on (bel1 _ (.cells #[.int .i64 k, .int .i64 0, .slice none 0 0, .slice none 0 0, .slice none 0 0] 26)))
  have HD2 := Lib.hid ((HD.out.rf hf2' hB hlt).alloc (by have := hf2'.size; omega) (.cells #[.int .i64 k, .int .i64 0, .slice none 0 0, .slice none 0 0, .slice none 0 0] 26))
  have hz2 : w.heap.size < w2.heap.size := by have := hf2.size; simp only [alloc_size] at this; omega
  clear hf2 hf2' hr2
  go_wp2_with fail
  refine (rnumber_calls (bs := bs) HR2.out HD2.out hB hn).mono ?_
  rintro e w3 ⟨hf3, hres⟩
  rw [H2.out] at hres
  rcases hres with ⟨_, rfl⟩ | ⟨h0, _⟩
  · unfold corrupt
    go_wp2_with fail
    exact ⟨rfl, (HF2.out.alloc _).trans hf3, .inl ⟨HE.out, rfl⟩⟩
  · exact absurd h0 HC.out
set_option maxRecDepth 100000 in
set_option maxHeartbeats 1000000 in
theorem rvalue_l1 {w : World} {g B f : Nat} {A : Option Addr} {n c : Nat} {bs : List UInt8} {x lev k x1 m x2 cd ix jx : Int} {s : List UInt8} (hr : Rr w g (.slice A n c) x) (hd : Rd w B 1 A n (bv bs)) (hB : B ≤ g) (hn : n ≤ 4000) (hnc : n ≤ c) (h1 : readNum bs x = (k, x1, 0, ix)) (k1 : k ≠ 1) (k2 : k ≠ 2) (h2 : readNum bs x1 = (m, x2, 0, jx)) (hlev : 10 < lev) :
    Calls Try.prog 50 #[.pointer (some ⟨g, 0, none⟩), .int .i64 lev] w (RvEnd w g (.slice A n c) (rdV 0 bs x)) := by
  have HR := Lib.hid hr
  have HD := Lib.hid hd
  have H1 := Lib.hid h1
  have HE := Lib.hid (rdV_l1 h1 k1 k2 h2)
  have hlt := hr.lt
  have H2 := Lib.hid h2
  have kb1 : (k == 1) = false := by simpa using k1
  have kb2 : (k == 2) = false := by simpa using k2

  clear hr hd h1 h2 k1 k2
  go_enter Try.func50, Try.ntmps50
  go_wp2_with fail
  refine (rnumber_calls (bs := bs) (HR.out.alloc _) (HD.out.alloc (by omega) _) hB hn).mono ?_
  rintro e w2 ⟨hf2, hres⟩
  rw [H1.out] at hres
  rcases hres with ⟨h0, _⟩ | ⟨_, rfl, hr2⟩
  · exact absurd rfl h0
  have hf2' := (Rf.of (g := g) (bel1 w (.cells #[.int .i64 0, .int .i64 0, .slice none 0 0, .slice none 0 0, .slice none 0 0] 26))).trans hf2
  have HF2 := Lib.hid hf2'
  have HR2 := Lib.hid (hr2.alloc (.cells #[.int .i64 k, .int .i64 0, .slice none 0 0, .slice none 0 0, .slice none 0 0] 26))
  have HB2 := Lib.hid (((Bx.new w (.int .i64 0) (.int .i64 0) (.slice none 0 0) (.slice none 0 0) (.slice none 0 0)).rf hf2 (by omega)).on (bel1 _ (.cells #[.int .i64 k, .int .i64 0, .slice none 0 0, .slice none 0 0, .slice none 0 0] 26)))
  have HD2 := Lib.hid ((HD.out.rf hf2' hB hlt).alloc (by have := hf2'.size; omega) (.cells #[.int .i64 k, .int .i64 0, .slice none 0 0, .slice none 0 0, .slice none 0 0] 26))
  have hz2 : w.heap.size < w2.heap.size := by have := hf2.size; simp only [alloc_size] at this; omega
  clear hf2 hf2' hr2
  go_wp2_with fail
  refine (rnumber_calls (bs := bs) HR2.out HD2.out hB hn).mono ?_
  rintro e w3 ⟨hf3, hres⟩
  rw [H2.out] at hres
  rcases hres with ⟨h0, _⟩ | ⟨_, rfl, hr3⟩
  · exact absurd rfl h0
  have HF3 := Lib.hid ((HF2.out.alloc (.cells #[.int .i64 k, .int .i64 0, .slice none 0 0, .slice none 0 0, .slice none 0 0] 26)).trans hf3)
  obtain ⟨c0, c1⟩ := hr3.cells
  clear hf3 hr3
  go_wp2_with fail
  go_quiet (fail)
  go_wp2_with fail
  exact ⟨rfl, HF3.out.trans (Rf.of (below_drewN _ _)), .inl ⟨HE.out, rfl⟩⟩
set_option maxRecDepth 100000 in
set_option maxHeartbeats 1000000 in
theorem rvalue_l2a {w : World} {g B f : Nat} {A : Option Addr} {n c : Nat} {bs : List UInt8} {x lev k x1 m x2 cd ix jx : Int} {s : List UInt8} (hr : Rr w g (.slice A n c) x) (hd : Rd w B 1 A n (bv bs)) (hB : B ≤ g) (hn : n ≤ 4000) (hnc : n ≤ c) (h1 : readNum bs x = (k, x1, 0, ix)) (k1 : k ≠ 1) (k2 : k ≠ 2) (h2 : readNum bs x1 = (m, x2, 0, jx)) (hlev : ¬ 10 < lev) (hm : m < 0) :
    Calls Try.prog 50 #[.pointer (some ⟨g, 0, none⟩), .int .i64 lev] w (RvEnd w g (.slice A n c) (rdV (f + 1) bs x)) := by
  have HR := Lib.hid hr
  have HD := Lib.hid hd
  have H1 := Lib.hid h1
  have HE := Lib.hid (rdV_l2 (f := f) h1 k1 k2 h2 (.inl hm))
  have hlt := hr.lt
  have H2 := Lib.hid h2
  have kb1 : (k == 1) = false := by simpa using k1
  have kb2 : (k == 2) = false := by simpa using k2
  have hl : bs.length = n := by have := hd.len; rw [bv_len] at this; exact this
  clear hl
  have hd1 : decide ((10 : Int) < lev) = false := by simpa using hlev
  have hd2 : decide (m < (0 : Int)) = true := by simpa using hm
  clear hlev hm
  clear hr hd h1 h2 k1 k2
  go_enter Try.func50, Try.ntmps50
  go_wp2_with fail
  refine (rnumber_calls (bs := bs) (HR.out.alloc _) (HD.out.alloc (by omega) _) hB hn).mono ?_
  rintro e w2 ⟨hf2, hres⟩
  rw [H1.out] at hres
  rcases hres with ⟨h0, _⟩ | ⟨_, rfl, hr2⟩
  · exact absurd rfl h0
  have hf2' := (Rf.of (g := g) (bel1 w (.cells #[.int .i64 0, .int .i64 0, .slice none 0 0, .slice none 0 0, .slice none 0 0] 26))).trans hf2
  have HF2 := Lib.hid hf2'
  have HR2 := Lib.hid (hr2.alloc (.cells #[.int .i64 k, .int .i64 0, .slice none 0 0, .slice none 0 0, .slice none 0 0] 26))
  have HB2 := Lib.hid (((Bx.new w (.int .i64 0) (.int .i64 0) (.slice none 0 0) (.slice none 0 0) (.slice none 0 0)).rf hf2 (by omega)).on (bel1 _ (.cells #[.int .i64 k, .int .i64 0, .slice none 0 0, .slice none 0 0, .slice none 0 0] 26)))
  have HD2 := Lib.hid ((HD.out.rf hf2' hB hlt).alloc (by have := hf2'.size; omega) (.cells #[.int .i64 k, .int .i64 0, .slice none 0 0, .slice none 0 0, .slice none 0 0] 26))
  have hz2 : w.heap.size < w2.heap.size := by have := hf2.size; simp only [alloc_size] at this; omega
  clear hf2 hf2' hr2
  go_wp2_with fail
  refine (rnumber_calls (bs := bs) HR2.out HD2.out hB hn).mono ?_
  rintro e w3 ⟨hf3, hres⟩
  rw [H2.out] at hres
  rcases hres with ⟨h0, _⟩ | ⟨_, rfl, hr3⟩
  · exact absurd rfl h0
  have HF3 := Lib.hid ((HF2.out.alloc (.cells #[.int .i64 k, .int .i64 0, .slice none 0 0, .slice none 0 0, .slice none 0 0] 26)).trans hf3)
  obtain ⟨c0, c1⟩ := hr3.cells
  clear hf3 hr3
  go_wp2_with fail
  go_quiet (fail)
  go_wp2_with fail
  exact ⟨rfl, HF3.out.trans (Rf.of (below_drewN _ _)), .inl ⟨HE.out, rfl⟩⟩
set_option maxRecDepth 100000 in
set_option maxHeartbeats 1000000 in
theorem rvalue_l2b {w : World} {g B f : Nat} {A : Option Addr} {n c : Nat} {bs : List UInt8} {x lev k x1 m x2 cd ix jx : Int} {s : List UInt8} (hr : Rr w g (.slice A n c) x) (hd : Rd w B 1 A n (bv bs)) (hB : B ≤ g) (hn : n ≤ 4000) (hnc : n ≤ c) (h1 : readNum bs x = (k, x1, 0, ix)) (k1 : k ≠ 1) (k2 : k ≠ 2) (h2 : readNum bs x1 = (m, x2, 0, jx)) (hlev : ¬ 10 < lev) (hm0 : ¬ m < 0) (hm : (bs.length : Int) - x2 < m) (hx2 : 0 ≤ x2) (hx3 : x2 ≤ 4000) :
    Calls Try.prog 50 #[.pointer (some ⟨g, 0, none⟩), .int .i64 lev] w (RvEnd w g (.slice A n c) (rdV (f + 1) bs x)) := by
  have HR := Lib.hid hr
  have HD := Lib.hid hd
  have H1 := Lib.hid h1
  have HE := Lib.hid (rdV_l2 (f := f) h1 k1 k2 h2 (.inr hm))
  have hlt := hr.lt
  have H2 := Lib.hid h2
  have kb1 : (k == 1) = false := by simpa using k1
  have kb2 : (k == 2) = false := by simpa using k2
  have hl : bs.length = n := by have := hd.len; rw [bv_len] at this; exact this
  rw [hl] at hm
  have hsub : IntKind.i64.wrap ((n : Int) - x2) = (n : Int) - x2 := IntWalk.i64_in _ (by omega)
  clear hl
  clear hr hd h1 h2 k1 k2
  go_enter Try.func50, Try.ntmps50
  go_wp2_with fail
  refine (rnumber_calls (bs := bs) (HR.out.alloc _) (HD.out.alloc (by omega) _) hB hn).mono ?_
  rintro e w2 ⟨hf2, hres⟩
  rw [H1.out] at hres
  rcases hres with ⟨h0, _⟩ | ⟨_, rfl, hr2⟩
  · exact absurd rfl h0
  have hf2' := (Rf.of (g := g) (bel1 w (.cells #[.int .i64 0, .int .i64 0, .slice none 0 0, .slice none 0 0, .slice none 0 0] 26))).trans hf2
  have HF2 := Lib.hid hf2'
  have HR2 := Lib.hid (hr2.alloc (.cells #[.int .i64 k, .int .i64 0, .slice none 0 0, .slice none 0 0, .slice none 0 0] 26))
  have HB2 := Lib.hid (((Bx.new w (.int .i64 0) (.int .i64 0) (.slice none 0 0) (.slice none 0 0) (.slice none 0 0)).rf hf2 (by omega)).on (bel1 _ (.cells #[.int .i64 k, .int .i64 0, .slice none 0 0, .slice none 0 0, .slice none 0 0] 26)))
  have HD2 := Lib.hid ((HD.out.rf hf2' hB hlt).alloc (by have := hf2'.size; omega) (.cells #[.int .i64 k, .int .i64 0, .slice none 0 0, .slice none 0 0, .slice none 0 0] 26))
  have hz2 : w.heap.size < w2.heap.size := by have := hf2.size; simp only [alloc_size] at this; omega
  clear hf2 hf2' hr2
  go_wp2_with fail
  refine (rnumber_calls (bs := bs) HR2.out HD2.out hB hn).mono ?_
  rintro e w3 ⟨hf3, hres⟩
  rw [H2.out] at hres
  rcases hres with ⟨h0, _⟩ | ⟨_, rfl, hr3⟩
  · exact absurd rfl h0
  have HF3 := Lib.hid ((HF2.out.alloc (.cells #[.int .i64 k, .int .i64 0, .slice none 0 0, .slice none 0 0, .slice none 0 0] 26)).trans hf3)
  obtain ⟨c0, c1⟩ := hr3.cells
  clear hf3 hr3
  go_wp2_with fail
  go_quiet (fail)
  go_wp2_with fail
  exact ⟨rfl, HF3.out.trans (Rf.of (below_drewN _ _)), .inl ⟨HE.out, rfl⟩⟩
end Go.Proofs.Ytolognhjdmkohaa
namespace Go.Proofs.Ytolognhjdmkohaa
open Go.RowKit
set_option linter.unusedVariables false
set_option linter.unusedSimpArgs false

theorem own_rf {w w' : World} {base e s n g : Nat} {v : Value} {xs : List Value} (h : w.ownsRow base e s v n xs) (hf : Rf w w' g) (hg : g < base) : w'.ownsRow base e s v n xs := by
  refine ⟨h.1, ?_⟩
  rcases h.2 with hn | ⟨k, cap, cur, hv, hk, hh, r⟩
  · exact .inl hn
  · refine .inr ⟨k, cap, cur, hv, hk, ?_, r⟩
    rw [hf.block k (Array.getElem?_eq_some_iff.1 hh).1 (by omega)]
    exact hh
theorem sv_app1 (ns : List (List UInt8)) (s : List UInt8) : sv (ns ++ [s]) = sv ns ++ [.string ⟨s.toArray⟩] := by simp [sv]
/-- the blocks that the parts lie in: new ones, neither of the two rows' own -/
def Sy (wc wr : World) (u v : Value) (b : Nat) : Prop := wc.heap.size ≤ b ∧ b < wr.heap.size ∧ u.ownBlock ≠ some b ∧ v.ownBlock ≠ some b
/-- some names and parts have been read -/
structure LIn (w wc : World) (g h : Nat) (sl : Value) (k : Int) (ns : List (List UInt8)) (F : VF) (x : Int) (An : Option Addr) (cn : Nat) (A : Option Addr) (c : Nat) (cs : List Value) (wr : World) : Prop where
  bx : Bx wr h (.int .i64 k) (.int .i64 0) (.slice none 0 0) (.slice An ns.length cn) (.slice A F.len c)
  rs : Bx wr w.heap.size (.int .i64 0) (.int .i64 0) (.slice none 0 0) (.slice none 0 0) (.slice none 0 0)
  on : wr.ownsRow wc.heap.size 9 1 (.slice An ns.length cn) ns.length (sv ns)
  op : wr.ownsRow wc.heap.size 26 5 (.slice A F.len c) F.len cs
  fc : FCells wr (Sy wc wr (.slice An ns.length cn) (.slice A F.len c)) F cs
  rr : Rr wr g sl x
  rf : Rf w wr g
  zc : wc.heap.size ≤ wr.heap.size
section
variable {w wc wr w6 w7 : World} {g h g' c cn c' : Nat} {sl : Value} {k x y : Int} {ns : List (List UInt8)} {F : VF} {An A : Option Addr} {cs : List Value} {ob : Obj}
theorem rf_grown {o : Option Nat} (hw : w.heap.size ≤ wr.heap.size) (hf : Rf w wr g) (h6 : Rf wr w6 g) (hg7 : (w6.alloc ob).grownBy w7 o) (ho : ∀ b, o = some b → w.heap.size ≤ b) : Rf w w7 g := by
  have h1 : Rf w (w6.alloc ob) g := (hf.trans h6).alloc ob
  refine ⟨hg7.os.trans h1.os, hg7.tape.trans h1.tape, hg7.output.trans h1.output, Nat.le_trans h1.size hg7.size, fun b hb hne => ?_⟩
  rw [hg7.block b (by have := h1.size; omega) (fun e => by have := ho b e.symm; omega)]
  exact h1.block b hb hne
theorem LIn.name {s : List UInt8} (hL : LIn w wc g h sl k ns F x An cn A c cs wr) (hgw : g < w.heap.size) (hwh : w.heap.size < h) (hhc : h < wc.heap.size)
    (h6 : Rf wr w6 g) (hr6 : Rr w6 g sl y) (hg7 : (w6.alloc ob).grownBy w7 (Value.slice An ns.length cn).ownBlock)
    (hown7 : w7.ownsRow wc.heap.size 9 1 (.slice (some ⟨g', 0, none⟩) (ns.length + 1) c') (ns.length + 1) (sv ns ++ [.string ⟨s.toArray⟩]))
    (hat : (Value.slice An ns.length cn).ownBlock = some g' ∨ g' = w6.heap.size + 1) :
    LIn w wc g h sl k (ns ++ [s]) F y (some ⟨g', 0, none⟩) c' A c cs (w7.setCell ⟨h, 3, none⟩ (.slice (some ⟨g', 0, none⟩) (ns.length + 1) c')) := by
  have hz7 := hg7.size
  have hz6 := h6.size
  have hzc := hL.zc
  have hzw := hL.rf.size
  simp only [alloc_size] at hz7
  have hrl : ∀ b, (Value.slice An ns.length cn).ownBlock = some b → wc.heap.size ≤ b ∧ b < wr.heap.size := fun b hb => hL.on.lt b hb
  have hpl : ∀ b, (Value.slice A F.len c).ownBlock = some b → wc.heap.size ≤ b ∧ b < wr.heap.size := fun b hb => hL.op.lt b hb
  have k67 : ∀ b, b < w6.heap.size → (Value.slice An ns.length cn).ownBlock ≠ some b → w7.heap[b]? = w6.heap[b]? := fun b hb hne => by
    rw [hg7.block b (by simp only [alloc_size]; omega) (fun e => hne e.symm)]
    exact Below.heap_alloc w6 _ b hb
  have k7r : ∀ b, b < wr.heap.size → b ≠ g → (Value.slice An ns.length cn).ownBlock ≠ some b → w7.heap[b]? = wr.heap[b]? := fun b hb hg hne => (k67 b (by omega) hne).trans (h6.block b hb hg)
  have hne : ∀ b, b < wc.heap.size → (Value.slice An ns.length cn).ownBlock ≠ some b := fun b hb e => by have := (hrl b e).1; omega
  have hg'c : wc.heap.size ≤ g' := by
    rcases hat with h | h
    · exact (hrl g' h).1
    · omega
  have hset : ∀ b, b ≠ h → (w7.setCell ⟨h, 3, none⟩ (.slice (some ⟨g', 0, none⟩) (ns.length + 1) c')).heap[b]? = w7.heap[b]? := fun b hb => Below.heap_setCell _ _ _ _ (by exact hb)
  have hsz : (w7.setCell ⟨h, 3, none⟩ (.slice (some ⟨g', 0, none⟩) (ns.length + 1) c')).heap.size = w7.heap.size := by simp
  have hbx7 : Bx w7 h (.int .i64 k) (.int .i64 0) (.slice none 0 0) (.slice An ns.length cn) (.slice A F.len c) := (k7r h (by omega) (by omega) (hne h hhc)).trans hL.bx
  have hln : (ns ++ [s]).length = ns.length + 1 := by simp
  refine ⟨?_, ?_, ?_, ?_, ?_, ?_, ?_, by rw [hsz]; omega⟩
  · rw [hln]; exact hbx7.set3 _
  · exact ((hset _ (by omega)).trans (k7r _ (by omega) (by omega) (hne _ (by omega)))).trans hL.rs
  · rw [hln, sv_app1]; exact own_set hown7 hhc
  · exact own_set (own_grown ((own_rf hL.op h6 (by omega)).alloc _) hg7 (own_ne hL.op hL.on (by decide))) hhc
  · rw [hln]
    refine FCells.keep (fun q hq => ?_) (fun b hb => ?_) _ _ hL.fc
    · obtain ⟨h1, h2, h3, h4⟩ := hq
      exact (cell_of_heap ((hset q.block (by omega)).trans (k7r q.block h2 (by omega) h3)) q rfl)
    · obtain ⟨h1, h2, h3, h4⟩ := hb
      refine ⟨h1, by rw [hsz]; omega, fun e => ?_, h4⟩
      have e' : g' = b := by simpa [Value.ownBlock] using e
      subst e'
      rcases hat with h | h
      · exact h3 h
      · omega
  · exact ((hset g (by omega)).trans (k67 g (by omega) (hne g (by omega)))).trans hr6
  · exact (rf_grown hzw hL.rf h6 hg7 (fun b hb => by have := (hrl b hb).1; omega)).setN (by omega)
theorem LIn.part {d' : Nd} {p' : VF} {sb' sn' sp' : Value} (hL : LIn w wc g h sl k ns F x An cn A c cs wr) (hgw : g < w.heap.size) (hwh : w.heap.size < h) (hhc : h < wc.heap.size)
    (h6 : Rf wr w6 g) (hr6 : Rr w6 g sl y) (hv6 : HdS w6 (fun b => wr.heap.size ≤ b ∧ b < w6.heap.size) d' p'.len (FInS w6 (fun b => wr.heap.size ≤ b ∧ b < w6.heap.size) p') sb' sn' sp')
    (hg7 : (w6.alloc ob).grownBy w7 (Value.slice A F.len c).ownBlock)
    (hown7 : w7.ownsRow wc.heap.size 26 5 (.slice (some ⟨g', 0, none⟩) (F.len + 1) c') (F.len + 1) (cs ++ [.int .i64 d'.k, .int .i64 d'.n, sb', sn', sp']))
    (hat : (Value.slice A F.len c).ownBlock = some g' ∨ g' = w6.heap.size + 1) :
    LIn w wc g h sl k ns (F.snoc d' p') y An cn (some ⟨g', 0, none⟩) c' (cs ++ [.int .i64 d'.k, .int .i64 d'.n, sb', sn', sp']) (w7.setCell ⟨h, 4, none⟩ (.slice (some ⟨g', 0, none⟩) (F.len + 1) c')) := by
  have hz7 := hg7.size
  have hz6 := h6.size
  have hzc := hL.zc
  have hzw := hL.rf.size
  simp only [alloc_size] at hz7
  have hnl : ∀ b, (Value.slice An ns.length cn).ownBlock = some b → wc.heap.size ≤ b ∧ b < wr.heap.size := fun b hb => hL.on.lt b hb
  have hrl : ∀ b, (Value.slice A F.len c).ownBlock = some b → wc.heap.size ≤ b ∧ b < wr.heap.size := fun b hb => hL.op.lt b hb
  have k67 : ∀ b, b < w6.heap.size → (Value.slice A F.len c).ownBlock ≠ some b → w7.heap[b]? = w6.heap[b]? := fun b hb hne => by
    rw [hg7.block b (by simp only [alloc_size]; omega) (fun e => hne e.symm)]
    exact Below.heap_alloc w6 _ b hb
  have k7r : ∀ b, b < wr.heap.size → b ≠ g → (Value.slice A F.len c).ownBlock ≠ some b → w7.heap[b]? = wr.heap[b]? := fun b hb hg hne => (k67 b (by omega) hne).trans (h6.block b hb hg)
  have hne : ∀ b, b < wc.heap.size → (Value.slice A F.len c).ownBlock ≠ some b := fun b hb e => by have := (hrl b e).1; omega
  have hg'c : wc.heap.size ≤ g' := by
    rcases hat with h | h
    · exact (hrl g' h).1
    · omega
  have hset : ∀ b, b ≠ h → (w7.setCell ⟨h, 4, none⟩ (.slice (some ⟨g', 0, none⟩) (F.len + 1) c')).heap[b]? = w7.heap[b]? := fun b hb => Below.heap_setCell _ _ _ _ (by exact hb)
  have hsz : (w7.setCell ⟨h, 4, none⟩ (.slice (some ⟨g', 0, none⟩) (F.len + 1) c')).heap.size = w7.heap.size := by simp
  have hbx7 : Bx w7 h (.int .i64 k) (.int .i64 0) (.slice none 0 0) (.slice An ns.length cn) (.slice A F.len c) := (k7r h (by omega) (by omega) (hne h hhc)).trans hL.bx
  have hln : (F.snoc d' p').len = F.len + 1 := VF.len_snoc F d' p'
  refine ⟨?_, ?_, ?_, ?_, ?_, ?_, ?_, by rw [hsz]; omega⟩
  · rw [hln]; exact hbx7.set4 _
  · exact ((hset _ (by omega)).trans (k7r _ (by omega) (by omega) (hne _ (by omega)))).trans hL.rs
  · exact own_set (own_grown ((own_rf hL.on h6 (by omega)).alloc _) hg7 (own_ne hL.on hL.op (by decide))) hhc
  · rw [hln]; exact own_set hown7 hhc
  · rw [hln]
    have hnot : ∀ b, b < w6.heap.size → (Value.slice A F.len c).ownBlock ≠ some b → (Value.slice (some ⟨g', 0, none⟩) (F.len + 1) c').ownBlock ≠ some b := fun b hb h3 e => by
      have e' : g' = b := by simpa [Value.ownBlock] using e
      subst e'
      rcases hat with h | h
      · exact h3 h
      · omega
    refine FCells.snoc ?_ _ _ (FCells.keep (fun q hq => ?_) (fun b hb => ?_) _ _ hL.fc)
    · have hk : ∀ q : Addr, (wr.heap.size ≤ q.block ∧ q.block < w6.heap.size) → (w7.setCell ⟨h, 4, none⟩ (.slice (some ⟨g', 0, none⟩) (F.len + 1) c')).cell? q = w6.cell? q := fun q hq =>
        cell_of_heap ((hset q.block (by omega)).trans (k67 q.block hq.2 (fun e => by have := (hrl q.block e).2; omega))) q rfl
      have hS : ∀ b, (wr.heap.size ≤ b ∧ b < w6.heap.size) → Sy wc (w7.setCell ⟨h, 4, none⟩ (.slice (some ⟨g', 0, none⟩) (F.len + 1) c')) (.slice An ns.length cn) (.slice (some ⟨g', 0, none⟩) (F.len + 1) c') b := fun b hb =>
        ⟨by omega, by rw [hsz]; omega, fun e => by have := (hnl b e).2; omega, hnot b hb.2 (fun e => by have := (hrl b e).2; omega)⟩
      exact hv6.mono hk hS (FInS.keep hk hS p')
    · obtain ⟨h1, h2, h3, h4⟩ := hq
      exact (cell_of_heap ((hset q.block (by omega)).trans (k7r q.block h2 (by omega) h4)) q rfl)
    · obtain ⟨h1, h2, h3, h4⟩ := hb
      exact ⟨h1, by rw [hsz]; omega, h3, hnot b (by omega) h4⟩
  · exact ((hset g (by omega)).trans (k67 g (by omega) (hne g (by omega)))).trans hr6
  · exact (rf_grown hzw hL.rf h6 hg7 (fun b hb => by have := (hrl b hb).1; omega)).setN (by omega)
/-- at the end: the value that the variable holds -/
theorem LIn.done (hL : LIn w wc g h sl k ns F x An cn A c cs wr) (hwc : w.heap.size < wc.heap.size) :
    VInS wr (fun b => w.heap.size < b ∧ b < wr.heap.size) (.agg #[.int .i64 k, .int .i64 0, .slice none 0 0, .slice An ns.length cn, .slice A F.len c]) ⟨k, 0, [], ns⟩ F := by
  have hrow := hL.op
  refine ⟨_, _, _, rfl, none, 0, 0, An, ns.length, cn, A, c, rfl, rfl, rfl, Nat.le_refl _, (own_cap hL.on).1, (own_cap hrow).1, (own_cap hrow).2, RdS.none_ _ _, RdS.own hL.on (fun b h1 h2 => ⟨by omega, h2⟩), fun h0 => ?_⟩
  obtain ⟨b, o, hA, hb, hc⟩ := (Rd.of_own hrow).2 h0
  subst hA
  have hb1 := (hrow.lt b rfl).1
  refine ⟨b, o, rfl, ⟨by omega, hb⟩, ?_⟩
  refine FCells.fin F cs b o (FCells.keep (fun _ _ => rfl) (fun x hx => ?_) F cs hL.fc) hc
  exact ⟨by have := hx.1; omega, hx.2.1⟩
theorem LIn.start (hB : Bx wc h (.int .i64 k) (.int .i64 0) (.slice none 0 0) (.slice none 0 0) (.slice none 0 0)) (hR : Bx wc w.heap.size (.int .i64 0) (.int .i64 0) (.slice none 0 0) (.slice none 0 0) (.slice none 0 0)) (hr : Rr wc g sl x) (hf : Rf w wc g) :
    LIn w wc g h sl k [] .nil x none 0 none 0 [] wc :=
  ⟨hB, hR, World.ownsRow_nil _ _ _ _, World.ownsRow_nil _ _ _ _, rfl, hr, hf, Nat.le_refl _⟩
end
/-- what a list's parts make of a value -/
def fin3 (k : Int) : Option (List (List UInt8) × VF × Int) → Option (Nd × VF × Int)
  | none => none
  | some (ns, F, z) => some (⟨k, 0, [], ns⟩, F, z)
/-- the loop's relation -/
def LRel (w wc : World) (g h : Nat) (sl : Value) (k : Int) (M f : Nat) (bs : List UInt8) (RES : Option (Nd × VF × Int)) (i : Value) (wr : World) : Prop :=
  ∃ ns F x An cn A c cs, i = .int .i64 (F.len : Int) ∧ F.len ≤ M ∧ ns.length ≤ F.len ∧ LIn w wc g h sl k ns F x An cn A c cs wr ∧ RES = fin3 k (more ns F (rdPs (rdV f bs) bs (k == 4) (M - F.len) x))
section
variable {RES : Option (Nd × VF × Int)} {k y z : Int} {ns nm : List (List UInt8)} {F p : VF} {d : Nd} {one : Int → Option (Nd × VF × Int)} {bs : List UInt8} {rc : Bool} {M : Nat}
theorem res_none (h : RES = fin3 k (more ns F (rdPs one bs rc (M - F.len) y))) (hi : F.len < M) (hs : stepP one bs rc y = none) : RES = none := by
  rw [h, show M - F.len = (M - F.len - 1) + 1 by omega, more_none _ _ _ _ _ _ _ hs]; rfl
theorem res_some (h : RES = fin3 k (more ns F (rdPs one bs rc (M - F.len) y))) (hi : F.len < M) (hs : stepP one bs rc y = some (nm, d, p, z)) : RES = fin3 k (more (ns ++ nm) (F.snoc d p) (rdPs one bs rc (M - (F.snoc d p).len) z)) := by
  rw [h, show M - F.len = (M - F.len - 1) + 1 by omega, more_step _ _ _ _ _ _ _ _ _ _ _ hs, VF.len_snoc, Nat.sub_sub]
theorem res_end (h : RES = fin3 k (more ns F (rdPs one bs rc (M - F.len) y))) (hi : M ≤ F.len) : RES = some (⟨k, 0, [], ns⟩, F, y) := by
  rw [h, show M - F.len = 0 by omega, more_end]; rfl
end
theorem news1 (w : World) (a : Value) (T : TypeId) : ∀ j u, [a][j]? = some u → (w.alloc (.cells #[a] T)).cell? ⟨w.heap.size, 0 + j, none⟩ = some u := fun j u hu => by
  rw [cell_of_row _ w.heap.size (0 + j) _ T (0, 0) (heap_alloc_new w _), Nat.zero_add]
  simpa using hu
end Go.Proofs.Ytolognhjdmkohaa
