/-
  The contracts of wire.ReadSlice at numbers and of the reference's GetNumbers.
-/
import Derived.Test.YtdandbhjmckmiaaWireList2
import Derived.Test.YtdandbhjmckmiaaWireMath3
import Derived.Test.YtdandbhjmckmiaaKit2
import Derived.RegionTactic
namespace Go.Proofs.Ytdandbhjmckmiaa
open Go.RowKit
set_option linter.unusedVariables false
set_option linter.unusedSimpArgs false

/-- a result's fault, not yet written: its block, its cells -/
def FR (w : World) (g : Nat) : Prop :=
  g < w.heap.size ∧ w.cell? ⟨g, 0, none⟩ = some (.int .i64 0) ∧ w.cell? ⟨g, 1, none⟩ = some (.int .i64 0) ∧ w.frozen? ⟨g, 0, none⟩ = false ∧ w.frozen? ⟨g, 1, none⟩ = false
theorem FR.below {w w' : World} {B g : Nat} (h : FR w g) (hb : Below B w w') (hg : g < B) : FR w' g := by
  obtain ⟨z, c0, c1, f0, f1⟩ := h
  refine ⟨Nat.lt_of_lt_of_le z hb.size, ?_, ?_, ?_, ?_⟩
  · rw [hb.cell (by exact hg)]; exact c0
  · rw [hb.cell (by exact hg)]; exact c1
  · rw [hb.frozen (by exact hg)]; exact f0
  · rw [hb.frozen (by exact hg)]; exact f1
theorem FR.alloc {w : World} {g : Nat} (h : FR w g) (o : Obj) : FR (w.alloc o) g := h.below ((Below.refl _ _).alloc (Nat.le_refl _) o) h.1
theorem fr_after {w w1 : World} (hb1 : Below (w.alloc (Obj.cells #[Value.int IntKind.i64 0, Value.int IntKind.i64 0] 28)).heap.size (w.alloc (Obj.cells #[Value.int IntKind.i64 0, Value.int IntKind.i64 0] 28)) w1) : Below w.heap.size w w1 ∧ FR w1 w.heap.size := by
  obtain ⟨a, b, c, d, e, f⟩ := after_fault hb1
  exact ⟨a, b, c, d, e, f⟩
theorem FR.of_drew {w : World} {g : Nat} (h : FR w g) : FR w.drew g := h

def NumsEnd (w : World) (r : List Int × Int × Int × Int) (e : Ending) (w' : World) : Prop :=
  ∃ A c, e = .returned (.tuple #[.slice A r.1.length c, .int .i64 r.2.1, .agg #[.int .i64 r.2.2.1, .int .i64 r.2.2.2]]) ∧ w'.ownsRow w.heap.size 3 1 (.slice A r.1.length c) r.1.length (iv r.1) ∧ Below w.heap.size w w'
theorem nums_none {w w' : World} (a b : Int) (hb : Below w.heap.size w w') : NumsEnd w ([], 0, a, b) (.returned (.tuple #[.slice none 0 0, .int .i64 0, .agg #[.int .i64 a, .int .i64 b]])) w' :=
  ⟨none, 0, rfl, World.ownsRow_nil _ _ _ _, hb⟩

set_option maxRecDepth 100000 in
set_option maxHeartbeats 1000000 in
theorem readInts_fault {w : World} {A : Option Addr} {n c : Nat} {bs : List UInt8} (h : Rd w w.heap.size 1 A n (bv bs)) (at_ most : Int) (hn : n ≤ 16777216) {cd ix : Int} (hr : readNum bs at_ = (0, 0, cd, ix)) (hcd : cd ≠ 0) :
    Calls Try.prog 28 #[.slice A n c, .int .i64 at_, .int .i64 most, .func (.func 18) #[] #[]] w (NumsEnd w ([], 0, cd, ix)) := by
  have HQ := Lib.hid hr
  have hcd' : (cd != 0) = true := by simp [hcd]
  clear hr
  go_enter Try.func28, Try.ntmps28
  go_wp2_with fail
  refine (readNumber_calls ((h.alloc (Nat.le_refl _) (Obj.cells #[Value.int IntKind.i64 0, Value.int IntKind.i64 0] 28)).more (by simp)) at_ (by simp only [maxLen]; omega)).mono ?_
  rintro e w1 ⟨rfl, hb1⟩
  rw [HQ.out]
  obtain ⟨hb0, hf⟩ := fr_after hb1
  clear hb1
  obtain ⟨z, c0, c1, f0, f1⟩ := hf
  go_wp2_with (first | (go_at_call 34; refine (in_calls _ _ _ _).mono ?_; rintro e w' ⟨rfl, rfl⟩))
  go_region
  all_goals go_wp2
  refine bodyPost_ret (v := .tuple #[.slice none 0 0, .int .i64 (0), .agg #[.int .i64 cd, .int .i64 ix]]) (by simp [results, Try.results28, go_sem, c0, c1, z]) rfl ?_
  exact nums_none _ _ (((hb0.setCell (p := ⟨w.heap.size, 0, none⟩) (Nat.le_refl _) _).setCell (p := ⟨w.heap.size, 1, none⟩) (Nat.le_refl _) _).alloc (by simp [World.setCell]; omega) _).drew

set_option maxRecDepth 100000 in
set_option maxHeartbeats 1000000 in
theorem readInts_neg {w : World} {A : Option Addr} {n c : Nat} {bs : List UInt8} (h : Rd w w.heap.size 1 A n (bv bs)) (at_ most : Int) (hn : n ≤ 16777216) {x nx : Int} (hr : readNum bs at_ = (x, nx, 0, 0)) (hx : x < 0) :
    Calls Try.prog 28 #[.slice A n c, .int .i64 at_, .int .i64 most, .func (.func 18) #[] #[]] w (NumsEnd w ([], 0, 4, at_)) := by
  have HQ := Lib.hid hr
  clear hr
  go_enter Try.func28, Try.ntmps28
  go_wp2_with fail
  refine (readNumber_calls ((h.alloc (Nat.le_refl _) (Obj.cells #[Value.int IntKind.i64 0, Value.int IntKind.i64 0] 28)).more (by simp)) at_ (by simp only [maxLen]; omega)).mono ?_
  rintro e w1 ⟨rfl, hb1⟩
  rw [HQ.out]
  obtain ⟨hb0, hf⟩ := fr_after hb1
  clear hb1
  obtain ⟨z, c0, c1, f0, f1⟩ := hf
  go_wp2_with (first | (go_at_call 35; refine (fault_calls _ _ _).mono ?_; rintro e w' ⟨rfl, rfl⟩) | (go_at_call 34; refine (in_calls _ _ _ _).mono ?_; rintro e w' ⟨rfl, rfl⟩))
  refine bodyPost_ret (v := .tuple #[.slice none 0 0, .int .i64 (0), .agg #[.int .i64 4, .int .i64 at_]]) (by simp [results, Try.results28, go_sem, c0, c1, z]) rfl ?_
  exact nums_none _ _ ((((hb0.setCell (p := ⟨w.heap.size, 0, none⟩) (Nat.le_refl _) _).setCell (p := ⟨w.heap.size, 1, none⟩) (Nat.le_refl _) _).alloc (by simp [World.setCell]; omega) _).alloc (by simp [World.setCell]; omega) _)

set_option maxRecDepth 100000 in
set_option maxHeartbeats 1000000 in
theorem readInts_much {w : World} {A : Option Addr} {n c : Nat} {bs : List UInt8} (h : Rd w w.heap.size 1 A n (bv bs)) (at_ most : Int) (hn : n ≤ 16777216) {x nx : Int} (hr : readNum bs at_ = (x, nx, 0, 0)) (h0 : 0 ≤ x) (hx : most < x) :
    Calls Try.prog 28 #[.slice A n c, .int .i64 at_, .int .i64 most, .func (.func 18) #[] #[]] w (NumsEnd w ([], 0, 4, at_)) := by
  have HQ := Lib.hid hr
  clear hr
  go_enter Try.func28, Try.ntmps28
  go_wp2_with fail
  refine (readNumber_calls ((h.alloc (Nat.le_refl _) (Obj.cells #[Value.int IntKind.i64 0, Value.int IntKind.i64 0] 28)).more (by simp)) at_ (by simp only [maxLen]; omega)).mono ?_
  rintro e w1 ⟨rfl, hb1⟩
  rw [HQ.out]
  obtain ⟨hb0, hf⟩ := fr_after hb1
  clear hb1
  obtain ⟨z, c0, c1, f0, f1⟩ := hf
  go_wp2_with (first | (go_at_call 35; refine (fault_calls _ _ _).mono ?_; rintro e w' ⟨rfl, rfl⟩) | (go_at_call 34; refine (in_calls _ _ _ _).mono ?_; rintro e w' ⟨rfl, rfl⟩))
  refine bodyPost_ret (v := .tuple #[.slice none 0 0, .int .i64 (0), .agg #[.int .i64 4, .int .i64 at_]]) (by simp [results, Try.results28, go_sem, c0, c1, z]) rfl ?_
  exact nums_none _ _ ((((hb0.setCell (p := ⟨w.heap.size, 0, none⟩) (Nat.le_refl _) _).setCell (p := ⟨w.heap.size, 1, none⟩) (Nat.le_refl _) _).alloc (by simp [World.setCell]; omega) _).alloc (by simp [World.setCell]; omega) _)


set_option maxRecDepth 100000 in
set_option maxHeartbeats 1000000 in
theorem getInts_fault {w : World} {A : Option Addr} {n c : Nat} {bs : List UInt8} (h : Rd w w.heap.size 1 A n (bv bs)) (at_ most : Int) (hn : n ≤ 16777216) {cd ix : Int} (hr : readNum bs at_ = (0, 0, cd, ix)) (hcd : cd ≠ 0) :
    Calls Try.prog 29 #[.slice A n c, .int .i64 at_, .int .i64 most] w (NumsEnd w ([], 0, cd, ix)) := by
  have HQ := Lib.hid hr
  have hcd' : (cd != 0) = true := by simp [hcd]
  clear hr hcd
  go_enter Try.func29, Try.ntmps29
  go_wp2_with fail
  refine (get_calls ((h.alloc (Nat.le_refl _) (Obj.cells #[Value.int IntKind.i64 0, Value.int IntKind.i64 0] 28)).more (by simp)) at_ (by simp only [maxLen]; omega)).mono ?_
  rintro e w1 ⟨rfl, hb1⟩
  rw [HQ.out]
  obtain ⟨hb0, hf⟩ := fr_after hb1
  clear hb1
  obtain ⟨z, c0, c1, f0, f1⟩ := hf
  go_wp2_with (first | (go_at_call 34; refine (in_calls _ _ _ _).mono ?_; rintro e w' ⟨rfl, rfl⟩))
  go_region
  all_goals go_wp2
  refine bodyPost_ret (v := .tuple #[.slice none 0 0, .int .i64 (0), .agg #[.int .i64 cd, .int .i64 ix]]) (by simp [results, Try.results29, go_sem, c0, c1, z]) rfl ?_
  exact nums_none _ _ (((hb0.setCell (p := ⟨w.heap.size, 0, none⟩) (Nat.le_refl _) _).setCell (p := ⟨w.heap.size, 1, none⟩) (Nat.le_refl _) _).alloc (by simp [World.setCell]; omega) _).drew

set_option maxRecDepth 100000 in
set_option maxHeartbeats 1000000 in
theorem getInts_neg {w : World} {A : Option Addr} {n c : Nat} {bs : List UInt8} (h : Rd w w.heap.size 1 A n (bv bs)) (at_ most : Int) (hn : n ≤ 16777216) {x nx : Int} (hr : readNum bs at_ = (x, nx, 0, 0)) (hx : x < 0) :
    Calls Try.prog 29 #[.slice A n c, .int .i64 at_, .int .i64 most] w (NumsEnd w ([], 0, 4, at_)) := by
  have HQ := Lib.hid hr
  clear hr
  have hd : (decide ((0 : Int) ≤ x) && decide (x ≤ most)) = false := by simp; omega
  go_enter Try.func29, Try.ntmps29
  go_wp2_with fail
  refine (get_calls ((h.alloc (Nat.le_refl _) (Obj.cells #[Value.int IntKind.i64 0, Value.int IntKind.i64 0] 28)).more (by simp)) at_ (by simp only [maxLen]; omega)).mono ?_
  rintro e w1 ⟨rfl, hb1⟩
  rw [HQ.out]
  obtain ⟨hb0, hf⟩ := fr_after hb1
  clear hb1
  obtain ⟨z, c0, c1, f0, f1⟩ := hf
  go_wp2_with (first | (go_at_call 36; refine (at_calls _ _ _).mono ?_; rintro e w' ⟨rfl, rfl⟩) | (go_at_call 34; refine (in_calls _ _ _ _).mono ?_; rintro e w' ⟨rfl, rfl⟩))
  refine bodyPost_ret (v := .tuple #[.slice none 0 0, .int .i64 (0), .agg #[.int .i64 4, .int .i64 at_]]) (by simp [results, Try.results29, go_sem, c0, c1, z]) rfl ?_
  exact nums_none _ _ ((((hb0.setCell (p := ⟨w.heap.size, 0, none⟩) (Nat.le_refl _) _).setCell (p := ⟨w.heap.size, 1, none⟩) (Nat.le_refl _) _).alloc (by simp [World.setCell]; omega) _).alloc (by simp [World.setCell]; omega) _)

set_option maxRecDepth 100000 in
set_option maxHeartbeats 1000000 in
theorem getInts_much {w : World} {A : Option Addr} {n c : Nat} {bs : List UInt8} (h : Rd w w.heap.size 1 A n (bv bs)) (at_ most : Int) (hn : n ≤ 16777216) {x nx : Int} (hr : readNum bs at_ = (x, nx, 0, 0)) (h0 : 0 ≤ x) (hx : most < x) :
    Calls Try.prog 29 #[.slice A n c, .int .i64 at_, .int .i64 most] w (NumsEnd w ([], 0, 4, at_)) := by
  have HQ := Lib.hid hr
  clear hr
  have hd : decide (x ≤ most) = false := decide_eq_false (by omega)
  go_enter Try.func29, Try.ntmps29
  go_wp2_with fail
  refine (get_calls ((h.alloc (Nat.le_refl _) (Obj.cells #[Value.int IntKind.i64 0, Value.int IntKind.i64 0] 28)).more (by simp)) at_ (by simp only [maxLen]; omega)).mono ?_
  rintro e w1 ⟨rfl, hb1⟩
  rw [HQ.out]
  obtain ⟨hb0, hf⟩ := fr_after hb1
  clear hb1
  obtain ⟨z, c0, c1, f0, f1⟩ := hf
  go_wp2_with (first | (go_at_call 36; refine (at_calls _ _ _).mono ?_; rintro e w' ⟨rfl, rfl⟩) | (go_at_call 34; refine (in_calls _ _ _ _).mono ?_; rintro e w' ⟨rfl, rfl⟩))
  refine bodyPost_ret (v := .tuple #[.slice none 0 0, .int .i64 (0), .agg #[.int .i64 4, .int .i64 at_]]) (by simp [results, Try.results29, go_sem, c0, c1, z]) rfl ?_
  exact nums_none _ _ ((((hb0.setCell (p := ⟨w.heap.size, 0, none⟩) (Nat.le_refl _) _).setCell (p := ⟨w.heap.size, 1, none⟩) (Nat.le_refl _) _).alloc (by simp [World.setCell]; omega) _).alloc (by simp [World.setCell]; omega) _)


/-- at a round's head -/
def IntsRel (W0 : World) (bs : List UInt8) (k : Nat) (r : List Int × Int × Int × Int) (v nx ix : Value) (wr : World) : Prop :=
  ∃ (acc : List Int) (y : Nat) (A : Option Addr) (c : Nat), ix = .int .i64 (acc.length : Int) ∧ nx = .int .i64 (y : Int) ∧ v = .slice A acc.length c ∧
    wr.ownsRow W0.heap.size 3 1 (.slice A acc.length c) acc.length (iv acc) ∧ Below W0.heap.size W0 wr ∧ acc.length ≤ y ∧ y ≤ bs.length ∧ acc.length ≤ k ∧ r = app acc (rdL (readNum bs) (k - acc.length) y)
theorem nums_some {w W0 w2 : World} {A : Option Addr} {c : Nat} {acc : List Int} {y : Nat} {u v : Value} (h : w2.ownsRow W0.heap.size 3 1 (.slice A acc.length c) acc.length (iv acc))
    (hz : w.heap.size < W0.heap.size) (hb : Below w.heap.size w w2) : NumsEnd w (acc, (y : Int), 0, 0) (.returned (.tuple #[.slice A acc.length c, .int .i64 (y : Int), .agg #[.int .i64 0, .int .i64 0]])) ((w2.setCell ⟨w.heap.size, 0, none⟩ u).setCell ⟨w.heap.size, 1, none⟩ v) := by
  have h' := ownsRow_setCell_below (ownsRow_setCell_below h (a := ⟨w.heap.size, 0, none⟩) hz u) (a := ⟨w.heap.size, 1, none⟩) hz v
  exact ⟨A, c, rfl, own_mono h' (by omega), (hb.setCell (p := ⟨w.heap.size, 0, none⟩) (Nat.le_refl _) _).setCell (p := ⟨w.heap.size, 1, none⟩) (Nat.le_refl _) _⟩
theorem chain' {w W0 wr : World} (h1 : Below w.heap.size w W0) (h2 : Below W0.heap.size W0 wr) (hz : w.heap.size ≤ W0.heap.size) : Below w.heap.size w wr := h1.trans (h2.mono hz)
theorem iv_snoc {w : World} {base : Nat} {A : Option Addr} {c : Nat} {acc : List Int} {x : Int} (h : w.ownsRow base 3 1 (.slice A (acc.length + 1) c) (acc.length + 1) (iv acc ++ [.int .i64 x])) :
    w.ownsRow base 3 1 (.slice A (acc ++ [x]).length c) (acc ++ [x]).length (iv (acc ++ [x])) := by
  rw [iv_app, List.length_append]; exact h

set_option maxRecDepth 100000 in
set_option maxHeartbeats 1000000 in
theorem readInts_go {w : World} {A : Option Addr} {n c : Nat} {bs : List UInt8} (h : Rd w w.heap.size 1 A n (bv bs)) (at_ most : Int) (hn : n ≤ 16777216) {k y0 : Nat} (hr : readNum bs at_ = ((k : Int), (y0 : Int), 0, 0)) (hk : (k : Int) ≤ most) (hk63 : (k : Int) ≤ 9223372036854775807) (hy0 : y0 ≤ n) :
    Calls Try.prog 28 #[.slice A n c, .int .i64 at_, .int .i64 most, .func (.func 18) #[] #[]] w (NumsEnd w (app [] (rdL (readNum bs) k y0))) := by
  have HQ := Lib.hid hr
  have hl : bs.length = n := by have := h.len; rw [bv_len] at this; exact this
  have HL := Lib.hid hl
  have hd : (decide ((0 : Int) ≤ (k : Int)) && decide ((k : Int) ≤ most)) = true := by simp; omega
  have hd0 : decide ((k : Int) ≤ most) = true := decide_eq_true hk
  have hd1 : decide ((k : Int) < 0) = false := decide_eq_false (by omega)
  have hd2 : decide (most < (k : Int)) = false := decide_eq_false (by omega)
  clear hr hl
  go_enter Try.func28, Try.ntmps28
  go_wp2_with fail
  refine (readNumber_calls ((h.alloc (Nat.le_refl _) (Obj.cells #[Value.int IntKind.i64 0, Value.int IntKind.i64 0] 28)).more (by simp)) at_ (by simp only [maxLen]; omega)).mono ?_
  rintro e w1 ⟨rfl, hb1⟩
  rw [HQ.out]
  obtain ⟨hb0, hf⟩ := fr_after hb1
  clear hb1
  have HRD := Lib.hid (h.below (hb0.alloc hb0.size (Obj.cells #[Value.int IntKind.i64 0, Value.int IntKind.i64 0] 28)))
  have HF := Lib.hid (hf.alloc (Obj.cells #[Value.int IntKind.i64 0, Value.int IntKind.i64 0] 28))
  have HBW := Lib.hid (hb0.alloc hb0.size (Obj.cells #[Value.int IntKind.i64 0, Value.int IntKind.i64 0] 28))
  clear h hf hb0
  go_wp2_with (first | (go_at_call 34; refine (in_calls _ _ _ _).mono ?_; rintro e w' ⟨rfl, rfl⟩))
  generalize (w1.alloc (Obj.cells #[Value.int IntKind.i64 0, Value.int IntKind.i64 0] 28)) = W0 at *
  have hzz : w.heap.size < W0.heap.size := HF.out.1
  generalize hr0 : app [] (rdL (readNum bs) k (y0 : Int)) = r0 at *
  have HR := Lib.hid hr0
  clear hr0
  go_loopw [12, 14, 41] (fun nx v ix wr => IntsRel W0 bs k r0 v nx ix wr) (fun _ _ ix _ => k - (intOf ix).toNat)
  case atStart => exact ⟨[], y0, none, 0, rfl, rfl, rfl, World.ownsRow_nil _ _ _ _, Below.refl _ _, Nat.zero_le _, by rw [HL.out]; exact hy0, Nat.zero_le _, HR.out.symm⟩
  case round =>
    obtain ⟨acc, y, A2, c2, rfl, rfl, rfl, hown, hb, hay, hyn, hak, hres⟩ := hrel
    have HB := Lib.hid hb
    have HRES := Lib.hid hres
    have hsz := hb.size
    rw [HL.out] at hyn
    have hbw := chain' HBW.out hb (Nat.le_of_lt hzz)
    have HBWR := Lib.hid hbw
    clear hres hb hbw
    by_cases hlt : acc.length < k
    · have hlti : (acc.length : Int) < (k : Int) := by omega
      obtain ⟨j, hj⟩ : ∃ j, k - acc.length = j + 1 := ⟨k - acc.length - 1, by omega⟩
      have HJ := Lib.hid hj
      clear hj
      have hrd := ((HRD.out.below (HB.out.mono (Nat.le_of_lt hzz))).more (Nat.le_trans (Nat.le_of_lt hzz) hsz))
      have HRW := Lib.hid hrd
      clear hrd
      rcases readNum_next (bs := bs) (a := (y : Int)) (by rw [HL.out]; omega) with ⟨cd, ix, hcd, hq⟩ | ⟨x, y', hq, hy1, hy2, hx1, hx2⟩
      · have HN := Lib.hid hq
        have HE := Lib.hid (show r0 = ([], 0, cd, ix) by rw [HRES.out, HJ.out]; exact rdL_fault hq hcd acc)
        clear hq
        go_wp2_with fail
        refine (readNumber_calls HRW.out (y : Int) (by simp only [maxLen]; omega)).mono ?_
        rintro e w3 ⟨rfl, hb3⟩
        rw [HN.out]
        obtain ⟨z, c0, c1, f0, f1⟩ := (HF.out.below HB.out hzz).below hb3 (Nat.lt_of_lt_of_le hzz hsz)
        have hb0 := chain HBWR.out hb3
        clear hb3 hown
        go_wp2
        go_region
        all_goals go_wp2
        refine bodyPost_ret (v := .tuple #[.slice none 0 0, .int .i64 (0), .agg #[.int .i64 cd, .int .i64 ix]]) (by simp [results, Try.results28, go_sem, c0, c1, z]) rfl ?_
        rw [HE.out]
        exact nums_none _ _ (((hb0.setCell (p := ⟨w.heap.size, 0, none⟩) (Nat.le_refl _) _).setCell (p := ⟨w.heap.size, 1, none⟩) (Nat.le_refl _) _).alloc (by simp [World.setCell]; omega) _).drew
      · rw [HL.out] at hy2
        have HN := Lib.hid hq
        have HE := Lib.hid (show r0 = app (acc ++ [x]) (rdL (readNum bs) j (y' : Int)) by rw [HRES.out, HJ.out]; exact rdL_step hq acc)
        clear hq hx1 hx2
        go_wp2_with fail
        refine (readNumber_calls HRW.out (y : Int) (by simp only [maxLen]; omega)).mono ?_
        rintro e w3 ⟨rfl, hb3⟩
        rw [HN.out]
        have hz3 := hb3.size
        have hown3 := (own_below hown hb3 (Nat.le_refl _)).alloc (Obj.cells #[Value.int IntKind.i64 0, Value.int IntKind.i64 0] 28)
        have HB3 := Lib.hid (HB.out.trans (hb3.mono hsz))
        clear hown hb3
        go_wp2_with (at_builtin
                     refine wpList_app1g _ slI rfl (.tmp 55) (.tmp 57) rfl W0.heap.size A2 acc.length c2 (iv acc) rfl hown3 _ _ rfl (by simp) rfl (by omega) (by simp; omega) (HB3.out.alloc (by omega) (Obj.cells #[Value.int IntKind.i64 0, Value.int IntKind.i64 0] 28)) (Nat.le_refl _) ?_
                     intro A4 c4 w4 hown4 _ hb4)
        go_roundw
        case rel => exact ⟨acc ++ [x], y', A4, c4, by simp, rfl, by simp, iv_snoc hown4, hb4, by simp; omega, by rw [HL.out]; exact hy2, by simp; omega, by rw [HE.out, show k - (acc ++ [x]).length = j by have := HJ.out; simp; omega]⟩
        case measure => simp [intOf]; omega
    · have HE := Lib.hid (show r0 = (acc, (y : Int), 0, 0) by rw [HRES.out, show k - acc.length = 0 by omega]; exact rdL_end acc)
      obtain ⟨z, c0, c1, f0, f1⟩ := HF.out.below HB.out hzz
      go_wp2_with fail
      refine bodyPost_ret (v := .tuple #[.slice A2 acc.length c2, .int .i64 (y), .agg #[.int .i64 0, .int .i64 0]]) (by simp [results, Try.results28, go_sem, c0, c1, z]) rfl ?_
      rw [HE.out]
      exact nums_some hown hzz HBWR.out

set_option maxRecDepth 100000 in
set_option maxHeartbeats 1000000 in
theorem getInts_go {w : World} {A : Option Addr} {n c : Nat} {bs : List UInt8} (h : Rd w w.heap.size 1 A n (bv bs)) (at_ most : Int) (hn : n ≤ 16777216) {k y0 : Nat} (hr : readNum bs at_ = ((k : Int), (y0 : Int), 0, 0)) (hk : (k : Int) ≤ most) (hk63 : (k : Int) ≤ 9223372036854775807) (hy0 : y0 ≤ n) :
    Calls Try.prog 29 #[.slice A n c, .int .i64 at_, .int .i64 most] w (NumsEnd w (app [] (rdL (readNum bs) k y0))) := by
  have HQ := Lib.hid hr
  have hl : bs.length = n := by have := h.len; rw [bv_len] at this; exact this
  have HL := Lib.hid hl
  have hd : (decide ((0 : Int) ≤ (k : Int)) && decide ((k : Int) ≤ most)) = true := by simp; omega
  have hd0 : decide ((k : Int) ≤ most) = true := decide_eq_true hk
  have hd1 : decide ((k : Int) < 0) = false := decide_eq_false (by omega)
  have hd2 : decide (most < (k : Int)) = false := decide_eq_false (by omega)
  clear hr hl
  go_enter Try.func29, Try.ntmps29
  go_wp2_with fail
  refine (get_calls ((h.alloc (Nat.le_refl _) (Obj.cells #[Value.int IntKind.i64 0, Value.int IntKind.i64 0] 28)).more (by simp)) at_ (by simp only [maxLen]; omega)).mono ?_
  rintro e w1 ⟨rfl, hb1⟩
  rw [HQ.out]
  obtain ⟨hb0, hf⟩ := fr_after hb1
  clear hb1
  have HRD := Lib.hid (h.below (hb0.alloc hb0.size (Obj.cells #[Value.int IntKind.i64 0, Value.int IntKind.i64 0] 28)))
  have HF := Lib.hid (hf.alloc (Obj.cells #[Value.int IntKind.i64 0, Value.int IntKind.i64 0] 28))
  have HBW := Lib.hid (hb0.alloc hb0.size (Obj.cells #[Value.int IntKind.i64 0, Value.int IntKind.i64 0] 28))
  clear h hf hb0
  go_wp2_with (first | (go_at_call 34; refine (in_calls _ _ _ _).mono ?_; rintro e w' ⟨rfl, rfl⟩))
  generalize (w1.alloc (Obj.cells #[Value.int IntKind.i64 0, Value.int IntKind.i64 0] 28)) = W0 at *
  have hzz : w.heap.size < W0.heap.size := HF.out.1
  generalize hr0 : app [] (rdL (readNum bs) k (y0 : Int)) = r0 at *
  have HR := Lib.hid hr0
  clear hr0
  go_loopw [10, 12, 13] (fun nx v ix wr => IntsRel W0 bs k r0 v nx ix wr) (fun _ _ ix _ => k - (intOf ix).toNat)
  case atStart => exact ⟨[], y0, none, 0, rfl, rfl, rfl, World.ownsRow_nil _ _ _ _, Below.refl _ _, Nat.zero_le _, by rw [HL.out]; exact hy0, Nat.zero_le _, HR.out.symm⟩
  case round =>
    obtain ⟨acc, y, A2, c2, rfl, rfl, rfl, hown, hb, hay, hyn, hak, hres⟩ := hrel
    have HB := Lib.hid hb
    have HRES := Lib.hid hres
    have hsz := hb.size
    rw [HL.out] at hyn
    have hbw := chain' HBW.out hb (Nat.le_of_lt hzz)
    have HBWR := Lib.hid hbw
    clear hres hb hbw
    by_cases hlt : acc.length < k
    · have hlti : (acc.length : Int) < (k : Int) := by omega
      obtain ⟨j, hj⟩ : ∃ j, k - acc.length = j + 1 := ⟨k - acc.length - 1, by omega⟩
      have HJ := Lib.hid hj
      clear hj
      have hrd := ((HRD.out.below (HB.out.mono (Nat.le_of_lt hzz))).more (Nat.le_trans (Nat.le_of_lt hzz) hsz))
      have HRW := Lib.hid hrd
      clear hrd
      rcases readNum_next (bs := bs) (a := (y : Int)) (by rw [HL.out]; omega) with ⟨cd, ix, hcd, hq⟩ | ⟨x, y', hq, hy1, hy2, hx1, hx2⟩
      · have HN := Lib.hid hq
        have HE := Lib.hid (show r0 = ([], 0, cd, ix) by rw [HRES.out, HJ.out]; exact rdL_fault hq hcd acc)
        clear hq
        have hcd' : (cd != 0) = true := by simp [hcd]
        clear hcd
        go_wp2_with fail
        refine (get_calls HRW.out (y : Int) (by simp only [maxLen]; omega)).mono ?_
        rintro e w3 ⟨rfl, hb3⟩
        rw [HN.out]
        obtain ⟨z, c0, c1, f0, f1⟩ := (HF.out.below HB.out hzz).below hb3 (Nat.lt_of_lt_of_le hzz hsz)
        have hb0 := chain HBWR.out hb3
        clear hb3 hown
        go_wp2
        go_region
        all_goals go_wp2
        refine bodyPost_ret (v := .tuple #[.slice none 0 0, .int .i64 (0), .agg #[.int .i64 cd, .int .i64 ix]]) (by simp [results, Try.results29, go_sem, c0, c1, z]) rfl ?_
        rw [HE.out]
        exact nums_none _ _ (((hb0.setCell (p := ⟨w.heap.size, 0, none⟩) (Nat.le_refl _) _).setCell (p := ⟨w.heap.size, 1, none⟩) (Nat.le_refl _) _).alloc (by simp [World.setCell]; omega) _).drew
      · rw [HL.out] at hy2
        have HN := Lib.hid hq
        have HE := Lib.hid (show r0 = app (acc ++ [x]) (rdL (readNum bs) j (y' : Int)) by rw [HRES.out, HJ.out]; exact rdL_step hq acc)
        clear hq hx1 hx2
        go_wp2_with fail
        refine (get_calls HRW.out (y : Int) (by simp only [maxLen]; omega)).mono ?_
        rintro e w3 ⟨rfl, hb3⟩
        rw [HN.out]
        have hz3 := hb3.size
        have hown3 := (own_below hown hb3 (Nat.le_refl _)).alloc (Obj.cells #[Value.int IntKind.i64 0, Value.int IntKind.i64 0] 28)
        have HB3 := Lib.hid (HB.out.trans (hb3.mono hsz))
        clear hown hb3
        go_wp2_with (at_builtin
                     refine wpList_app1g _ slI rfl (.tmp 50) (.tmp 52) rfl W0.heap.size A2 acc.length c2 (iv acc) rfl hown3 _ _ rfl (by simp) rfl (by omega) (by simp; omega) (HB3.out.alloc (by omega) (Obj.cells #[Value.int IntKind.i64 0, Value.int IntKind.i64 0] 28)) (Nat.le_refl _) ?_
                     intro A4 c4 w4 hown4 _ hb4)
        go_roundw
        case rel => exact ⟨acc ++ [x], y', A4, c4, by simp, rfl, by simp, iv_snoc hown4, hb4, by simp; omega, by rw [HL.out]; exact hy2, by simp; omega, by rw [HE.out, show k - (acc ++ [x]).length = j by have := HJ.out; simp; omega]⟩
        case measure => simp [intOf]; omega
    · have HE := Lib.hid (show r0 = (acc, (y : Int), 0, 0) by rw [HRES.out, show k - acc.length = 0 by omega]; exact rdL_end acc)
      obtain ⟨z, c0, c1, f0, f1⟩ := HF.out.below HB.out hzz
      go_wp2_with fail
      refine bodyPost_ret (v := .tuple #[.slice A2 acc.length c2, .int .i64 (y), .agg #[.int .i64 0, .int .i64 0]]) (by simp [results, Try.results29, go_sem, c0, c1, z]) rfl ?_
      rw [HE.out]
      exact nums_some hown hzz HBWR.out
end Go.Proofs.Ytdandbhjmckmiaa
