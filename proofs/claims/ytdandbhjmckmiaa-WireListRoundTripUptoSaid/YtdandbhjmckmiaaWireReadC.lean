/-
  The contracts of wire.ReadSlice at byte strings, of wire.ReadList and of the reference's GetList.
-/
import Derived.Test.YtdandbhjmckmiaaWireInts
namespace Go.Proofs.Ytdandbhjmckmiaa
open Go.RowKit
set_option linter.unusedVariables false
set_option linter.unusedSimpArgs false

theorem slC : SlT Try.prog 40 24 1 24 := SlT.mk' Try.underlying40 (z := .slice none 0 0) (by kernel_rfl) rfl (by decide) (by decide)
/-- a list of byte strings that the call owns, the list and each of its parts -/
def OwnC (w : World) (B : Nat) (A : Option Addr) (c : Nat) (l : List (List UInt8)) : Prop :=
  ∃ vs, w.ownsRow B 24 1 (.slice A l.length c) l.length vs ∧ vs.length = l.length ∧ ∀ (j : Nat) (b : List UInt8), l[j]? = some b → ∃ A' c', vs[j]? = some (.slice A' b.length c') ∧ w.ownsRow B 5 1 (.slice A' b.length c') b.length (bv b)
section
variable {w w' : World} {B B' : Nat} {A : Option Addr} {c : Nat} {l : List (List UInt8)}
theorem OwnC.nil (w : World) (B : Nat) : OwnC w B none 0 [] := ⟨[], World.ownsRow_nil _ _ _ _, rfl, fun j b h => by simp at h⟩
theorem OwnC.below (h : OwnC w B A c l) (hb : Below B' w w') (hB : w.heap.size ≤ B') : OwnC w' B A c l := by
  obtain ⟨vs, h1, h2, h3⟩ := h
  refine ⟨vs, own_below h1 hb hB, h2, fun j b hj => ?_⟩
  obtain ⟨A', c', e, ho⟩ := h3 j b hj
  exact ⟨A', c', e, own_below ho hb hB⟩
theorem OwnC.mono (h : OwnC w B A c l) (hB : B' ≤ B) : OwnC w B' A c l := by
  obtain ⟨vs, h1, h2, h3⟩ := h
  refine ⟨vs, own_mono h1 hB, h2, fun j b hj => ?_⟩
  obtain ⟨A', c', e, ho⟩ := h3 j b hj
  exact ⟨A', c', e, own_mono ho hB⟩
theorem OwnC.alloc (h : OwnC w B A c l) (o : Obj) : OwnC (w.alloc o) B A c l := h.below ((Below.refl _ _).alloc (Nat.le_refl _) o) (Nat.le_refl _)
theorem OwnC.setCell (h : OwnC w B A c l) {a : Addr} (ha : a.block < B) (u : Value) : OwnC (w.setCell a u) B A c l := by
  obtain ⟨vs, h1, h2, h3⟩ := h
  refine ⟨vs, ownsRow_setCell_below h1 ha u, h2, fun j b hj => ?_⟩
  obtain ⟨A', c', e, ho⟩ := h3 j b hj
  exact ⟨A', c', e, ownsRow_setCell_below ho ha u⟩
theorem OwnC.chs (h : OwnC w B A c l) : Chs w w.heap.size A l.length l := by
  obtain ⟨vs, h1, h2, h3⟩ := h
  refine ⟨vs, Rd.of_own h1, h2, fun j b hj => ?_⟩
  obtain ⟨A', c', e, ho⟩ := h3 j b hj
  exact ⟨A', b.length, c', e, Rd.of_own ho, (own_cap ho).1⟩
theorem OwnC.snoc {vs : List Value} {A4 A3 : Option Addr} {c4 c3 : Nat} {x : List UInt8} (h1 : w.ownsRow B 24 1 (.slice A l.length c) l.length vs) (h2 : vs.length = l.length)
    (h3 : ∀ (j : Nat) (b : List UInt8), l[j]? = some b → ∃ A' c', vs[j]? = some (.slice A' b.length c') ∧ w.ownsRow B 5 1 (.slice A' b.length c') b.length (bv b))
    (hx : w.ownsRow B 5 1 (.slice A3 x.length c3) x.length (bv x)) (hg : w.grownBy w' (Value.slice A l.length c).ownBlock)
    (h4 : w'.ownsRow B 24 1 (.slice A4 (l.length + 1) c4) (l.length + 1) (vs ++ [.slice A3 x.length c3])) : OwnC w' B A4 c4 (l ++ [x]) := by
  have hne : 5 ≠ 24 := by decide
  refine ⟨vs ++ [.slice A3 x.length c3], by rw [List.length_append]; exact h4, by simp [h2], fun j b hj => ?_⟩
  by_cases hjl : j < l.length
  · rw [List.getElem?_append_left hjl] at hj
    obtain ⟨A', c', e, ho⟩ := h3 j b hj
    exact ⟨A', c', by rw [List.getElem?_append_left (by omega)]; exact e, ho.kept hg (own_ne ho h1 hne)⟩
  · rw [List.getElem?_append_right (by omega)] at hj
    obtain ⟨k, hk⟩ : ∃ k, j - l.length = k := ⟨_, rfl⟩
    rw [hk] at hj
    cases k with
    | zero =>
      simp at hj; subst hj
      exact ⟨A3, c3, by rw [List.getElem?_append_right (by omega), h2, hk]; rfl, hx.kept hg (own_ne hx h1 hne)⟩
    | succ k => simp at hj
end

def ChsEnd (w : World) (r : List (List UInt8) × Int × Int × Int) (e : Ending) (w' : World) : Prop :=
  ∃ A c, e = .returned (.tuple #[.slice A r.1.length c, .int .i64 r.2.1, .agg #[.int .i64 r.2.2.1, .int .i64 r.2.2.2]]) ∧ OwnC w' w.heap.size A c r.1 ∧ Below w.heap.size w w'
theorem chs_none {w w' : World} (a b : Int) (hb : Below w.heap.size w w') : ChsEnd w ([], 0, a, b) (.returned (.tuple #[.slice none 0 0, .int .i64 0, .agg #[.int .i64 a, .int .i64 b]])) w' :=
  ⟨none, 0, rfl, OwnC.nil _ _, hb⟩
/-- the end of a reader of a whole list -/
def ListEnd (w : World) (r : List (List UInt8) × Int × Int) (e : Ending) (w' : World) : Prop :=
  ∃ A c, e = .returned (.tuple #[.slice A r.1.length c, .agg #[.int .i64 r.2.1, .int .i64 r.2.2]]) ∧ OwnC w' w.heap.size A c r.1 ∧ Below w.heap.size w w'
theorem lst_none {w w' : World} (a b : Int) (hb : Below w.heap.size w w') : ListEnd w ([], a, b) (.returned (.tuple #[.slice none 0 0, .agg #[.int .i64 a, .int .i64 b]])) w' :=
  ⟨none, 0, rfl, OwnC.nil _ _, hb⟩
theorem readChunk_next {bs : List UInt8} {a : Int} (hl : bs.length ≤ 9223372036854775807) :
    (∃ c i, c ≠ 0 ∧ readChunk bs a = ([], 0, c, i)) ∨ ∃ (x : List UInt8) (y : Nat), readChunk bs a = (x, (y : Int), 0, 0) ∧ a + 1 + (x.length : Int) ≤ (y : Int) ∧ y ≤ bs.length := by
  rcases readNum_next (bs := bs) (a := a) hl with ⟨c, i, hc, hr⟩ | ⟨x, y, hr, h1, h2, h3, h4⟩
  · exact .inl ⟨c, i, hc, by unfold readChunk; rw [hr]; simp [hc]⟩
  · by_cases hneg : x < 0
    · exact .inl ⟨4, a, by omega, by unfold readChunk; rw [hr]; simp [hneg]⟩
    · obtain ⟨k, rfl⟩ := Int.eq_ofNat_of_zero_le (show 0 ≤ x by omega)
      by_cases htr : (bs.length : Int) - (y : Int) < (k : Int)
      · exact .inl ⟨15, a, by omega, by unfold readChunk; rw [hr]; simp only []; rw [if_neg (by simp), if_neg (by omega), if_pos htr]⟩
      · refine .inr ⟨(bs.drop y).take k, y + k, ?_, ?_, by omega⟩
        · unfold readChunk; rw [hr]; simp only []; rw [if_neg (by simp), if_neg (by omega), if_neg htr, Int.toNat_natCast, Int.toNat_natCast]; simp
        · rw [List.length_take, List.length_drop]; omega
/-- at a round's head -/
def ChsRel (W0 : World) (bs : List UInt8) (k : Nat) (r : List (List UInt8) × Int × Int × Int) (v nx ix : Value) (wr : World) : Prop :=
  ∃ (acc : List (List UInt8)) (y : Nat) (A : Option Addr) (c : Nat), ix = .int .i64 (acc.length : Int) ∧ nx = .int .i64 (y : Int) ∧ v = .slice A acc.length c ∧
    OwnC wr W0.heap.size A c acc ∧ Below W0.heap.size W0 wr ∧ acc.length ≤ y ∧ y ≤ bs.length ∧ acc.length ≤ k ∧ r = app acc (rdL (readChunk bs) (k - acc.length) y)
theorem chs_some {w W0 w2 : World} {A : Option Addr} {c : Nat} {acc : List (List UInt8)} {y : Nat} {u v : Value} (h : OwnC w2 W0.heap.size A c acc)
    (hz : w.heap.size < W0.heap.size) (hb : Below w.heap.size w w2) : ChsEnd w (acc, (y : Int), 0, 0) (.returned (.tuple #[.slice A acc.length c, .int .i64 (y : Int), .agg #[.int .i64 0, .int .i64 0]])) ((w2.setCell ⟨w.heap.size, 0, none⟩ u).setCell ⟨w.heap.size, 1, none⟩ v) :=
  ⟨A, c, rfl, ((h.setCell (a := ⟨w.heap.size, 0, none⟩) hz u).setCell (a := ⟨w.heap.size, 1, none⟩) hz v).mono (by omega), (hb.setCell (p := ⟨w.heap.size, 0, none⟩) (Nat.le_refl _) _).setCell (p := ⟨w.heap.size, 1, none⟩) (Nat.le_refl _) _⟩
theorem lst_some {w W0 w2 : World} {A : Option Addr} {c : Nat} {acc : List (List UInt8)} {u v : Value} (h : OwnC w2 W0.heap.size A c acc)
    (hz : w.heap.size < W0.heap.size) (hb : Below w.heap.size w w2) : ListEnd w (acc, 0, 0) (.returned (.tuple #[.slice A acc.length c, .agg #[.int .i64 0, .int .i64 0]])) ((w2.setCell ⟨w.heap.size, 0, none⟩ u).setCell ⟨w.heap.size, 1, none⟩ v) :=
  ⟨A, c, rfl, ((h.setCell (a := ⟨w.heap.size, 0, none⟩) hz u).setCell (a := ⟨w.heap.size, 1, none⟩) hz v).mono (by omega), (hb.setCell (p := ⟨w.heap.size, 0, none⟩) (Nat.le_refl _) _).setCell (p := ⟨w.heap.size, 1, none⟩) (Nat.le_refl _) _⟩

set_option maxRecDepth 100000 in
set_option maxHeartbeats 1000000 in
theorem readChs_fault {w : World} {A : Option Addr} {n c : Nat} {bs : List UInt8} (h : Rd w w.heap.size 1 A n (bv bs)) (at_ most : Int) (hn : n ≤ 16777216) (hnc : n ≤ c) {cd ix : Int} (hr : readNum bs at_ = (0, 0, cd, ix)) (hcd : cd ≠ 0) :
    Calls Try.prog 39 #[.slice A n c, .int .i64 at_, .int .i64 most, .func (.func 20) #[] #[]] w (ChsEnd w ([], 0, cd, ix)) := by
  have HQ := Lib.hid hr
  clear hr
  go_enter Try.func39, Try.ntmps39
  go_wp2_with fail
  refine (readNumber_calls ((h.alloc (Nat.le_refl _) (Obj.cells #[Value.int IntKind.i64 0, Value.int IntKind.i64 0] 28)).more (by simp)) at_ (by simp only [maxLen]; omega)).mono ?_
  rintro e w1 ⟨rfl, hb1⟩
  rw [HQ.out]
  obtain ⟨hb0, hf⟩ := fr_after hb1
  clear hb1
  obtain ⟨z, c0, c1, f0, f1⟩ := hf
  go_wp2_with (first | (go_at_call 34; refine (in_calls _ _ _ _).mono ?_; rintro e w' ⟨rfl, rfl⟩))
  go_region
  all_goals go_wp2
  refine bodyPost_ret (v := .tuple #[.slice none 0 0, .int .i64 (0), .agg #[.int .i64 cd, .int .i64 ix]]) (by simp [results, Try.results39, go_sem, c0, c1, z]) rfl ?_
  exact chs_none _ _ (((hb0.setCell (p := ⟨w.heap.size, 0, none⟩) (Nat.le_refl _) _).setCell (p := ⟨w.heap.size, 1, none⟩) (Nat.le_refl _) _).alloc (by simp [World.setCell]; omega) _).drew

set_option maxRecDepth 100000 in
set_option maxHeartbeats 1000000 in
theorem readChs_neg {w : World} {A : Option Addr} {n c : Nat} {bs : List UInt8} (h : Rd w w.heap.size 1 A n (bv bs)) (at_ most : Int) (hn : n ≤ 16777216) (hnc : n ≤ c) {x nx : Int} (hr : readNum bs at_ = (x, nx, 0, 0)) (hx : x < 0) :
    Calls Try.prog 39 #[.slice A n c, .int .i64 at_, .int .i64 most, .func (.func 20) #[] #[]] w (ChsEnd w ([], 0, 4, at_)) := by
  have HQ := Lib.hid hr
  clear hr
  go_enter Try.func39, Try.ntmps39
  go_wp2_with fail
  refine (readNumber_calls ((h.alloc (Nat.le_refl _) (Obj.cells #[Value.int IntKind.i64 0, Value.int IntKind.i64 0] 28)).more (by simp)) at_ (by simp only [maxLen]; omega)).mono ?_
  rintro e w1 ⟨rfl, hb1⟩
  rw [HQ.out]
  obtain ⟨hb0, hf⟩ := fr_after hb1
  clear hb1
  obtain ⟨z, c0, c1, f0, f1⟩ := hf
  go_wp2_with (first | (go_at_call 35; refine (fault_calls _ _ _).mono ?_; rintro e w' ⟨rfl, rfl⟩) | (go_at_call 34; refine (in_calls _ _ _ _).mono ?_; rintro e w' ⟨rfl, rfl⟩))
  refine bodyPost_ret (v := .tuple #[.slice none 0 0, .int .i64 (0), .agg #[.int .i64 4, .int .i64 at_]]) (by simp [results, Try.results39, go_sem, c0, c1, z]) rfl ?_
  exact chs_none _ _ ((((hb0.setCell (p := ⟨w.heap.size, 0, none⟩) (Nat.le_refl _) _).setCell (p := ⟨w.heap.size, 1, none⟩) (Nat.le_refl _) _).alloc (by simp [World.setCell]; omega) _).alloc (by simp [World.setCell]; omega) _)

set_option maxRecDepth 100000 in
set_option maxHeartbeats 1000000 in
theorem readChs_much {w : World} {A : Option Addr} {n c : Nat} {bs : List UInt8} (h : Rd w w.heap.size 1 A n (bv bs)) (at_ most : Int) (hn : n ≤ 16777216) (hnc : n ≤ c) {x nx : Int} (hr : readNum bs at_ = (x, nx, 0, 0)) (h0 : 0 ≤ x) (hx : most < x) :
    Calls Try.prog 39 #[.slice A n c, .int .i64 at_, .int .i64 most, .func (.func 20) #[] #[]] w (ChsEnd w ([], 0, 4, at_)) := by
  have HQ := Lib.hid hr
  clear hr
  go_enter Try.func39, Try.ntmps39
  go_wp2_with fail
  refine (readNumber_calls ((h.alloc (Nat.le_refl _) (Obj.cells #[Value.int IntKind.i64 0, Value.int IntKind.i64 0] 28)).more (by simp)) at_ (by simp only [maxLen]; omega)).mono ?_
  rintro e w1 ⟨rfl, hb1⟩
  rw [HQ.out]
  obtain ⟨hb0, hf⟩ := fr_after hb1
  clear hb1
  obtain ⟨z, c0, c1, f0, f1⟩ := hf
  go_wp2_with (first | (go_at_call 35; refine (fault_calls _ _ _).mono ?_; rintro e w' ⟨rfl, rfl⟩) | (go_at_call 34; refine (in_calls _ _ _ _).mono ?_; rintro e w' ⟨rfl, rfl⟩))
  refine bodyPost_ret (v := .tuple #[.slice none 0 0, .int .i64 (0), .agg #[.int .i64 4, .int .i64 at_]]) (by simp [results, Try.results39, go_sem, c0, c1, z]) rfl ?_
  exact chs_none _ _ ((((hb0.setCell (p := ⟨w.heap.size, 0, none⟩) (Nat.le_refl _) _).setCell (p := ⟨w.heap.size, 1, none⟩) (Nat.le_refl _) _).alloc (by simp [World.setCell]; omega) _).alloc (by simp [World.setCell]; omega) _)

set_option maxRecDepth 100000 in
set_option maxHeartbeats 1000000 in
theorem readChs_go {w : World} {A : Option Addr} {n c : Nat} {bs : List UInt8} (h : Rd w w.heap.size 1 A n (bv bs)) (at_ most : Int) (hn : n ≤ 16777216) (hnc : n ≤ c) {k y0 : Nat} (hr : readNum bs at_ = ((k : Int), (y0 : Int), 0, 0)) (hk : (k : Int) ≤ most) (hk63 : (k : Int) ≤ 9223372036854775807) (hy0 : y0 ≤ n) :
    Calls Try.prog 39 #[.slice A n c, .int .i64 at_, .int .i64 most, .func (.func 20) #[] #[]] w (ChsEnd w (app [] (rdL (readChunk bs) k y0))) := by
  have HQ := Lib.hid hr
  have hl : bs.length = n := by have := h.len; rw [bv_len] at this; exact this
  have HL := Lib.hid hl
  have hd0 : decide ((k : Int) ≤ most) = true := decide_eq_true hk
  have hd1 : decide ((k : Int) < 0) = false := decide_eq_false (by omega)
  have hd2 : decide (most < (k : Int)) = false := decide_eq_false (by omega)
  clear hr hl
  go_enter Try.func39, Try.ntmps39
  go_wp2_with fail
  refine (readNumber_calls ((h.alloc (Nat.le_refl _) (Obj.cells #[Value.int IntKind.i64 0, Value.int IntKind.i64 0] 28)).more (by simp)) at_ (by simp only [maxLen]; omega)).mono ?_
  rintro e w1 ⟨rfl, hb1⟩
  rw [HQ.out]
  obtain ⟨hb0, hf⟩ := fr_after hb1
  clear hb1
  have HRD := Lib.hid (h.below (hb0.alloc hb0.size (Obj.cells #[Value.int IntKind.i64 0, Value.int IntKind.i64 0] 28)))
  have HF := Lib.hid (hf.alloc (Obj.cells #[Value.int IntKind.i64 0, Value.int IntKind.i64 0] 28))
  have HBW := Lib.hid (hb0.alloc hb0.size (Obj.cells #[Value.int IntKind.i64 0, Value.int IntKind.i64 0] 28))
  clear h hf hb0
  go_wp2_with (first | (go_at_call 34; refine (in_calls _ _ _ _).mono ?_; rintro e w' ⟨rfl, rfl⟩))
  generalize (w1.alloc (Obj.cells #[Value.int IntKind.i64 0, Value.int IntKind.i64 0] 28)) = W0 at *
  have hzz : w.heap.size < W0.heap.size := HF.out.1
  generalize hr0 : app [] (rdL (readChunk bs) k (y0 : Int)) = r0 at *
  have HR := Lib.hid hr0
  clear hr0
  go_loopw [12, 14, 41] (fun nx v ix wr => ChsRel W0 bs k r0 v nx ix wr) (fun _ _ ix _ => k - (intOf ix).toNat)
  case atStart => exact ⟨[], y0, none, 0, rfl, rfl, rfl, OwnC.nil _ _, Below.refl _ _, Nat.zero_le _, by rw [HL.out]; exact hy0, Nat.zero_le _, HR.out.symm⟩
  case round =>
    obtain ⟨acc, y, A2, c2, rfl, rfl, rfl, hown, hb, hay, hyn, hak, hres⟩ := hrel
    have HB := Lib.hid hb
    have HRES := Lib.hid hres
    have hsz := hb.size
    rw [HL.out] at hyn
    have hbw := chain' HBW.out hb (Nat.le_of_lt hzz)
    have HBWR := Lib.hid hbw
    have HOWN := Lib.hid hown
    clear hres hb hbw hown
    by_cases hlt : acc.length < k
    · have hlti : (acc.length : Int) < (k : Int) := by omega
      obtain ⟨j, hj⟩ : ∃ j, k - acc.length = j + 1 := ⟨k - acc.length - 1, by omega⟩
      have HJ := Lib.hid hj
      clear hj
      have hrd := ((HRD.out.below (HB.out.mono (Nat.le_of_lt hzz))).more (Nat.le_trans (Nat.le_of_lt hzz) hsz))
      have HRW := Lib.hid hrd
      clear hrd
      rcases readChunk_next (bs := bs) (a := (y : Int)) (by rw [HL.out]; omega) with ⟨cd, ix, hcd, hq⟩ | ⟨x, y', hq, hy1, hy2⟩
      · have HN := Lib.hid hq
        have HE := Lib.hid (show r0 = ([], 0, cd, ix) by rw [HRES.out, HJ.out]; exact rdL_fault hq hcd acc)
        clear hq
        go_wp2_with fail
        refine (readChunk_calls HRW.out (y : Int) (by omega) hnc).mono ?_
        rintro e w3 ⟨A3, c3, rfl, hown3, hb3⟩
        rw [HN.out]
        obtain ⟨z, c0, c1, f0, f1⟩ := (HF.out.below HB.out hzz).below hb3 (Nat.lt_of_lt_of_le hzz hsz)
        have hb0 := chain HBWR.out hb3
        clear hb3 hown3
        go_wp2
        go_region
        all_goals go_wp2
        refine bodyPost_ret (v := .tuple #[.slice none 0 0, .int .i64 (0), .agg #[.int .i64 cd, .int .i64 ix]]) (by simp [results, Try.results39, go_sem, c0, c1, z]) rfl ?_
        rw [HE.out]
        exact chs_none _ _ (((hb0.setCell (p := ⟨w.heap.size, 0, none⟩) (Nat.le_refl _) _).setCell (p := ⟨w.heap.size, 1, none⟩) (Nat.le_refl _) _).alloc (by simp [World.setCell]; omega) _).drew
      · rw [HL.out] at hy2
        have HN := Lib.hid hq
        have HE := Lib.hid (show r0 = app (acc ++ [x]) (rdL (readChunk bs) j (y' : Int)) by rw [HRES.out, HJ.out]; exact rdL_step hq acc)
        clear hq
        go_wp2_with fail
        refine (readChunk_calls HRW.out (y : Int) (by omega) hnc).mono ?_
        rintro e w3 ⟨A3, c3, rfl, hown3, hb3⟩
        rw [HN.out] at hown3 ⊢
        have hz3 := hb3.size
        obtain ⟨vs, hvs, hvl, hvin⟩ := (HOWN.out.below hb3 (Nat.le_refl _)).alloc (Obj.cells #[Value.int IntKind.i64 0, Value.int IntKind.i64 0] 28)
        have HVL := Lib.hid hvl
        have HVIN := Lib.hid hvin
        have HX3 := Lib.hid (own_mono (hown3.alloc (Obj.cells #[Value.int IntKind.i64 0, Value.int IntKind.i64 0] 28)) hsz)
        have HB3 := Lib.hid (HB.out.trans (hb3.mono hsz))
        clear hb3 hown3 hvl hvin
        go_wp2_with (at_builtin
                     refine wpList_app1G _ slC rfl (.tmp 55) (.tmp 57) rfl W0.heap.size A2 acc.length c2 vs rfl hvs _ _ rfl (by simp) rfl (by omega) (by simp; omega) ?_
                     intro A4 c4 w4 hown4 hg4 hb4)
        go_roundw
        case rel => exact ⟨acc ++ [x], y', A4, c4, by simp, rfl, by simp, OwnC.snoc hvs HVL.out HVIN.out HX3.out hg4 hown4, (HB3.out.alloc (by omega) (Obj.cells #[Value.int IntKind.i64 0, Value.int IntKind.i64 0] 28)).trans hb4, by simp; omega, by rw [HL.out]; exact hy2, by simp; omega, by rw [HE.out, show k - (acc ++ [x]).length = j by have := HJ.out; simp; omega]⟩
        case measure => simp [intOf]; omega
    · have HE := Lib.hid (show r0 = (acc, (y : Int), 0, 0) by rw [HRES.out, show k - acc.length = 0 by omega]; exact rdL_end acc)
      obtain ⟨z, c0, c1, f0, f1⟩ := HF.out.below HB.out hzz
      go_wp2_with fail
      refine bodyPost_ret (v := .tuple #[.slice A2 acc.length c2, .int .i64 (y), .agg #[.int .i64 0, .int .i64 0]]) (by simp [results, Try.results39, go_sem, c0, c1, z]) rfl ?_
      rw [HE.out]
      exact chs_some HOWN.out hzz HBWR.out

theorem readChs_calls {w : World} {A : Option Addr} {n c : Nat} {bs : List UInt8} (h : Rd w w.heap.size 1 A n (bv bs)) (at_ most : Int) (hn : n ≤ 16777216) (hnc : n ≤ c) :
    Calls Try.prog 39 #[.slice A n c, .int .i64 at_, .int .i64 most, .func (.func 20) #[] #[]] w (ChsEnd w (readL (readChunk bs) bs at_ most)) := by
  have hl : bs.length = n := by have := h.len; rw [bv_len] at this; exact this
  rcases readNum_next (bs := bs) (a := at_) (by omega) with ⟨cd, ix, hcd, hr⟩ | ⟨x, y, hr, _, hy, hx1, hx2⟩
  · rw [readL_fault hr hcd]
    exact readChs_fault h at_ most hn hnc hr hcd
  · by_cases h0 : x < 0
    · rw [readL_range hr (.inl h0)]
      exact readChs_neg h at_ most hn hnc hr h0
    · by_cases hm : most < x
      · rw [readL_range hr (.inr hm)]
        exact readChs_much h at_ most hn hnc hr (by omega) hm
      · obtain ⟨k, rfl⟩ := Int.eq_ofNat_of_zero_le (show 0 ≤ x by omega)
        rw [readL_go hr (by omega)]
        exact readChs_go h at_ most hn hnc hr (by omega) hx2 (by omega)
end Go.Proofs.Ytdandbhjmckmiaa
