/-
  The contracts of wire.ReadList, of the reference's GetList and of the comparison of lists of byte strings.
-/
import Derived.Test.YtdandbhjmckmiaaWireReadC
namespace Go.Proofs.Ytdandbhjmckmiaa
open Go.RowKit
set_option linter.unusedVariables false
set_option linter.unusedSimpArgs false

/-- what the readers of a whole list answer -/
def readList (bs : List UInt8) : List (List UInt8) × Int × Int :=
  if (readL (readChunk bs) bs 0 (bs.length : Int)).2.2.1 ≠ 0 then ([], (readL (readChunk bs) bs 0 (bs.length : Int)).2.2.1, (readL (readChunk bs) bs 0 (bs.length : Int)).2.2.2)
  else if (readL (readChunk bs) bs 0 (bs.length : Int)).2.1 < (bs.length : Int) then ([], 1, (readL (readChunk bs) bs 0 (bs.length : Int)).2.1)
  else ((readL (readChunk bs) bs 0 (bs.length : Int)).1, 0, 0)
theorem lst_good {w w1 : World} {A : Option Addr} {c : Nat} {l : List (List UInt8)} {u v : Value} {o o' : Obj} (h : OwnC w1 (w.alloc o').heap.size A c l)
    (hz : w.heap.size < w1.heap.size) (hb : Below w.heap.size w w1) : ListEnd w (l, 0, 0) (.returned (.tuple #[.slice A l.length c, .agg #[.int .i64 0, .int .i64 0]])) (((w1.setCell ⟨w.heap.size, 0, none⟩ u).setCell ⟨w.heap.size, 1, none⟩ v).alloc o) :=
  ⟨A, c, rfl, (((h.setCell (a := ⟨w.heap.size, 0, none⟩) (by simp) u).setCell (a := ⟨w.heap.size, 1, none⟩) (by simp) v).alloc o).mono (by simp), ((hb.setCell (p := ⟨w.heap.size, 0, none⟩) (Nat.le_refl _) _).setCell (p := ⟨w.heap.size, 1, none⟩) (Nat.le_refl _) _).alloc (by simp [World.setCell]; omega) o⟩
theorem readList_fault {bs : List UInt8} {l : List (List UInt8)} {y c i : Int} (h : readL (readChunk bs) bs 0 (bs.length : Int) = (l, y, c, i)) (hc : c ≠ 0) : readList bs = ([], c, i) := by
  unfold readList; rw [h]; simp [hc]
theorem readList_short {bs : List UInt8} {l : List (List UInt8)} {y i : Int} (h : readL (readChunk bs) bs 0 (bs.length : Int) = (l, y, 0, i)) (hy : y < (bs.length : Int)) : readList bs = ([], 1, y) := by
  unfold readList; rw [h]; simp [hy]
theorem readList_whole {bs : List UInt8} {l : List (List UInt8)} {y i : Int} (h : readL (readChunk bs) bs 0 (bs.length : Int) = (l, y, 0, i)) (hy : ¬ y < (bs.length : Int)) : readList bs = (l, 0, 0) := by
  unfold readList; rw [h]; simp only []; rw [if_neg (by simp), if_neg hy]
theorem rdC_or {bs : List UInt8} (hl : bs.length ≤ 9223372036854775807) (k : Nat) : ∀ y : Nat, y ≤ bs.length →
    (∃ c i, c ≠ 0 ∧ rdL (readChunk bs) k (y : Int) = ([], 0, c, i)) ∨ ∃ (l : List (List UInt8)) (y' : Nat), rdL (readChunk bs) k (y : Int) = (l, (y' : Int), 0, 0) ∧ l.length = k ∧ y + tot l ≤ y' ∧ y' ≤ bs.length := by
  induction k with
  | zero => intro y hy; exact .inr ⟨[], y, rfl, rfl, by simp [tot], hy⟩
  | succ k ih =>
    intro y hy
    rcases readChunk_next (bs := bs) (a := (y : Int)) hl with ⟨cd, ix, hcd, hr⟩ | ⟨x, y', hr, h1, h2⟩
    · have := rdL_fault (k := k) hr hcd []
      rw [app_nil] at this
      exact .inl ⟨cd, ix, hcd, this⟩
    · have := rdL_step (k := k) hr []
      rw [app_nil] at this
      rw [this]
      rcases ih y' h2 with ⟨c, i, hc, e⟩ | ⟨l, z, e, e1, e2, e3⟩
      · exact .inl ⟨c, i, hc, by rw [e]; unfold app; rw [if_pos hc]⟩
      · refine .inr ⟨x :: l, z, by rw [e]; unfold app; rw [if_neg (by simp)]; simp, by simp [e1], by simp only [tot]; omega, e3⟩
theorem readLC_or {bs : List UInt8} (hl : bs.length ≤ 9223372036854775807) (a most : Int) :
    (∃ c i, c ≠ 0 ∧ readL (readChunk bs) bs a most = ([], 0, c, i)) ∨ ∃ (l : List (List UInt8)) (y : Nat), readL (readChunk bs) bs a most = (l, (y : Int), 0, 0) ∧ tot l ≤ y ∧ y ≤ bs.length := by
  rcases readNum_next (bs := bs) (a := a) hl with ⟨cd, ix, hcd, hr⟩ | ⟨x, y, hr, _, hy, _⟩
  · exact .inl ⟨cd, ix, hcd, readL_fault hr hcd⟩
  · by_cases h : x < 0 ∨ most < x
    · exact .inl ⟨4, a, by omega, readL_range hr h⟩
    · obtain ⟨k, rfl⟩ := Int.eq_ofNat_of_zero_le (show 0 ≤ x by omega)
      rw [readL_go hr (by omega), app_nil]
      rcases rdC_or hl k y hy with ⟨c, i, hc, e⟩ | ⟨l, z, e, e1, e2, e3⟩
      · exact .inl ⟨c, i, hc, e⟩
      · exact .inr ⟨l, z, e, by omega, e3⟩

set_option maxRecDepth 100000 in
set_option maxHeartbeats 1000000 in
theorem readList_bad {w : World} {A : Option Addr} {n c : Nat} {bs : List UInt8} (h : Rd w w.heap.size 1 A n (bv bs)) (hn : n ≤ 16777216) (hnc : n ≤ c) {l : List (List UInt8)} {y cd ix : Int} (hr : readL (readChunk bs) bs 0 (n : Int) = (l, y, cd, ix)) (hcd : cd ≠ 0) :
    Calls Try.prog 31 #[.slice A n c] w (ListEnd w ([], cd, ix)) := by
  have HQ := Lib.hid hr
  clear hr
  go_enter Try.func31, Try.ntmps31
  go_wp2_with fail
  refine (readChs_calls ((h.alloc (Nat.le_refl _) (Obj.cells #[Value.int IntKind.i64 0, Value.int IntKind.i64 0] 28)).more (by simp)) 0 (n : Int) hn hnc).mono ?_
  rintro e w1 ⟨A1, c1', rfl, hown1, hb1⟩
  rw [HQ.out] at hown1 ⊢
  obtain ⟨hb0, hf⟩ := fr_after hb1
  clear hb1 hown1
  obtain ⟨z, c0, c1, f0, f1⟩ := hf
  go_wp2
  go_region
  all_goals go_wp2
  refine bodyPost_ret (v := .tuple #[.slice none 0 0, .agg #[.int .i64 cd, .int .i64 ix]]) (by simp [results, Try.results31, go_sem, c0, c1, z]) rfl ?_
  exact lst_none _ _ (((hb0.setCell (p := ⟨w.heap.size, 0, none⟩) (Nat.le_refl _) _).setCell (p := ⟨w.heap.size, 1, none⟩) (Nat.le_refl _) _).alloc (by simp [World.setCell]; omega) _).drew
set_option maxRecDepth 100000 in
set_option maxHeartbeats 1000000 in
theorem readList_part {w : World} {A : Option Addr} {n c : Nat} {bs : List UInt8} (h : Rd w w.heap.size 1 A n (bv bs)) (hn : n ≤ 16777216) (hnc : n ≤ c) {l : List (List UInt8)} {y : Int} (hr : readL (readChunk bs) bs 0 (n : Int) = (l, y, 0, 0)) (hy : y < (n : Int)) :
    Calls Try.prog 31 #[.slice A n c] w (ListEnd w ([], 1, y)) := by
  have HQ := Lib.hid hr
  clear hr
  go_enter Try.func31, Try.ntmps31
  go_wp2_with fail
  refine (readChs_calls ((h.alloc (Nat.le_refl _) (Obj.cells #[Value.int IntKind.i64 0, Value.int IntKind.i64 0] 28)).more (by simp)) 0 (n : Int) hn hnc).mono ?_
  rintro e w1 ⟨A1, c1', rfl, hown1, hb1⟩
  rw [HQ.out] at hown1 ⊢
  obtain ⟨hb0, hf⟩ := fr_after hb1
  clear hb1 hown1
  obtain ⟨z, c0, c1, f0, f1⟩ := hf
  go_wp2_with (go_at_call 35; refine (fault_calls _ _ _).mono ?_; rintro e w' ⟨rfl, rfl⟩)
  refine bodyPost_ret (v := .tuple #[.slice none 0 0, .agg #[.int .i64 1, .int .i64 y]]) (by simp [results, Try.results31, go_sem, c0, c1, z]) rfl ?_
  exact lst_none _ _ ((((hb0.setCell (p := ⟨w.heap.size, 0, none⟩) (Nat.le_refl _) _).setCell (p := ⟨w.heap.size, 1, none⟩) (Nat.le_refl _) _).alloc (by simp [World.setCell]; omega) _).alloc (by simp [World.setCell]; omega) _)
set_option maxRecDepth 100000 in
set_option maxHeartbeats 1000000 in
theorem readList_good {w : World} {A : Option Addr} {n c : Nat} {bs : List UInt8} (h : Rd w w.heap.size 1 A n (bv bs)) (hn : n ≤ 16777216) (hnc : n ≤ c) {l : List (List UInt8)} {y : Int} (hr : readL (readChunk bs) bs 0 (n : Int) = (l, y, 0, 0)) (hy : ¬ y < (n : Int)) :
    Calls Try.prog 31 #[.slice A n c] w (ListEnd w (l, 0, 0)) := by
  have HQ := Lib.hid hr
  clear hr
  go_enter Try.func31, Try.ntmps31
  go_wp2_with fail
  refine (readChs_calls ((h.alloc (Nat.le_refl _) (Obj.cells #[Value.int IntKind.i64 0, Value.int IntKind.i64 0] 28)).more (by simp)) 0 (n : Int) hn hnc).mono ?_
  rintro e w1 ⟨A1, c1', rfl, hown1, hb1⟩
  rw [HQ.out] at hown1 ⊢
  have HOWN := Lib.hid hown1
  obtain ⟨hb0, hf⟩ := fr_after hb1
  clear hb1 hown1
  obtain ⟨z, c0, c1, f0, f1⟩ := hf
  go_wp2_with fail
  refine bodyPost_ret (v := .tuple #[.slice A1 l.length c1', .agg #[.int .i64 0, .int .i64 0]]) (by simp [results, Try.results31, go_sem, c0, c1, z]) rfl ?_
  exact lst_good HOWN.out z hb0
theorem readList_calls {w : World} {A : Option Addr} {n c : Nat} {bs : List UInt8} (h : Rd w w.heap.size 1 A n (bv bs)) (hn : n ≤ 16777216) (hnc : n ≤ c) : Calls Try.prog 31 #[.slice A n c] w (ListEnd w (readList bs)) := by
  have hl : bs.length = n := by have := h.len; rw [bv_len] at this; exact this
  rcases readLC_or (bs := bs) (by omega) 0 (bs.length : Int) with ⟨cd, ix, hcd, hr⟩ | ⟨l, y, hr, _, hy⟩
  · rw [readList_fault hr hcd]
    rw [hl] at hr
    exact readList_bad h hn hnc hr hcd
  · by_cases hlt : (y : Int) < (bs.length : Int)
    · rw [readList_short hr hlt]
      rw [hl] at hr hlt
      exact readList_part h hn hnc hr hlt
    · rw [readList_whole hr hlt]
      rw [hl] at hr hlt
      exact readList_good h hn hnc hr hlt

set_option maxRecDepth 100000 in
set_option maxHeartbeats 1000000 in
theorem getList_fault {w : World} {A : Option Addr} {n c : Nat} {bs : List UInt8} (h : Rd w w.heap.size 1 A n (bv bs)) (hn : n ≤ 16777216) (hnc : n ≤ c) {cd ix : Int} (hr : readNum bs 0 = (0, 0, cd, ix)) (hcd : cd ≠ 0) :
    Calls Try.prog 32 #[.slice A n c] w (ListEnd w ([], cd, ix)) := by
  have HQ := Lib.hid hr
  have hcd' : (cd != 0) = true := by simp [hcd]
  clear hr hcd
  go_enter Try.func32, Try.ntmps32
  go_wp2_with fail
  refine (get_calls ((h.alloc (Nat.le_refl _) (Obj.cells #[Value.int IntKind.i64 0, Value.int IntKind.i64 0] 28)).more (by simp)) 0 (by simp only [maxLen]; omega)).mono ?_
  rintro e w1 ⟨rfl, hb1⟩
  rw [HQ.out]
  obtain ⟨hb0, hf⟩ := fr_after hb1
  clear hb1
  obtain ⟨z, c0, c1, f0, f1⟩ := hf
  go_wp2_with (first | (go_at_call 34; refine (in_calls _ _ _ _).mono ?_; rintro e w' ⟨rfl, rfl⟩))
  go_region
  all_goals go_wp2
  refine bodyPost_ret (v := .tuple #[.slice none 0 0, .agg #[.int .i64 cd, .int .i64 ix]]) (by simp [results, Try.results32, go_sem, c0, c1, z]) rfl ?_
  exact lst_none _ _ (((hb0.setCell (p := ⟨w.heap.size, 0, none⟩) (Nat.le_refl _) _).setCell (p := ⟨w.heap.size, 1, none⟩) (Nat.le_refl _) _).alloc (by simp [World.setCell]; omega) _).drew
set_option maxRecDepth 100000 in
set_option maxHeartbeats 1000000 in
theorem getList_range {w : World} {A : Option Addr} {n c : Nat} {bs : List UInt8} (h : Rd w w.heap.size 1 A n (bv bs)) (hn : n ≤ 16777216) (hnc : n ≤ c) {x nx : Int} (hr : readNum bs 0 = (x, nx, 0, 0)) (hx : x < 0 ∨ (n : Int) < x) :
    Calls Try.prog 32 #[.slice A n c] w (ListEnd w ([], 4, 0)) := by
  have HQ := Lib.hid hr
  have hd : (decide ((0 : Int) ≤ x) && decide (x ≤ (n : Int))) = false := by simp; omega
  clear hr hx
  go_enter Try.func32, Try.ntmps32
  go_wp2_with fail
  refine (get_calls ((h.alloc (Nat.le_refl _) (Obj.cells #[Value.int IntKind.i64 0, Value.int IntKind.i64 0] 28)).more (by simp)) 0 (by simp only [maxLen]; omega)).mono ?_
  rintro e w1 ⟨rfl, hb1⟩
  rw [HQ.out]
  obtain ⟨hb0, hf⟩ := fr_after hb1
  clear hb1
  obtain ⟨z, c0, c1, f0, f1⟩ := hf
  go_wp2_with (first | (go_at_call 36; refine (at_calls _ _ _).mono ?_; rintro e w' ⟨rfl, rfl⟩) | (go_at_call 34; refine (in_calls _ _ _ _).mono ?_; rintro e w' ⟨rfl, rfl⟩))
  refine bodyPost_ret (v := .tuple #[.slice none 0 0, .agg #[.int .i64 4, .int .i64 0]]) (by simp [results, Try.results32, go_sem, c0, c1, z]) rfl ?_
  exact lst_none _ _ ((((hb0.setCell (p := ⟨w.heap.size, 0, none⟩) (Nat.le_refl _) _).setCell (p := ⟨w.heap.size, 1, none⟩) (Nat.le_refl _) _).alloc (by simp [World.setCell]; omega) _).alloc (by simp [World.setCell]; omega) _)
set_option maxRecDepth 100000 in
set_option maxHeartbeats 1000000 in
theorem getList_go {w : World} {A : Option Addr} {n c : Nat} {bs : List UInt8} (h : Rd w w.heap.size 1 A n (bv bs)) (hn : n ≤ 16777216) (hnc : n ≤ c) {k y0 : Nat} (hr : readNum bs 0 = ((k : Int), (y0 : Int), 0, 0)) (hk : k ≤ n) (hy0 : y0 ≤ n) (hrl : readL (readChunk bs) bs 0 (bs.length : Int) = app [] (rdL (readChunk bs) k y0)) :
    Calls Try.prog 32 #[.slice A n c] w (ListEnd w (readList bs)) := by
  have HQ := Lib.hid hr
  have HRL := Lib.hid hrl
  have hl : bs.length = n := by have := h.len; rw [bv_len] at this; exact this
  have HL := Lib.hid hl
  have hd : (decide ((0 : Int) ≤ (k : Int)) && decide ((k : Int) ≤ (n : Int))) = true := by simp; omega
  have hd0 : decide (k ≤ n) = true := decide_eq_true hk
  clear hr hl hrl
  go_enter Try.func32, Try.ntmps32
  go_wp2_with fail
  refine (get_calls ((h.alloc (Nat.le_refl _) (Obj.cells #[Value.int IntKind.i64 0, Value.int IntKind.i64 0] 28)).more (by simp)) 0 (by simp only [maxLen]; omega)).mono ?_
  rintro e w1 ⟨rfl, hb1⟩
  rw [HQ.out]
  obtain ⟨hb0, hf⟩ := fr_after hb1
  clear hb1
  have HRD := Lib.hid (h.below (hb0.alloc hb0.size (Obj.cells #[Value.int IntKind.i64 0, Value.int IntKind.i64 0] 28)))
  have HF := Lib.hid (hf.alloc (Obj.cells #[Value.int IntKind.i64 0, Value.int IntKind.i64 0] 28))
  have HBW := Lib.hid (hb0.alloc hb0.size (Obj.cells #[Value.int IntKind.i64 0, Value.int IntKind.i64 0] 28))
  clear h hf hb0
  go_wp2_with (first | (go_at_call 34; refine (in_calls _ _ _ _).mono ?_; rintro e w' ⟨rfl, rfl⟩))
  generalize (w1.alloc (Obj.cells #[Value.int IntKind.i64 0, Value.int IntKind.i64 0] 28)) = W0 at *
  have hzz : w.heap.size < W0.heap.size := HF.out.1
  generalize hr0 : app [] (rdL (readChunk bs) k (y0 : Int)) = r0 at *
  have HR := Lib.hid hr0
  clear hr0
  go_loopw [5, 7, 8] (fun nx v ix wr => ChsRel W0 bs k r0 v nx ix wr) (fun _ _ ix _ => k - (intOf ix).toNat)
  case atStart => exact ⟨[], y0, none, 0, rfl, rfl, rfl, OwnC.nil _ _, Below.refl _ _, Nat.zero_le _, by rw [HL.out]; exact hy0, Nat.zero_le _, HR.out.symm⟩
  case round =>
    obtain ⟨acc, y, A2, c2, rfl, rfl, rfl, hown, hb, hay, hyn, hak, hres⟩ := hrel
    have HB := Lib.hid hb
    have HRES := Lib.hid hres
    have hsz := hb.size
    rw [HL.out] at hyn
    have hbw := chain' HBW.out hb (Nat.le_of_lt hzz)
    have HBWR := Lib.hid hbw
    have HOWN := Lib.hid hown
    clear hres hb hbw hown
    by_cases hlt : acc.length < k
    · have hlti : (acc.length : Int) < (k : Int) := by omega
      obtain ⟨j, hj⟩ : ∃ j, k - acc.length = j + 1 := ⟨k - acc.length - 1, by omega⟩
      have HJ := Lib.hid hj
      clear hj
      have hrd := ((HRD.out.below (HB.out.mono (Nat.le_of_lt hzz))).more (Nat.le_trans (Nat.le_of_lt hzz) hsz))
      have HRW := Lib.hid hrd
      clear hrd
      rcases readChunk_next (bs := bs) (a := (y : Int)) (by rw [HL.out]; omega) with ⟨cd, ix, hcd, hq⟩ | ⟨x, y', hq, hy1, hy2⟩
      · have HN := Lib.hid hq
        have HE := Lib.hid (show r0 = ([], 0, cd, ix) by rw [HRES.out, HJ.out]; exact rdL_fault hq hcd acc)
        clear hq
        have hcd' : (cd != 0) = true := by simp [hcd]
        have HCD := Lib.hid hcd
        clear hcd
        go_wp2_with fail
        refine (getChunk_calls HRW.out (y : Int) (by omega) hnc).mono ?_
        rintro e w3 ⟨A3, c3, rfl, hown3, hb3⟩
        rw [HN.out]
        obtain ⟨z, c0, c1, f0, f1⟩ := (HF.out.below HB.out hzz).below hb3 (Nat.lt_of_lt_of_le hzz hsz)
        have hb0 := chain HBWR.out hb3
        clear hb3 hown3
        go_wp2
        go_region
        all_goals go_wp2
        refine bodyPost_ret (v := .tuple #[.slice none 0 0, .agg #[.int .i64 cd, .int .i64 ix]]) (by simp [results, Try.results32, go_sem, c0, c1, z]) rfl ?_
        rw [readList_fault (HRL.out.trans HE.out) HCD.out]
        exact lst_none _ _ (((hb0.setCell (p := ⟨w.heap.size, 0, none⟩) (Nat.le_refl _) _).setCell (p := ⟨w.heap.size, 1, none⟩) (Nat.le_refl _) _).alloc (by simp [World.setCell]; omega) _).drew
      · rw [HL.out] at hy2
        have HN := Lib.hid hq
        have HE := Lib.hid (show r0 = app (acc ++ [x]) (rdL (readChunk bs) j (y' : Int)) by rw [HRES.out, HJ.out]; exact rdL_step hq acc)
        clear hq
        go_wp2_with fail
        refine (getChunk_calls HRW.out (y : Int) (by omega) hnc).mono ?_
        rintro e w3 ⟨A3, c3, rfl, hown3, hb3⟩
        rw [HN.out] at hown3 ⊢
        have hz3 := hb3.size
        obtain ⟨vs, hvs, hvl, hvin⟩ := (HOWN.out.below hb3 (Nat.le_refl _)).alloc (Obj.cells #[Value.int IntKind.i64 0, Value.int IntKind.i64 0] 28)
        have HVL := Lib.hid hvl
        have HVIN := Lib.hid hvin
        have HX3 := Lib.hid (own_mono (hown3.alloc (Obj.cells #[Value.int IntKind.i64 0, Value.int IntKind.i64 0] 28)) hsz)
        have HB3 := Lib.hid (HB.out.trans (hb3.mono hsz))
        clear hb3 hown3 hvl hvin
        go_wp2_with (at_builtin
                     refine wpList_app1G _ slC rfl (.tmp 44) (.tmp 46) rfl W0.heap.size A2 acc.length c2 vs rfl hvs _ _ rfl (by simp) rfl (by omega) (by simp; omega) ?_
                     intro A4 c4 w4 hown4 hg4 hb4)
        go_roundw
        case rel => exact ⟨acc ++ [x], y', A4, c4, by simp, rfl, by simp, OwnC.snoc hvs HVL.out HVIN.out HX3.out hg4 hown4, (HB3.out.alloc (by omega) (Obj.cells #[Value.int IntKind.i64 0, Value.int IntKind.i64 0] 28)).trans hb4, by simp; omega, by rw [HL.out]; exact hy2, by simp; omega, by rw [HE.out, show k - (acc ++ [x]).length = j by have := HJ.out; simp; omega]⟩
        case measure => simp [intOf]; omega
    · have HE := Lib.hid (show r0 = (acc, (y : Int), 0, 0) by rw [HRES.out, show k - acc.length = 0 by omega]; exact rdL_end acc)
      obtain ⟨z, c0, c1, f0, f1⟩ := HF.out.below HB.out hzz
      by_cases hyl : y = n
      · have hdd : ((y : Int) != (n : Int)) = false := by simp [hyl]
        have HY := Lib.hid hyl
        clear hyl
        go_wp2_with fail
        refine bodyPost_ret (v := .tuple #[.slice A2 acc.length c2, .agg #[.int .i64 0, .int .i64 0]]) (by simp [results, Try.results32, go_sem, c0, c1, z]) rfl ?_
        rw [readList_whole (HRL.out.trans HE.out) (by have := HY.out; rw [HL.out]; omega)]
        exact lst_some HOWN.out hzz HBWR.out
      · have hdd : ((y : Int) != (n : Int)) = true := by simp; omega
        have HY := Lib.hid hyl
        clear hyl
        have hb0 := HBWR.out
        go_wp2_with (go_at_call 36; refine (at_calls _ _ _).mono ?_; rintro e w' ⟨rfl, rfl⟩)
        refine bodyPost_ret (v := .tuple #[.slice none 0 0, .agg #[.int .i64 1, .int .i64 y]]) (by simp [results, Try.results32, go_sem, c0, c1, z]) rfl ?_
        rw [readList_short (HRL.out.trans HE.out) (by have := HY.out; rw [HL.out]; omega)]
        exact lst_none _ _ (((hb0.setCell (p := ⟨w.heap.size, 0, none⟩) (Nat.le_refl _) _).setCell (p := ⟨w.heap.size, 1, none⟩) (Nat.le_refl _) _).alloc (by simp [World.setCell]; omega) _)

theorem getList_calls {w : World} {A : Option Addr} {n c : Nat} {bs : List UInt8} (h : Rd w w.heap.size 1 A n (bv bs)) (hn : n ≤ 16777216) (hnc : n ≤ c) : Calls Try.prog 32 #[.slice A n c] w (ListEnd w (readList bs)) := by
  have hl : bs.length = n := by have := h.len; rw [bv_len] at this; exact this
  rcases readNum_next (bs := bs) (a := 0) (by omega) with ⟨cd, ix, hcd, hr⟩ | ⟨x, y, hr, _, hy, hx1, hx2⟩
  · rw [readList_fault (readL_fault hr hcd) hcd]
    exact getList_fault h hn hnc hr hcd
  · by_cases h0 : x < 0 ∨ (n : Int) < x
    · rw [readList_fault (readL_range hr (by rw [hl]; exact h0)) (by decide)]
      exact getList_range h hn hnc hr h0
    · obtain ⟨k, rfl⟩ := Int.eq_ofNat_of_zero_le (show 0 ≤ x by omega)
      exact getList_go h hn hnc hr (by omega) (by omega) (readL_go hr (by omega))
end Go.Proofs.Ytdandbhjmckmiaa
