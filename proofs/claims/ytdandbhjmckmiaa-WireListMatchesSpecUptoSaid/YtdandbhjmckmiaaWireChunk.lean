/-
  The contracts of copies and joins of byte strings, of wire.Chunk and PutChunk, of wire.ReadChunk and GetChunk.
-/
import Derived.Test.YtdandbhjmckmiaaWirePut
import Derived.Test.YtdandbhjmckmiaaWireMath2
import Derived.Test.YtdandbhjmckmiaaWireGet
import Derived.RegionTactic
namespace Go.Proofs.Ytdandbhjmckmiaa
open Go.RowKit
set_option linter.unusedVariables false
set_option linter.unusedSimpArgs false

theorem Made.intro {w w' : World} {A : Option Addr} {n c : Nat} {bs : List UInt8} {xs : List Value} (h : w'.ownsRow w.heap.size 5 1 (.slice A n c) n xs) (hx : xs = bv bs) (hb : Below w.heap.size w w') : Made w bs (.returned (.slice A n c)) w' := by
  subst hx
  have hn : n = bs.length := by have := h.1; rw [bv_len] at this; omega
  subst hn
  exact ⟨A, c, rfl, h, hb⟩

theorem Made.as {w w' : World} {A : Option Addr} {n m c : Nat} {bs : List UInt8} {xs : List Value} (h : w'.ownsRow w.heap.size 5 1 (.slice A m c) m xs) (hn : n = m) (hx : xs = bv bs) (hb : Below w.heap.size w w') : Made w bs (.returned (.slice A n c)) w' := by
  subst hn; exact Made.intro h hx hb

theorem copy_calls {w : World} {B : Nat} {A : Option Addr} {n c : Nat} {bs : List UInt8} (h : Rd w B 1 A n (bv bs)) (hn : n ≤ 140737488355328) :
    Calls Try.prog 37 #[.slice A n c] w (Made w bs) := by
  go_enter Try.func37, Try.ntmps37
  go_wp2_with (at_builtin
               refine wpList_app _ slB rfl (.tmp 4) (.tmp 5) rfl w.heap.size none 0 0 [] rfl (World.ownsRow_nil _ _ _ _) B A n c (bv bs) rfl h (bv_one _) (by omega) (Nat.le_refl _) ?_
               intro A1 c1 w1 hown1 hb1)
  simp only [Nat.zero_add, List.nil_append] at hown1
  go_ret
  exact Made.intro hown1 rfl hb1

theorem join_calls {w : World} {B B' : Nat} {A A' : Option Addr} {n c n' c' : Nat} {a b : List UInt8} (ha : Rd w B 1 A n (bv a)) (hb : Rd w B' 1 A' n' (bv b)) (hB : B' ≤ w.heap.size) (hn : n + n' ≤ 140737488355328) :
    Calls Try.prog 22 #[.slice A n c, .slice A' n' c'] w (Made w (a ++ b)) := by
  have hl : a.length = n := by have := ha.len; rw [bv_len] at this; exact this
  go_enter Try.func22, Try.ntmps22
  go_wp2_with fail
  refine (copy_calls ha (by omega)).mono ?_
  rintro e w1 ⟨A1, c1, rfl, hown1, hb1⟩
  have HB := Lib.hid hb
  have HL := Lib.hid hl
  have hsz := hb1.size
  have hn' : a.length + n' ≤ 140737488355328 := by omega
  clear hb hl
  go_wp2_with (at_builtin
               refine wpList_appB _ slB rfl (.tmp 6) (.tmp 7) rfl w.heap.size A1 a.length c1 (bv a) rfl hown1 B' A' n' c' (bv b) rfl (HB.out.below (hb1.mono hB)) (bv_one _) (by omega) hsz hb1 (Nat.le_refl _) ?_
               intro A2 c2 w2 hown2 _ hb2)
  go_ret
  exact Made.intro hown2 (by rw [bv_app]) hb2

/-- a byte string with its length ahead of it -/
def chunk (bs : List UInt8) : List UInt8 := num (bs.length : Int) ++ bs
theorem chunk_len (bs : List UInt8) (h : bs.length ≤ 140737488355318) : (chunk bs).length ≤ bs.length + 10 := by
  unfold chunk; rw [List.length_append]; have := num_len (bs.length : Int) (by omega) (by omega); omega
theorem chunk_calls {w : World} {A : Option Addr} {n c : Nat} {bs : List UInt8} (h : Rd w w.heap.size 1 A n (bv bs)) (hn : n ≤ 140737488355318) :
    Calls Try.prog 24 #[.slice A n c] w (Made w (chunk bs)) := by
  have hl : bs.length = n := by have := h.len; rw [bv_len] at this; exact this
  unfold chunk
  rw [hl]
  have hnl := num_len (n : Int) (by omega) (by omega)
  go_enter Try.func24, Try.ntmps24
  go_wp2_with fail
  refine (number_calls (n : Int) _ (by omega) (by omega)).mono ?_
  rintro e w1 ⟨A1, c1, rfl, hown1, hb1⟩
  have HB := Lib.hid h
  have HL := Lib.hid hl
  have hsz := hb1.size
  clear h hl
  generalize num (n : Int) = m at *
  go_wp2_with (at_builtin
               refine wpList_appB _ slB rfl (.tmp 5) (.tmp 6) rfl w.heap.size A1 m.length c1 (bv m) rfl hown1 w.heap.size A n c (bv bs) rfl (HB.out.below hb1) (bv_one _) (by omega) hsz hb1 (Nat.le_refl _) ?_
               intro A2 c2 w2 hown2 _ hb2)
  go_ret
  exact Made.intro hown2 (by rw [bv_app]) hb2
theorem putChunk_calls {w : World} {A : Option Addr} {n c : Nat} {bs : List UInt8} (h : Rd w w.heap.size 1 A n (bv bs)) (hn : n ≤ 140737488355318) :
    Calls Try.prog 25 #[.slice A n c] w (Made w (chunk bs)) := by
  have hl : bs.length = n := by have := h.len; rw [bv_len] at this; exact this
  unfold chunk
  rw [hl]
  have hnl := num_len (n : Int) (by omega) (by omega)
  go_enter Try.func25, Try.ntmps25
  go_wp2_with fail
  refine (put_calls (n : Int) _ (by omega) (by omega)).mono ?_
  rintro e w1 ⟨A1, c1, rfl, hown1, hb1⟩
  have HB := Lib.hid h
  have HL := Lib.hid hl
  have hsz := hb1.size
  clear h hl
  generalize num (n : Int) = m at *
  go_wp2_with fail
  refine (join_calls (Rd.of_own hown1) (HB.out.below hb1) hsz (by omega)).mono ?_
  rintro e w2 ⟨A2, c2, rfl, hown2, hb2⟩
  go_wp2
  go_ret
  exact Made.as (own_mono hown2 hsz) (by simp) rfl (hb1.trans (hb2.mono hsz))

/-- what the reader of a byte string at an offset answers -/
def readChunk (bs : List UInt8) (a : Int) : List UInt8 × Int × Int × Int :=
  let r := readNum bs a
  if r.2.2.1 ≠ 0 then ([], 0, r.2.2.1, r.2.2.2)
  else if r.1 < 0 then ([], 0, 4, a)
  else if (bs.length : Int) - r.2.1 < r.1 then ([], 0, 15, a)
  else ((bs.drop r.2.1.toNat).take r.1.toNat, r.2.1 + r.1, 0, 0)
def ChunkEnd (w : World) (r : List UInt8 × Int × Int × Int) (e : Ending) (w' : World) : Prop :=
  ∃ A c, e = .returned (.tuple #[.slice A r.1.length c, .int .i64 r.2.1, (.agg #[.int .i64 r.2.2.1, .int .i64 r.2.2.2])]) ∧ w'.ownsRow w.heap.size 5 1 (.slice A r.1.length c) r.1.length (bv r.1) ∧ Below w.heap.size w w'

/-- what is known of a result's fault behind a call -/
theorem after_fault {w w1 : World} (hb1 : Below (w.alloc (Obj.cells #[Value.int IntKind.i64 0, Value.int IntKind.i64 0] 28)).heap.size (w.alloc (Obj.cells #[Value.int IntKind.i64 0, Value.int IntKind.i64 0] 28)) w1) :
    Below w.heap.size w w1 ∧ w.heap.size < w1.heap.size ∧ w1.cell? ⟨w.heap.size, 0, none⟩ = some (.int .i64 0) ∧ w1.cell? ⟨w.heap.size, 1, none⟩ = some (.int .i64 0) ∧ w1.frozen? ⟨w.heap.size, 0, none⟩ = false ∧ w1.frozen? ⟨w.heap.size, 1, none⟩ = false := by
  refine ⟨((Below.refl _ _).alloc (Nat.le_refl _) _).trans (hb1.mono (by simp)), by have := hb1.size; simp at this; omega, ?_, ?_, ?_, ?_⟩
  · rw [hb1.cell (by simp)]; simp
  · rw [hb1.cell (by simp)]; simp
  · rw [hb1.frozen (by simp)]; simp
  · rw [hb1.frozen (by simp)]; simp
/-- the same behind what makes memory of its own -/
theorem after_more {w w1 w2 : World} {o : Obj} (hz : w.heap.size < w1.heap.size) (hc0 : w1.cell? ⟨w.heap.size, 0, none⟩ = some (.int .i64 0)) (hc1 : w1.cell? ⟨w.heap.size, 1, none⟩ = some (.int .i64 0))
    (hf0 : w1.frozen? ⟨w.heap.size, 0, none⟩ = false) (hf1 : w1.frozen? ⟨w.heap.size, 1, none⟩ = false) (hb : Below (w1.heap.size + 1) (w1.alloc o) w2) :
    w.heap.size < w2.heap.size ∧ w2.cell? ⟨w.heap.size, 0, none⟩ = some (.int .i64 0) ∧ w2.cell? ⟨w.heap.size, 1, none⟩ = some (.int .i64 0) ∧ w2.frozen? ⟨w.heap.size, 0, none⟩ = false ∧ w2.frozen? ⟨w.heap.size, 1, none⟩ = false := by
  have hbb : Below w1.heap.size w1 w2 := ((Below.refl _ _).alloc (Nat.le_refl _) o).trans (hb.mono (by omega))
  have := hbb.size
  refine ⟨by omega, ?_, ?_, ?_, ?_⟩
  · rw [hbb.cell (by exact hz)]; exact hc0
  · rw [hbb.cell (by exact hz)]; exact hc1
  · rw [hbb.frozen (by exact hz)]; exact hf0
  · rw [hbb.frozen (by exact hz)]; exact hf1
theorem bv_cut (bs : List UInt8) (k m : Nat) : ((bv bs).drop (k * 1)).take (m * 1) = bv ((bs.drop k).take m) := by simp [bv]
theorem bv_cut_one (bs : List UInt8) (k m : Nat) : ∀ u ∈ ((bv bs).drop (k * 1)).take (m * 1), u.oneCell' = true := by rw [bv_cut]; exact bv_one _
theorem chunk_some {w w1 w2 : World} {o : Obj} {A : Option Addr} {c x k : Nat} {bs : List UInt8} {u v : Value} (h : w2.ownsRow (w1.heap.size + 1) 5 1 (.slice A x c) x (((bv bs).drop (k * 1)).take (x * 1))) (hl : k + x ≤ bs.length)
    (hb0 : Below w.heap.size w w1) (hb2 : Below (w1.heap.size + 1) (w1.alloc o) w2) : ChunkEnd w ((bs.drop k).take x, (k : Int) + (x : Int), 0, 0) (.returned (.tuple #[.slice A x c, .int .i64 ((k : Int) + (x : Int)), .agg #[.int .i64 0, .int .i64 0]]))
      ((w2.setCell ⟨w.heap.size, 0, none⟩ u).setCell ⟨w.heap.size, 1, none⟩ v) := by
  have e : ((bs.drop k).take x).length = x := by rw [List.length_take, List.length_drop]; omega
  have hs := hb0.size
  rw [bv_cut] at h
  have h' := ownsRow_setCell_below (ownsRow_setCell_below h (a := ⟨w.heap.size, 0, none⟩) (by simp; omega) u) (a := ⟨w.heap.size, 1, none⟩) (by simp; omega) v
  have hbb : Below w.heap.size w w2 := hb0.trans (((Below.refl _ _).alloc hs o).trans (hb2.mono (by omega)))
  refine ⟨A, c, by rw [e], ?_, (hbb.setCell (p := ⟨w.heap.size, 0, none⟩) (Nat.le_refl _) _).setCell (p := ⟨w.heap.size, 1, none⟩) (Nat.le_refl _) _⟩
  rw [e]
  exact own_mono h' (by omega)
theorem chunk_none {w w' : World} (a b : Int) (hb : Below w.heap.size w w') : ChunkEnd w ([], 0, a, b) (.returned (.tuple #[.slice none 0 0, .int .i64 0, .agg #[.int .i64 a, .int .i64 b]])) w' :=
  ⟨none, 0, rfl, World.ownsRow_nil _ _ _ _, hb⟩

set_option maxRecDepth 100000 in
set_option maxHeartbeats 400000 in
theorem readChunk_fault {w : World} {A : Option Addr} {n c : Nat} {bs : List UInt8} (h : Rd w w.heap.size 1 A n (bv bs)) (at_ : Int) (hn : n ≤ 140737488355328) {cd ix : Int} (hr : readNum bs at_ = (0, 0, cd, ix)) (hcd : cd ≠ 0) :
    Calls Try.prog 20 #[.slice A n c, .int .i64 at_] w (ChunkEnd w ([], 0, cd, ix)) := by
  have HQ := Lib.hid hr
  clear hr
  go_enter Try.func20, Try.ntmps20
  go_wp2_with fail
  refine (readNumber_calls ((h.alloc (Nat.le_refl _) (Obj.cells #[Value.int IntKind.i64 0, Value.int IntKind.i64 0] 28)).more (by simp)) at_ (by simp only [maxLen]; omega)).mono ?_
  rintro e w1 ⟨rfl, hb1⟩
  rw [HQ.out]
  obtain ⟨hb0, hz1, hc0, hc1, hf0, hf1⟩ := after_fault hb1
  have HB1 := Lib.hid hb1
  clear hb1
  go_wp2
  go_region
  all_goals go_wp2
  refine bodyPost_ret (v := .tuple #[.slice none 0 0, .int .i64 (0), .agg #[.int .i64 cd, .int .i64 ix]]) (by simp [results, Try.results20, go_sem, hc0, hc1, hz1]) rfl ?_
  exact chunk_none _ _ (((hb0.setCell (p := ⟨w.heap.size, 0, none⟩) (Nat.le_refl _) _).setCell (p := ⟨w.heap.size, 1, none⟩) (Nat.le_refl _) _).alloc (by simp [World.setCell]; omega) _).drew

set_option maxRecDepth 100000 in
set_option maxHeartbeats 400000 in
theorem readChunk_neg {w : World} {A : Option Addr} {n c : Nat} {bs : List UInt8} (h : Rd w w.heap.size 1 A n (bv bs)) (at_ : Int) (hn : n ≤ 140737488355328) {x nx : Int} (hr : readNum bs at_ = (x, nx, 0, 0)) (hx : x < 0) :
    Calls Try.prog 20 #[.slice A n c, .int .i64 at_] w (ChunkEnd w ([], 0, 4, at_)) := by
  have HQ := Lib.hid hr
  clear hr
  go_enter Try.func20, Try.ntmps20
  go_wp2_with fail
  refine (readNumber_calls ((h.alloc (Nat.le_refl _) (Obj.cells #[Value.int IntKind.i64 0, Value.int IntKind.i64 0] 28)).more (by simp)) at_ (by simp only [maxLen]; omega)).mono ?_
  rintro e w1 ⟨rfl, hb1⟩
  rw [HQ.out]
  obtain ⟨hb0, hz1, hc0, hc1, hf0, hf1⟩ := after_fault hb1
  have HB1 := Lib.hid hb1
  clear hb1
  go_wp2_with (go_at_call 35; refine (fault_calls _ _ _).mono ?_; rintro e w' ⟨rfl, rfl⟩)
  refine bodyPost_ret (v := .tuple #[.slice none 0 0, .int .i64 (0), .agg #[.int .i64 4, .int .i64 at_]]) (by simp [results, Try.results20, go_sem, hc0, hc1, hz1]) rfl ?_
  exact chunk_none _ _ ((((hb0.setCell (p := ⟨w.heap.size, 0, none⟩) (Nat.le_refl _) _).setCell (p := ⟨w.heap.size, 1, none⟩) (Nat.le_refl _) _).alloc (by simp [World.setCell]; omega) _).alloc (by simp [World.setCell]; omega) _)

set_option maxRecDepth 100000 in
set_option maxHeartbeats 400000 in
theorem readChunk_trunc {w : World} {A : Option Addr} {n c : Nat} {bs : List UInt8} (h : Rd w w.heap.size 1 A n (bv bs)) (at_ : Int) (hn : n ≤ 140737488355328) {x kj : Nat} (hr : readNum bs at_ = ((x : Int), (kj : Int), 0, 0)) (hk : kj ≤ n) (hx : n < kj + x) :
    Calls Try.prog 20 #[.slice A n c, .int .i64 at_] w (ChunkEnd w ([], 0, 15, at_)) := by
  have HQ := Lib.hid hr
  have hx' : (n : Int) - (kj : Int) < (x : Int) := by omega
  clear hr
  go_enter Try.func20, Try.ntmps20
  go_wp2_with fail
  refine (readNumber_calls ((h.alloc (Nat.le_refl _) (Obj.cells #[Value.int IntKind.i64 0, Value.int IntKind.i64 0] 28)).more (by simp)) at_ (by simp only [maxLen]; omega)).mono ?_
  rintro e w1 ⟨rfl, hb1⟩
  rw [HQ.out]
  obtain ⟨hb0, hz1, hc0, hc1, hf0, hf1⟩ := after_fault hb1
  have HB1 := Lib.hid hb1
  clear hb1
  go_wp2_with (go_at_call 35; refine (fault_calls _ _ _).mono ?_; rintro e w' ⟨rfl, rfl⟩)
  refine bodyPost_ret (v := .tuple #[.slice none 0 0, .int .i64 (0), .agg #[.int .i64 15, .int .i64 at_]]) (by simp [results, Try.results20, go_sem, hc0, hc1, hz1]) rfl ?_
  exact chunk_none _ _ ((((hb0.setCell (p := ⟨w.heap.size, 0, none⟩) (Nat.le_refl _) _).setCell (p := ⟨w.heap.size, 1, none⟩) (Nat.le_refl _) _).alloc (by simp [World.setCell]; omega) _).alloc (by simp [World.setCell]; omega) _)

set_option maxRecDepth 100000 in
set_option maxHeartbeats 400000 in
theorem readChunk_ok {w : World} {A : Option Addr} {n c : Nat} {bs : List UInt8} (h : Rd w w.heap.size 1 A n (bv bs)) (at_ : Int) (hn : n ≤ 140737488355328) {x kj : Nat} (hr : readNum bs at_ = ((x : Int), (kj : Int), 0, 0)) (hc : n ≤ c) (hx : kj + x ≤ n) :
    Calls Try.prog 20 #[.slice A n c, .int .i64 at_] w (ChunkEnd w ((bs.drop kj).take x, (kj : Int) + (x : Int), 0, 0)) := by
  have HQ := Lib.hid hr
  have hx' : ¬ (n : Int) - (kj : Int) < (x : Int) := by omega
  clear hr
  go_enter Try.func20, Try.ntmps20
  go_wp2_with fail
  refine (readNumber_calls ((h.alloc (Nat.le_refl _) (Obj.cells #[Value.int IntKind.i64 0, Value.int IntKind.i64 0] 28)).more (by simp)) at_ (by simp only [maxLen]; omega)).mono ?_
  rintro e w1 ⟨rfl, hb1⟩
  rw [HQ.out]
  obtain ⟨hb0, hz1, hc0, hc1, hf0, hf1⟩ := after_fault hb1
  have HB1 := Lib.hid hb1
  clear hb1
  have hsl : ∀ W : World, (Instr.sliceAt 24 (.slice A n c) (some (.int .i64 (kj : Int))) (some (.int .i64 ((kj : Int) + (x : Int)))) none).run Try.prog W = .ok (.slice (cutA A c kj 1) x (c - kj)) W := fun W => by
    have := run_cut slB A n c kj (kj + x) (by omega) (by omega) W
    rw [show kj + x - kj = x by omega] at this
    exact this
  have HRD := Lib.hid (((h.cut (k := kj) (m := x) hx hc).below hb0).alloc (Nat.le_of_lt hz1) (Obj.cells #[Value.int IntKind.i64 0, Value.int IntKind.i64 0] 28))
  have hd1 : decide ((n : Int) - (kj : Int) < (x : Int)) = false := decide_eq_false (by omega)
  have hxn : decide ((x : Int) < 0) = false := decide_eq_false (by omega)
  go_wp2_with (at_builtin
               refine wpList_app _ slB rfl (.const (.slice none 0 0)) (.tmp 41) rfl (w1.heap.size + 1) none 0 0 [] rfl (World.ownsRow_nil _ _ _ _) w.heap.size (cutA A c kj 1) x (c - kj) _ rfl HRD.out (bv_cut_one _ _ _) (by omega) (by simp) ?_
               intro A2 c2 w2 hown2 hb2
               obtain ⟨hy1, hd0, hd1, hg0, hg1⟩ := after_more hz1 hc0 hc1 hf0 hf1 hb2
               clear hc0 hc1 hf0 hf1 hz1)
  simp only [Nat.zero_add, List.nil_append] at hown2
  refine bodyPost_ret (v := .tuple #[.slice A2 x c2, .int .i64 ((kj : Int) + (x : Int)), .agg #[.int .i64 0, .int .i64 0]]) (by simp [results, Try.results20, go_sem, hd0, hd1, hy1]) rfl ?_
  exact chunk_some hown2 (by have := h.len; rw [bv_len] at this; omega) hb0 hb2

theorem readChunk_calls {w : World} {A : Option Addr} {n c : Nat} {bs : List UInt8} (h : Rd w w.heap.size 1 A n (bv bs)) (at_ : Int) (hn : n ≤ 140737488355328) (hc : n ≤ c) :
    Calls Try.prog 20 #[.slice A n c, .int .i64 at_] w (ChunkEnd w (readChunk bs at_)) := by
  have hl : bs.length = n := by have := h.len; rw [bv_len] at this; exact this
  rcases readNum_or bs at_ (by omega) with ⟨cd, ix, hcd, hr⟩ | ⟨k, y, j, rfl, hdec, hr, hkj, hj, hz⟩
  · rw [show readChunk bs at_ = ([], 0, cd, ix) by unfold readChunk; rw [hr]; simp [hcd]]
    exact readChunk_fault h at_ hn hr hcd
  · by_cases hneg : zag y < 0
    · rw [show readChunk bs k = ([], 0, 4, (k : Int)) by unfold readChunk; rw [hr]; simp [hneg]]
      exact readChunk_neg h k hn hr hneg
    · obtain ⟨x, hx⟩ := Int.eq_ofNat_of_zero_le (show 0 ≤ zag y by omega)
      rw [hx] at hr hneg
      by_cases htr : n < k + j + x
      · rw [show readChunk bs k = ([], 0, 15, (k : Int)) by unfold readChunk; rw [hr]; simp only []; rw [if_neg (by simp), if_neg hneg, if_pos (by omega)]]
        exact readChunk_trunc h k hn hr (by omega) htr
      · rw [show readChunk bs k = ((bs.drop (k + j)).take x, ((k + j : Nat) : Int) + (x : Int), 0, 0) by unfold readChunk; rw [hr]; simp only []; rw [if_neg (by simp), if_neg hneg, if_neg (by omega), Int.toNat_natCast, Int.toNat_natCast]]
        exact readChunk_ok h k hn hr hc (by omega)

set_option maxRecDepth 100000 in
set_option maxHeartbeats 400000 in
theorem getChunk_fault {w : World} {A : Option Addr} {n c : Nat} {bs : List UInt8} (h : Rd w w.heap.size 1 A n (bv bs)) (at_ : Int) (hn : n ≤ 140737488355328) {cd ix : Int} (hr : readNum bs at_ = (0, 0, cd, ix)) (hcd : cd ≠ 0) :
    Calls Try.prog 21 #[.slice A n c, .int .i64 at_] w (ChunkEnd w ([], 0, cd, ix)) := by
  have HQ := Lib.hid hr
  have hcd' : (cd != 0) = true := by simp [hcd]
  clear hr hcd
  go_enter Try.func21, Try.ntmps21
  go_wp2_with fail
  refine (get_calls ((h.alloc (Nat.le_refl _) (Obj.cells #[Value.int IntKind.i64 0, Value.int IntKind.i64 0] 28)).more (by simp)) at_ (by simp only [maxLen]; omega)).mono ?_
  rintro e w1 ⟨rfl, hb1⟩
  rw [HQ.out]
  obtain ⟨hb0, hz1, hc0, hc1, hf0, hf1⟩ := after_fault hb1
  have HB1 := Lib.hid hb1
  clear hb1
  go_wp2
  go_region
  all_goals go_wp2
  refine bodyPost_ret (v := .tuple #[.slice none 0 0, .int .i64 (0), .agg #[.int .i64 cd, .int .i64 ix]]) (by simp [results, Try.results21, go_sem, hc0, hc1, hz1]) rfl ?_
  exact chunk_none _ _ (((hb0.setCell (p := ⟨w.heap.size, 0, none⟩) (Nat.le_refl _) _).setCell (p := ⟨w.heap.size, 1, none⟩) (Nat.le_refl _) _).alloc (by simp [World.setCell]; omega) _).drew

set_option maxRecDepth 100000 in
set_option maxHeartbeats 400000 in
theorem getChunk_neg {w : World} {A : Option Addr} {n c : Nat} {bs : List UInt8} (h : Rd w w.heap.size 1 A n (bv bs)) (at_ : Int) (hn : n ≤ 140737488355328) {x nx : Int} (hr : readNum bs at_ = (x, nx, 0, 0)) (hx : x < 0) :
    Calls Try.prog 21 #[.slice A n c, .int .i64 at_] w (ChunkEnd w ([], 0, 4, at_)) := by
  have HQ := Lib.hid hr
  clear hr
  go_enter Try.func21, Try.ntmps21
  go_wp2_with fail
  refine (get_calls ((h.alloc (Nat.le_refl _) (Obj.cells #[Value.int IntKind.i64 0, Value.int IntKind.i64 0] 28)).more (by simp)) at_ (by simp only [maxLen]; omega)).mono ?_
  rintro e w1 ⟨rfl, hb1⟩
  rw [HQ.out]
  obtain ⟨hb0, hz1, hc0, hc1, hf0, hf1⟩ := after_fault hb1
  have HB1 := Lib.hid hb1
  clear hb1
  go_wp2_with (go_at_call 36; refine (at_calls _ _ _).mono ?_; rintro e w' ⟨rfl, rfl⟩)
  refine bodyPost_ret (v := .tuple #[.slice none 0 0, .int .i64 (0), .agg #[.int .i64 4, .int .i64 at_]]) (by simp [results, Try.results21, go_sem, hc0, hc1, hz1]) rfl ?_
  exact chunk_none _ _ ((((hb0.setCell (p := ⟨w.heap.size, 0, none⟩) (Nat.le_refl _) _).setCell (p := ⟨w.heap.size, 1, none⟩) (Nat.le_refl _) _).alloc (by simp [World.setCell]; omega) _).alloc (by simp [World.setCell]; omega) _)

set_option maxRecDepth 100000 in
set_option maxHeartbeats 400000 in
theorem getChunk_trunc {w : World} {A : Option Addr} {n c : Nat} {bs : List UInt8} (h : Rd w w.heap.size 1 A n (bv bs)) (at_ : Int) (hn : n ≤ 140737488355328) {x kj : Nat} (hr : readNum bs at_ = ((x : Int), (kj : Int), 0, 0)) (hk : kj ≤ n) (hx : n < kj + x) :
    Calls Try.prog 21 #[.slice A n c, .int .i64 at_] w (ChunkEnd w ([], 0, 15, at_)) := by
  have HQ := Lib.hid hr
  have hx' : (n : Int) - (x : Int) < (kj : Int) := by omega
  have hxm : (x : Int) ≤ 9223372036854775807 := by have := readNum_bd hr; omega
  clear hr
  go_enter Try.func21, Try.ntmps21
  go_wp2_with fail
  refine (get_calls ((h.alloc (Nat.le_refl _) (Obj.cells #[Value.int IntKind.i64 0, Value.int IntKind.i64 0] 28)).more (by simp)) at_ (by simp only [maxLen]; omega)).mono ?_
  rintro e w1 ⟨rfl, hb1⟩
  rw [HQ.out]
  obtain ⟨hb0, hz1, hc0, hc1, hf0, hf1⟩ := after_fault hb1
  have HB1 := Lib.hid hb1
  clear hb1
  go_wp2_with (go_at_call 36; refine (at_calls _ _ _).mono ?_; rintro e w' ⟨rfl, rfl⟩)
  refine bodyPost_ret (v := .tuple #[.slice none 0 0, .int .i64 (0), .agg #[.int .i64 15, .int .i64 at_]]) (by simp [results, Try.results21, go_sem, hc0, hc1, hz1]) rfl ?_
  exact chunk_none _ _ ((((hb0.setCell (p := ⟨w.heap.size, 0, none⟩) (Nat.le_refl _) _).setCell (p := ⟨w.heap.size, 1, none⟩) (Nat.le_refl _) _).alloc (by simp [World.setCell]; omega) _).alloc (by simp [World.setCell]; omega) _)

set_option maxRecDepth 100000 in
set_option maxHeartbeats 400000 in
theorem getChunk_ok {w : World} {A : Option Addr} {n c : Nat} {bs : List UInt8} (h : Rd w w.heap.size 1 A n (bv bs)) (at_ : Int) (hn : n ≤ 140737488355328) {x kj : Nat} (hr : readNum bs at_ = ((x : Int), (kj : Int), 0, 0)) (hc : n ≤ c) (hx : kj + x ≤ n) :
    Calls Try.prog 21 #[.slice A n c, .int .i64 at_] w (ChunkEnd w ((bs.drop kj).take x, (kj : Int) + (x : Int), 0, 0)) := by
  have HQ := Lib.hid hr
  have hx' : ¬ (n : Int) - (x : Int) < (kj : Int) := by omega
  have hx2 : ¬ (n : Int) < (x : Int) := by omega
  clear hr
  go_enter Try.func21, Try.ntmps21
  go_wp2_with fail
  refine (get_calls ((h.alloc (Nat.le_refl _) (Obj.cells #[Value.int IntKind.i64 0, Value.int IntKind.i64 0] 28)).more (by simp)) at_ (by simp only [maxLen]; omega)).mono ?_
  rintro e w1 ⟨rfl, hb1⟩
  rw [HQ.out]
  obtain ⟨hb0, hz1, hc0, hc1, hf0, hf1⟩ := after_fault hb1
  have HB1 := Lib.hid hb1
  clear hb1
  have hsl : ∀ W : World, (Instr.sliceAt 24 (.slice A n c) (some (.int .i64 (kj : Int))) (some (.int .i64 ((kj : Int) + (x : Int)))) none).run Try.prog W = .ok (.slice (cutA A c kj 1) x (c - kj)) W := fun W => by
    have := run_cut slB A n c kj (kj + x) (by omega) (by omega) W
    rw [show kj + x - kj = x by omega] at this
    exact this
  have HRD := Lib.hid (((h.cut (k := kj) (m := x) hx hc).below hb0).alloc (Nat.le_of_lt hz1) (Obj.cells #[Value.int IntKind.i64 0, Value.int IntKind.i64 0] 28))
  have hd1 : decide ((n : Int) - (x : Int) < (kj : Int)) = false := decide_eq_false (by omega)
  have hd2 : decide ((n : Int) < (x : Int)) = false := decide_eq_false (by omega)
  have hxn : decide ((x : Int) < 0) = false := decide_eq_false (by omega)
  go_wp2_with fail
  refine (copy_calls (bs := (bs.drop kj).take x) (by rw [← bv_cut]; exact HRD.out) (by omega)).mono ?_
  rintro e w2 ⟨A2, c2, rfl, hown2, hb2⟩
  rw [show ((bs.drop kj).take x).length = x by rw [List.length_take, List.length_drop]; have := h.len; rw [bv_len] at this; omega] at hown2 ⊢
  rw [← bv_cut] at hown2
  simp only [World.size_alloc] at hown2 hb2
  obtain ⟨hy1, hd0, hd1, hg0, hg1⟩ := after_more hz1 hc0 hc1 hf0 hf1 hb2
  clear hc0 hc1 hf0 hf1 hz1
  go_wp2_with fail
  refine bodyPost_ret (v := .tuple #[.slice A2 x c2, .int .i64 ((kj : Int) + (x : Int)), .agg #[.int .i64 0, .int .i64 0]]) (by simp [results, Try.results21, go_sem, hd0, hd1, hy1]) rfl ?_
  exact chunk_some hown2 (by have := h.len; rw [bv_len] at this; omega) hb0 hb2

theorem getChunk_calls {w : World} {A : Option Addr} {n c : Nat} {bs : List UInt8} (h : Rd w w.heap.size 1 A n (bv bs)) (at_ : Int) (hn : n ≤ 140737488355328) (hc : n ≤ c) :
    Calls Try.prog 21 #[.slice A n c, .int .i64 at_] w (ChunkEnd w (readChunk bs at_)) := by
  have hl : bs.length = n := by have := h.len; rw [bv_len] at this; exact this
  rcases readNum_or bs at_ (by omega) with ⟨cd, ix, hcd, hr⟩ | ⟨k, y, j, rfl, hdec, hr, hkj, hj, hz⟩
  · rw [show readChunk bs at_ = ([], 0, cd, ix) by unfold readChunk; rw [hr]; simp [hcd]]
    exact getChunk_fault h at_ hn hr hcd
  · by_cases hneg : zag y < 0
    · rw [show readChunk bs k = ([], 0, 4, (k : Int)) by unfold readChunk; rw [hr]; simp [hneg]]
      exact getChunk_neg h k hn hr hneg
    · obtain ⟨x, hx⟩ := Int.eq_ofNat_of_zero_le (show 0 ≤ zag y by omega)
      rw [hx] at hr hneg
      by_cases htr : n < k + j + x
      · rw [show readChunk bs k = ([], 0, 15, (k : Int)) by unfold readChunk; rw [hr]; simp only []; rw [if_neg (by simp), if_neg hneg, if_pos (by omega)]]
        exact getChunk_trunc h k hn hr (by omega) htr
      · rw [show readChunk bs k = ((bs.drop (k + j)).take x, ((k + j : Nat) : Int) + (x : Int), 0, 0) by unfold readChunk; rw [hr]; simp only []; rw [if_neg (by simp), if_neg hneg, if_neg (by omega), Int.toNat_natCast, Int.toNat_natCast]]
        exact getChunk_ok h k hn hr hc (by omega)
end Go.Proofs.Ytdandbhjmckmiaa
