import Derived.Test.YtgdiadednlajgaaGreatDoorP43
import Derived.Test.YtgdiadednlajgaaGreatDoorP45
import Derived.Deep.QuietTactic
import Derived.BigQuiet
import Derived.Test.YtgdiadednlajgaaGreatDoorP14
import Derived.Test.YtgdiadednlajgaaGreatDoorP22
import Derived.Test.YtgdiadednlajgaaGreatDoorP28
import Derived.Test.YtgdiadednlajgaaGreatDoorP23
namespace Go.Proofs.YtgdiadednlajgaaGreatDoor
open Go.RowKit
set_option linter.unusedVariables false
set_option linter.unusedSimpArgs false
def pr0 : Rl := { bare [108, 105, 115, 116] 6 with count := 1, elem := 2 }
def pr1 : Rl := { bare [110] 2 with size := 1, big := true, mx := 255 }
def pr2 : Rl := { bare [120] 2 with size := 2, mx := 65535 }
def pairsF : List Rl := [pr0, pr1, pr2]
def pairsT : List UInt8 := [108, 105, 115, 116, 32, 99, 111, 117, 110, 116, 101, 100, 32, 110, 32, 120, 10, 110, 32, 110, 117, 109, 98, 101, 114, 32, 49, 32, 98, 105, 103, 32, 48, 32, 50, 53, 53, 10, 120, 32, 110, 117, 109, 98, 101, 114, 32, 50, 32, 108, 105, 116, 116, 108, 101, 32, 48, 32, 54, 53, 53, 51, 53, 10]
def litF : List Rl := [{ bare [97] 1 with bs := [65, 66] }]
def litT : List UInt8 := [97, 32, 108, 105, 116, 101, 114, 97, 108, 32, 52, 49, 52, 50, 10]
def blobT : List UInt8 := [97, 32, 98, 108, 111, 98, 32, 98, 10]
set_option maxRecDepth 1000000 in
theorem pairs_check : checkF pairsF = (0, 0) := by kernel_rfl
set_option maxRecDepth 1000000 in
theorem pairs_text : textF pairsF = pairsT := by kernel_rfl
set_option maxRecDepth 1000000 in
theorem lit_check : checkF litF = (0, 0) := by kernel_rfl
set_option maxRecDepth 1000000 in
theorem lit_text : textF litF = litT := by kernel_rfl
set_option maxRecDepth 1000000 in
theorem lit_first : firI litF 0 = [65] := by kernel_rfl
set_option maxRecDepth 1000000 in
theorem pairs_least : (leastL pairsF).getD 0 0 = 1 := by kernel_rfl
set_option maxRecDepth 1000000 in
theorem blob_lines : linesRd 0 (spl 10 blobT) = .ok [(bare [97] 10, [[98]])] := by kernel_rfl
set_option maxRecDepth 1000000 in
theorem blob_res : resolveAll [bare [97] 10] 0 [(bare [97] 10, [[98]])] = .error 0 := by kernel_rfl
end Go.Proofs.YtgdiadednlajgaaGreatDoor
namespace Go.Proofs.YtgdiadednlajgaaGreatDoor
open Go.RowKit
set_option linter.unusedVariables false
set_option linter.unusedSimpArgs false
def CmpRel (w : World) (xs ys : List Int) (k : Value) (wr : World) : Prop := ∃ i nq : Nat, k = .int .i64 (i : Int) ∧ i ≤ xs.length ∧ xs.take i = ys.take i ∧ wr = w.drewN nq
theorem take_eq_succ {α : Type} {xs ys : List α} {i : Nat} {x y : α} (h : xs.take i = ys.take i) (hx : xs[i]? = some x) (hy : ys[i]? = some y) (e : x = y) : xs.take (i + 1) = ys.take (i + 1) := by
  obtain ⟨h1, rfl⟩ := List.getElem?_eq_some_iff.1 hx
  obtain ⟨h2, rfl⟩ := List.getElem?_eq_some_iff.1 hy
  rw [List.take_succ_eq_append_getElem h1, List.take_succ_eq_append_getElem h2, h, e]
theorem ne_of_at {α : Type} {xs ys : List α} {i : Nat} {x y : α} (hx : xs[i]? = some x) (hy : ys[i]? = some y) (e : x ≠ y) : xs ≠ ys := by
  rintro rfl
  rw [hx] at hy
  injection hy with hy
  exact e hy
def Quiet (w : World) (v : Value) (e : Ending) (w' : World) : Prop := e = .returned v ∧ ∃ n, w' = w.drewN n
set_option maxRecDepth 100000 in
set_option maxHeartbeats 400000 in
theorem ints_calls {w : World} {B B' : Nat} {A A' : Option Addr} {n n' c c' : Nat} {xs ys : List Int} (ha : Rd w B 1 A n (iv xs)) (hb : Rd w B' 1 A' n' (iv ys)) (hm : n ≤ 140737488355328) :
    Calls Tryz.prog 17 #[.slice A n c, .slice A' n' c'] w (Quiet w (.bool (xs == ys))) := by
  have hl : xs.length = n := by have := ha.len; rw [iv_len] at this; exact this
  have hl' : ys.length = n' := by have := hb.len; rw [iv_len] at this; exact this
  have HA := Lib.hid ha
  have HB := Lib.hid hb
  have HL := Lib.hid hl
  have HL' := Lib.hid hl'
  clear ha hb hl hl'
  by_cases hnn : n = n'
  · have hd : ((n : Int) != (n' : Int)) = false := by simp [hnn]
    have HNN := Lib.hid hnn
    clear hnn
    go_enter Tryz.func17, Tryz.ntmps17
    go_wp2_with fail
    go_loopw [5] (fun k wr => CmpRel w xs ys k wr) (fun k _ => n - (intOf k).toNat)
    case atStart => exact ⟨0, 0, rfl, Nat.zero_le _, rfl, rfl⟩
    case round =>
      obtain ⟨i, nq, rfl, hi, ht, rfl⟩ := hrel
      rw [HL.out] at hi
      have HT := Lib.hid ht
      clear ht
      by_cases hlt : i < n
      · obtain ⟨b, o, x, rfl, hbB, hxi, hcell⟩ := iv_at HA.out hlt
        obtain ⟨b', o', y, rfl, hbB', hyi, hcell'⟩ := iv_at HB.out (k := i) (by have := HNN.out; omega)
        have HX := Lib.hid hxi
        have HY := Lib.hid hyi
        have hli : (i : Int) < (n : Int) := by omega
        have hli' : (i : Int) < (n' : Int) := by have := HNN.out; omega
        have h0 : (0 : Int) ≤ (i : Int) := by omega
        have hlt' : i < n' := by omega
        clear hxi hyi
        go_upto_region 6 with (fail)
        go_quiet (fail)
        by_cases hxy : x = y
        · have hd2 : (x != y) = false := by simp [hxy]
          have HXY := Lib.hid hxy
          clear hxy
          go_wp2_with fail
          go_roundw
          case rel => exact ⟨i + 1, _, by go_num, by rw [HL.out]; omega, take_eq_succ HT.out HX.out HY.out HXY.out, rfl⟩
          case measure => simp [intOf]; omega
        · have hd2 : (x != y) = true := by simp [hxy]
          have HXY := Lib.hid hxy
          clear hxy
          go_wp2_with fail
          go_ret
          rw [show (xs == ys) = false by simp; exact ne_of_at HX.out HY.out HXY.out]
          exact ⟨rfl, _, World.drewN_drewN _ _ _⟩
      · go_wp2_with fail
        go_ret
        rw [show (xs == ys) = true by
          simp
          have := HT.out
          rw [List.take_of_length_le (by rw [HL.out]; omega), List.take_of_length_le (by rw [HL'.out]; have := HNN.out; omega)] at this
          exact this]
        exact ⟨rfl, _, rfl⟩
  · have hd : ((n : Int) != (n' : Int)) = true := by simp; omega
    have HNN := Lib.hid (show (xs == ys) = false by simp; rintro rfl; exact hnn (by rw [← HL.out, HL'.out]))
    clear hnn
    go_enter Tryz.func17, Tryz.ntmps17
    go_wp2_with fail
    go_ret
    rw [HNN.out]
    exact ⟨rfl, 0, rfl⟩
def CmpRelS (w : World) (xs ys : List (List UInt8)) (k : Value) (wr : World) : Prop := ∃ i nq : Nat, k = .int .i64 (i : Int) ∧ i ≤ xs.length ∧ xs.take i = ys.take i ∧ wr = w.drewN nq
set_option maxRecDepth 100000 in
set_option maxHeartbeats 400000 in
theorem strings_calls {w : World} {B B' : Nat} {A A' : Option Addr} {n n' c c' : Nat} {xs ys : List (List UInt8)} (ha : Rd w B 1 A n (sv xs)) (hb : Rd w B' 1 A' n' (sv ys)) (hm : n ≤ 140737488355328) :
    Calls Tryz.prog 88 #[.slice A n c, .slice A' n' c'] w (Quiet w (.bool (xs == ys))) := by
  have hl : xs.length = n := by have := ha.len; rw [sv_len] at this; exact this
  have hl' : ys.length = n' := by have := hb.len; rw [sv_len] at this; exact this
  have HA := Lib.hid ha
  have HB := Lib.hid hb
  have HL := Lib.hid hl
  have HL' := Lib.hid hl'
  clear ha hb hl hl'
  by_cases hnn : n = n'
  · have hd : ((n : Int) != (n' : Int)) = false := by simp [hnn]
    have HNN := Lib.hid hnn
    clear hnn
    go_enter Tryz.func88, Tryz.ntmps88
    go_wp2_with fail
    go_loopw [5] (fun k wr => CmpRelS w xs ys k wr) (fun k _ => n - (intOf k).toNat)
    case atStart => exact ⟨0, 0, rfl, Nat.zero_le _, rfl, rfl⟩
    case round =>
      obtain ⟨i, nq, rfl, hi, ht, rfl⟩ := hrel
      rw [HL.out] at hi
      have HT := Lib.hid ht
      clear ht
      by_cases hlt : i < n
      · obtain ⟨b, o, x, rfl, hbB, hxi, hcell⟩ := sv_at HA.out hlt
        obtain ⟨b', o', y, rfl, hbB', hyi, hcell'⟩ := sv_at HB.out (k := i) (by have := HNN.out; omega)
        have HX := Lib.hid hxi
        have HY := Lib.hid hyi
        have hli : (i : Int) < (n : Int) := by omega
        have hli' : (i : Int) < (n' : Int) := by have := HNN.out; omega
        have h0 : (0 : Int) ≤ (i : Int) := by omega
        have hlt' : i < n' := by omega
        clear hxi hyi
        go_upto_region 6 with (fail)
        go_quiet (fail)
        by_cases hxy : x.data.toList = y.data.toList
        · have hd2 : (x.toList == y.toList) = true := by rw [Lib.toList_data, Lib.toList_data]; simpa using hxy
          rw [hd2]
          have HXY := Lib.hid hxy
          clear hxy
          go_wp2_with fail
          go_roundw
          case rel => exact ⟨i + 1, _, by go_num, by rw [HL.out]; omega, take_eq_succ HT.out HX.out HY.out HXY.out, rfl⟩
          case measure => simp [intOf]; omega
        · have hd2 : (x.toList == y.toList) = false := by rw [Lib.toList_data, Lib.toList_data]; simpa using hxy
          rw [hd2]
          have HXY := Lib.hid hxy
          clear hxy
          go_wp2_with fail
          go_ret
          rw [show (xs == ys) = false by simp; exact ne_of_at HX.out HY.out HXY.out]
          exact ⟨rfl, _, World.drewN_drewN _ _ _⟩
      · go_wp2_with fail
        go_ret
        rw [show (xs == ys) = true by
          simp
          have := HT.out
          rw [List.take_of_length_le (by rw [HL.out]; omega), List.take_of_length_le (by rw [HL'.out]; have := HNN.out; omega)] at this
          exact this]
        exact ⟨rfl, _, rfl⟩
  · have hd : ((n : Int) != (n' : Int)) = true := by simp; omega
    have HNN := Lib.hid (show (xs == ys) = false by simp; rintro rfl; exact hnn (by rw [← HL.out, HL'.out]))
    clear hnn
    go_enter Tryz.func88, Tryz.ntmps88
    go_wp2_with fail
    go_ret
    rw [HNN.out]
    exact ⟨rfl, 0, rfl⟩
end Go.Proofs.YtgdiadednlajgaaGreatDoor
namespace Go.Proofs.YtgdiadednlajgaaGreatDoor
open Go.RowKit
set_option linter.unusedVariables false
set_option linter.unusedSimpArgs false
theorem Quiet.below {w w' : World} {v : Value} {e : Ending} (h : Quiet w v e w') : e = .returned v ∧ Below w.heap.size w w' := by
  obtain ⟨h1, n, rfl⟩ := h
  exact ⟨h1, below_drewN w n⟩
theorem at_bel (c i : Int) (w : World) : Calls Tryz.prog 15 #[.int .i64 c, .int .i64 i] w fun e w' => e = .returned (.agg #[.int .i64 c, .int .i64 i]) ∧ Below w.heap.size w w' :=
  (at_calls c i w).mono fun _ _ h => ⟨h.1, h.2 ▸ bel1 _ _⟩
theorem l_base {P : Program} {Q : Exit → Act → World → Prop} {ops : Array Oper} {N : Nat} {M : List Nat} {W : World} {E : Env} {O : List Atom} {l : List Oper} (h : ∀ w, Wd M W O w → lE P ops Q N [] w E [] l) : lE P ops Q N M W E O l := fun a w ha hw => h w hw a w ha (Wd.start [] w)
theorem o_bts {ops : Array Oper} {C : World → Prop} {N : Nat} {E : Env} {o : Oper} {d : Nat} {x : Operand} {A : Option Addr} {n c : Nat} {bs : List UInt8} (ho : o.op = .convert 49 9 x) (hd : o.dst = some d) (hN : d < N) (hw : wantE ops E o = some true) (hx : ev E x = some (.slice A n c)) (hr : ∀ w, C w → Rd w w.heap.size 1 A n (bv bs)) : oE Tryz.prog ops C N E ((d, .string ⟨bs.toArray⟩) :: E) o :=
  o_val hd hN hw fun ρ w ha hc => by
    have h := run_str (c := c) (hr w hc)
    simp only [execOp, ho, ha.eval hx, Sem.run_bind, h, Result.andThen_ok]
    rfl
instance : En Tryz.prog 25 := ⟨fun _ _ => by kernel_rfl⟩
instance : En Tryz.prog 9 := ⟨fun _ _ => by kernel_rfl⟩
theorem pr_eq {s : List UInt8} {F : List Rl} {e : Int × Int} {y : PrY} (hy : PrI s y) (h : parseF s = (F, e)) : y.F = F ∧ y.e = e := by
  have h1 := hy.e
  rw [h] at h1
  exact ⟨(congrArg (·.1) h1).symm, (congrArg (·.2) h1).symm⟩
theorem fs_wd {W w : World} {f : FuncId} {args : Array Value} {l : List Int} {p : Int × Int} (hw : Wd [] W [] w) (h : Calls Tryz.prog f args w (FsEnd w l p)) : Calls Tryz.prog f args w (CallEnd (fun y : Option Addr × Nat => .tuple #[.slice y.1 l.length y.2, .agg #[.int .i64 p.1, .int .i64 p.2]]) (fun y => l.length ≤ y.2) [] W (fun y => [.rd y.1 l.length 1 (iv l)])) :=
  h.mono fun e w' ⟨A, c, he, hr, hc, hb⟩ => ⟨(A, c), he, hc, (hw.on hb).add hr (fun b hb hl => by simp [Atom.w]) (fun i x b hx => by simp at hx)⟩
def prY (r : Rl) : RlY := ⟨r, none, 0, none, 0, none, 0, [], none, 0, true, []⟩
def pairsL : List RlY := [prY pr0, prY pr1, prY pr2]
theorem pairs_fm {w : World} {A : Option Addr} (h : Rd w w.heap.size 12 A 3 (flatC pairsL)) : FmIn w w.heap.size A 3 pairsF := by
  refine fm_rd (cur := pairsL) h rfl fun y hy => ?_
  have : y = prY pr0 ∨ y = prY pr1 ∨ y = prY pr2 := by simpa [pairsL] using hy
  rcases this with rfl | rfl | rfl <;> exact ⟨⟨Nat.le_refl _, Nat.le_refl _, Nat.le_refl _, rd_none _ _, rd_none _ _, rd_none _ _⟩, rd_none _ _, Nat.le_refl _⟩
theorem pairs_sm : FSm pairsF := by
  refine ⟨by decide, fun r hr => ?_⟩
  have : r = pr0 ∨ r = pr1 ∨ r = pr2 := by simpa [pairsF] using hr
  rcases this with rfl | rfl | rfl <;> exact ⟨by decide, by decide, by decide, by decide, fun s hs => by cases hs⟩
theorem fold_putO (o : Nat) : ∀ (l : List Value) (k : Nat) (a : List Value), (l.zipIdx k).foldl (fun cs (x : Value × Nat) => cs.setIfInBounds (o + x.2) x.1) a.toArray = (putL a (o + k) l).toArray := by
  intro l
  induction l with
  | nil => intro k a; rfl
  | cons x l ih =>
    intro k a
    rw [List.zipIdx_cons, List.foldl_cons, putL]
    have e : a.toArray.setIfInBounds (o + k) x = (a.set (o + k) x).toArray := by simp
    show (l.zipIdx (k + 1)).foldl _ (a.toArray.setIfInBounds (o + k) x) = _
    rw [e]
    exact ih (k + 1) (a.set (o + k) x)
theorem fill_at3 {f : Nat → Option (Nat × Nat)} {Z cs : List Value} {i o n : Nat} {v : Value} {rest : List (Nat × Value)} (hf : f i = some (o, n)) (hv : v.cells = cs.toArray) (hl : cs.length = n) (hz : o + n ≤ Z.length) : Instr.fill f Z.toArray ((i, v) :: rest) = Instr.fill f (putL Z o cs).toArray rest := by
  have e : v.cells.zipIdx.foldl (fun cs (x : Value × Nat) => cs.setIfInBounds (o + x.2) x.1) Z.toArray = (putL Z o cs).toArray := by
    rw [hv, ← Array.foldl_toList]
    have h1 := fold_putO o cs 0 Z
    simpa using h1
  have hs1 : v.cells.size = n := by rw [hv, List.size_toArray, hl]
  have hc : ¬ (v.cells.size ≠ n ∨ o + v.cells.size > Z.toArray.size) := by rw [hs1, List.size_toArray]; omega
  rw [Instr.fill, hf]
  dsimp only
  rw [if_neg (by simpa using hc)]
  exact congrArg (fun z => Instr.fill f z rest) e
theorem fill_nil {f : Nat → Option (Nat × Nat)} {Z : Array Value} : Instr.fill f Z [] = some Z := by rw [Instr.fill]
theorem pairs_put {Z : List Value} (hZl : Z.length = 36) : putL (putL (putL Z 0 (prY pr0).cells) 12 (prY pr1).cells) 24 (prY pr2).cells = flatC pairsL := by
  apply List.ext_getElem?
  intro j
  have hl : ∀ y ∈ pairsL, y.cells.length = 12 := fun y _ => rfl
  rw [putL_get, putL_len, putL_len, hZl, show (prY pr2).cells.length = 12 from rfl]
  by_cases h2 : 24 ≤ j ∧ j < 36
  · rw [if_pos ⟨h2.1, by omega, by omega⟩]
    have h := flatC_get pairsL 2 (prY pr2) (j - 24) rfl (by omega)
    rw [show 2 * 12 + (j - 24) = j by omega] at h
    exact h.symm
  · rw [if_neg (fun h => h2 ⟨h.1, by omega⟩), putL_get, putL_len, hZl, show (prY pr1).cells.length = 12 from rfl]
    by_cases h1 : 12 ≤ j ∧ j < 24
    · rw [if_pos ⟨h1.1, by omega, by omega⟩]
      have h := flatC_get pairsL 1 (prY pr1) (j - 12) rfl (by omega)
      rw [show 1 * 12 + (j - 12) = j by omega] at h
      exact h.symm
    · rw [if_neg (fun h => h1 ⟨h.1, by omega⟩), putL_get, hZl, show (prY pr0).cells.length = 12 from rfl]
      by_cases h0 : j < 12
      · rw [if_pos ⟨by omega, by omega, by omega⟩]
        have h := flatC_get pairsL 0 (prY pr0) j rfl h0
        rw [show 0 * 12 + j = j by omega] at h
        exact h.symm
      · rw [if_neg (fun h => h0 (by omega)), List.getElem?_eq_none (by omega), List.getElem?_eq_none (by rw [flatC_len]; show 3 * 12 ≤ j; omega)]
set_option maxRecDepth 1000000 in
theorem run_pairs (w : World) : (Instr.buildSlice 22 3 #[(0, .agg (prY pr0).cells.toArray), (1, .agg (prY pr1).cells.toArray), (2, .agg (prY pr2).cells.toArray)]).run Tryz.prog w = .ok (.slice (some ⟨w.heap.size, 0, none⟩) 3 3) (w.alloc (.cells (flatC pairsL).toArray 52)) := by
  have hT : SlT Tryz.prog 22 52 12 152 := (inferInstance : Sl Tryz.prog 22 52 12 152).h
  obtain ⟨i, z, hi, hz, hsz, hby, hzs⟩ := hT.info
  refine run_buildSlice w _ _ 3 _ (flatC pairsL).toArray i z hT.und hi hz (by rw [hsz]; omega) (by rw [hsz]; omega) ?_
  rw [hsz]
  obtain ⟨Z, hZ, hZl⟩ : ∃ Z : List Value, (Array.range (3 * 12)).map (z.cells[· % z.cells.size]!) = Z.toArray ∧ Z.length = 36 := ⟨_, (Array.toArray_toList).symm, by simp⟩
  rw [hZ]
  show Instr.fill (fun i => some (i * 12, 12)) Z.toArray [(0, .agg (prY pr0).cells.toArray), (1, .agg (prY pr1).cells.toArray), (2, .agg (prY pr2).cells.toArray)] = _
  have hfin : putL (putL (putL Z 0 (prY pr0).cells) 12 (prY pr1).cells) 24 (prY pr2).cells = flatC pairsL := pairs_put hZl
  rw [fill_at3 (o := 0) (n := 12) (cs := (prY pr0).cells) rfl rfl rfl (by omega), fill_at3 (o := 12) (n := 12) (cs := (prY pr1).cells) rfl rfl rfl (by rw [putL_len]; omega), fill_at3 (o := 24) (n := 12) (cs := (prY pr2).cells) rfl rfl rfl (by rw [putL_len, putL_len]; omega), hfin, fill_nil]
set_option maxRecDepth 1000000 in
set_option maxHeartbeats 16000000 in
theorem pairs_wd {W w : World} {O : List Atom} (hw : Wd [] W O w) :
    Calls Tryz.prog 25 #[] w (CallEnd (fun b : Nat => .agg #[.slice (some ⟨b, 0, none⟩) 3 3]) (fun _ => True) [] W (fun b => .rd (some ⟨b, 0, none⟩) 3 12 (flatC pairsL) :: O)) := by
  go_enter Tryz.func25, Tryz.ntmps25
  refine s_go (M := []) (W := W) (N := 6) (E := []) (O := O) ?_ (Ag.nil rfl rfl) hw
  repeat (first | refine l_loud (u_alloc rfl rfl) rfl (by decide) (fun g _ => ?_) | refine l_nil ?_ | refine s_seq ?_ | refine s_region ?_)
  refine l_op (o_build (xs := [(0, .const (.string ⟨#[108, 105, 115, 116]⟩)), (1, .const (.int .i64 6)), (8, .const (.int .i64 1)), (9, .const (.int .i64 2))]) (vs := [(0, .string ⟨#[108, 105, 115, 116]⟩), (1, .int .i64 6), (8, .int .i64 1), (9, .int .i64 2)]) (v := .agg (prY pr0).cells.toArray) rfl rfl (by decide) rfl rfl (fun w => run_build w _ _ _ (by kernel_rfl))) ?_
  refine l_op (o_build (xs := [(0, .const (.string ⟨#[110]⟩)), (1, .const (.int .i64 2)), (3, .const (.int .i64 1)), (4, .const (.bool true)), (6, .const (.int .i64 255))]) (vs := [(0, .string ⟨#[110]⟩), (1, .int .i64 2), (3, .int .i64 1), (4, .bool true), (6, .int .i64 255)]) (v := .agg (prY pr1).cells.toArray) rfl rfl (by decide) rfl rfl (fun w => run_build w _ _ _ (by kernel_rfl))) ?_
  refine l_op (o_build (xs := [(0, .const (.string ⟨#[120]⟩)), (1, .const (.int .i64 2)), (3, .const (.int .i64 2)), (6, .const (.int .i64 65535))]) (vs := [(0, .string ⟨#[120]⟩), (1, .int .i64 2), (3, .int .i64 2), (6, .int .i64 65535)]) (v := .agg (prY pr2).cells.toArray) rfl rfl (by decide) rfl rfl (fun w => run_build w _ _ _ (by kernel_rfl))) ?_
  refine l_loud (u_slice (xs := [(0, .tmp 1), (1, .tmp 2), (2, .tmp 3)]) (vs := [(0, .agg (prY pr0).cells.toArray), (1, .agg (prY pr1).cells.toArray), (2, .agg (prY pr2).cells.toArray)]) (cells := flatC pairsL) rfl rfl rfl run_pairs) rfl (by decide) (fun b _ => ?_)
  refine l_op (o_build (xs := [(0, .tmp 4)]) (vs := [(0, .slice (some ⟨b, 0, none⟩) 3 3)]) (v := .agg #[.slice (some ⟨b, 0, none⟩) 3 3]) rfl rfl (by decide) rfl rfl (fun w => run_build w _ _ _ (by kernel_rfl))) ?_
  refine l_loud0 (u_storeN 1 rfl rfl rfl rfl rfl rfl rfl (by simp)) rfl (fun _ _ => ?_)
  rw [putL_full (by rfl)]
  repeat (first | refine l_nil ?_ | refine s_ret ?_)
  refine x_body1 (by first | exact .inl rfl | exact .inr rfl) rfl (RsV.blk 1 rfl rfl rfl) (fun w hw => ⟨b, rfl, trivial, ?_⟩)
  have h1 := hw.blk_row (i := 0) (n := 3) (s := 12) rfl rfl (by decide)
  have h2 := h1.toRd (i := 0) rfl (by decide)
  exact h2.ofMap (fun i => if i = 0 then 0 else i + 1) (fun i j h => by (repeat' split at h) <;> omega) (fun i x hx => by
    match i, hx with
    | 0, hx => exact hx
    | n + 1, hx => exact hx)
theorem flt_of {F : List Rl} {t : List UInt8} (h : checkF F = (0, 0)) (ht : textF F = t) (hl : t.length ≤ 2000) : faultF F = (0, 0) := by
  unfold faultF
  rw [h, if_neg (fun hh => hh rfl), ht, if_neg (by omega)]
theorem pairs_flt : faultF pairsF = (0, 0) := flt_of pairs_check pairs_text (by decide)
theorem lit_flt : faultF litF = (0, 0) := flt_of lit_check lit_text (by decide)
theorem pairs_prt : printF pairsF = pairsT := by
  unfold printF
  rw [pairs_flt, if_pos rfl, pairs_text]
theorem lit_parse : parseF litT = (litF, 0, 0) := by
  rw [← lit_text]
  exact parse_text lit_flt
theorem blob_parse : parseF blobT = ([], 12, 0) := parse_res (by decide) blob_lines blob_res
theorem chk_at0 {F : List Rl} (h : faultF F = (0, 0)) (hl : 0 < F.length) : chkN F 0 = (0, 0) := by
  unfold chkN
  rw [h, if_neg (fun hh => hh rfl), if_pos (inB_yes ⟨Int.le_refl 0, by omega⟩)]
theorem pairs_chk : chkN pairsF 0 = (0, 0) := chk_at0 pairs_flt (by decide)
theorem lit_chk : chkN litF 0 = (0, 0) := chk_at0 lit_flt (by decide)
theorem pairs_lst : leastF pairsF 0 = 1 := by
  unfold leastF
  rw [pairs_chk, if_pos rfl]
  exact pairs_least
theorem lit_fst : firstF litF 0 = [65] := by
  unfold firstF
  rw [lit_chk, if_pos rfl]
  exact lit_first
end Go.Proofs.YtgdiadednlajgaaGreatDoor
namespace Go.Proofs.YtgdiadednlajgaaGreatDoor
open Go.RowKit
set_option linter.unusedVariables false
set_option linter.unusedSimpArgs false
section
variable {P : Program} {ops : Array Oper} {Q0 : Act → Prop} {Q : Exit → Act → World → Prop} {N : Nat} {E : Env} {o : Oper} {rest : List Oper} {M : List Nat} {W : World} {O : List Atom} {d : Nat}
theorem x_nextV {y : Code} (h : sE P Q N M W E O y) : xE (Exit.then (fun a w => y.wp P Q a w) Q) N M W E O .normal := fun a w ha hw => h a w ha hw
end
end Go.Proofs.YtgdiadednlajgaaGreatDoor
namespace Go.Proofs.YtgdiadednlajgaaGreatDoor
open Go.RowKit
set_option linter.unusedVariables false
set_option linter.unusedSimpArgs false
end Go.Proofs.YtgdiadednlajgaaGreatDoor
namespace Go.Proofs.YtgdiadednlajgaaGreatDoor
open Go.RowKit
set_option linter.unusedVariables false
set_option linter.unusedSimpArgs false
theorem Wd.tl {M : List Nat} {W w : World} {x : Atom} {O : List Atom} (h : Wd M W (x :: O) w) : Wd M W O w :=
  ⟨h.k, fun i y hy => h.own (i + 1) y hy, fun i y b hy hb hl => h.new (i + 1) y b hy hb hl, fun i j y z b hy hz hb hb' hw => by have := h.nd (i + 1) (j + 1) y z b hy hz hb hb' hw; omega⟩
end Go.Proofs.YtgdiadednlajgaaGreatDoor
