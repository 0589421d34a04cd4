import Derived.Test.YtgdiadednlajgaaGreatDoorP12
import Derived.Test.YtgdiadednlajgaaGreatDoorP11
import Derived.Test.YtgdiadednlajgaaGreatDoorCards
import Derived.Test.YtgdiadednlajgaaGreatDoorTie
import Derived.WalkKit
import Derived.Deep.DeepHandedRow
import Derived.Deep.DeepWitnessRowRef
import Derived.Lib.LaidTab
import Derived.Lib.LaidIn
import Derived.Stop.LaidErr
import Derived.Test.YtgdiadednlajgaaGreatDoorP8
namespace Go.Proofs.YtgdiadednlajgaaGreatDoor
open Go.ChangeShapes Go.WideShapes Go.ChangeAt Go.RowKit Go.Deep
set_option linter.unusedVariables false
set_option linter.unusedSimpArgs false
def laidF : List (String × DataW Unit) := [("math/bits.deBruijn32tab", Rows.laid_math_bits_deBruijn32tab), ("math/bits.deBruijn64tab", Rows.laid_math_bits_deBruijn64tab), ("internal/strconv.uint64pow10", Rows.laid_internal_strconv_uint64pow10), ("unicode/utf8.acceptRanges", Rows.laid_unicode_utf8_acceptRanges), ("strconv.ErrRange", Rows.laid_strconv_ErrRange), ("strconv.ErrSyntax", Rows.laid_strconv_ErrSyntax), ("unicode.White_Space", Rows.laid_unicode_White_Space), ("strings.asciiSpace", Rows.laid_strings_asciiSpace), ("unicode/utf8.first", Rows.laid_unicode_utf8_first)]
theorem errRow (u : TypeId) (h : Tryz.prog.typeName? 3 u = some "*errors.errorString") : u = 196 :=
  typeName_ptr_named (nm := "errors.errorString") (by kernel_rfl) (by kernel_rfl) (by decide) u h
set_option maxRecDepth 1000000 in
theorem gv_of {W : World} (hL : laidMet Tryz.prog laidF W) (hsh : W.ShapedOpen Tryz.prog) : GV W := by
  have t2 := hL.tail.tail
  have t4 := t2.tail.tail
  have t5 := t4.tail
  have t7 := t5.tail.tail
  refine ⟨?_, ?_, ?_, ?_, ?_⟩
  · exact Lib.tabIs_of_head (g := 3) (zs := Lib.pow10Tab) (n := 20) (by kernel_rfl) (by kernel_rfl) Tryz.underlying182 Tryz.underlying159 (by kernel_rfl) (by kernel_rfl) t2
  · exact Lib.tabIs_of_head (g := 0) (zs := Lib.asciiSpaceTab) (n := 256) (by kernel_rfl) (by kernel_rfl) Tryz.underlying114 Tryz.underlying5 (by kernel_rfl) (by kernel_rfl) t7
  · exact cell_of_shapedOpen_int (zero := #[.int .i64 0]) (t := 3) hsh (of_decide_eq_true (by kernel_rfl)) (by kernel_rfl) rfl (by kernel_rfl) (by kernel_rfl) Tryz.underlying3
  · obtain ⟨a, s, hv, _⟩ := laid_sentinel (g := 4) t5 (by kernel_rfl) (by kernel_rfl) Tryz.underlying123 errRow Tryz.underlying196 Tryz.underlying198 rfl rfl Tryz.underlying9 (by kernel_rfl) (by kernel_rfl)
    exact ⟨_, _, World.var?_cell (by kernel_rfl) hv 0⟩
  · obtain ⟨a, s, hv, _⟩ := laid_sentinel (g := 5) t4 (by kernel_rfl) (by kernel_rfl) Tryz.underlying123 errRow Tryz.underlying196 Tryz.underlying198 rfl rfl Tryz.underlying9 (by kernel_rfl) (by kernel_rfl)
    exact ⟨_, _, World.var?_cell (by kernel_rfl) hv 0⟩
def cellD : DataW Unit → List Value
  | .lit (.int k n) => [.int k n]
  | _ => []
def cellD2 : DataW Unit → List Value
  | .agg l => l.flatMap cellD
  | d => cellD d
def cellsD : DataW Unit → List Value
  | .agg l => l.flatMap cellD2
  | _ => []
def wsRows : List Value := [9, 13, 1, 32, 133, 101, 160, 5760, 5600, 8192, 8202, 1, 8232, 8233, 1, 8239, 8287, 48, 12288, 12288, 1].map fun (z : Int) => Value.int .u16 z
def putF (h : Array Obj) (g : Nat) (cs : Array Value) : Array Obj := h.modify g fun
  | .cells _ t frozen => .cells cs t frozen
  | o => o
noncomputable def laidWorld (os : Os) : World :=
  let N := (World.settled Tryz.prog os).heap.size
  let w0 := World.holding Tryz.prog os ⟨#[.cells #[.string ⟨#[118, 97, 108, 117, 101, 32, 111, 117, 116, 32, 111, 102, 32, 114, 97, 110, 103, 101]⟩] 198, .cells #[.string ⟨#[105, 110, 118, 97, 108, 105, 100, 32, 115, 121, 110, 116, 97, 120]⟩] 198,
    .cells #[.slice (some ⟨N + 3, 0, none⟩) 7 7, .slice none 0 0, .int .i64 2] 149, .cells wsRows.toArray 152], #[], []⟩
  let h1 := putF w0.heap 8 (cellsD Rows.laid_math_bits_deBruijn32tab).toArray
  let h2 := putF h1 9 (cellsD Rows.laid_math_bits_deBruijn64tab).toArray
  let h3 := putF h2 3 (cellsD Rows.laid_internal_strconv_uint64pow10).toArray
  let h4 := putF h3 7 (cellsD Rows.laid_unicode_utf8_acceptRanges).toArray
  let h5 := putF h4 5 #[.iface 196 (.pointer (some ⟨N, 0, none⟩))]
  let h6 := putF h5 4 #[.iface 196 (.pointer (some ⟨N + 1, 0, none⟩))]
  let h7 := putF h6 1 #[.pointer (some ⟨N + 2, 0, none⟩)]
  let h8 := putF h7 0 (cellsD Rows.laid_strings_asciiSpace).toArray
  let h9 := putF h8 6 (cellsD Rows.laid_unicode_utf8_first).toArray
  { w0 with heap := h9 }
noncomputable abbrev N0 : Nat := (World.settled Tryz.prog default).heap.size
section
variable (os : Os) (args : Array Value)
theorem pieceA : LaidIn Tryz.prog ((laidWorld os).forCall (fun _ _ => 0) ⟨#[], args, []⟩).memory [("math/bits.deBruijn32tab", Rows.laid_math_bits_deBruijn32tab), ("math/bits.deBruijn64tab", Rows.laid_math_bits_deBruijn64tab), ("internal/strconv.uint64pow10", Rows.laid_internal_strconv_uint64pow10), ("unicode/utf8.acceptRanges", Rows.laid_unicode_utf8_acceptRanges)] [8, 9, 3, 7] :=
  LaidIn.of_run _ 8 (by kernel_rfl) (by kernel_rfl) (by kernel_rfl) (by kernel_rfl)
theorem pieceB : LaidIn Tryz.prog ((laidWorld os).forCall (fun _ _ => 0) ⟨#[], args, []⟩).memory [("strconv.ErrRange", Rows.laid_strconv_ErrRange), ("strconv.ErrSyntax", Rows.laid_strconv_ErrSyntax), ("unicode.White_Space", Rows.laid_unicode_White_Space)] [5, 4, 1, N0, N0 + 1, N0 + 2, N0 + 3] :=
  LaidIn.of_run _ 8 (by kernel_rfl) (by kernel_rfl) (by kernel_rfl) (by kernel_rfl)
theorem pieceC : LaidIn Tryz.prog ((laidWorld os).forCall (fun _ _ => 0) ⟨#[], args, []⟩).memory [("strings.asciiSpace", Rows.laid_strings_asciiSpace), ("unicode/utf8.first", Rows.laid_unicode_utf8_first)] [0, 6] :=
  LaidIn.of_run _ 8 (by kernel_rfl) (by kernel_rfl) (by kernel_rfl) (by kernel_rfl)
theorem laid_met : laidMet Tryz.prog laidF ((laidWorld os).forCall (fun _ _ => 0) ⟨#[], args, []⟩).memory :=
  (((pieceA os args).append (pieceB os args) (by kernel_rfl)).append (pieceC os args) (by kernel_rfl)).met
end
end Go.Proofs.YtgdiadednlajgaaGreatDoor
namespace Go.Proofs.YtgdiadednlajgaaGreatDoor
open Go.RowKit
set_option linter.unusedVariables false
set_option linter.unusedSimpArgs false
theorem putL_full {cs us : List Value} (h : us.length = cs.length) : putL cs 0 us = us := by
  refine List.ext_getElem? fun i => ?_
  rw [putL_get]
  split
  · rw [Nat.sub_zero]
  · next hn =>
    rw [List.getElem?_eq_none (by omega), List.getElem?_eq_none (by omega)]
theorem fold_put (s : Nat) : ∀ (l : List Value) (k : Nat) (a : List Value), (l.zipIdx k).foldl (fun cs (x : Value × Nat) => cs.setIfInBounds (0 * s + x.2) x.1) a.toArray = (putL a k l).toArray := by
  intro l
  induction l with
  | nil => intro k a; rfl
  | cons x l ih =>
    intro k a
    rw [List.zipIdx_cons, List.foldl_cons, putL]
    have e : a.toArray.setIfInBounds (0 * s + k) x = (a.set k x).toArray := by simp
    show (l.zipIdx (k + 1)).foldl _ (a.toArray.setIfInBounds (0 * s + k) x) = _
    rw [e]
    exact ih (k + 1) (a.set k x)
theorem fill_one {s : Nat} {v : Value} {cs : List Value} {z : Array Value} (hv : v.cells = cs.toArray) (h : cs.length = s) (hz : z.size = s) : Instr.fill (fun i => some (i * s, s)) z [(0, v)] = some cs.toArray := by
  have e : v.cells.zipIdx.foldl (fun cs (x : Value × Nat) => cs.setIfInBounds (0 * s + x.2) x.1) z = cs.toArray := by
    rw [hv, ← Array.foldl_toList]
    have h1 := fold_put s cs 0 z.toList
    rw [Array.toArray_toList] at h1
    rw [putL_full (cs := z.toList) (us := cs) (by rw [h, Array.length_toList, hz])] at h1
    simpa using h1
  have hs1 : v.cells.size = s := by rw [hv, List.size_toArray, h]
  have hc : ¬ (v.cells.size ≠ s ∨ 0 * s + v.cells.size > z.size) := by rw [hs1, hz]; omega
  unfold Instr.fill
  dsimp only
  rw [if_neg (by simpa using hc)]
  unfold Instr.fill
  exact congrArg some e
section
variable {P : Program} {ops : Array Oper} {N : Nat} {E : Env} {o : Oper} {M : List Nat} {W : World} {O : List Atom}
theorem run_slice1 {t e : TypeId} {size bytes : Nat} (hT : SlT P t e size bytes) (hs : size ≤ 1000) {v : Value} {cs : List Value} (hv : v.cells = cs.toArray) (hl : cs.length = size) (w : World) :
    (Instr.buildSlice t 1 #[(0, v)]).run P w = .ok (.slice (some ⟨w.heap.size, 0, none⟩) 1 1) (w.alloc (.cells cs.toArray e)) := by
  obtain ⟨i, z, hi, hz, hsz, hby, hzs⟩ := hT.info
  have hp := hT.pos
  refine run_buildSlice w t e 1 _ cs.toArray i z hT.und hi hz (by rw [hsz]; omega) (by rw [hsz]; omega) ?_
  rw [hsz]
  exact fill_one hv hl (by simp)
theorem u_slice1 {t e : TypeId} {size bytes : Nat} {x : Operand} {v : Value} {cs : List Value} [hT : Sl P t e size bytes] (ho : o.op = .buildSlice t 1 #[(0, x)]) (hw : wantE ops E o = some true) (hx : ev E x = some v) (hv : v.cells = cs.toArray) (hl : cs.length = size) (hs : size ≤ 1000) :
    uE P ops N M W E O o Nat (fun b => .slice (some ⟨b, 0, none⟩) 1 1) (fun b => .blk b (.cells cs.toArray e (0, 0)) :: O) (fun _ => True) :=
  u_slice (xs := [(0, x)]) (vs := [(0, v)]) ho hw (by simp [evp, hx]) (fun w => run_slice1 hT.h hs hv hl w)
end
end Go.Proofs.YtgdiadednlajgaaGreatDoor
namespace Go.Proofs.YtgdiadednlajgaaGreatDoor
set_option linter.unusedVariables false
def cnt (s : Nat → Bool) : Nat → Nat
  | 0 => 0
  | n + 1 => cnt s n + if s n then 1 else 0
theorem cnt_le (s : Nat → Bool) : ∀ n, cnt s n ≤ n
  | 0 => Nat.le_refl _
  | n + 1 => by have := cnt_le s n; unfold cnt; split <;> omega
theorem cnt_mono {s t : Nat → Bool} : ∀ n, (∀ i, i < n → s i = true → t i = true) → cnt s n ≤ cnt t n
  | 0, _ => Nat.le_refl _
  | n + 1, h => by
    have h1 := cnt_mono n (fun i hi => h i (by omega))
    have h2 := h n (by omega)
    unfold cnt
    cases hs : s n with
    | false => simp; omega
    | true => rw [h2 hs]; simp; omega
theorem cnt_lt {s t : Nat → Bool} : ∀ n, (∀ i, i < n → s i = true → t i = true) → (∃ i, i < n ∧ s i = false ∧ t i = true) → cnt s n < cnt t n
  | 0, _, ⟨i, hi, _⟩ => absurd hi (by omega)
  | n + 1, h, ⟨i, hi, h0, h1⟩ => by
    have hm := cnt_mono n (fun i hi => h i (by omega))
    unfold cnt
    by_cases hin : i = n
    · subst hin
      rw [h0, h1]
      simp
      omega
    · have := cnt_lt n (fun i hi => h i (by omega)) ⟨i, by omega, h0, h1⟩
      cases hs : s n with
      | false => simp; omega
      | true => rw [h n (by omega) hs]; simp; omega
section
variable {n : Nat} {s : Nat → Nat → Bool}
theorem rest_on (hst : ∀ t, (∀ i, i < n → s (t + 1) i = s t i) → ∀ i, i < n → s (t + 2) i = s (t + 1) i) {t : Nat} (h : ∀ i, i < n → s (t + 1) i = s t i) : ∀ k i, i < n → s (t + k + 1) i = s (t + k) i
  | 0, i, hi => h i hi
  | k + 1, i, hi => hst (t + k) (rest_on hst h k) i hi
theorem rounds_rest (hm : ∀ t i, i < n → s t i = true → s (t + 1) i = true) (hst : ∀ t, (∀ i, i < n → s (t + 1) i = s t i) → ∀ i, i < n → s (t + 2) i = s (t + 1) i) : ∀ i, i < n → s (n + 1) i = s n i := by
  have key : ∀ t, t ≤ n + 1 → (∃ u, u < t ∧ ∀ i, i < n → s (u + 1) i = s u i) ∨ t ≤ cnt (s t) n := by
    intro t
    induction t with
    | zero => intro _; right; omega
    | succ t ih =>
      intro ht
      rcases ih (by omega) with ⟨u, hu, h⟩ | hc
      · exact .inl ⟨u, by omega, h⟩
      · by_cases he : ∀ i, i < n → s (t + 1) i = s t i
        · exact .inl ⟨t, by omega, he⟩
        · right
          have hex : ∃ i, i < n ∧ s t i = false ∧ s (t + 1) i = true := by
            refine Classical.byContradiction fun hne => he fun i hi => ?_
            cases h0 : s t i with
            | true => rw [hm t i hi h0]
            | false =>
              cases h1 : s (t + 1) i with
              | false => rfl
              | true => exact absurd ⟨i, hi, h0, h1⟩ hne
          have := cnt_lt n (hm t) hex
          omega
  rcases key (n + 1) (Nat.le_refl _) with ⟨u, hu, h⟩ | hc
  · intro i hi
    have := rest_on hst h (n - u) i hi
    rwa [show u + (n - u) = n by omega] at this
  · have := cnt_le (s (n + 1)) n
    omega
end
theorem getD_set_bool (l : List Bool) (k i : Nat) (b : Bool) (hk : k < l.length) : (l.set k b).getD i false = if i = k then b else l.getD i false := by
  rw [List.getD_eq_getElem?_getD, List.getElem?_set, List.getD_eq_getElem?_getD]
  by_cases h : k = i
  · subst h; simp [hk]
  · rw [if_neg h, if_neg (fun e => h e.symm)]
end Go.Proofs.YtgdiadednlajgaaGreatDoor
namespace Go.Proofs.YtgdiadednlajgaaGreatDoor
set_option linter.unusedVariables false
def iter {α : Type} (f : α → α) : Nat → α → α
  | 0, a => a
  | n + 1, a => f (iter f n a)
def LeB (a b : List Bool) : Prop := a.length = b.length ∧ ∀ i : Nat, a.getD i false = true → b.getD i false = true
theorem LeB.refl (a : List Bool) : LeB a a := ⟨rfl, fun _ h => h⟩
theorem LeB.trans {a b c : List Bool} (h : LeB a b) (k : LeB b c) : LeB a c := ⟨h.1.trans k.1, fun i hi => k.2 i (h.2 i hi)⟩
theorem LeB.set (a : List Bool) (i : Nat) (b : Bool) (h : a.getD i false = true → b = true) : LeB a (a.set i b) := by
  refine ⟨by simp, fun j hj => ?_⟩
  by_cases hi : i < a.length
  · rw [getD_set_bool _ _ _ _ hi]
    split
    · next e => subst e; exact h hj
    · exact hj
  · rw [List.set_eq_of_length_le (by omega)]; exact hj
theorem foldl_le {β : Type} {f : List Bool → β → List Bool} (h : ∀ a b, LeB a (f a b)) : ∀ (l : List β) (a : List Bool), LeB a (l.foldl f a)
  | [], a => LeB.refl a
  | b :: l, a => (h a b).trans (foldl_le h l (f a b))
theorem foldl_hit {β : Type} {f : List Bool → β → List Bool} (h : ∀ a b, LeB a (f a b)) : ∀ (l : List β) (a : List Bool) (b : β), b ∈ l → ∃ a', LeB a a' ∧ LeB (f a' b) (l.foldl f a)
  | [], _, _, hb => by cases hb
  | x :: l, a, b, hb => by
    rcases List.mem_cons.1 hb with rfl | hb
    · exact ⟨a, LeB.refl a, foldl_le h l _⟩
    · obtain ⟨a', h1, h2⟩ := foldl_hit h l (f a x) b hb
      exact ⟨a', (h a x).trans h1, h2⟩
theorem iter_le {f : List Bool → List Bool} (h : ∀ a, LeB a (f a)) (a : List Bool) : ∀ n, LeB a (iter f n a)
  | 0 => LeB.refl a
  | n + 1 => (iter_le h a n).trans (h _)
theorem list_ext_bool {a b : List Bool} (hl : a.length = b.length) (h : ∀ i, i < a.length → a.getD i false = b.getD i false) : a = b := by
  refine List.ext_getElem hl fun i h1 h2 => ?_
  have := h i h1
  simpa [List.getD_eq_getElem?_getD, List.getElem?_eq_getElem h1, List.getElem?_eq_getElem h2] using this
theorem iter_rest {f : List Bool → List Bool} (h : ∀ a, LeB a (f a)) (a : List Bool) : f (iter f a.length a) = iter f a.length a := by
  have hlen : ∀ t, (iter f t a).length = a.length := fun t => (iter_le h a t).1.symm
  refine list_ext_bool (by rw [← (h _).1]) fun i hi => ?_
  have hi' : i < a.length := by rw [← (h _).1, hlen] at hi; exact hi
  exact rounds_rest (n := a.length) (s := fun t i => (iter f t a).getD i false) (fun t i _ => (h (iter f t a)).2 i)
    (fun t ht i hi => by
      have e : iter f (t + 1) a = iter f t a := list_ext_bool (by rw [hlen, hlen]) fun j hj => ht j (by rw [hlen] at hj; exact hj)
      show (f (iter f (t + 1) a)).getD i false = (iter f (t + 1) a).getD i false
      rw [e]
      show (iter f (t + 1) a).getD i false = _
      rw [e]) i hi'
theorem iter_rest_more {f : List Bool → List Bool} (h : ∀ a, LeB a (f a)) (a : List Bool) : ∀ k, iter f (a.length + k) a = iter f a.length a
  | 0 => rfl
  | k + 1 => by
    show f (iter f (a.length + k) a) = _
    rw [iter_rest_more h a k, iter_rest h a]
def bg (F : List Rl) (i : Nat) : List Nat := match F[i]? with | none => [] | some r => (beginsL r.kind r.count r.elem r.parts).map Int.toNat
inductive Rch (F : List Rl) : Nat → Nat → Prop
  | one {i j : Nat} (h : j ∈ bg F i) : Rch F i j
  | more {i j k : Nat} (h : Rch F i j) (hk : k ∈ bg F j) : Rch F i k
theorem Rch.trans {F : List Rl} {i j k : Nat} (h : Rch F i j) (h' : Rch F j k) : Rch F i k := by
  induction h' with
  | one hk => exact .more h hk
  | more _ hk ih => exact .more ih hk
def Bd (F : List Rl) : Prop := ∀ i, ∀ x ∈ bg F i, x < F.length
theorem Rch.lt {F : List Rl} (hb : Bd F) {i j : Nat} (h : Rch F i j) : j < F.length := by
  cases h with
  | one h => exact hb _ _ h
  | more _ h => exact hb _ _ h
def mark (out : List Bool) (l : List Nat) : List Bool := l.foldl (fun o x => o.set x true) out
theorem mark_le (out : List Bool) (l : List Nat) : LeB out (mark out l) := foldl_le (fun a b => LeB.set a b true (fun _ => rfl)) l out
theorem mark_hit {out : List Bool} {l : List Nat} {x : Nat} (hx : x ∈ l) (hl : x < out.length) : (mark out l).getD x false = true := by
  obtain ⟨a', h1, h2⟩ := foldl_hit (f := fun o x => o.set x true) (fun a b => LeB.set a b true (fun _ => rfl)) l out x hx
  exact h2.2 x (by rw [getD_set_bool _ _ _ _ (by rw [← h1.1]; exact hl), if_pos rfl])
theorem mark_of {l : List Nat} : ∀ {out : List Bool} {x : Nat}, (mark out l).getD x false = true → out.getD x false = true ∨ x ∈ l := by
  induction l with
  | nil => intro out x h; exact .inl h
  | cons y l ih =>
    intro out x h
    rcases ih (out := out.set y true) h with h1 | h1
    · by_cases hy : y < out.length
      · rw [getD_set_bool _ _ _ _ hy] at h1
        split at h1
        · next e => subst e; exact .inr List.mem_cons_self
        · exact .inl h1
      · rw [List.set_eq_of_length_le (by omega)] at h1
        exact .inl h1
    · exact .inr (List.mem_cons_of_mem _ h1)
def reachStep (F : List Rl) (st : Nat) (out : List Bool) (i : Nat) : List Bool := if i = st ∨ out.getD i false = true then mark out (bg F i) else out
def reachRound (F : List Rl) (st : Nat) (out : List Bool) : List Bool := (List.range F.length).foldl (reachStep F st) out
def reachL (F : List Rl) (st : Nat) : List Bool := iter (reachRound F st) (F.length + 1) (List.replicate F.length false)
theorem reachStep_le (F : List Rl) (st : Nat) (out : List Bool) (i : Nat) : LeB out (reachStep F st out i) := by
  unfold reachStep
  split
  · exact mark_le _ _
  · exact LeB.refl _
theorem reachRound_le (F : List Rl) (st : Nat) (out : List Bool) : LeB out (reachRound F st out) := foldl_le (reachStep_le F st) _ _
theorem reachL_len (F : List Rl) (st : Nat) : (reachL F st).length = F.length := by
  have := (iter_le (reachRound_le F st) (List.replicate F.length false) (F.length + 1)).1
  rw [List.length_replicate] at this
  exact this.symm
def Snd (F : List Rl) (st : Nat) (out : List Bool) : Prop := ∀ i : Nat, out.getD i false = true → Rch F st i
theorem reachStep_snd {F : List Rl} {st i : Nat} {out : List Bool} (h : Snd F st out) : Snd F st (reachStep F st out i) := by
  intro j hj
  unfold reachStep at hj
  split at hj
  · next hc =>
    rcases mark_of hj with h1 | h1
    · exact h j h1
    · rcases hc with rfl | hc
      · exact .one h1
      · exact .more (h i hc) h1
  · exact h j hj
theorem foldl_inv {α β : Type} {f : α → β → α} {p : α → Prop} (h : ∀ a b, p a → p (f a b)) : ∀ (l : List β) (a : α), p a → p (l.foldl f a)
  | [], a, ha => ha
  | b :: l, a, ha => foldl_inv h l (f a b) (h a b ha)
theorem iter_inv {α : Type} {f : α → α} {p : α → Prop} (h : ∀ a, p a → p (f a)) {a : α} (ha : p a) : ∀ n, p (iter f n a)
  | 0 => ha
  | n + 1 => h _ (iter_inv h ha n)
theorem reachL_iff {F : List Rl} (hb : Bd F) {st : Nat} (hs : st < F.length) (j : Nat) : (reachL F st).getD j false = true ↔ Rch F st j := by
  constructor
  · intro h
    refine iter_inv (f := reachRound F st) (p := Snd F st) (fun a ha => foldl_inv (fun a b ha => reachStep_snd ha) _ _ ha) (a := List.replicate F.length false) ?_ (F.length + 1) j h
    intro i hi
    simp only [List.getD_eq_getElem?_getD, List.getElem?_replicate] at hi
    split at hi <;> simp at hi
  · have hrest : reachRound F st (reachL F st) = reachL F st := by
      have h1 := iter_rest_more (reachRound_le F st) (List.replicate F.length false) 1
      rw [List.length_replicate] at h1
      have h2 := iter_rest (reachRound_le F st) (List.replicate F.length false)
      rw [List.length_replicate] at h2
      unfold reachL
      rw [h1]
      exact h2
    have hclosed : ∀ i x, i < F.length → (i = st ∨ (reachL F st).getD i false = true) → x ∈ bg F i → (reachL F st).getD x false = true := by
      intro i x hi hc hx
      obtain ⟨a', h1, h2⟩ := foldl_hit (reachStep_le F st) (List.range F.length) (reachL F st) i (List.mem_range.2 hi)
      have h3 : (reachStep F st a' i).getD x false = true := by
        unfold reachStep
        rw [if_pos (hc.imp id (h1.2 i))]
        exact mark_hit hx (by rw [← h1.1, reachL_len]; exact hb i x hx)
      have h4 := h2.2 x h3
      have : (reachRound F st (reachL F st)).getD x false = true := h4
      rwa [hrest] at this
    intro h
    induction h with
    | one h => exact hclosed _ _ hs (.inl rfl) h
    | more h hk ih => exact hclosed _ _ (h.lt hb) (.inr ih) hk
end Go.Proofs.YtgdiadednlajgaaGreatDoor
