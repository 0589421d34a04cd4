import Derived.Test.YtgdiadednlajgaaGreatDoorP16
import Derived.Test.YtgdiadednlajgaaGreatDoorP14
import Derived.Test.YtgdiadednlajgaaGreatDoorP8
import Derived.Test.YtgdiadednlajgaaGreatDoorP9
namespace Go.Proofs.YtgdiadednlajgaaGreatDoor
open Go.RowKit
set_option linter.unusedVariables false
set_option linter.unusedSimpArgs false
structure ROk (n : Nat) (r : Rl) : Prop where
  kind : 1 ≤ r.kind ∧ r.kind ≤ 10
  formed : formedB r.kind r.size r.big r.mn r.mx r.stop r.count r.elem r.bs.length r.names.length r.parts.length = true
  bs1 : r.kind = 1 → 0 < r.bs.length
  bs16 : r.bs.length ≤ 16
  seven : r.kind = 7 → r.names.length = r.parts.length ∧ 1 ≤ r.parts.length
  eight : r.kind = 8 → 2 ≤ r.parts.length
  p12 : r.parts.length ≤ 12
  parts : (r.kind = 7 ∨ r.kind = 8) → ∀ x ∈ r.parts, 0 ≤ x ∧ x < n
  count : (r.kind = 6 ∨ r.kind = 10) → 0 ≤ r.count ∧ r.count < n
  elem : (r.kind = 6 ∨ r.kind = 9) → 0 ≤ r.elem ∧ r.elem < n
  num : r.kind = 2 → 1 ≤ r.size ∧ r.size ≤ 4 ∧ 0 ≤ r.mn ∧ r.mn ≤ r.mx ∧ r.mx < 256 ^ r.size.toNat
  dec : r.kind = 3 → 0 ≤ r.mx ∧ r.mx ≤ 999999999 ∧ ¬ (48 ≤ r.stop ∧ r.stop ≤ 57)
  stop : (r.kind = 3 ∨ r.kind = 5 ∨ r.kind = 9) → 0 ≤ r.stop ∧ r.stop ≤ 255
  size4 : r.kind = 4 → 1 ≤ r.size ∧ r.size ≤ 1000
  size5 : r.kind = 5 → 0 ≤ r.size ∧ r.size ≤ 1000
theorem inB_iff {n a b : Int} : inB n a b = true ↔ a ≤ n ∧ n ≤ b := by unfold inB; simp
theorem rok_of {r : Rl} {early : List Rl} {n : Nat} (h : ruleC r early n = 0) : ROk n r := by
  unfold ruleC at h
  split at h
  · cases h
  split at h
  · cases h
  split at h
  · cases h
  next h3 =>
  split at h
  · cases h
  next h4 =>
  split at h
  · cases h
  next h5 =>
  split at h
  · cases h
  next h6 =>
  split at h
  · cases h
  next h7 =>
  split at h
  · cases h
  next h8 =>
  split at h
  · cases h
  next h9 =>
  split at h
  · cases h
  next h10 =>
  split at h
  · cases h
  next h11 =>
  have hk : 1 ≤ r.kind ∧ r.kind ≤ 10 := inB_iff.1 (by simpa using h3)
  have hf : formedB r.kind r.size r.big r.mn r.mx r.stop r.count r.elem r.bs.length r.names.length r.parts.length = true := by simpa using h4
  have hr : rangesB r.kind r.size r.mn r.mx r.stop r.count r.elem r.parts n = true := by simpa using h11
  clear h h3 h4 h11
  simp only [Bool.and_eq_true, beq_iff_eq, bne_iff_ne, decide_eq_true_eq, not_and, ne_eq, Decidable.not_not] at h5 h6 h7 h8 h9 h10
  refine ⟨hk, hf, fun h => ?_, by omega, fun h => ⟨?_, ?_⟩, fun h => ?_, by omega, ?_, ?_, ?_, ?_, ?_, ?_, ?_, ?_⟩
  · have := h5 h; omega
  · have := h7 h; omega
  · have := h8 h; omega
  · have := h9 h; omega
  · rintro (h | h) x hx <;>
    · rw [rangesB, if_neg (by omega), if_neg (by omega), if_neg (by omega), if_neg (by omega), if_neg (by omega), if_neg (by omega), if_neg (by omega)] at hr
      have h2 : r.parts.any (fun x => !(inB x 0 ((n : Int) - 1))) = false := by simpa using hr
      have := List.any_eq_false.1 h2 x hx
      have := inB_iff.1 (by simpa using this)
      omega
  · rintro (h | h)
    · rw [rangesB, if_neg (by omega), if_neg (by omega), if_neg (by omega), if_neg (by omega), if_neg (by omega), if_pos h, Bool.and_eq_true, inB_iff, inB_iff] at hr
      omega
    · rw [rangesB, if_neg (by omega), if_neg (by omega), if_neg (by omega), if_neg (by omega), if_neg (by omega), if_neg (by omega), if_pos h, inB_iff] at hr
      omega
  · rintro (h | h)
    · rw [rangesB, if_neg (by omega), if_neg (by omega), if_neg (by omega), if_neg (by omega), if_neg (by omega), if_pos h, Bool.and_eq_true, inB_iff, inB_iff] at hr
      omega
    · rw [rangesB, if_neg (by omega), if_neg (by omega), if_neg (by omega), if_neg (by omega), if_pos h, Bool.and_eq_true, inB_iff, inB_iff] at hr
      omega
  · intro h
    rw [rangesB, if_pos h, Bool.and_eq_true, Bool.and_eq_true, inB_iff, inB_iff, decide_eq_true_eq] at hr
    exact ⟨hr.1.1, hr.1.2, hr.2.1.1, hr.2.1.2, hr.2.2⟩
  · intro h
    rw [rangesB, if_neg (by omega), if_pos h, Bool.and_eq_true, Bool.and_eq_true, inB_iff, inB_iff] at hr
    refine ⟨hr.1.1, hr.1.2, fun h' => ?_⟩
    have := hr.2.2
    rw [inB_iff.2 h'] at this
    cases this
  · rintro (h | h | h)
    · rw [rangesB, if_neg (by omega), if_pos h, Bool.and_eq_true, Bool.and_eq_true, inB_iff, inB_iff] at hr
      exact hr.2.1
    · rw [rangesB, if_neg (by omega), if_neg (by omega), if_neg (by omega), if_pos h, Bool.and_eq_true, inB_iff, inB_iff] at hr
      exact hr.2
    · rw [rangesB, if_neg (by omega), if_neg (by omega), if_neg (by omega), if_neg (by omega), if_pos h, Bool.and_eq_true, inB_iff, inB_iff] at hr
      exact hr.1
  · intro h
    rw [rangesB, if_neg (by omega), if_neg (by omega), if_pos h, inB_iff] at hr
    exact hr
  · intro h
    rw [rangesB, if_neg (by omega), if_neg (by omega), if_neg (by omega), if_pos h, Bool.and_eq_true, inB_iff, inB_iff] at hr
    exact hr.1
def FOk (F : List Rl) : Prop := ∀ (i : Nat) (r : Rl), F[i]? = some r → ROk F.length r
def bl (r : Rl) : List Int := beginsL r.kind r.count r.elem r.parts
theorem bl_in {n : Nat} {r : Rl} (h : ROk n r) : ∀ x ∈ bl r, 0 ≤ x ∧ x < n := by
  intro x hx
  unfold bl beginsL at hx
  split at hx
  · next hk => rw [List.mem_singleton] at hx; subst hx; exact h.count hk
  split at hx
  · next hk => exact h.parts (.inl hk) x (List.mem_of_mem_take hx)
  split at hx
  · next hk => exact h.parts (.inr hk) x hx
  split at hx
  · next hk => rw [List.mem_singleton] at hx; subst hx; exact h.elem (.inr hk)
  · cases hx
theorem bl_len {n : Nat} {r : Rl} (h : ROk n r) : (bl r).length ≤ 12 := by
  unfold bl beginsL
  split
  · simp
  split
  · have := h.p12
    rw [List.length_take]
    omega
  split
  · exact h.p12
  split
  · simp
  · simp
theorem bg_eq {F : List Rl} {i : Nat} {r : Rl} (h : F[i]? = some r) : bg F i = (bl r).map Int.toNat := by unfold bg; rw [h]; rfl
theorem FOk.bd {F : List Rl} (h : FOk F) : Bd F := by
  intro i x hx
  cases hr : F[i]? with
  | none => unfold bg at hx; rw [hr] at hx; cases hx
  | some r =>
    rw [bg_eq hr, List.mem_map] at hx
    obtain ⟨y, hy, rfl⟩ := hx
    have := bl_in (h i r hr) y hy
    omega
def boolC (l : List Bool) : List Value := l.map .bool
theorem boolC_at {l : List Bool} {i : Nat} (h : i < l.length) : (boolC l)[i]? = some (.bool (l.getD i false)) := by
  unfold boolC
  rw [List.getElem?_map, List.getElem?_eq_getElem h, List.getD_eq_getElem?_getD, List.getElem?_eq_getElem h]
  rfl
theorem boolC_set (l : List Bool) (i : Nat) (b : Bool) : (boolC l).set i (.bool b) = boolC (l.set i b) := by
  unfold boolC
  rw [List.map_set]
theorem madeB (n : Nat) : (Go.madeCells #[.bool false] (n * 1)).toList = boolC (List.replicate n false) := by
  refine List.ext_getElem? fun i => ?_
  unfold boolC Go.madeCells
  rw [List.getElem?_map]
  by_cases h : i < n
  · simp [h, Nat.mod_one]
  · simp [h]
def cycB (F : List Rl) (k : Nat) : Bool := (reachL F k).getD k false
theorem cycB_iff {F : List Rl} (hb : Bd F) {k : Nat} (hk : k < F.length) : cycB F k = true ↔ Rch F k k := reachL_iff hb hk k
structure Cy where
  seen : List Bool
  qs : List Int
  b : Nat
  q : Nat
  c : Nat
  cur : List Value
def unseen (s : Cy) (n : Nat) : Nat := cnt (fun i => !(s.seen.getD i false)) n
structure CyP (F : List Rl) (k : Nat) (s : Cy) : Prop where
  len : s.seen.length = F.length
  win : WinP s.q s.qs.length s.c s.cur (iv s.qs)
  inn : ∀ x ∈ s.qs, 0 ≤ x ∧ x < F.length
  sound : ∀ x ∈ s.qs, Rch F k x.toNat
  start : ∀ x ∈ bg F k, s.seen.getD x false = true ∨ (x : Int) ∈ s.qs
  closed : ∀ i, s.seen.getD i false = true → ∀ x ∈ bg F i, s.seen.getD x false = true ∨ (x : Int) ∈ s.qs
  notk : s.seen.getD k false = false
  small : 13 * unseen s F.length + s.qs.length ≤ 13 * F.length + 12
theorem CyP.old {F : List Rl} {k : Nat} {s : Cy} {x : Int} {t : List Int} (h : CyP F k s) (hq : s.qs = x :: t) (hx : s.seen.getD x.toNat false = true) (hxn : 0 ≤ x) {q' c' : Nat} (hw : WinP q' t.length c' s.cur (iv t)) : CyP F k { s with qs := t, q := q', c := c' } := by
  have hmem : ∀ y : Nat, (y : Int) ∈ s.qs → s.seen.getD y false = true ∨ (y : Int) ∈ t := by
    intro y hy
    rw [hq] at hy
    rcases List.mem_cons.1 hy with e | e
    · left; rw [← e] at hx; simpa using hx
    · exact .inr e
  refine ⟨h.len, hw, fun y hy => h.inn y (by rw [hq]; exact List.mem_cons_of_mem _ hy), fun y hy => h.sound y (by rw [hq]; exact List.mem_cons_of_mem _ hy), ?_, ?_, h.notk, ?_⟩
  · intro y hy
    rcases h.start y hy with h1 | h1
    · exact .inl h1
    · exact hmem y h1
  · intro i hi y hy
    rcases h.closed i hi y hy with h1 | h1
    · exact .inl h1
    · exact hmem y h1
  · have h1 := h.small
    rw [hq] at h1
    simp only [List.length_cons] at h1
    show 13 * unseen s F.length + t.length ≤ _
    omega
theorem CyP.new {F : List Rl} (hF : FOk F) {k : Nat} {s : Cy} {x : Int} {t : List Int} {r : Rl} (h : CyP F k s) (hq : s.qs = x :: t) (hr : F[x.toNat]? = some r) (hx : s.seen.getD x.toNat false = false) (hne : x ≠ (k : Int)) {b' q' c' : Nat} {cur' : List Value} (hw : WinP q' (t ++ bl r).length c' cur' (iv (t ++ bl r))) :
    CyP F k { seen := s.seen.set x.toNat true, qs := t ++ bl r, b := b', q := q', c := c', cur := cur' } ∧ 13 * unseen { seen := s.seen.set x.toNat true, qs := t ++ bl r, b := b', q := q', c := c', cur := cur' } F.length + (t ++ bl r).length < 13 * unseen s F.length + s.qs.length := by
  have hxi := h.inn x (by rw [hq]; exact List.mem_cons_self)
  have hxl : x.toNat < s.seen.length := by rw [h.len]; omega
  have hset : ∀ i, (s.seen.set x.toNat true).getD i false = if i = x.toNat then true else s.seen.getD i false := fun i => getD_set_bool _ _ _ _ hxl
  have hbl := bl_len (hF _ _ hr)
  have hlt : unseen { seen := s.seen.set x.toNat true, qs := t ++ bl r, b := b', q := q', c := c', cur := cur' } F.length < unseen s F.length := by
    refine cnt_lt F.length (fun i hi hh => ?_) ⟨x.toNat, by omega, ?_, ?_⟩
    · show (!(s.seen.getD i false)) = true
      have hh' : (!((s.seen.set x.toNat true).getD i false)) = true := hh
      rw [hset] at hh'
      split at hh'
      · cases hh'
      · exact hh'
    · show (!((s.seen.set x.toNat true).getD x.toNat false)) = false
      rw [hset, if_pos rfl]
      rfl
    · show (!(s.seen.getD x.toNat false)) = true
      rw [hx]
      rfl
  have hm : 13 * unseen { seen := s.seen.set x.toNat true, qs := t ++ bl r, b := b', q := q', c := c', cur := cur' } F.length + (t ++ bl r).length < 13 * unseen s F.length + s.qs.length := by
    rw [hq, List.length_append, List.length_cons]
    omega
  refine ⟨⟨by simp [h.len], hw, ?_, ?_, ?_, ?_, ?_, ?_⟩, hm⟩
  · intro y hy
    rcases List.mem_append.1 hy with e | e
    · exact h.inn y (by rw [hq]; exact List.mem_cons_of_mem _ e)
    · exact bl_in (hF _ _ hr) y e
  · intro y hy
    rcases List.mem_append.1 hy with e | e
    · exact h.sound y (by rw [hq]; exact List.mem_cons_of_mem _ e)
    · refine .more (h.sound x (by rw [hq]; exact List.mem_cons_self)) ?_
      rw [bg_eq hr]
      exact List.mem_map_of_mem e
  · intro y hy
    rw [hset]
    split
    · exact .inl rfl
    · next hyx =>
      rcases h.start y hy with h1 | h1
      · exact .inl h1
      · rw [hq] at h1
        rcases List.mem_cons.1 h1 with e | e
        · exact absurd (by omega) hyx
        · exact .inr (List.mem_append_left _ e)
  · intro i hi y hy
    rw [hset] at hi ⊢
    split
    · exact .inl rfl
    · next hyx =>
      split at hi
      · next hix =>
        subst hix
        right
        rw [bg_eq hr, List.mem_map] at hy
        obtain ⟨z, hz, rfl⟩ := hy
        have := bl_in (hF _ _ hr) z hz
        rw [show ((z.toNat : Nat) : Int) = z by omega]
        exact List.mem_append_right _ hz
      · rcases h.closed i hi y hy with h1 | h1
        · exact .inl h1
        · rw [hq] at h1
          rcases List.mem_cons.1 h1 with e | e
          · exact absurd (by omega) hyx
          · exact .inr (List.mem_append_left _ e)
  · rw [hset, if_neg (by omega)]
    exact h.notk
  · have := h.small
    show 13 * unseen _ F.length + (t ++ bl r).length ≤ _
    omega
theorem CyP.done {F : List Rl} (hF : FOk F) {k : Nat} (hk : k < F.length) {s : Cy} (h : CyP F k s) (hq : s.qs = []) : cycB F k = false := by
  cases hc : cycB F k with
  | false => rfl
  | true =>
    exfalso
    have hr := (cycB_iff hF.bd hk).1 hc
    have hall : ∀ j, Rch F k j → s.seen.getD j false = true := by
      intro j hj
      induction hj with
      | one h' =>
        rcases h.start _ h' with h1 | h1
        · exact h1
        · rw [hq] at h1; cases h1
      | more _ h' ih =>
        rcases h.closed _ ih _ h' with h1 | h1
        · exact h1
        · rw [hq] at h1; cases h1
    have := hall k hr
    rw [h.notk] at this
    cases this
end Go.Proofs.YtgdiadednlajgaaGreatDoor
namespace Go.Proofs.YtgdiadednlajgaaGreatDoor
open Go.RowKit
set_option linter.unusedVariables false
set_option linter.unusedSimpArgs false
def setC (st : Nat → Bool) : List Value := (List.range 256).map fun j => .bool (st j)
theorem setC_len (st : Nat → Bool) : (setC st).length = 256 := by simp [setC]
theorem setC_at (st : Nat → Bool) {j : Nat} (h : j < 256) : (setC st)[j]? = some (.bool (st j)) := by
  simp [setC, List.getElem?_map, List.getElem?_range h]
theorem setC_set (st : Nat → Bool) (j : Nat) (v : Bool) : (setC st).set j (.bool v) = setC (fun i => if i = j then v else st i) := by
  refine List.ext_getElem? fun i => ?_
  rw [List.getElem?_set]
  by_cases hi : i < 256
  · rw [setC_at _ hi, setC_len]
    by_cases hj : j = i
    · subst hj; rw [if_pos rfl, if_pos hi, setC_at _ hi, if_pos rfl]
    · rw [if_neg hj, setC_at _ hi]
      have : ¬ i = j := fun e => hj e.symm
      simp [this]
  · have h1 : (setC st)[i]? = none := List.getElem?_eq_none (by rw [setC_len]; omega)
    have h2 : (setC (fun i => if i = j then v else st i))[i]? = none := List.getElem?_eq_none (by rw [setC_len]; omega)
    rw [h1, h2, setC_len]
    split
    · rw [if_neg (by omega)]
    · rfl
def fillS (st : Nat → Bool) (lo hi : Int) : Nat → Bool := fun j => st j || decide (lo + ((j : Int) - lo) % 256 ≤ hi)
theorem setC_ext {s t : Nat → Bool} (h : ∀ j, j < 256 → s j = t j) : setC s = setC t := by
  unfold setC
  exact List.map_congr_left fun j hj => by rw [h j (List.mem_range.1 hj)]
theorem fill_step (st : Nat → Bool) (lo c : Int) (h : lo ≤ c) (h0 : 0 ≤ lo) : (setC (fillS st lo (c - 1))).set (c % 256).toNat (.bool true) = setC (fillS st lo c) := by
  rw [setC_set]
  refine setC_ext fun j hj => ?_
  unfold fillS
  by_cases he : j = (c % 256).toNat
  · rw [if_pos he, decide_eq_true (by omega), Bool.or_true]
  · rw [if_neg he]
    congr 1
    rw [decide_eq_decide]
    omega
theorem fill_none (st : Nat → Bool) (lo : Int) : setC (fillS st lo (lo - 1)) = setC st :=
  setC_ext fun j hj => by
    unfold fillS
    rw [decide_eq_false (by omega), Bool.or_false]
theorem fill_all (st : Nat → Bool) (lo hi : Int) (h : hi < lo) : setC (fillS st lo (lo - 1)) = setC (fillS st lo hi) :=
  setC_ext fun j hj => by
    unfold fillS
    rw [decide_eq_false (by omega), decide_eq_false (by omega)]
theorem rem256 (c : Int) (h : 0 ≤ c) (w : World) : (Op.intDiv .rem .i64 c 256).run Tryz.prog w = .ok (.int .i64 (((c % 256).toNat : Nat) : Int)) w := by
  have e : (((c % 256).toNat : Nat) : Int) = c % 256 := by omega
  rw [e]
  simp [Op.intDiv, go_sem]
  exact IntWalk.rem_in c 256 h
set_option maxRecDepth 100000 in
theorem fill_calls {st : Nat → Bool} {b : Nat} {lo hi : Int} {W : World} (hb : W.heap[b]? = some (.cells (setC st).toArray 63 (0, 0))) (h0 : 0 ≤ lo) (h1 : hi ≤ 1099511627776) (h2 : lo ≤ 1099511627776) :
    Calls Tryz.prog 89 #[.int .i64 lo, .int .i64 hi, .pointer (some ⟨b, 0, none⟩)] W fun e w' => e = .returned (.tuple #[]) ∧ w'.heap[b]? = some (.cells (setC (fillS st lo hi)).toArray 63 (0, 0)) ∧ Keep [b] W w' := by
  go_enter Tryz.func89, Tryz.ntmps89
  refine s_go (M := [b]) (W := W) (N := 15) (E := [(0, .int .i64 lo), (1, .int .i64 hi), (2, .pointer (some ⟨b, 0, none⟩))]) (O := [.blk b (.cells (setC st).toArray 63 (0, 0))]) ?_ (Ag.cons (Ag.cons (Ag.cons (Ag.nil rfl rfl) rfl) rfl) rfl) ((Wd.start [b] W).add hb (fun b' h _ => by cases h; exact List.mem_singleton.2 rfl) (fun i x b' h => by cases h))
  repeat (first | refine l_nil ?_ | refine s_seq ?_ | refine s_region ?_ | refine s_block ?_ | refine l_op (o_move rfl rfl (by decide) rfl rfl) ?_ | refine l_op (o_assign rfl rfl (by decide) rfl rfl) ?_)
  refine s_loop (ι := Int) (fun c => lo ≤ c ∧ (c ≤ hi + 1 ∨ c = lo)) (fun c => (hi + 1 - c).toNat) (fun c => [(5, .int .i64 c), (1, .int .i64 hi), (2, .pointer (some ⟨b, 0, none⟩))]) (fun c => [.blk b (.cells (setC (fillS st lo (c - 1))).toArray 63 (0, 0))]) lo [0] (by decide) ⟨by omega, by omega⟩ (.cons rfl rfl (.cons rfl rfl (.cons rfl rfl .nil))) (by rw [fill_none]; rfl) ?_
  rintro c ⟨h3, h4⟩
  by_cases hc : c ≤ hi
  · skip
    repeat (first | (refine l_op (o_bin (v := .int .i64 (((c % 256).toNat : Nat) : Int)) rfl rfl (by decide) rfl rfl rfl (fun w => by rw [binOp_rem]; exact rem256 c (by omega) w)) ?_) | refine l_op (o_indexArr (j := (c % 256).toNat) rfl rfl (by decide) rfl rfl rfl (by omega)) ?_ | refine l_loud0 (u_store 0 rfl rfl rfl rfl rfl rfl (setC_at _ (show 0 + (c % 256).toNat * 1 < 256 by omega))) rfl (fun _ _ => ?_) | refine l_nil ?_ | refine s_seq ?_ | refine s_region ?_ | refine s_skip ?_ | refine s_cond_true rfl ?_ | refine s_block ?_ | refine l_op (o_move rfl rfl (by decide) rfl rfl) ?_ | refine l_op (o_assign rfl rfl (by decide) rfl rfl) ?_ | refine l_op (o_leq (b := true) rfl rfl (by decide) rfl rfl rfl (decide_eq_true (by omega))) ?_ | refine l_op (o_add (k := .i64) rfl rfl (by decide) rfl rfl rfl (IntWalk.i64_in _ (by omega))) ?_)
    refine x_round (c + 1) [0] (by decide) ⟨by omega, by omega⟩ (by omega) (.cons rfl rfl (.cons rfl rfl (.cons rfl rfl .nil))) ?_
    show [Atom.blk b (.cells ((setC (fillS st lo (c - 1))).set (0 + (c % 256).toNat * 1) (.bool true)).toArray 63 (0, 0))] = _
    rw [Nat.zero_add, Nat.mul_one, fill_step st lo c h3 h0, Int.add_sub_cancel]
  · skip
    repeat (first | refine l_nil ?_ | refine s_seq ?_ | refine s_region ?_ | refine s_cond_false rfl ?_ | refine s_exit ?_ | refine x_block_out ?_ | refine x_then_exit ?_ | refine l_op (o_move rfl rfl (by decide) rfl rfl) ?_ | refine l_op (o_leq (b := false) rfl rfl (by decide) rfl rfl rfl (decide_eq_false (by omega))) ?_)
    refine x_body0 (.inl rfl) rfl (fun w hw => ⟨rfl, ?_, hw.k⟩)
    have h : w.heap[b]? = some (.cells (setC (fillS st lo (c - 1))).toArray 63 (0, 0)) := hw.own 0 _ rfl
    rw [h]
    congr 3
    by_cases hcl : c = hi + 1
    · rw [hcl, Int.add_sub_cancel]
    · obtain rfl : c = lo := by omega
      rw [fill_all st c hi (by omega)]
end Go.Proofs.YtgdiadednlajgaaGreatDoor
