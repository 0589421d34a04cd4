import Derived.Test.YtgdiadednlajgaaGreatDoorP28
namespace Go.Proofs.YtgdiadednlajgaaGreatDoor
set_option linter.unusedVariables false
def lk (old : List Int) (x : Int) : Int := old.getD x.toNat 0
def lnAt (F : List Rl) (x : Int) : Int := match F[x.toNat]? with | some r => leastN r.kind r.mn | none => 0
def seqR (old : List Int) : Int → List Int → Int
  | n, [] => n
  | n, x :: l => seqR old (if 0 ≤ (if lk old x < 0 then -1 else n) then cap1 ((if lk old x < 0 then -1 else n) + lk old x) else (if lk old x < 0 then -1 else n)) l
def choR (old : List Int) : Int → List Int → Int
  | n, [] => n
  | n, x :: l => choR old (if 0 ≤ lk old x ∧ (n < 0 ∨ lk old x < n) then lk old x else n) l
def oneR (F : List Rl) (old : List Int) (r : Rl) : Int :=
  if r.kind = 1 then (r.bs.length : Int)
  else if r.kind = 2 ∨ r.kind = 4 then r.size
  else if r.kind = 3 then 2
  else if r.kind = 5 ∨ r.kind = 9 then 1
  else if r.kind = 6 then (if 0 ≤ lk old r.count ∧ lnAt F r.count = 0 then lk old r.count else if 0 ≤ lk old r.count ∧ 0 ≤ lk old r.elem then cap1 (lk old r.count + lnAt F r.count * lk old r.elem) else -1)
  else if r.kind = 10 then (if 0 ≤ lk old r.count then cap1 (lk old r.count + lnAt F r.count) else -1)
  else if r.kind = 7 then seqR old 0 r.parts
  else if r.kind = 8 then choR old (-1) r.parts
  else -1
def roundR (F : List Rl) (old : List Int) : List Int := F.map (oneR F old)
def leastT (F : List Rl) (t : Nat) : List Int := iter (roundR F) t (List.replicate F.length (-1))
def leastL (F : List Rl) : List Int := leastT F (2 * F.length + 1)
def sumT (out : List Int) (l : List Int) : Int := l.foldl (fun s x => s + lk out x) 0
def minT (out : List Int) (l : List Int) : Int := l.foldl (fun s x => min s (lk out x)) 1001
def oneT (F : List Rl) (out : List Int) (r : Rl) : Int :=
  if r.kind = 1 then (r.bs.length : Int)
  else if r.kind = 2 ∨ r.kind = 4 then r.size
  else if r.kind = 3 then 2
  else if r.kind = 10 then lk out r.count + mnAt F r.count
  else if r.kind = 6 then lk out r.count + mnAt F r.count * lk out r.elem
  else if r.kind = 7 then sumT out r.parts
  else if r.kind = 8 then minT out r.parts
  else 1
structure IsFix (F : List Rl) (a : List Int) : Prop where
  len : a.length = F.length
  eq : ∀ (i : Nat) (r : Rl), F[i]? = some r → a.getD i 0 = min (oneT F a r) 1001
  nn : ∀ i : Nat, 0 ≤ a.getD i 0
structure Usd (F : List Rl) : Prop where
  ok : FOk F
  use : ∀ (i : Nat) (r : Rl), F[i]? = some r → (r.kind = 6 ∨ r.kind = 10) → ∃ c, F[r.count.toNat]? = some c ∧ (c.kind = 2 ∨ c.kind = 3)
structure Vld (F : List Rl) : Prop extends Usd F where
  cyc : ∀ i, i < F.length → ¬ Rch F i i
  fin : ∀ i, i < F.length → (finL F).getD i false = true
theorem cap1_le (n : Int) : cap1 n ≤ 1001 := by unfold cap1; split <;> omega
theorem cap1_min (n : Int) : cap1 n = min n 1001 := by unfold cap1; split <;> omega
theorem roundR_len (F : List Rl) (old : List Int) : (roundR F old).length = F.length := by unfold roundR; rw [List.length_map]
theorem leastT_len (F : List Rl) : ∀ t, (leastT F t).length = F.length
  | 0 => List.length_replicate
  | t + 1 => roundR_len F _
theorem roundR_get {F : List Rl} {i : Nat} {r : Rl} (h : F[i]? = some r) (old : List Int) : (roundR F old).getD i 0 = oneR F old r := by
  unfold roundR
  rw [List.getD_eq_getElem?_getD, List.getElem?_map, h]
  rfl
theorem leastT_get {F : List Rl} {i : Nat} {r : Rl} (h : F[i]? = some r) (t : Nat) : (leastT F (t + 1)).getD i 0 = oneR F (leastT F t) r := roundR_get h _
theorem Usd.least {F : List Rl} (hv : Usd F) {i : Nat} {r : Rl} (h : F[i]? = some r) (hk : r.kind = 6 ∨ r.kind = 10) : 0 ≤ mnAt F r.count ∧ lnAt F r.count = min (mnAt F r.count) 1001 := by
  obtain ⟨c, hc, h23⟩ := hv.use i r h hk
  have hok := hv.ok _ _ hc
  rw [mnAt_eq hc]
  unfold lnAt
  rw [hc]
  show _ ∧ leastN c.kind c.mn = _
  unfold leastN
  rcases h23 with h2 | h3
  · rw [if_pos h2, cap1_min]
    exact ⟨(hok.num h2).2.2.1, rfl⟩
  · rw [if_neg (by omega)]
    have hf := hok.formed
    unfold formedB at hf
    simp only [Bool.and_eq_true, Bool.or_eq_true, beq_iff_eq] at hf
    have := hf.1.1.1.1.1.2
    have h0 : c.mn = 0 := by
      rcases this with h | h
      · exact h.2
      · omega
    rw [h0]
    exact ⟨by omega, rfl⟩
section
variable {F : List Rl}
def sg (old : List Int) : List Bool := old.map fun n => decide (0 ≤ n)
theorem sg_mk {old : List Int} {x : Int} (hx : 0 ≤ x ∧ x < old.length) : mk (sg old) x = decide (0 ≤ lk old x) := by
  unfold mk sg lk
  rw [List.getD_eq_getElem?_getD, List.getElem?_map, List.getD_eq_getElem?_getD]
  have : x.toNat < old.length := by omega
  rw [List.getElem?_eq_getElem this]
  rfl
structure Rnd (F : List Rl) (a old : List Int) : Prop where
  len : old.length = F.length
  up : ∀ j : Nat, j < F.length → old.getD j 0 < 0 ∨ a.getD j 0 ≤ old.getD j 0
  top : ∀ j : Nat, old.getD j 0 ≤ 1001
theorem seqR_neg (old : List Int) : ∀ (l : List Int) (n : Int), n < 0 → seqR old n l < 0
  | [], n, h => h
  | x :: l, n, h => by
    unfold seqR
    refine seqR_neg old l _ ?_
    split <;> split <;> omega
theorem seqR_some (old : List Int) : ∀ (l : List Int) (n : Int), 0 ≤ n → ((∀ x ∈ l, 0 ≤ lk old x) ↔ 0 ≤ seqR old n l)
  | [], n, h => ⟨fun _ => h, fun _ => by simp⟩
  | x :: l, n, h => by
    unfold seqR
    by_cases hx : lk old x < 0
    · rw [if_pos hx, if_neg (by omega)]
      refine ⟨fun hl => absurd (hl x List.mem_cons_self) (by omega), fun hs => ?_⟩
      have := seqR_neg old l (-1) (by omega)
      omega
    · rw [if_neg hx, if_pos h]
      have hc : 0 ≤ cap1 (n + lk old x) := by rw [cap1_min]; omega
      rw [← seqR_some old l _ hc]
      exact ⟨fun hl y hy => hl y (List.mem_cons_of_mem _ hy), fun hl y hy => by
        rcases List.mem_cons.1 hy with rfl | hy
        · omega
        · exact hl y hy⟩
theorem seqR_val (old : List Int) : ∀ (l : List Int) (n : Int), 0 ≤ n → n ≤ 1001 → (∀ x ∈ l, 0 ≤ lk old x) → seqR old n l = min (l.foldl (fun s x => s + lk old x) n) 1001
  | [], n, h, h1, _ => by show n = min n 1001; omega
  | x :: l, n, h, h1, hl => by
    have hx := hl x List.mem_cons_self
    unfold seqR
    rw [show (if lk old x < 0 then (-1 : Int) else n) = n from if_neg (by omega), if_pos h, List.foldl_cons, seqR_val old l _ (by rw [cap1_min]; omega) (cap1_le _) (fun y hy => hl y (List.mem_cons_of_mem _ hy)), cap1_min]
    have hadd : ∀ (l : List Int) (s d : Int), l.foldl (fun s x => s + lk old x) (s + d) = l.foldl (fun s x => s + lk old x) s + d := by
      intro l
      induction l with
      | nil => intro s d; rfl
      | cons y l ih => intro s d; rw [List.foldl_cons, List.foldl_cons, show s + d + lk old y = s + lk old y + d by omega, ih]
    have hpos : ∀ (l : List Int) (s : Int), (∀ y ∈ l, 0 ≤ lk old y) → s ≤ l.foldl (fun s x => s + lk old x) s := by
      intro l
      induction l with
      | nil => intro s _; exact Int.le_refl _
      | cons y l ih => intro s hy; rw [List.foldl_cons]; have := ih (s + lk old y) (fun z hz => hy z (List.mem_cons_of_mem _ hz)); have := hy y List.mem_cons_self; omega
    have hl' : ∀ y ∈ l, 0 ≤ lk old y := fun y hy => hl y (List.mem_cons_of_mem _ hy)
    by_cases hm : n + lk old x ≤ 1001
    · rw [show min (n + lk old x) 1001 = n + lk old x by omega]
    · have h2 := hpos l (min (n + lk old x) 1001) hl'
      have h3 := hpos l (n + lk old x) hl'
      omega
theorem choR_some (old : List Int) : ∀ (l : List Int) (n : Int), (0 ≤ n ∨ ∃ x ∈ l, 0 ≤ lk old x) ↔ 0 ≤ choR old n l
  | [], n => ⟨fun h => h.elim id (fun ⟨x, hx, _⟩ => absurd hx (by simp)), fun h => .inl h⟩
  | x :: l, n => by
    unfold choR
    rw [← choR_some old l]
    constructor
    · rintro (h | ⟨y, hy, h⟩)
      · left; split <;> omega
      · rcases List.mem_cons.1 hy with rfl | hy
        · left
          split
          · exact h
          · next hn => omega
        · exact .inr ⟨y, hy, h⟩
    · rintro (h | ⟨y, hy, h⟩)
      · split at h
        · next hc => exact .inr ⟨x, List.mem_cons_self, hc.1⟩
        · exact .inl h
      · exact .inr ⟨y, List.mem_cons_of_mem _ hy, h⟩
theorem choR_ge (old : List Int) (m : Int) : ∀ (l : List Int) (n : Int), (n < 0 ∨ m ≤ n) → (∀ x ∈ l, lk old x < 0 ∨ m ≤ lk old x) → choR old n l < 0 ∨ m ≤ choR old n l
  | [], n, h, _ => h
  | x :: l, n, h, hl => by
    unfold choR
    refine choR_ge old m l _ ?_ fun y hy => hl y (List.mem_cons_of_mem _ hy)
    have := hl x List.mem_cons_self
    split
    · exact this
    · exact h
theorem choR_top (old : List Int) (ht : ∀ j : Nat, old.getD j 0 ≤ 1001) : ∀ (l : List Int) (n : Int), n ≤ 1001 → choR old n l ≤ 1001
  | [], n, h => h
  | x :: l, n, h => by
    unfold choR
    refine choR_top old ht l _ ?_
    have : lk old x ≤ 1001 := ht _
    split <;> omega
theorem choR_le (old : List Int) : ∀ (l : List Int) (n : Int), (0 ≤ n → choR old n l ≤ n) ∧ ∀ x ∈ l, 0 ≤ lk old x → choR old n l ≤ lk old x
  | [], n => ⟨fun _ => Int.le_refl _, fun x hx => by cases hx⟩
  | x :: l, n => by
    unfold choR
    refine ⟨fun h => ?_, fun y hy h => ?_⟩
    · have := choR_le old l (if 0 ≤ lk old x ∧ (n < 0 ∨ lk old x < n) then lk old x else n)
      split at this <;> split <;> first | omega | skip
      all_goals (have h1 := this.1; simp_all; try omega)
    · rcases List.mem_cons.1 hy with rfl | hy
      · by_cases hc : 0 ≤ lk old y ∧ (n < 0 ∨ lk old y < n)
        · rw [if_pos hc]; exact (choR_le old l _).1 h
        · rw [if_neg hc]
          have := (choR_le old l n).1 (by omega)
          omega
      · exact (choR_le old l _).2 y hy h
theorem seqR_top (old : List Int) : ∀ (l : List Int) (n : Int), n ≤ 1001 → seqR old n l ≤ 1001
  | [], n, h => h
  | x :: l, n, h => by
    unfold seqR
    refine seqR_top old l _ ?_
    by_cases hx : lk old x < 0
    · rw [if_pos hx, if_neg (by omega)]; omega
    · rw [if_neg hx]
      split
      · exact cap1_le _
      · exact h
theorem foldl_min_le (out : List Int) : ∀ (l : List Int) (n : Int), l.foldl (fun s x => min s (lk out x)) n ≤ n ∧ ∀ x ∈ l, l.foldl (fun s x => min s (lk out x)) n ≤ lk out x
  | [], n => ⟨Int.le_refl _, fun x hx => by cases hx⟩
  | x :: l, n => by
    rw [List.foldl_cons]
    have h := foldl_min_le out l (min n (lk out x))
    refine ⟨by omega, fun y hy => ?_⟩
    rcases List.mem_cons.1 hy with rfl | hy
    · omega
    · exact h.2 y hy
theorem foldl_min_at (out : List Int) : ∀ (l : List Int) (n : Int), l.foldl (fun s x => min s (lk out x)) n = n ∨ ∃ x ∈ l, l.foldl (fun s x => min s (lk out x)) n = lk out x
  | [], n => .inl rfl
  | x :: l, n => by
    rw [List.foldl_cons]
    rcases foldl_min_at out l (min n (lk out x)) with h | ⟨y, hy, h⟩
    · by_cases hc : n ≤ lk out x
      · left; omega
      · right; exact ⟨x, List.mem_cons_self, by omega⟩
    · exact .inr ⟨y, List.mem_cons_of_mem _ hy, h⟩
theorem foldl_sum_ge (old a : List Int) : ∀ (l : List Int) (n m : Int), m ≤ n → (∀ x ∈ l, lk a x ≤ lk old x) → l.foldl (fun s x => s + lk a x) m ≤ l.foldl (fun s x => s + lk old x) n
  | [], n, m, h, _ => h
  | x :: l, n, m, h, hl => by
    rw [List.foldl_cons, List.foldl_cons]
    refine foldl_sum_ge old a l _ _ ?_ fun y hy => hl y (List.mem_cons_of_mem _ hy)
    have := hl x List.mem_cons_self
    omega
theorem foldl_sum_eq (old a : List Int) : ∀ (l : List Int) (n : Int), (∀ x ∈ l, lk a x = lk old x) → l.foldl (fun s x => s + lk a x) n = l.foldl (fun s x => s + lk old x) n
  | [], n, _ => rfl
  | x :: l, n, hl => by
    rw [List.foldl_cons, List.foldl_cons, hl x List.mem_cons_self]
    exact foldl_sum_eq old a l _ fun y hy => hl y (List.mem_cons_of_mem _ hy)
theorem foldl_sum_mem (a : List Int) : ∀ (l : List Int) (n : Int), (∀ x ∈ l, 0 ≤ lk a x) → n ≤ l.foldl (fun s x => s + lk a x) n ∧ ∀ x ∈ l, n + lk a x ≤ l.foldl (fun s x => s + lk a x) n
  | [], n, _ => ⟨Int.le_refl _, fun x hx => by cases hx⟩
  | x :: l, n, hl => by
    rw [List.foldl_cons]
    have h := foldl_sum_mem a l (n + lk a x) fun y hy => hl y (List.mem_cons_of_mem _ hy)
    have h0 := hl x List.mem_cons_self
    refine ⟨by omega, fun y hy => ?_⟩
    rcases List.mem_cons.1 hy with rfl | hy
    · omega
    · have := h.2 y hy; omega
end
section
variable {F : List Rl} {a : List Int}
theorem IsFix.top (h : IsFix F a) (i : Nat) : a.getD i 0 ≤ 1001 := by
  by_cases hi : i < F.length
  · rw [h.eq i F[i] (List.getElem?_eq_getElem hi)]; omega
  · rw [List.getD_eq_getElem?_getD, List.getElem?_eq_none (by rw [h.len]; omega)]; decide
noncomputable def rk (F : List Rl) (i : Nat) : Nat := by
  classical exact cnt (fun j => decide (Rch F i j)) F.length
theorem rk_lt (hv : Vld F) {i j : Nat} (hj : j ∈ bg F i) : rk F j < rk F i := by
  classical
  have hjn : j < F.length := hv.ok.bd i j hj
  unfold rk
  refine cnt_lt F.length (fun x _ hx => ?_) ⟨j, hjn, ?_, ?_⟩
  · rw [decide_eq_true_eq] at hx ⊢
    exact Rch.trans (.one hj) hx
  · rw [decide_eq_false_iff_not]; exact hv.cyc j hjn
  · rw [decide_eq_true_eq]; exact .one hj
theorem bg_of {i : Nat} {r : Rl} (hr : F[i]? = some r) {x : Int} (hx : x ∈ bl r) : x.toNat ∈ bg F i := by
  rw [bg_eq hr]; exact List.mem_map_of_mem hx
theorem lk_nn (h : IsFix F a) (x : Int) : 0 ≤ lk a x := h.nn _
theorem IsFix.pos (hv : Vld F) (h : IsFix F a) : ∀ (m i : Nat), rk F i < m → i < F.length → 1 ≤ a.getD i 0
  | 0, i, hm, _ => absurd hm (by omega)
  | m + 1, i, hm, hi => by
    have hr : F[i]? = some F[i] := List.getElem?_eq_getElem hi
    obtain ⟨r, hrr⟩ : ∃ r, r = F[i] := ⟨_, rfl⟩
    rw [← hrr] at hr
    have hok := hv.ok i r hr
    have hbeg : ∀ x ∈ bl r, 1 ≤ lk a x := fun x hx => by
      have hb := bg_of hr hx
      exact IsFix.pos hv h m x.toNat (by have := rk_lt hv hb; omega) (hv.ok.bd i _ hb)
    rw [h.eq i r hr]
    unfold oneT
    by_cases h1 : r.kind = 1
    · rw [if_pos h1]; have := hok.bs1 h1; omega
    rw [if_neg h1]
    by_cases h2 : r.kind = 2 ∨ r.kind = 4
    · rw [if_pos h2]
      rcases h2 with h2 | h4
      · have := (hok.num h2).1; omega
      · have := (hok.size4 h4).1; omega
    rw [if_neg h2]
    by_cases h3 : r.kind = 3
    · rw [if_pos h3]; omega
    rw [if_neg h3]
    by_cases h10 : r.kind = 10
    · rw [if_pos h10]
      have := hbeg r.count (by unfold bl beginsL; rw [if_pos (.inr h10)]; exact List.mem_singleton.2 rfl)
      have := (hv.least hr (.inr h10)).1
      omega
    rw [if_neg h10]
    by_cases h6 : r.kind = 6
    · rw [if_pos h6]
      have := hbeg r.count (by unfold bl beginsL; rw [if_pos (.inl h6)]; exact List.mem_singleton.2 rfl)
      have := Int.mul_nonneg (hv.least hr (.inl h6)).1 (lk_nn h r.elem)
      omega
    rw [if_neg h6]
    by_cases h7 : r.kind = 7
    · rw [if_pos h7]
      have hne := (hok.seven h7).2
      obtain ⟨x, hx⟩ : ∃ x, r.parts[0]? = some x := ⟨_, List.getElem?_eq_getElem hne⟩
      have hxb : x ∈ bl r := by
        unfold bl beginsL
        rw [if_neg (by omega), if_pos h7]
        cases hp : r.parts with
        | nil => rw [hp] at hx; cases hx
        | cons y l => rw [hp] at hx; cases hx; exact List.mem_cons_self
      have h1' := hbeg x hxb
      have := (foldl_sum_mem a r.parts 0 (fun y _ => lk_nn h y)).2 x (List.mem_of_getElem? hx)
      unfold sumT
      omega
    rw [if_neg h7]
    by_cases h8 : r.kind = 8
    · rw [if_pos h8]
      unfold minT
      rcases foldl_min_at a r.parts 1001 with e | ⟨x, hx, e⟩
      · rw [e]; omega
      · rw [e]
        have := hbeg x (by unfold bl beginsL; rw [if_neg (by omega), if_neg h7, if_pos h8]; exact hx)
        omega
    rw [if_neg h8]
    omega
theorem IsFix.one (hv : Vld F) (h : IsFix F a) {x : Int} (hx : 0 ≤ x ∧ x < F.length) : 1 ≤ lk a x := IsFix.pos hv h (rk F x.toNat + 1) _ (by omega) (by omega)
theorem Usd.inn (hv : Usd F) {i : Nat} {r : Rl} (hr : F[i]? = some r) (hk : r.kind = 7 ∨ r.kind = 8) : ∀ x ∈ r.parts, 0 ≤ x ∧ x < F.length := (hv.ok i r hr).parts hk
theorem Rnd.lkup {old : List Int} (h : Rnd F a old) {x : Int} (hx : 0 ≤ x ∧ x < F.length) : lk old x < 0 ∨ lk a x ≤ lk old x := h.up x.toNat (by omega)
theorem kinds10 {n : Nat} {r : Rl} (h : ROk n r) : r.kind = 1 ∨ (r.kind = 2 ∨ r.kind = 4) ∨ r.kind = 3 ∨ (r.kind = 5 ∨ r.kind = 9) ∨ r.kind = 6 ∨ r.kind = 10 ∨ r.kind = 7 ∨ r.kind = 8 := by
  have := h.kind
  omega
theorem oneR_6 (old : List Int) {r : Rl} (h : r.kind = 6) : oneR F old r = if 0 ≤ lk old r.count ∧ lnAt F r.count = 0 then lk old r.count else if 0 ≤ lk old r.count ∧ 0 ≤ lk old r.elem then cap1 (lk old r.count + lnAt F r.count * lk old r.elem) else -1 := by
  unfold oneR
  rw [if_neg (by omega), if_neg (by omega), if_neg (by omega), if_neg (by omega), if_pos h]
theorem oneR_10 (old : List Int) {r : Rl} (h : r.kind = 10) : oneR F old r = if 0 ≤ lk old r.count then cap1 (lk old r.count + lnAt F r.count) else -1 := by
  unfold oneR
  rw [if_neg (by omega), if_neg (by omega), if_neg (by omega), if_neg (by omega), if_neg (by omega), if_pos h]
theorem oneR_7 (old : List Int) {r : Rl} (h : r.kind = 7) : oneR F old r = seqR old 0 r.parts := by
  unfold oneR
  rw [if_neg (by omega), if_neg (by omega), if_neg (by omega), if_neg (by omega), if_neg (by omega), if_neg (by omega), if_pos h]
theorem oneR_8 (old : List Int) {r : Rl} (h : r.kind = 8) : oneR F old r = choR old (-1) r.parts := by
  unfold oneR
  rw [if_neg (by omega), if_neg (by omega), if_neg (by omega), if_neg (by omega), if_neg (by omega), if_neg (by omega), if_neg (by omega), if_pos h]
theorem oneT_6 (out : List Int) {r : Rl} (h : r.kind = 6) : oneT F out r = lk out r.count + mnAt F r.count * lk out r.elem := by
  unfold oneT
  rw [if_neg (by omega), if_neg (by omega), if_neg (by omega), if_neg (by omega), if_pos h]
theorem oneT_10 (out : List Int) {r : Rl} (h : r.kind = 10) : oneT F out r = lk out r.count + mnAt F r.count := by
  unfold oneT
  rw [if_neg (by omega), if_neg (by omega), if_neg (by omega), if_pos h]
theorem oneT_7 (out : List Int) {r : Rl} (h : r.kind = 7) : oneT F out r = sumT out r.parts := by
  unfold oneT
  rw [if_neg (by omega), if_neg (by omega), if_neg (by omega), if_neg (by omega), if_neg (by omega), if_pos h]
theorem oneT_8 (out : List Int) {r : Rl} (h : r.kind = 8) : oneT F out r = minT out r.parts := by
  unfold oneT
  rw [if_neg (by omega), if_neg (by omega), if_neg (by omega), if_neg (by omega), if_neg (by omega), if_neg (by omega), if_pos h]
theorem one_fix (old out : List Int) {n : Nat} {r : Rl} (ho : ROk n r) (h : r.kind = 1 ∨ (r.kind = 2 ∨ r.kind = 4) ∨ r.kind = 3 ∨ (r.kind = 5 ∨ r.kind = 9)) : 1 ≤ oneR F old r ∧ oneR F old r ≤ 1001 ∧ oneR F old r = oneT F out r := by
  unfold oneR oneT
  rcases h with h | h | h | h
  · rw [if_pos h, if_pos h]; have := ho.bs1 h; have := ho.bs16; omega
  · rw [if_neg (by omega), if_pos h, if_neg (by omega), if_pos h]
    rcases h with h2 | h4
    · have := ho.num h2; omega
    · have := ho.size4 h4; omega
  · rw [if_neg (by omega), if_neg (by omega), if_pos h, if_neg (by omega), if_neg (by omega), if_pos h]; omega
  · rw [if_neg (by omega), if_neg (by omega), if_neg (by omega), if_pos h, if_neg (by omega), if_neg (by omega), if_neg (by omega), if_neg (by omega), if_neg (by omega), if_neg (by omega), if_neg (by omega)]; omega
theorem oneR_up (hv : Vld F) (hf : IsFix F a) {old : List Int} (h : Rnd F a old) {i : Nat} {r : Rl} (hr : F[i]? = some r) : (oneR F old r < 0 ∨ a.getD i 0 ≤ oneR F old r) ∧ oneR F old r ≤ 1001 := by
  have hok := hv.ok i r hr
  have heq := hf.eq i r hr
  rcases (by have := kinds10 hok; omega : (r.kind = 1 ∨ (r.kind = 2 ∨ r.kind = 4) ∨ r.kind = 3 ∨ (r.kind = 5 ∨ r.kind = 9)) ∨ r.kind = 6 ∨ r.kind = 10 ∨ r.kind = 7 ∨ r.kind = 8) with hk | h6 | h10 | h7 | h8
  · have := one_fix (F := F) old a hok hk
    omega
  · have hc := hok.count (.inl h6)
    have he := hok.elem (.inl h6)
    have hl := hv.least hr (.inl h6)
    have uc := h.lkup hc
    have ue := h.lkup he
    have pe := hf.one hv he
    have tc : lk old r.count ≤ 1001 := h.top _
    rw [oneT_6 a h6] at heq
    rw [oneR_6 old h6]
    split
    · next h0 =>
      have hm : mnAt F r.count = 0 := by omega
      rw [hm, Int.zero_mul] at heq
      omega
    · split
      · next h1 =>
        refine ⟨.inr ?_, cap1_le _⟩
        rw [cap1_min, heq, hl.2]
        by_cases hb : mnAt F r.count ≤ 1001
        · rw [show min (mnAt F r.count) 1001 = mnAt F r.count by omega]
          have := Int.mul_le_mul_of_nonneg_left (c := mnAt F r.count) (a := lk a r.elem) (b := lk old r.elem) (by omega) hl.1
          omega
        · rw [show min (mnAt F r.count) 1001 = 1001 by omega]
          omega
      · omega
  · have hc := hok.count (.inr h10)
    have hl := hv.least hr (.inr h10)
    have uc := h.lkup hc
    rw [oneT_10 a h10] at heq
    rw [oneR_10 old h10]
    split
    · refine ⟨.inr ?_, cap1_le _⟩
      rw [cap1_min, heq, hl.2]
      omega
    · omega
  · have hin := hv.inn hr (.inl h7)
    rw [oneT_7 a h7] at heq
    rw [oneR_7 old h7]
    refine ⟨?_, seqR_top _ _ _ (by omega)⟩
    by_cases hall : ∀ x ∈ r.parts, 0 ≤ lk old x
    · right
      rw [seqR_val old _ 0 (by omega) (by omega) hall, heq]
      have : sumT a r.parts ≤ r.parts.foldl (fun s x => s + lk old x) 0 := foldl_sum_ge old a r.parts 0 0 (Int.le_refl _) fun x hx => by
        have := h.lkup (hin x hx)
        have := hall x hx
        omega
      omega
    · left
      rw [seqR_some old r.parts 0 (by omega)] at hall
      omega
  · have hin := hv.inn hr (.inr h8)
    rw [oneT_8 a h8] at heq
    rw [oneR_8 old h8]
    refine ⟨choR_ge old _ _ _ (.inl (by omega)) fun x hx => ?_, choR_top old h.top _ _ (by omega)⟩
    have := h.lkup (hin x hx)
    have := (foldl_min_le a r.parts 1001).2 x hx
    unfold minT at heq
    omega
theorem getD_top {l : List Int} {m : Int} (h0 : 0 ≤ m) (h : ∀ (j : Nat), j < l.length → l.getD j 0 ≤ m) (j : Nat) : l.getD j 0 ≤ m := by
  by_cases hj : j < l.length
  · exact h j hj
  · rw [List.getD_eq_getElem?_getD, List.getElem?_eq_none (by omega)]; exact h0
theorem rnd_all (hv : Vld F) (hf : IsFix F a) : ∀ t, Rnd F a (leastT F t)
  | 0 => ⟨leastT_len F 0, fun j hj => .inl (by
      show (List.replicate F.length (-1 : Int)).getD j 0 < 0
      rw [List.getD_eq_getElem?_getD, List.getElem?_replicate, if_pos hj]
      decide), getD_top (by decide) fun j hj => by
      show (List.replicate F.length (-1 : Int)).getD j 0 ≤ 1001
      have hj' : j < F.length := by simpa [leastT_len] using hj
      rw [List.getD_eq_getElem?_getD, List.getElem?_replicate, if_pos hj']
      decide⟩
  | t + 1 => by
    have ih := rnd_all hv hf t
    refine ⟨leastT_len F _, fun j hj => ?_, getD_top (by decide) fun j hj => ?_⟩
    · rw [leastT_get (List.getElem?_eq_getElem hj)]
      exact (oneR_up hv hf ih (List.getElem?_eq_getElem hj)).1
    · have hj' : j < F.length := by rw [leastT_len] at hj; exact hj
      rw [leastT_get (List.getElem?_eq_getElem hj')]
      exact (oneR_up hv hf ih (List.getElem?_eq_getElem hj')).2
theorem sg_one (hv : Usd F) {old : List Int} (hl : old.length = F.length) {i : Nat} {r : Rl} (hr : F[i]? = some r) : oneF F (sg old) r = decide (0 ≤ oneR F old r) := by
  have hok := hv.ok i r hr
  rcases (by have := kinds10 hok; omega : (r.kind = 1 ∨ (r.kind = 2 ∨ r.kind = 4) ∨ r.kind = 3 ∨ (r.kind = 5 ∨ r.kind = 9)) ∨ r.kind = 6 ∨ r.kind = 10 ∨ r.kind = 7 ∨ r.kind = 8) with hk | h6 | h10 | h7 | h8
  · have := one_fix (F := F) old old hok hk
    rw [decide_eq_true (by omega)]
    unfold oneF
    rw [if_neg (by omega), if_neg (by omega), if_neg (by omega), if_neg (by omega)]
  · have hc := hok.count (.inl h6)
    have he := hok.elem (.inl h6)
    have hln := hv.least hr (.inl h6)
    unfold oneF
    rw [if_neg (by omega), if_pos h6, sg_mk (by omega), sg_mk (by omega), oneR_6 old h6]
    by_cases hz : mnAt F r.count = 0
    · have hz' : lnAt F r.count = 0 := by omega
      rw [hz, hz']
      by_cases hp : 0 ≤ lk old r.count
      · rw [if_pos ⟨hp, rfl⟩]; simp [hp]
      · rw [if_neg (fun h => hp h.1), if_neg (fun h => hp h.1)]; simp [hp]
    · have hz' : ¬ lnAt F r.count = 0 := by omega
      rw [if_neg (fun h => hz' h.2)]
      by_cases hp : 0 ≤ lk old r.count ∧ 0 ≤ lk old r.elem
      · rw [if_pos hp]
        have h1 := Int.mul_nonneg (show 0 ≤ lnAt F r.count by omega) hp.2
        have : 0 ≤ cap1 (lk old r.count + lnAt F r.count * lk old r.elem) := by rw [cap1_min]; omega
        simp [hp.1, hp.2, this]
      · rw [if_neg hp]
        by_cases hq : 0 ≤ lk old r.count
        · have : ¬ 0 ≤ lk old r.elem := fun h => hp ⟨hq, h⟩
          simp [this, hz]
        · simp [hq]
  · have hc := hok.count (.inr h10)
    have hln := hv.least hr (.inr h10)
    unfold oneF
    rw [if_pos h10, sg_mk (by omega), oneR_10 old h10]
    by_cases hp : 0 ≤ lk old r.count
    · rw [if_pos hp]
      have : 0 ≤ cap1 (lk old r.count + lnAt F r.count) := by rw [cap1_min]; omega
      simp [hp, this]
    · rw [if_neg hp]; simp [hp]
  · have hin := hv.inn hr (.inl h7)
    unfold oneF
    rw [if_neg (by omega), if_neg (by omega), if_pos h7, oneR_7 old h7]
    have hs := seqR_some old r.parts 0 (by omega)
    by_cases hall : ∀ x ∈ r.parts, 0 ≤ lk old x
    · rw [decide_eq_true (hs.1 hall), Bool.not_eq_true', List.any_eq_false]
      intro x hx
      rw [sg_mk (by have := hin x hx; omega)]
      simp [hall x hx]
    · rw [decide_eq_false (fun h => hall (hs.2 h)), Bool.not_eq_false', List.any_eq_true]
      refine Classical.byContradiction fun hn => hall fun x hx => ?_
      refine Classical.byContradiction fun hx0 => hn ⟨x, hx, ?_⟩
      rw [sg_mk (by have := hin x hx; omega)]
      simp [hx0]
  · have hin := hv.inn hr (.inr h8)
    unfold oneF
    rw [if_neg (by omega), if_neg (by omega), if_neg (by omega), if_pos h8, oneR_8 old h8]
    have hs := choR_some old r.parts (-1)
    by_cases hex : ∃ x ∈ r.parts, 0 ≤ lk old x
    · rw [decide_eq_true (hs.1 (.inr hex)), List.any_eq_true]
      obtain ⟨x, hx, h0⟩ := hex
      exact ⟨x, hx, by rw [sg_mk (by have := hin x hx; omega)]; simp [h0]⟩
    · rw [decide_eq_false (fun h => (hs.2 h).elim (by omega) hex), List.any_eq_false]
      intro x hx
      rw [sg_mk (by have := hin x hx; omega)]
      simp only [decide_eq_true_eq]
      exact fun h => hex ⟨x, hx, h⟩
end
end Go.Proofs.YtgdiadednlajgaaGreatDoor
