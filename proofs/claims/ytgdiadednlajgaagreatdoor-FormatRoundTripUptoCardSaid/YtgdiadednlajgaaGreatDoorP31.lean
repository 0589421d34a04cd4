import Derived.Test.YtgdiadednlajgaaGreatDoorP30
import Derived.Test.YtgdiadednlajgaaGreatDoorP23
import Derived.Test.YtgdiadednlajgaaGreatDoorP27
namespace Go.Proofs.YtgdiadednlajgaaGreatDoor
set_option linter.unusedVariables false
section
variable {F : List Rl} {a : List Int}
theorem sg_start (n : Nat) : sg (List.replicate n (-1)) = List.replicate n false := by
  unfold sg
  rw [List.map_replicate]
  rfl
theorem sg_len (old : List Int) : (sg old).length = old.length := by unfold sg; rw [List.length_map]
theorem sg_get (old : List Int) {i : Nat} (hi : i < old.length) : (sg old).getD i false = decide (0 ≤ old.getD i 0) := by
  unfold sg
  rw [List.getD_eq_getElem?_getD, List.getElem?_map, List.getD_eq_getElem?_getD, List.getElem?_eq_getElem hi]
  rfl
theorem sg_leastT (hv : Usd F) : ∀ t, sg (leastT F t) = finR F t
  | 0 => sg_start _
  | t + 1 => by
    refine list_ext_bool (by rw [sg_len, leastT_len, finR_len]) fun i hi => ?_
    rw [sg_len, leastT_len] at hi
    have hr : F[i]? = some F[i] := List.getElem?_eq_getElem hi
    rw [sg_get _ (by rw [leastT_len]; exact hi), leastT_get hr]
    show _ = (stepB F (finR F t)).getD i false
    rw [stepB_get, hr]
    show _ = oneF F (finR F t) _
    rw [← sg_leastT hv t, sg_one hv (leastT_len F t) hr]
noncomputable def posn (F : List Rl) (a : List Int) (i : Nat) : Nat := by
  classical exact cnt (fun j => decide (a.getD j 0 < a.getD i 0 ∨ (a.getD j 0 = a.getD i 0 ∧ rk F j < rk F i))) F.length
theorem posn_lt {i j : Nat} (hj : j < F.length) (h : a.getD j 0 < a.getD i 0 ∨ (a.getD j 0 = a.getD i 0 ∧ rk F j < rk F i)) : posn F a j < posn F a i := by
  classical
  unfold posn
  refine cnt_lt F.length (fun x _ hx => ?_) ⟨j, hj, ?_, ?_⟩
  · rw [decide_eq_true_eq] at hx ⊢
    omega
  · rw [decide_eq_false_iff_not]; omega
  · rw [decide_eq_true_eq]; exact h
theorem posn_le (i : Nat) : posn F a i ≤ F.length := by
  classical
  exact cnt_le _ _
theorem nn_all (hv : Vld F) {k i : Nat} (hi : i < F.length) : 0 ≤ (leastT F (F.length + k)).getD i 0 := by
  have h := sg_leastT hv.toUsd (F.length + k)
  rw [fin_eq] at h
  have h2 := sg_get (leastT F (F.length + k)) (i := i) (by rw [leastT_len]; exact hi)
  rw [h, hv.fin i hi] at h2
  exact of_decide_eq_true h2.symm
theorem leastT_exact (hv : Vld F) (hf : IsFix F a) : ∀ (s i : Nat), i < F.length → posn F a i < s → (leastT F (F.length + s)).getD i 0 = a.getD i 0
  | 0, i, _, h => absurd h (by omega)
  | s + 1, i, hi, hp => by
    have hr : F[i]? = some F[i] := List.getElem?_eq_getElem hi
    obtain ⟨r, hrr⟩ : ∃ r, r = F[i] := ⟨_, rfl⟩
    rw [← hrr] at hr
    have hok := hv.ok i r hr
    have heq := hf.eq i r hr
    have hR := rnd_all hv hf (F.length + s)
    show (leastT F (F.length + s + 1)).getD i 0 = _
    rw [leastT_get hr]
    obtain ⟨old, ho⟩ : ∃ old, old = leastT F (F.length + s) := ⟨_, rfl⟩
    have hnn : ∀ {x : Int}, 0 ≤ x ∧ x < F.length → 0 ≤ lk old x := fun {x} hx => by rw [ho]; exact nn_all hv (by omega)
    have hge : ∀ {x : Int}, 0 ≤ x ∧ x < F.length → lk a x ≤ lk old x := fun {x} hx => by
      have h1 := hR.lkup hx
      have h2 := hnn hx
      rw [ho] at h2 ⊢
      omega
    have hex : ∀ {x : Int}, 0 ≤ x ∧ x < F.length → (lk a x < a.getD i 0 ∨ (lk a x = a.getD i 0 ∧ x.toNat ∈ bg F i)) → lk old x = lk a x := fun {x} hx h => by
      have h1 : posn F a x.toNat < posn F a i := posn_lt (by omega) (h.imp id fun ⟨e, hb⟩ => ⟨e, rk_lt hv hb⟩)
      rw [ho]
      exact leastT_exact hv hf s x.toNat (by omega) (by omega)
    have hup := oneR_up hv hf hR hr
    rw [← ho] at hup ⊢
    have htop := hf.top i
    by_cases h1001 : a.getD i 0 = 1001
    · have : 0 ≤ oneR F old r := by
        have h := sg_one hv.toUsd (old := old) (by rw [ho]; exact leastT_len F _) hr
        have h2 := sg_leastT hv.toUsd (F.length + s)
        rw [← ho] at h2
        rw [h2, fin_eq] at h
        have h3 := finL_closed F
        have h4 : (finL F).getD i false = true := hv.fin i hi
        have h5 : (stepB F (finR F (F.length + 0))).getD i false = (finR F (F.length + 1)).getD i false := rfl
        rw [fin_eq, fin_eq, h4, stepB_get, hr] at h5
        have h6 : oneF F (finL F) r = true := h5
        rw [h6] at h
        exact of_decide_eq_true h.symm
      omega
    have hlt : a.getD i 0 < 1001 := by omega
    rcases (by have := kinds10 hok; omega : (r.kind = 1 ∨ (r.kind = 2 ∨ r.kind = 4) ∨ r.kind = 3 ∨ (r.kind = 5 ∨ r.kind = 9)) ∨ r.kind = 6 ∨ r.kind = 10 ∨ r.kind = 7 ∨ r.kind = 8) with hk | h6 | h10 | h7 | h8
    · have := one_fix (F := F) old a hok hk
      omega
    · have hc := hok.count (.inl h6)
      have he := hok.elem (.inl h6)
      have hl := hv.toUsd.least hr (.inl h6)
      have pc := hf.one hv hc
      have pe := hf.one hv he
      rw [oneT_6 a h6] at heq
      have hcb : r.count.toNat ∈ bg F i := bg_of hr (by unfold bl beginsL; rw [if_pos (.inl h6)]; exact List.mem_singleton.2 rfl)
      have hm0 := Int.mul_nonneg hl.1 (show 0 ≤ lk a r.elem by omega)
      have xc := hex hc (by rcases Int.lt_or_eq_of_le (show lk a r.count ≤ a.getD i 0 by omega) with h | h; exact .inl h; exact .inr ⟨h, hcb⟩)
      rw [oneR_6 old h6, xc]
      by_cases hz : mnAt F r.count = 0
      · rw [if_pos ⟨by omega, by omega⟩]
        rw [hz, Int.zero_mul] at heq
        omega
      · rw [if_neg (by omega), if_pos ⟨by omega, hnn he⟩]
        have hm : lk a r.elem ≤ mnAt F r.count * lk a r.elem := by
          have := Int.mul_le_mul_of_nonneg_right (a := 1) (b := mnAt F r.count) (c := lk a r.elem) (by omega) (by omega)
          omega
        have xe := hex he (.inl (by omega))
        rw [xe, cap1_min, hl.2]
        have hmn : mnAt F r.count ≤ 1001 := by
          have := Int.mul_le_mul_of_nonneg_left (c := mnAt F r.count) (a := 1) (b := lk a r.elem) pe hl.1
          omega
        rw [show min (mnAt F r.count) 1001 = mnAt F r.count by omega]
        omega
    · have hc := hok.count (.inr h10)
      have hl := hv.toUsd.least hr (.inr h10)
      have pc := hf.one hv hc
      rw [oneT_10 a h10] at heq
      have hcb : r.count.toNat ∈ bg F i := bg_of hr (by unfold bl beginsL; rw [if_pos (.inr h10)]; exact List.mem_singleton.2 rfl)
      have xc := hex hc (by rcases Int.lt_or_eq_of_le (show lk a r.count ≤ a.getD i 0 by omega) with h | h; exact .inl h; exact .inr ⟨h, hcb⟩)
      rw [oneR_10 old h10, xc, if_pos (by omega), cap1_min, hl.2]
      omega
    · have hin := hv.toUsd.inn hr (.inl h7)
      have hne := (hok.seven h7).2
      rw [oneT_7 a h7] at heq
      rw [oneR_7 old h7, seqR_val old _ 0 (by omega) (by omega) (fun x hx => hnn (hin x hx))]
      have hall : ∀ x ∈ r.parts, lk old x = lk a x := by
        intro x hx
        cases hp : r.parts with
        | nil => rw [hp] at hx; cases hx
        | cons y l =>
          have hyb : y.toNat ∈ bg F i := bg_of hr (by unfold bl beginsL; rw [if_neg (by omega), if_pos h7, hp]; exact List.mem_cons_self)
          rw [hp] at hx hin heq
          have py := hf.one hv (hin y List.mem_cons_self)
          have hsum := foldl_sum_mem a l (0 + lk a y) (fun z hz => by have := hf.one hv (hin z (List.mem_cons_of_mem _ hz)); omega)
          unfold sumT at heq
          rw [List.foldl_cons] at heq
          rcases List.mem_cons.1 hx with rfl | hx
          · exact hex (hin x List.mem_cons_self) (by rcases Int.lt_or_eq_of_le (show lk a x ≤ a.getD i 0 by omega) with h | h; exact .inl h; exact .inr ⟨h, hyb⟩)
          · have := hsum.2 x hx
            exact hex (hin x (List.mem_cons_of_mem _ hx)) (.inl (by omega))
      rw [← foldl_sum_eq old a r.parts 0 (fun x hx => (hall x hx).symm)]
      exact heq.symm
    · have hin := hv.toUsd.inn hr (.inr h8)
      rw [oneT_8 a h8] at heq
      have hmin : a.getD i 0 = minT a r.parts := by
        have := (foldl_min_le a r.parts 1001).1
        unfold minT at heq ⊢
        omega
      rcases foldl_min_at a r.parts 1001 with e | ⟨x, hx, e⟩
      · unfold minT at hmin; omega
      · have hxb : x.toNat ∈ bg F i := bg_of hr (by unfold bl beginsL; rw [if_neg (by omega), if_neg (by omega), if_pos h8]; exact hx)
        have hxe : lk a x = a.getD i 0 := by rw [hmin]; unfold minT; exact e.symm
        have xx := hex (hin x hx) (.inr ⟨hxe, hxb⟩)
        rw [oneR_8 old h8] at hup ⊢
        have h1 := (choR_le old r.parts (-1)).2 x hx (hnn (hin x hx))
        have h2 := (choR_some old r.parts (-1)).1 (.inr ⟨x, hx, hnn (hin x hx)⟩)
        omega
theorem leastL_fix (hv : Vld F) (hf : IsFix F a) {i : Nat} (hi : i < F.length) : (leastL F).getD i 0 = a.getD i 0 := by
  unfold leastL
  rw [show 2 * F.length + 1 = F.length + (F.length + 1) by omega]
  exact leastT_exact hv hf _ i hi (by have := posn_le (F := F) (a := a) i; omega)
end
end Go.Proofs.YtgdiadednlajgaaGreatDoor
namespace Go.Proofs.YtgdiadednlajgaaGreatDoor
set_option linter.unusedVariables false
end Go.Proofs.YtgdiadednlajgaaGreatDoor
namespace Go.Proofs.YtgdiadednlajgaaGreatDoor
set_option linter.unusedVariables false
section
variable {F : List Rl}
theorem useC_count {r : Rl} (h : useC F r = 0) (hk : r.kind = 6 ∨ r.kind = 10) : kindAt F r.count = 2 ∨ kindAt F r.count = 3 := by
  unfold useC at h
  split at h
  · cases h
  · next h1 =>
    have hu : useCount r.kind = true := by rcases hk with e | e <;> rw [e] <;> rfl
    rw [hu, Bool.true_and, Bool.not_eq_true', Bool.not_eq_false] at h1
    unfold useMax hasB at h1
    simpa using h1
theorem usd_of (h : POk F) : Usd F := ⟨h.fok, fun i r hr hk => by
  have hi : i < F.length := (List.getElem?_eq_some_iff.1 hr).1
  have hu := h.use i hi
  rw [useAt_eq hr] at hu
  have hc := (h.fok i r hr).count hk
  have hg : F[r.count.toNat]? = some F[r.count.toNat] := List.getElem?_eq_getElem (by omega)
  have := useC_count hu hk
  rw [kindAt_eq hg] at this
  exact ⟨_, hg, this⟩⟩
theorem vld_of (h : checkF F = (0, 0)) : Vld F := by
  have hp := pok_of h
  have hu := usd_of hp
  unfold checkF at h
  split at h
  · cases h
  split at h
  · cases h
  rw [firstN_none (fun j hj => by simpa using hp.rule j hj)] at h
  simp only at h
  rw [firstN_none (fun j hj => by simpa using hp.use j hj)] at h
  simp only at h
  cases h3 : firstN F.length (cycB F) with
  | some k => rw [h3] at h; simp only [Prod.mk.injEq] at h; exact absurd h.1 (by decide)
  | none =>
    rw [h3] at h
    simp only at h
    cases h4 : firstN F.length (fun k => !((finL F).getD k false)) with
    | some k => rw [h4] at h; simp only [Prod.mk.injEq] at h; exact absurd h.1 (by decide)
    | none =>
      refine ⟨hu, fun i hi hr => ?_, fun i hi => by simpa using firstN_of h4 i hi⟩
      have := firstN_of h3 i hi
      rw [(cycB_iff hu.ok.bd hi).2 hr] at this
      cases this
theorem len_of (h : checkF F = (0, 0)) : 0 < F.length ∧ F.length ≤ 40 := by
  unfold checkF at h
  split at h
  · cases h
  split at h
  · cases h
  omega
end
end Go.Proofs.YtgdiadednlajgaaGreatDoor
