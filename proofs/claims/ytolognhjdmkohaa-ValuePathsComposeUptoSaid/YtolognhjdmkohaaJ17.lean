/-
  The reference: the code of every node; the size of a node.
-/
/-
  The reference, plain: the list of nodes; its first fault; its size.
-/
/-
  The reference's list of nodes in memory.
-/
import Derived.Test.YtolognhjdmkohaaKRefC
namespace Go.Proofs.Ytolognhjdmkohaa
open Go.RowKit
set_option linter.unusedVariables false
set_option linter.unusedSimpArgs false

set_option maxRecDepth 100000 in
theorem refCode_calls {w : World} {v : Value} {d : Nd} {p : VF} (hv : VIn w w.heap.size v d p) (hd : NdFits d) (hp : p.len ≤ 1048576) :
    Calls Try.prog 42 #[v] w fun e w' => e = .returned (.int .i64 (nodeC d p.len)) ∧ Below w.heap.size w w' := by
  by_cases hk : d.k < 1 ∨ 4 < d.k
  · rw [nodeC_kind hk]
    obtain ⟨sb, sn, sp, rfl, Ab, nb, cb, An, nn, cn, Ap, cp, rfl, rfl, rfl, hbc, hnc, hpc, hpm, hrb, hrn, hpp⟩ := hv
    have b1 : (decide ((1 : Int) ≤ d.k) && decide (d.k ≤ 4)) = false := by
      rw [Bool.and_eq_false_iff, decide_eq_false_iff_not, decide_eq_false_iff_not]; omega
    clear hrb hrn hpp hk hd
    go_enter Try.func42, Try.ntmps42
    go_wp2_with fail
    refine (in_is b1 _).mono ?_
    rintro e w' ⟨rfl, rfl⟩
    go_wp2_with fail
    go_ret
    exact ⟨rfl, bel1 _ _⟩
  · by_cases hf : (d.k ≠ 1 ∧ d.n ≠ 0) ∨ (d.k ≠ 2 ∧ 0 < d.bs.length) ∨ (d.k ≠ 4 ∧ 0 < d.ns.length) ∨ (d.k < 3 ∧ 0 < p.len) ∨ (d.k = 4 ∧ d.ns.length ≠ p.len)
    · exact code_bad hv (by have := hd.2.1; omega) (by have := hd.2.2.1; omega) (by omega) hk hf
    · exact code_good hv (fun x hx => by have := hd.2.2.2 x hx; omega) (by have := hd.2.2.1; omega) (by omega) hk hf
/-- the names' part of the size of a node -/
def nmSz (ns : List (List UInt8)) : Nat := (ns.map fun x => x.length + 1).sum
/-- the size of a node without its parts -/
def nodeSz (d : Nd) (np : Nat) : Nat :=
  if d.k = 1 then 1 + (num d.n).length else if d.k = 2 then (if 4000 < d.bs.length then 4001 else 1 + (chunk d.bs).length) else 1 + (num (np : Int)).length + nmSz d.ns
theorem nmSz_next {ns : List (List UInt8)} {i : Nat} {x : List UInt8} (h : ns[i]? = some x) : nmSz (ns.take (i + 1)) = nmSz (ns.take i) + (x.length + 1) := by
  unfold nmSz
  rw [List.take_add_one, h, Option.toList_some, List.map_append, List.sum_append]
  simp
theorem nmSz_le {ns : List (List UInt8)} (h : ∀ x ∈ ns, x.length ≤ 1048576) : nmSz ns ≤ ns.length * 1048577 := by
  induction ns with
  | nil => simp [nmSz]
  | cons x r ih =>
    have h1 := ih (fun y hy => h y (List.mem_cons_of_mem _ hy))
    have h2 := h x List.mem_cons_self
    unfold nmSz at *
    simp only [List.map_cons, List.sum_cons, List.length_cons]
    omega
def SzRel (ns : List (List UInt8)) (c : Nat) (s k : Value) : Prop := ∃ i : Nat, k = .int .i64 (i : Int) ∧ i ≤ ns.length ∧ s = .int .i64 ((c + nmSz (ns.take i) : Nat) : Int)
set_option maxRecDepth 100000 in
set_option maxHeartbeats 2000000 in
theorem refSize_calls {w : World} {v : Value} {d : Nd} {p : VF} (hv : VIn w w.heap.size v d p) (hd : NdFits d) (hp : p.len ≤ 1048576) :
    Calls Try.prog 43 #[v] w fun e w' => e = .returned (.int .i64 ((nodeSz d p.len : Nat) : Int)) ∧ Below w.heap.size w w' := by
  obtain ⟨sb, sn, sp, rfl, Ab, nb, cb, An, nn, cn, Ap, cp, rfl, rfl, rfl, hbc, hnc, hpc, hpm, hrb, hrn, hpp⟩ := hv
  have HRN := Lib.hid hrn
  have HRB := Lib.hid hrb
  have HD := Lib.hid hd
  have hbl : nb ≤ 1048576 := by have := hrb.len; rw [bv_len] at this; have := hd.2.1; omega
  have hbl' : d.bs.length = nb := by have := hrb.len; rw [bv_len] at this; exact this
  have hnl : d.ns.length = nn := by have := hrn.len; rw [sv_len] at this; exact this
  have HNL := Lib.hid hnl
  have hnn : nn ≤ 1048576 := by have := hd.2.2.1; omega
  obtain ⟨np, hnp⟩ : ∃ np, p.len = np := ⟨_, rfl⟩
  have HNP := Lib.hid hnp
  rw [hnp] at hp hpc ⊢
  have hkb : -9223372036854775808 ≤ d.n ∧ d.n ≤ 9223372036854775807 := ⟨hd.1.2.2.1, hd.1.2.2.2⟩
  have hnumn := num_len d.n hkb.1 hkb.2
  have HBW := Lib.hid (bel1 w (.cells #[.int .i64 d.k, .int .i64 d.n, .slice Ab nb cb, .slice An nn cn, .slice Ap np cp] 26))
  clear hrb hrn hpp hbc hnc hpc hpm hd hnl hnp
  by_cases k1 : d.k = 1
  · have HS := Lib.hid (show nodeSz d np = 1 + (num d.n).length by unfold nodeSz; rw [if_pos k1])
    obtain ⟨q, hq⟩ : ∃ q, (num d.n).length = q := ⟨_, rfl⟩
    rw [hq] at hnumn
    rw [k1]
    go_enter Try.func43, Try.ntmps43
    go_wp2_with fail
    refine (put_calls _ _ hkb.1 hkb.2).mono ?_
    rintro e w2 ⟨A2, c2, rfl, hown2, hb2⟩
    have HB2 := Lib.hid hb2
    rw [hq]
    have HQ := Lib.hid hq
    clear hown2 hb2 hq
    go_wp2_with fail
    go_ret
    exact ⟨by rw [HS.out, HQ.out]; simp, chain (bel1 _ _) HB2.out⟩
  · have k1' : (d.k == 1) = false := by simpa using k1
    by_cases k2 : d.k = 2
    · by_cases hbig : 4000 < nb
      · have HS := Lib.hid (show nodeSz d np = 4001 by unfold nodeSz; rw [if_neg k1, if_pos k2, if_pos (by omega)])
        have hbig' : (4000 : Int) < (nb : Int) := by omega
        rw [k2] at *
        clear k1 k1'
        go_enter Try.func43, Try.ntmps43
        go_wp2_with fail
        go_ret
        exact ⟨by rw [HS.out]; rfl, bel1 _ _⟩
      · have HS := Lib.hid (show nodeSz d np = 1 + (chunk d.bs).length by unfold nodeSz; rw [if_neg k1, if_pos k2, if_neg (by omega)])
        have hcl := chunk_len d.bs (by omega)
        have hbig' : ¬ (4000 : Int) < (nb : Int) := by omega
        obtain ⟨q, hq⟩ : ∃ q, (chunk d.bs).length = q := ⟨_, rfl⟩
        rw [hq] at hcl
        have HRB1 := Lib.hid (HRB.out.on HBW.out)
        rw [k2] at *
        clear k1 k1'
        go_enter Try.func43, Try.ntmps43
        go_wp2_with fail
        refine (putChunk_calls (bs := d.bs) HRB1.out (by omega)).mono ?_
        rintro e w2 ⟨A2, c2, rfl, hown2, hb2⟩
        have HB2 := Lib.hid hb2
        rw [hq]
        clear hown2 hb2
        have HQ := Lib.hid hq
        clear hq
        go_wp2_with fail
        go_ret
        exact ⟨by rw [HS.out, HQ.out]; simp, chain (bel1 _ _) HB2.out⟩
    · have k2' : (d.k == 2) = false := by simpa using k2
      have HS := Lib.hid (show nodeSz d np = 1 + (num (np : Int)).length + nmSz d.ns by unfold nodeSz; rw [if_neg k1, if_neg k2])
      have hnump := num_len (np : Int) (by omega) (by omega)
      have hns : nmSz d.ns ≤ 1048576 * 1048577 := by
        have h1 := nmSz_le HD.out.2.2.2
        have h2 : d.ns.length ≤ 1048576 := HD.out.2.2.1
        exact Nat.le_trans h1 (Nat.mul_le_mul_right _ h2)
      have hnt : ∀ i, nmSz (d.ns.take i) ≤ 1048576 * 1048577 := fun i => by
        have h1 := nmSz_le (ns := d.ns.take i) (fun x hx => HD.out.2.2.2 x (List.mem_of_mem_take hx))
        have h2 : (d.ns.take i).length ≤ 1048576 := by rw [List.length_take]; have := HD.out.2.2.1; omega
        exact Nat.le_trans h1 (Nat.mul_le_mul_right _ h2)
      obtain ⟨q, hq⟩ : ∃ q, (num (np : Int)).length = q := ⟨_, rfl⟩
      rw [hq] at hnump
      have HQ := Lib.hid hq
      have HNT := Lib.hid hnt
      clear hnt
      go_enter Try.func43, Try.ntmps43
      go_wp2_with fail
      refine (put_calls _ _ (by omega) (by omega)).mono ?_
      rintro e w2 ⟨A2, c2, rfl, hown2, hb2⟩
      have HB2 := Lib.hid (chain HBW.out hb2)
      obtain ⟨x0, x1, x2, x3, x4⟩ := ((Bx.new w (.int .i64 d.k) (.int .i64 d.n) (.slice Ab nb cb) (.slice An nn cn) (.slice Ap np cp)).on hb2).cells
      rw [hq]
      clear hown2 hb2 hq
      go_wp2_with fail
      go_loop [3, 4] (SzRel d.ns (1 + q)) (fun _ k => nn - (intOf k).toNat)
      case atStart => exact ⟨0, rfl, Nat.zero_le _, by simp [nmSz]⟩
      case round =>
        obtain ⟨i, rfl, hi, rfl⟩ := hrel
        rw [HNL.out] at hi
        have ht1 := HNT.out i
        obtain ⟨a, ha⟩ : ∃ a, nmSz (d.ns.take i) = a := ⟨_, rfl⟩
        rw [ha] at ht1 ⊢
        have HA := Lib.hid ha
        clear ha
        by_cases hlt : i < nn
        · obtain ⟨b, o, s, rfl, hb, hy, hc⟩ := sv_at HRN.out hlt
          have HY := Lib.hid hy
          have hc' := (HB2.out.cell (p := ⟨b, o + i, none⟩) hb).trans hc
          have hss : s.size ≤ 1048576 := by have := HD.out.2.2.2 _ (List.mem_of_getElem? hy); simpa using this
          have hli : (i : Int) < (nn : Int) := by omega
          have h0 : (0 : Int) ≤ (i : Int) := by omega
          clear hy hc
          go_wp2_with fail
          go_round
          case rel => exact ⟨i + 1, by go_num, by rw [HNL.out]; omega, by rw [nmSz_next HY.out, HA.out]; simp; omega⟩
          case measure => simp [intOf]; omega
        · have HE := Lib.hid (show nmSz d.ns = a by have := HA.out; rwa [List.take_of_length_le (by rw [HNL.out]; omega)] at this)
          go_wp2_with fail
          go_ret
          exact ⟨by rw [HS.out, HQ.out, HE.out]; rfl, HB2.out⟩
end Go.Proofs.Ytolognhjdmkohaa
namespace Go.Proofs.Ytolognhjdmkohaa
set_option linter.unusedVariables false
set_option linter.unusedSimpArgs false

abbrev Itm := List Int × Nd × VF
/-- the nodes below a path in preorder, at most so many parts of each, none below level 11 -/
def walkC (most : Nat) : List Int → VF → Nat → List Itm
  | _, .nil, _ => []
  | path, .cons d p r, i => if most ≤ i then [] else ((path ++ [(i : Int)], d, p) :: (if 10 < (path ++ [(i : Int)]).length then [] else walkC most (path ++ [(i : Int)]) p 0)) ++ walkC most path r (i + 1)
def expL (most : Nat) (g : Itm) : List Itm := g :: (if 10 < g.1.length then [] else walkC most g.1 g.2.2 0)
def expS (most : Nat) (l : List Itm) : List Itm := l.flatMap (expL most)
theorem walkC_cons {most : Nat} {path : List Int} {d : Nd} {p r : VF} {i : Nat} (h : i < most) : walkC most path (.cons d p r) i = expL most (path ++ [(i : Int)], d, p) ++ walkC most path r (i + 1) := by
  rw [walkC, if_neg (by omega)]
  rfl
theorem walkC_stop {most : Nat} {path : List Int} {F : VF} {i : Nat} (h : most ≤ i) : walkC most path F i = [] := by
  cases F with
  | nil => rfl
  | cons d p r => rw [walkC, if_pos h]
theorem expS_cons (most : Nat) (g : Itm) (l : List Itm) : expS most (g :: l) = expL most g ++ expS most l := by simp [expS]
theorem expL_deep {most : Nat} {g : Itm} (h : 10 < g.1.length) : expL most g = [g] := by unfold expL; rw [if_pos h]
theorem expL_more {most : Nat} {g : Itm} (h : ¬ 10 < g.1.length) : expL most g = g :: walkC most g.1 g.2.2 0 := by unfold expL; rw [if_neg h]
/-- the first fault of a list of nodes -/
def scan : List Itm → Nat → Option (Int × Int)
  | [], _ => none
  | g :: l, num => if 600 ≤ num ∨ 10 ≤ g.1.length then some (2, (num : Int)) else if nodeC g.2.1 g.2.2.len ≠ 0 then some (nodeC g.2.1 g.2.2.len, (num : Int)) else scan l (num + 1)
theorem scan_many {g : Itm} {l : List Itm} {num : Nat} (h : 600 ≤ num ∨ 10 ≤ g.1.length) : scan (g :: l) num = some (2, (num : Int)) := by rw [scan, if_pos h]
theorem scan_node {g : Itm} {l : List Itm} {num : Nat} (h : ¬ (600 ≤ num ∨ 10 ≤ g.1.length)) (h1 : nodeC g.2.1 g.2.2.len ≠ 0) : scan (g :: l) num = some (nodeC g.2.1 g.2.2.len, (num : Int)) := by rw [scan, if_neg h, if_pos h1]
theorem scan_next {g : Itm} {l : List Itm} {num : Nat} (h : ¬ (600 ≤ num ∨ 10 ≤ g.1.length)) (h1 : nodeC g.2.1 g.2.2.len = 0) : scan (g :: l) num = scan l (num + 1) := by rw [scan, if_neg h, if_neg (by simpa using h1)]
theorem scan_take : ∀ (l : List Itm) (k num : Nat), num ≤ 600 → 601 ≤ num + k → scan (l.take k) num = scan l num := by
  intro l
  induction l with
  | nil => intro k num _ _; simp
  | cons g l ih =>
    intro k num h1 h2
    obtain ⟨k, rfl⟩ : ∃ k', k = k' + 1 := ⟨k - 1, by omega⟩
    rw [List.take_succ_cons]
    by_cases h : 600 ≤ num ∨ 10 ≤ g.1.length
    · rw [scan_many h, scan_many h]
    · by_cases hn : nodeC g.2.1 g.2.2.len ≠ 0
      · rw [scan_node h hn, scan_node h hn]
      · rw [scan_next h (by simpa using hn), scan_next h (by simpa using hn)]
        exact ih k (num + 1) (by omega) (by omega)
theorem node_600 {d : Nd} {np : Nat} (h : nodeC d np = 0) : np ≤ 600 := by
  have := node_rules h
  omega
theorem scan_chk (most : Nat) (hm : 600 ≤ most) : ∀ (F : VF) (q : List Int) (j num lev : Nat), lev = q.length + 2 → j + F.len ≤ most →
    (∀ f, chkF F num lev = .inl f → ∀ rest, scan (walkC most q F j ++ rest) num = some f) ∧
    (∀ m, chkF F num lev = .inr m → m = num + (walkC most q F j).length ∧ walkC most q F j = walkF q F j ∧ ∀ rest, scan (walkC most q F j ++ rest) num = scan rest m) := by
  intro F
  induction F with
  | nil =>
    intro q j num lev hl hj
    refine ⟨fun f h => by (cases h), fun m h => ?_⟩
    injection h with h
    subst h
    exact ⟨rfl, rfl, fun rest => rfl⟩
  | cons d p r ih1 ih2 =>
    intro q j num lev hl hj
    simp only [VF.len] at hj
    rw [walkC_cons (by omega)]
    have hql : (q ++ [(j : Int)]).length = q.length + 1 := by simp
    by_cases h1 : 600 ≤ num ∨ 10 < lev
    · refine ⟨fun f h rest => ?_, fun m h => by rw [chkF_many h1] at h; cases h⟩
      rw [chkF_many h1] at h
      injection h with h
      subst h
      unfold expL
      rw [List.cons_append, List.cons_append, scan_many (by simp only [hql]; omega)]
    · have h1' : ¬ (600 ≤ num ∨ 10 ≤ (q ++ [(j : Int)]).length) := by rw [hql]; omega
      by_cases h2 : nodeC d p.len ≠ 0
      · refine ⟨fun f h rest => ?_, fun m h => by rw [chkF_node h1 h2] at h; cases h⟩
        rw [chkF_node h1 h2] at h
        injection h with h
        subst h
        unfold expL
        rw [List.cons_append, List.cons_append, scan_node h1' h2]
      · have h2' : nodeC d p.len = 0 := by simpa using h2
        have hp6 := node_600 h2'
        rw [expL_more (by simp only [hql]; omega)]
        obtain ⟨a1, a2⟩ := ih1 (q ++ [(j : Int)]) 0 (num + 1) (lev + 1) (by rw [hql]; omega) (by omega)
        obtain ⟨b1, b2⟩ := ih2 q (j + 1) (num + 1 + (walkC most (q ++ [(j : Int)]) p 0).length) lev hl (by omega)
        refine ⟨fun f h rest => ?_, fun m h => ?_⟩
        · rw [List.append_assoc, List.cons_append, scan_next h1' h2']
          cases hp : chkF p (num + 1) (lev + 1) with
          | inl f' =>
            rw [chkF_inl h1 h2 hp] at h
            injection h with h
            subst h
            exact a1 _ hp _
          | inr k =>
            rw [chkF_inr h1 h2 hp] at h
            obtain ⟨c1, c2, c3⟩ := a2 k hp
            rw [c3, c1]
            rw [c1] at h
            exact b1 f h rest
        · cases hp : chkF p (num + 1) (lev + 1) with
          | inl f' => rw [chkF_inl h1 h2 hp] at h; cases h
          | inr k =>
            rw [chkF_inr h1 h2 hp] at h
            obtain ⟨c1, c2, c3⟩ := a2 k hp
            rw [c1] at h
            obtain ⟨d1, d2, d3⟩ := b2 m h
            refine ⟨by simp only [List.length_append, List.length_cons]; omega, ?_, fun rest => ?_⟩
            · rw [c2, d2]; rfl
            · rw [List.append_assoc, List.cons_append, scan_next h1' h2', c3, c1, d3]
theorem scan_root (most : Nat) (hm : 600 ≤ most) (d : Nd) (p : VF) :
    (∀ f, chkF (.cons d p .nil) 0 1 = .inl f → scan (expL most ([], d, p)) 0 = some f) ∧ (∀ m, chkF (.cons d p .nil) 0 1 = .inr m → scan (expL most ([], d, p)) 0 = none ∧ expL most ([], d, p) = walkL [] d p) := by
  have h1 : ¬ (600 ≤ 0 ∨ 10 < 1) := by omega
  have h1' : ¬ (600 ≤ 0 ∨ 10 ≤ (([], d, p) : Itm).1.length) := by simp
  by_cases h2 : nodeC d p.len ≠ 0
  · refine ⟨fun f h => ?_, fun m h => by rw [chkF_node h1 h2] at h; cases h⟩
    rw [chkF_node h1 h2] at h
    injection h with h
    subst h
    unfold expL
    rw [scan_node h1' h2]
  · have h2' : nodeC d p.len = 0 := by simpa using h2
    have hp6 := node_600 h2'
    rw [expL_more (by simp)]
    obtain ⟨a1, a2⟩ := scan_chk most hm p [] 0 1 2 rfl (by omega)
    refine ⟨fun f h => ?_, fun m h => ?_⟩
    · rw [scan_next h1' h2']
      cases hp : chkF p 1 2 with
      | inl f' =>
        rw [chkF_inl h1 h2 hp] at h
        injection h with h
        subst h
        have := a1 _ hp []
        rwa [List.append_nil] at this
      | inr k => rw [chkF_inr h1 h2 hp] at h; cases h
    · cases hp : chkF p 1 2 with
      | inl f' => rw [chkF_inl h1 h2 hp] at h; cases h
      | inr k =>
        obtain ⟨c1, c2, c3⟩ := a2 k hp
        have := c3 []
        rw [List.append_nil] at this
        rw [scan_next h1' h2']
        exact ⟨this, by simp only; rw [c2]; rfl⟩

/-- the size of a node, whatever it is -/
def nodeX (d : Nd) (np : Nat) : Nat := if d.k = 1 then 1 + (num d.n).length else if d.k = 2 then 1 + (chunk d.bs).length else 1 + (num (np : Int)).length + nmSz d.ns
def szS (l : List Itm) : Nat := (l.map fun g => nodeSz g.2.1 g.2.2.len).sum
def szX (l : List Itm) : Nat := (l.map fun g => nodeX g.2.1 g.2.2.len).sum
theorem sz_one (d : Nd) (np : Nat) : nodeSz d np ≤ nodeX d np ∧ (nodeSz d np = nodeX d np ∨ nodeSz d np = 4001) := by
  unfold nodeSz nodeX
  by_cases h1 : d.k = 1
  · simp [h1]
  · by_cases h2 : d.k = 2
    · simp only [if_neg h1, if_pos h2]
      by_cases hb : 4000 < d.bs.length
      · rw [if_pos hb]
        refine ⟨?_, .inr rfl⟩
        unfold chunk
        rw [List.length_append]
        omega
      · rw [if_neg hb]; exact ⟨Nat.le_refl _, .inl rfl⟩
    · simp [h1, h2]
theorem sz_le (l : List Itm) : szS l ≤ szX l ∧ (szS l = szX l ∨ 4000 < szS l) := by
  induction l with
  | nil => simp [szS, szX]
  | cons g l ih =>
    have h := sz_one g.2.1 g.2.2.len
    simp only [szS, szX, List.map_cons, List.sum_cons] at *
    omega
theorem szS_take {l : List Itm} {i : Nat} {g : Itm} (h : l[i]? = some g) : szS (l.take (i + 1)) = szS (l.take i) + nodeSz g.2.1 g.2.2.len := by
  unfold szS
  rw [List.take_add_one, h, Option.toList_some, List.map_append, List.sum_append]
  simp
theorem szS_part (l : List Itm) (i : Nat) : szS (l.take i) ≤ szS l := by
  conv => rhs; rw [← List.take_append_drop i l]
  unfold szS
  rw [List.map_append, List.sum_append]
  omega
theorem num_one {n : Int} (h0 : 0 ≤ n) (h : n ≤ 63) : (num n).length = 1 := by
  obtain ⟨k, rfl⟩ := Int.eq_ofNat_of_zero_le h0
  have hk : k ≤ 63 := by omega
  have : ∀ k ≤ 63, (num ((k : Nat) : Int)).length = 1 := by decide
  exact this k hk
theorem name_32 {x : List UInt8} (h : isName x = true) : x.length ≤ 32 := by
  rcases Nat.lt_or_ge 32 x.length with h' | h'
  · rw [isName_long h'] at h; cases h
  · exact h'
theorem chunk_name {x : List UInt8} (h : isName x = true) : (chunk x).length = x.length + 1 := by
  unfold chunk
  have := name_32 h
  rw [List.length_append, num_one (by omega) (by omega)]
  omega
theorem enc_one {d : Nd} {p : VF} (h : nodeC d p.len = 0) {B : Nat} (hb : (encP p (d.k == 4) d.ns).length = (if (d.k == 4) = true then nmSz (d.ns.take p.len) else 0) + B) (h0 : p.len = 0 → B = 0) : (encV d p).length = nodeX d p.len + B := by
  obtain ⟨⟨k1, k4⟩, hn, hbs, hns, hpp, hr⟩ := node_rules h
  have hk := num_one (n := d.k) (by omega) (by omega)
  unfold nodeX
  by_cases e1 : d.k = 1
  · rw [encV_num e1, if_pos e1, List.length_append, hk, h0 (by omega), Nat.add_zero]
  · by_cases e2 : d.k = 2
    · rw [encV_bytes e2, if_neg e1, if_pos e2, List.length_append, hk, h0 (by omega), Nat.add_zero]
    · rw [encV_parts e1 e2, if_neg e1, if_neg e2, List.length_append, List.length_append, hk, hb]
      by_cases e4 : d.k = 4
      · have : (d.k == 4) = true := by simp [e4]
        rw [if_pos this, List.take_of_length_le (by rw [node_names h e4]; exact Nat.le_refl _)]
        omega
      · have : ¬ (d.k == 4) = true := by simp [e4]
        rw [if_neg this]
        rcases hns with hns | hns
        · exact absurd hns e4
        · rw [hns]; simp [nmSz]; omega
theorem enc_size : ∀ (F : VF) (rc : Bool) (ns : List (List UInt8)) (q : List Int) (j : Nat), GoodF F → (rc = true → F.len ≤ ns.length) → ns.all isName = true →
    (encP F rc ns).length = (if rc = true then nmSz (ns.take F.len) else 0) + szX (walkF q F j) := by
  intro F
  induction F with
  | nil => intro rc ns q j _ _ _; cases rc <;> simp [encP, VF.len, nmSz, walkF, szX]
  | cons d p r ih1 ih2 =>
    intro rc ns q j hG hl hn
    obtain ⟨⟨k1, k4⟩, hnn, hbs, hns, hpp, hr⟩ := node_rules hG.1
    have hall : d.ns.all isName = true := hr.2.2.1
    have h1 := ih1 (d.k == 4) d.ns (q ++ [(j : Int)]) 0 hG.2.1 (fun e => by rw [node_names hG.1 (by simpa using e)]; exact Nat.le_refl _) hall
    have h2 := enc_one hG.1 h1 (fun h0 => by
      cases p with
      | nil => rfl
      | cons _ _ _ => simp [VF.len] at h0)
    have h3 := ih2 rc ns.tail q (j + 1) hG.2.2 (fun e => by have := hl e; simp only [VF.len] at this; simp; omega) (by
      cases ns with
      | nil => rfl
      | cons x t => simp only [List.all_cons, Bool.and_eq_true] at hn; exact hn.2)
    have hE : szX (walkF q (.cons d p r) j) = nodeX d p.len + szX (walkF (q ++ [(j : Int)]) p 0) + szX (walkF q r (j + 1)) := by
      unfold szX
      simp only [walkF, List.map_cons, List.sum_cons, List.map_append, List.sum_append]
      omega
    simp only [encP, List.length_append]
    rw [show (encOne d p.len (encP p (d.k == 4) d.ns)) = encV d p from rfl, h2, h3, hE]
    cases rc with
    | false => simp
    | true =>
      have hl' := hl rfl
      simp only [VF.len] at hl'
      cases ns with
      | nil => simp at hl'
      | cons x t =>
        simp only [List.all_cons, Bool.and_eq_true] at hn
        simp only [if_true, List.headD_cons, List.tail_cons, VF.len, List.take_succ_cons, chunk_name hn.1]
        rw [show nmSz (x :: t.take r.len) = (x.length + 1) + nmSz (t.take r.len) by simp [nmSz]]
        omega
theorem size_root {d : Nd} {p : VF} {m : Nat} (h : chkF (.cons d p .nil) 0 1 = .inr m) : (4000 < (encV d p).length ↔ 4000 < szS (walkL [] d p)) := by
  have hG := chkF_good _ _ _ _ h
  obtain ⟨⟨k1, k4⟩, hnn, hbs, hns, hpp, hr⟩ := node_rules hG.1
  have h1 := enc_size p (d.k == 4) d.ns [] 0 hG.2.1 (fun e => by rw [node_names hG.1 (by simpa using e)]; exact Nat.le_refl _) hr.2.2.1
  have h2 := enc_one hG.1 h1 (fun h0 => by
    cases p with
    | nil => rfl
    | cons _ _ _ => simp [VF.len] at h0)
  have h3 : szX (walkL [] d p) = nodeX d p.len + szX (walkF [] p 0) := by simp [szX, walkL]
  have h4 := sz_le (walkL [] d p)
  omega
theorem walkF_len : ∀ (F : VF) (q q' : List Int) (j j' : Nat), (walkF q F j).length = (walkF q' F j').length := by
  intro F
  induction F with
  | nil => intro q q' j j'; rfl
  | cons d p r ih1 ih2 =>
    intro q q' j j'
    simp only [walkF, List.length_cons, List.length_append]
    rw [ih1 (q ++ [(j : Int)]) (q' ++ [(j' : Int)]) 0 0, ih2 q q' (j + 1) (j' + 1)]
theorem walkL_len {d : Nd} {p : VF} {m : Nat} (h : chkF (.cons d p .nil) 0 1 = .inr m) : (walkL [] d p).length ≤ 600 := by
  have h3 := chk_count _ _ _ _ [] 0 h
  have h4 := (chkF_next _ _ _ _ h).2 (by omega)
  simp only [walkF, List.length_cons, List.length_append, List.length_nil] at h3
  rw [walkF_len p _ [] 0 0] at h3
  simp only [walkL, List.length_cons]
  omega
/-- the fault of a list of nodes -/
def refF (l : List Itm) : Int × Int := match scan l 0 with | some f => f | none => if 4000 < szS l then (14, -1) else (0, 0)
theorem valF_ref (d : Nd) (p : VF) : valF d p = refF ((expL 601 ([], d, p)).take 601) := by
  have ht := scan_take (expL 601 ([], d, p)) 601 0 (by omega) (by omega)
  obtain ⟨h1, h2⟩ := scan_root 601 (by omega) d p
  unfold refF
  rw [ht]
  cases hc : chkF (.cons d p .nil) 0 1 with
  | inl f => rw [h1 f hc, valF_inl hc]
  | inr m =>
    obtain ⟨a, b⟩ := h2 m hc
    rw [a]
    have hl := walkL_len hc
    rw [b, List.take_of_length_le (by omega)]
    simp only
    have hs := size_root hc
    by_cases hbig : 4000 < (encV d p).length
    · rw [valF_big hc hbig, if_pos (hs.1 hbig)]
    · rw [valF_ok hc hbig, if_neg (fun h => hbig (hs.2 h))]
end Go.Proofs.Ytolognhjdmkohaa
namespace Go.Proofs.Ytolognhjdmkohaa
open Go.RowKit
set_option linter.unusedVariables false
set_option linter.unusedSimpArgs false

theorem gr_below {w w' : World} (h : Below w.heap.size w w') : w.grownBy w' none := ⟨h.os, h.tape, h.output, h.size, fun k hk _ => h.block k hk⟩
theorem below_gr {w w' : World} (h : w.grownBy w' none) : Below w.heap.size w w' := ⟨h.os, h.tape, h.output, h.size, fun k hk => h.block k hk (by simp)⟩
theorem gr_after {w w1 w2 : World} {o : Option Nat} (h : w.grownBy w1 none) (k : w1.grownBy w2 o) : w.grownBy w2 o :=
  ⟨k.os.trans h.os, k.tape.trans h.tape, k.output.trans h.output, Nat.le_trans h.size k.size, fun i hi hne => (k.block i (Nat.lt_of_lt_of_le hi h.size) hne).trans (h.block i hi (by simp))⟩
theorem gr_then {w w1 w2 : World} {o : Option Nat} (h : w.grownBy w1 o) (k : w1.grownBy w2 none) : w.grownBy w2 o :=
  ⟨k.os.trans h.os, k.tape.trans h.tape, k.output.trans h.output, Nat.le_trans h.size k.size, fun i hi hne => (k.block i (Nat.lt_of_lt_of_le hi h.size) (by simp)).trans (h.block i hi hne)⟩
/-- a row stays owned where another block has changed -/
theorem own_gr {w w' : World} {base e s n : Nat} {v : Value} {xs : List Value} {o : Option Nat} (h : w.ownsRow base e s v n xs) (hg : w.grownBy w' o) (hne : ∀ k, v.ownBlock = some k → o ≠ some k) : w'.ownsRow base e s v n xs := by
  refine ⟨h.1, ?_⟩
  rcases h.2 with hn | ⟨k, cap, cur, hv, hk, hh, r⟩
  · exact .inl hn
  · refine .inr ⟨k, cap, cur, hv, hk, ?_, r⟩
    rw [hg.block k (Array.getElem?_eq_some_iff.1 hh).1 (fun e => hne k (by rw [hv]; rfl) e.symm)]
    exact hh
/-- the type of the block of a row -/
theorem own_tyb {w : World} {base e s n k : Nat} {v : Value} {xs : List Value} (h : w.ownsRow base e s v n xs) (hk : v.ownBlock = some k) : ∃ cur, w.heap[k]? = some (.cells cur e (0, 0)) := by
  rcases h.2 with ⟨hv, _⟩ | ⟨g, cap, cur, hv, _, hh, _⟩
  · rw [hv] at hk; cases hk
  · rw [hv] at hk; cases hk; exact ⟨cur, hh⟩
/-- no block of type e is o -/
def NotTy (w : World) (e : TypeId) (o : Option Nat) : Prop := ∀ k cur, o = some k → w.heap[k]? ≠ some (.cells cur e (0, 0))
theorem NotTy.own {w : World} {base e e' s n : Nat} {v : Value} {xs : List Value} (h : w.ownsRow base e' s v n xs) (hne : e ≠ e') : NotTy w e v.ownBlock := by
  intro k cur hk hh
  obtain ⟨cur', h'⟩ := own_tyb h hk
  rw [hh] at h'
  injection h' with h'
  injection h' with _ h'
  exact hne h'
theorem NotTy.none (w : World) (e : TypeId) : NotTy w e none := by intro k cur hk; cases hk
theorem own_nt {w w' : World} {base e s n : Nat} {v : Value} {xs : List Value} {o : Option Nat} (h : w.ownsRow base e s v n xs) (hg : w.grownBy w' o) (hn : NotTy w e o) : w'.ownsRow base e s v n xs :=
  own_gr h hg fun k hk ho => by obtain ⟨cur, hh⟩ := own_tyb h hk; exact hn k cur ho hh
theorem OwnI.gr {w w' : World} {B : Nat} {A : Option Addr} {c : Nat} {l : List (List Int)} {o : Option Nat} (h : OwnI w B A c l) (hg : w.grownBy w' o) (h1 : NotTy w 3 o) (h2 : NotTy w 46 o) : OwnI w' B A c l := by
  obtain ⟨vs, a, b, d⟩ := h
  refine ⟨vs, own_nt a hg h2, b, fun j x hj => ?_⟩
  obtain ⟨A', c', e, ho⟩ := d j x hj
  exact ⟨A', c', e, own_nt ho hg h1⟩
theorem OwnI.push {W w9 : World} {B : Nat} {L : List (List Int)} {A A' Ax : Option Addr} {c c' cx nx : Nat} {vs : List Value} {xp : List Int}
    (hrow : W.ownsRow B 46 1 (.slice A L.length c) L.length vs) (hvl : vs.length = L.length) (hels : ∀ (j : Nat) (b : List Int), L[j]? = some b → ∃ A' c', vs[j]? = some (.slice A' b.length c') ∧ W.ownsRow B 3 1 (.slice A' b.length c') b.length (iv b))
    (hx : W.ownsRow B 3 1 (.slice Ax nx cx) nx (iv xp)) (hnx : xp.length = nx) (hg9 : W.grownBy w9 (Value.slice A L.length c).ownBlock) (hown9 : w9.ownsRow B 46 1 (.slice A' (L.length + 1) c') (L.length + 1) (vs ++ [.slice Ax nx cx])) : OwnI w9 B A' c' (L ++ [xp]) := by
  subst hnx
  have hn := NotTy.own (e := 3) hrow (by decide)
  refine ⟨vs ++ [.slice Ax xp.length cx], by rw [List.length_append]; exact hown9, by simp [hvl], fun j b hj => ?_⟩
  rcases Nat.lt_or_ge j L.length with hlt | hge
  · rw [List.getElem?_append_left hlt] at hj
    obtain ⟨A2, c2, hv, ho⟩ := hels j b hj
    exact ⟨A2, c2, by rw [List.getElem?_append_left (by omega)]; exact hv, own_nt ho hg9 hn⟩
  · rw [List.getElem?_append_right hge] at hj
    obtain rfl : j = L.length := by
      rcases Nat.eq_zero_or_pos (j - L.length) with h0 | h0
      · omega
      · rw [List.getElem?_eq_none (by simp; omega)] at hj; cases hj
    simp at hj
    subst hj
    exact ⟨Ax, cx, by rw [List.getElem?_append_right (by omega), hvl]; simp, own_nt hx hg9 hn⟩

/-- the cells of nodes, each with its path -/
def StC (w0 w : World) (B : Nat) : List Itm → List Value → Prop
  | [], cs => cs = []
  | g :: r, cs => ∃ sb sn sp A c cs', cs = .int .i64 g.2.1.k :: .int .i64 g.2.1.n :: sb :: sn :: sp :: .slice A g.1.length c :: cs' ∧ Hd w0 w0.heap.size g.2.1 g.2.2.len (FIn w0 w0.heap.size g.2.2) sb sn sp ∧ w.ownsRow B 3 1 (.slice A g.1.length c) g.1.length (iv g.1) ∧ StC w0 w B r cs'
theorem StC.gr {w0 w w' : World} {B : Nat} {o : Option Nat} (hg : w.grownBy w' o) (hn : NotTy w 3 o) : ∀ (l : List Itm) (cs : List Value), StC w0 w B l cs → StC w0 w' B l cs := by
  intro l
  induction l with
  | nil => intro cs h; exact h
  | cons g r ih =>
    rintro cs ⟨sb, sn, sp, A, c, cs', e, h1, h2, h3⟩
    exact ⟨sb, sn, sp, A, c, cs', e, h1, own_nt h2 hg hn, ih cs' h3⟩
theorem StC.snoc {w0 w : World} {B : Nat} {g : Itm} {sb sn sp : Value} {A : Option Addr} {c : Nat} (h1 : Hd w0 w0.heap.size g.2.1 g.2.2.len (FIn w0 w0.heap.size g.2.2) sb sn sp) (h2 : w.ownsRow B 3 1 (.slice A g.1.length c) g.1.length (iv g.1)) :
    ∀ (l : List Itm) (cs : List Value), StC w0 w B l cs → StC w0 w B (l ++ [g]) (cs ++ [.int .i64 g.2.1.k, .int .i64 g.2.1.n, sb, sn, sp, .slice A g.1.length c]) := by
  intro l
  induction l with
  | nil => intro cs e; cases e; exact ⟨sb, sn, sp, A, c, [], rfl, h1, h2, rfl⟩
  | cons g' r ih =>
    rintro cs ⟨sb', sn', sp', A', c', cs', rfl, h1', h2', h3⟩
    exact ⟨sb', sn', sp', A', c', _, rfl, h1', h2', ih cs' h3⟩
theorem StC.last {w0 w : World} {B : Nat} {g : Itm} : ∀ (l : List Itm) (cs : List Value), StC w0 w B (l ++ [g]) cs → ∃ cs1 sb sn sp A c, cs = cs1 ++ [.int .i64 g.2.1.k, .int .i64 g.2.1.n, sb, sn, sp, .slice A g.1.length c] ∧ cs1.length = l.length * 6 ∧ StC w0 w B l cs1 ∧
    Hd w0 w0.heap.size g.2.1 g.2.2.len (FIn w0 w0.heap.size g.2.2) sb sn sp ∧ w.ownsRow B 3 1 (.slice A g.1.length c) g.1.length (iv g.1) := by
  intro l
  induction l with
  | nil =>
    rintro cs ⟨sb, sn, sp, A, c, cs', rfl, h1, h2, h3⟩
    have e : cs' = [] := h3
    subst e
    exact ⟨[], sb, sn, sp, A, c, rfl, rfl, rfl, h1, h2⟩
  | cons g' r ih =>
    rintro cs ⟨sb', sn', sp', A', c', cs', rfl, h1', h2', h3⟩
    obtain ⟨cs1, sb, sn, sp, A, c, rfl, hl, hs, h1, h2⟩ := ih cs' h3
    exact ⟨.int .i64 g'.2.1.k :: .int .i64 g'.2.1.n :: sb' :: sn' :: sp' :: .slice A' g'.1.length c' :: cs1, sb, sn, sp, A, c, rfl, by simp only [List.length_cons]; omega, ⟨sb', sn', sp', A', c', cs1, rfl, h1', h2', hs⟩, h1, h2⟩
/-- the cells of nodes -/
def OutC (w0 : World) : List Itm → List Value → Prop
  | [], cs => cs = []
  | g :: r, cs => ∃ sb sn sp cs', cs = .int .i64 g.2.1.k :: .int .i64 g.2.1.n :: sb :: sn :: sp :: cs' ∧ Hd w0 w0.heap.size g.2.1 g.2.2.len (FIn w0 w0.heap.size g.2.2) sb sn sp ∧ OutC w0 r cs'
theorem OutC.snoc {w0 : World} {g : Itm} {sb sn sp : Value} (h1 : Hd w0 w0.heap.size g.2.1 g.2.2.len (FIn w0 w0.heap.size g.2.2) sb sn sp) : ∀ (l : List Itm) (cs : List Value), OutC w0 l cs → OutC w0 (l ++ [g]) (cs ++ [.int .i64 g.2.1.k, .int .i64 g.2.1.n, sb, sn, sp]) := by
  intro l
  induction l with
  | nil => intro cs e; cases e; exact ⟨sb, sn, sp, [], rfl, h1, rfl⟩
  | cons g' r ih =>
    rintro cs ⟨sb', sn', sp', cs', rfl, h1', h3⟩
    exact ⟨sb', sn', sp', _, rfl, h1', ih cs' h3⟩
theorem OutC.at_ {w0 : World} : ∀ (l : List Itm) (cs : List Value) (i : Nat) (g : Itm), OutC w0 l cs → l[i]? = some g → ∃ sb sn sp, (∀ j u, [Value.int .i64 g.2.1.k, .int .i64 g.2.1.n, sb, sn, sp][j]? = some u → cs[i * 5 + j]? = some u) ∧ Hd w0 w0.heap.size g.2.1 g.2.2.len (FIn w0 w0.heap.size g.2.2) sb sn sp := by
  intro l
  induction l with
  | nil => intro cs i g _ h; simp at h
  | cons g' r ih =>
    rintro cs i g ⟨sb', sn', sp', cs', rfl, h1', h3⟩ h
    cases i with
    | zero =>
      simp at h
      subst h
      refine ⟨sb', sn', sp', fun j u hu => ?_, h1'⟩
      match j with
      | 0 => simpa using hu
      | 1 => simpa using hu
      | 2 => simpa using hu
      | 3 => simpa using hu
      | 4 => simpa using hu
      | j + 5 => simp at hu
    | succ i =>
      simp at h
      obtain ⟨sb, sn, sp, hc, hd⟩ := ih cs' i g h3 h
      refine ⟨sb, sn, sp, fun j u hu => ?_, hd⟩
      have := hc j u hu
      rw [show (i + 1) * 5 + j = (i * 5 + j) + 5 by omega]
      simpa using this
/-- a variable that holds a node with its path -/
def Nx (w : World) (g : Nat) (a b c d e f : Value) : Prop := w.heap[g]? = some (.cells #[a, b, c, d, e, f] 95 (0, 0))
theorem Nx.new (w : World) (a b c d e f : Value) : Nx (w.alloc (.cells #[a, b, c, d, e, f] 95)) w.heap.size a b c d e f := heap_alloc_new w _
theorem Nx.lt {w : World} {g : Nat} {a b c d e f : Value} (h : Nx w g a b c d e f) : g < w.heap.size := (Array.getElem?_eq_some_iff.1 h).1
theorem Nx.gr {w w' : World} {g : Nat} {a b c d e f : Value} {o : Option Nat} (h : Nx w g a b c d e f) (hg : w.grownBy w' o) (hne : o ≠ some g) : Nx w' g a b c d e f := (hg.block g h.lt (fun e => hne e.symm)).trans h
theorem Nx.cells {w : World} {g : Nat} {a b c d e f : Value} (h : Nx w g a b c d e f) : w.cell? ⟨g, 0, none⟩ = some a ∧ w.cell? ⟨g, 1, none⟩ = some b ∧ w.cell? ⟨g, 2, none⟩ = some c ∧ w.cell? ⟨g, 3, none⟩ = some d ∧ w.cell? ⟨g, 4, none⟩ = some e ∧ w.cell? ⟨g, 5, none⟩ = some f := by
  refine ⟨?_, ?_, ?_, ?_, ?_, ?_⟩ <;> (rw [cell_of_row w g _ _ _ _ h]; rfl)
theorem slN : SlT Try.prog 96 95 6 112 := SlT.mk' Try.underlying96 (z := .agg #[.int .i64 0, .int .i64 0, .slice none 0 0, .slice none 0 0, .slice none 0 0, .slice none 0 0]) (by kernel_rfl) rfl (by decide) (by decide)
/-- append of one element, told where it lies -/
theorem wpList_appL {P : Program} (w : World) {ops : Array Oper} {rest : List Oper} {o : Oper} {a : Act} {Q : Exit → Act → World → Prop} {t e : TypeId} {size bytes : Nat} (hT : SlT P t e size bytes) (hgd : o.guard = none) (s x : Operand)
    (ho : o.op = .call { callee := .builtin .append, args := #[s, x], argTypes := #[t, t] })
    (base : Nat) (A : Option Addr) (n c : Nat) (xs : List Value) (hs : a.eval s = .slice A n c) (hown : w.ownsRow base e size (.slice A n c) n xs)
    (gx : Nat) (news : List Value) (hx : a.eval x = .slice (some ⟨gx, 0, none⟩) 1 1) (hl : news.length = size) (hnews : ∀ j u, news[j]? = some u → w.cell? ⟨gx, 0 + j, none⟩ = some u) (h1 : ∀ u ∈ news, u.oneCell' = true)
    (hbytes : (n + 1) * bytes ≤ 140737488355328) (hbase : base ≤ w.heap.size)
    (h : ∀ g cap w', w'.ownsRow base e size (.slice (some ⟨g, 0, none⟩) (n + 1) cap) (n + 1) (xs ++ news) → w.grownBy w' (Value.slice A n c).ownBlock → ((Value.slice A n c).ownBlock = some g ∨ g = w.heap.size) → wpList P ops Q rest (a.put o.dst (.slice (some ⟨g, 0, none⟩) (n + 1) cap)) w') : wpList P ops Q (o :: rest) a w := by
  obtain ⟨i, z, hi, hz, hsz, hby, hzs⟩ := hT.info
  have h63 : n + 1 ≤ maxLen := by
    have h := Nat.le_trans (Nat.le_mul_of_pos_right (n + 1) hT.bpos) hbytes
    simp only [maxLen]
    omega
  refine wpList_append_lies w hgd s x t ho base e i z size bytes hT.und hi hz hsz hby hzs hT.pos _ n xs hs hown ⟨gx, 0, none⟩ 1 1 news hx (by rw [hl, Nat.one_mul]) (fun j u hu => ?_) h1 (by omega) h63 hbytes hbase _ rfl fun g cap w' h2 h3 h4 _ => h g cap w' h2 h3 h4
  have e : (⟨gx, 0, none⟩ : Addr).add j = ⟨gx, 0 + j, none⟩ := by unfold Addr.add; split <;> simp_all
  rw [e]; exact hnews j u hu
theorem newsN (w : World) (cs : List Value) (T : TypeId) : ∀ j u, cs[j]? = some u → (w.alloc (.cells cs.toArray T)).cell? ⟨w.heap.size, 0 + j, none⟩ = some u := fun j u hu => by
  rw [cell_of_row _ w.heap.size (0 + j) _ T (0, 0) (heap_alloc_new w _), Nat.zero_add]
  simpa using hu
theorem cutA_zero (b o : Nat) (c s : Nat) : cutA (some ⟨b, o, none⟩) c 0 s = some ⟨b, o, none⟩ := by
  unfold cutA
  split
  · rfl
  · simp [Addr.add]
theorem own_cut {w : World} {base e s n m : Nat} {A : Option Addr} {c : Nat} {xs ys : List Value} (h : w.ownsRow base e s (.slice A n c) n (xs ++ ys)) (hm : m ≤ n) (hl : xs.length = m * s) (hn : 0 < n) : w.ownsRow base e s (.slice A m c) m xs := by
  refine ⟨hl, ?_⟩
  rcases h.2 with ⟨_, h0⟩ | ⟨g, cap, cur, hv, hg, hh, h1, h2, h3, h4⟩
  · omega
  · injection hv with hv1 hv2 hv3
    subst hv3
    refine .inr ⟨g, c, cur, by rw [hv1], hg, hh, by omega, h2, h3, ?_⟩
    have h5 : (cur.toList.take (n * s)).take (m * s) = xs := by
      rw [h4, List.take_append_of_le_length (by omega), List.take_of_length_le (by omega)]
    rwa [List.take_take, Nat.min_eq_left (Nat.mul_le_mul_right _ hm)] at h5
end Go.Proofs.Ytolognhjdmkohaa
