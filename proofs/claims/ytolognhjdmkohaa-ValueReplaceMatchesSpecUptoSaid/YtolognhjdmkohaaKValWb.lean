/-
  value.walk: the first round, and the loop over the parts.
-/
import Derived.Test.YtolognhjdmkohaaJ13
import Derived.Deep.RegionLaw
import Derived.Stop.RegionWithIn
namespace Go.Proofs.Ytolognhjdmkohaa
open Go.RowKit Go.Shelf
set_option linter.unusedVariables false
set_option linter.unusedSimpArgs false
attribute [local go_sem] Oper.semAt_some

/-- how the round at the node itself is left -/
def FstEnd (J Jx : List Wk → World → Prop) (M : Nat → TypeId → Prop) (path : List Int) (d : Nd) (p : VF) (pre : List Wk) (W : World) (b : Bool) (W' : World) : Prop :=
  (b = true → (∃ x : Wk, x.ghost = (path, d, p) ∧ J (pre ++ [x]) W') ∧ KpM M W W') ∧ (b = false → ∃ x : Wk, x.ghost = (path, d, p) ∧ Jx (pre ++ [x]) W')
theorem walk_yield {l : Nat} {J Jx : List Wk → World → Prop} {M : Nat → TypeId → Prop} {L : List (List Int × Nd × VF)} {B : Nat} (hJ : ∀ s W W', J s W → Below W.heap.size W W' → J s W') (hJB : ∀ s W, J s W → B ≤ W.heap.size)
    (hY : ∀ m pre x W, J pre W → WPre L B pre x W → YieldAt Fence.wide m Try.prog l x.encs W (YEnd J Jx M pre x W)) {d : Nd} {p : VF} {path : List Int} {pre : List Wk} {W w5 : World} (hj : J pre W) (hL : pre.map Wk.ghost ++ walkL path d p <+: L) (hb : Below W.heap.size W w5)
    {A Ab An Ap : Option Addr} {n c nb cb nn cn cp : Nat} (hown : w5.ownsRow W.heap.size 3 1 (.slice A n c) n (iv path)) (hv : VIn w5 w5.heap.size (.agg #[.int .i64 d.k, .int .i64 d.n, .slice Ab nb cb, .slice An nn cn, .slice Ap p.len cp]) d p) (m : Nat) :
    YieldAt Fence.wide m Try.prog l #[.slice A n c, .agg #[.int .i64 d.k, .int .i64 d.n, .slice Ab nb cb, .slice An nn cn, .slice Ap p.len cp]] w5 (fun e W' => ∃ b, e = .returned (.bool b) ∧ FstEnd J Jx M path d p pre W b W') := by
  have h := hY m pre ⟨A, n, c, Ab, nb, cb, An, nn, cn, Ap, p.len, cp, path, d, p⟩ w5 (hJ _ _ _ hj hb) ⟨own_mono hown (hJB _ _ hj), hv, by
    obtain ⟨t, ht⟩ := hL
    refine ⟨walkF path p 0 ++ t, ?_⟩
    rw [← ht]
    simp [walkL, Wk.ghost]⟩
  refine YieldAt.mono h ?_
  rintro e W' ⟨b, rfl, h1, h2⟩
  exact ⟨b, rfl, fun hb' => ⟨⟨_, rfl, (h1 hb').1⟩, (KpM.below hb).trans (h1 hb').2⟩, fun hb' => ⟨_, rfl, h2 hb'⟩⟩

/-- how the call at a part is left -/
def NxtEnd (J Jx : List Wk → World → Prop) (M : Nat → TypeId → Prop) (path : List Int) (d : Nd) (p : VF) (pre : List Wk) (W : World) (b : Bool) (W' : World) : Prop :=
  ∃ xs : List Wk, (b = true → xs.map Wk.ghost = walkL path d p ∧ J (pre ++ xs) W' ∧ KpM M W W') ∧ (b = false → xs.map Wk.ghost <+: walkL path d p ∧ Jx (pre ++ xs) W')
/-- some parts have been walked -/
def WkRel (J : List Wk → World → Prop) (M : Nat → TypeId → Prop) (path : List Int) (d : Nd) (p : VF) (pre : List Wk) (W0 : World) (k : Value) (wr : World) : Prop :=
  ∃ (i : Nat) (xs : List Wk), k = .int .i64 (i : Int) ∧ i ≤ p.len ∧ xs.map Wk.ghost = (path, d, p) :: walkF path (p.take i) 0 ∧ J (pre ++ xs) wr ∧ KpM M W0 wr
theorem wk_next {path : List Int} {d d' : Nd} {p p' r : VF} {i : Nat} {xs ys : List Wk} (hg : xs.map Wk.ghost = (path, d, p) :: walkF path (p.take i) 0) (hd : p.drop i = .cons d' p' r) (hi : i < p.len) (hy : ys.map Wk.ghost = walkL (path ++ [(i : Int)]) d' p') :
    (xs ++ ys).map Wk.ghost = (path, d, p) :: walkF path (p.take (i + 1)) 0 := by
  rw [List.map_append, hg, hy, VF.take_succ hd, walkF_snoc, VF.len_take, Nat.zero_add, Nat.min_eq_left (by omega)]
  rfl
theorem wk_prefix {L : List (List Int × Nd × VF)} {path : List Int} {d d' : Nd} {p p' r : VF} {i : Nat} {pre xs : List Wk} (hL : pre.map Wk.ghost ++ walkL path d p <+: L) (hg : xs.map Wk.ghost = (path, d, p) :: walkF path (p.take i) 0) (hd : p.drop i = .cons d' p' r) (hi : i < p.len) :
    (pre ++ xs).map Wk.ghost ++ walkL (path ++ [(i : Int)]) d' p' <+: L := by
  refine List.IsPrefix.trans ?_ hL
  rw [List.map_append, hg, List.append_assoc]
  refine (List.prefix_append_right_inj _).2 ?_
  unfold walkL
  refine List.prefix_cons_inj _ |>.2 ?_
  have h := walkF_take path p (i + 1) 0
  rw [VF.take_succ hd, walkF_snoc, VF.len_take, Nat.zero_add, Nat.min_eq_left (by omega)] at h
  exact h
theorem wk_cut {path : List Int} {d d' : Nd} {p p' r : VF} {i : Nat} {xs ys : List Wk} (hg : xs.map Wk.ghost = (path, d, p) :: walkF path (p.take i) 0) (hd : p.drop i = .cons d' p' r) (hi : i < p.len) (hy : ys.map Wk.ghost <+: walkL (path ++ [(i : Int)]) d' p') :
    (xs ++ ys).map Wk.ghost <+: walkL path d p := by
  have h := wk_prefix (L := walkL path d p) (pre := []) (List.prefix_refl _) hg hd hi
  refine List.IsPrefix.trans ?_ h
  rw [List.map_append, List.nil_append]
  exact (List.prefix_append_right_inj _).2 hy
theorem iv_snoc (path : List Int) (i : Int) : iv (path ++ [i]) = iv path ++ [.int .i64 i] := by simp [iv]
theorem cell_new1 (w : World) (u : Value) (t : TypeId) : (w.alloc (.cells #[u] t)).cell? ⟨w.heap.size, 0, none⟩ = some u := by
  rw [cell_of_row _ w.heap.size _ _ t (0, 0) (heap_alloc_new w _)]; rfl
theorem step_appI {P : Program} {ops : Array Oper} {o : Oper} {a : Act} {w : World} {K : Act → World → Prop} {Q : Exit → Act → World → Prop} {E : Prop} {t e : TypeId} {bytes : Nat} (hT : SlT P t e 1 bytes) (hgd : o.guard = none) (s x : Operand)
    (ho : o.op = .call { callee := .builtin .append, args := #[s, x], argTypes := #[t, t] })
    (base : Nat) (A : Option Addr) (n c : Nat) (xs : List Value) (hs : a.eval s = .slice A n c) (hown : w.ownsRow base e 1 (.slice A n c) n xs)
    (gx : Nat) (u : Value) (hx : a.eval x = .slice (some ⟨gx, 0, none⟩) 1 1) (hu : w.cell? ⟨gx, 0, none⟩ = some u) (h1 : u.oneCell' = true)
    (hbytes : (n + 1) * bytes ≤ 140737488355328) (hbase : base ≤ w.heap.size) {B : Nat} {w0 : World} (hb : Below B w0 w) (hB : B ≤ base) (hB0 : B ≤ w0.heap.size)
    (h : ∀ A' cap w', w'.ownsRow base e 1 (.slice A' (n + 1) cap) (n + 1) (xs ++ [u]) → Below B w0 w' → K (a.put o.dst (.slice A' (n + 1) cap)) w') :
    if Region.wanted o (yielded ops a.tmps) = true then Oper.wp P o a w K Q else E := by
  refine step_app5 hT hgd s x ho base A n c xs hs hown gx [u] hx rfl (fun j v hv => ?_) (by simpa using h1) hbytes hbase _ rfl fun g cap w' h2 h3 h4 h5 => h _ cap w' h2 ?_
  · cases j with
    | zero => simp at hv; subst hv; exact hu
    | succ j => simp at hv
  · exact hb.grown h3 (Nat.le_trans hB0 hb.size) (fun k hk => Nat.le_trans hB (hown.lt k hk).1)

set_option maxRecDepth 100000 in
set_option maxHeartbeats 2000000 in
theorem walk_step {l : Nat} {J Jx : List Wk → World → Prop} {M : Nat → TypeId → Prop} {L : List (List Int × Nd × VF)} {B : Nat} (hJ : ∀ s W W', J s W → Below W.heap.size W W' → J s W')
    (hJB : ∀ s W, J s W → B ≤ W.heap.size) (hM3 : ∀ k, B ≤ k → ¬ M k 3) (hM26 : ∀ k, B ≤ k → ¬ M k 26)
    (hY : ∀ m pre x W, J pre W → WPre L B pre x W → YieldAt Fence.wide m Try.prog l x.encs W (YEnd J Jx M pre x W)) (d : Nd) (p : VF) (hall : VF.All (WkC l J Jx M L) p) : WkC l J Jx M L d p := by
  intro hf hfp hpl path pre W v A n c hv hr hn hj hL
  have HV := Lib.hid hv
  have HVI := Lib.hid (hv.vin (fun b hb => hb.lt))
  have HR := Lib.hid hr
  have HRD := Lib.hid (hr.rd (fun b hb => hb.lt))
  obtain ⟨sb, sn, sp, rfl, Ab, nb, cb, An, nn, cn, Ap, cp, rfl, rfl, rfl, hbc, hnc, hpc, hpm, hrb, hrn, hp⟩ := hv
  have HALL := Lib.hid hall
  have HF := Lib.hid hf
  have HFP := Lib.hid hfp
  have hn1 : n ≤ 1048576 := by omega
  have HP := Lib.hid hp
  have HJ := Lib.hid hJ
  have HJB := Lib.hid hJB
  have HM3 := Lib.hid hM3
  have HM26 := Lib.hid hM26
  have HJJ := Lib.hid hj
  have HL := Lib.hid hL
  have HBJ := Lib.hid (hJB _ _ hj)
  have HYY := Lib.hid hY
  clear hall hY hf hfp hrb hrn hp hJ hJB hM3 hM26 hj hL hr
  go_enter Try.func60, Try.ntmps60
  go_wp2_with fail
  obtain ⟨W0, hW0⟩ : ∃ W0, W.alloc (.cells #[.int .i64 d.k, .int .i64 d.n, .slice Ab nb cb, .slice An nn cn, .slice Ap p.len cp] 26) = W0 := ⟨_, rfl⟩
  have HBX := Lib.hid (show Bx W0 W.heap.size (.int .i64 d.k) (.int .i64 d.n) (.slice Ab nb cb) (.slice An nn cn) (.slice Ap p.len cp) by rw [← hW0]; exact Bx.new _ _ _ _ _ _)
  have HB0 := Lib.hid (show Below W.heap.size W W0 by rw [← hW0]; exact bel1 _ _)
  have HZ0 := Lib.hid (show W0.heap.size = W.heap.size + 1 by rw [← hW0]; simp)
  rw [hW0]
  clear hW0
  have HJ0 := Lib.hid (HJ.out _ _ _ HJJ.out HB0.out)
  have HY := Lib.hid (fun (w5 : World) (hb : Below W0.heap.size W0 w5) => @walk_yield l J Jx M L B HJ.out HJB.out HYY.out d p path pre W0 w5 HJ0.out HL.out hb)
  have HVI0 := Lib.hid (HVI.out.on HB0.out)
  have HRD0 := Lib.hid (HRD.out.on HB0.out)
  go_upto_region 1 with (fail)
  go_cut [15] (fun t wx => ∃ b, t = .bool (!b) ∧ FstEnd J Jx M path d p pre W0 b wx)
  case first =>
    refine (wpIn_wide (n := 3)).1 ?_
    obtain ⟨q0, q1, q2, q3, q4⟩ := HBX.out.cells
    gi_region_with (first
      | (refine ⟨trivial, ?_⟩; gi_at_call 74; refine (callsIn_wide.2 (cloneI_calls (xs := path) (HRD0.out.on HB4.out) hn1)).mono ?_; rintro e w5 ⟨A5, c5, rfl, hown5, hb5⟩; have HB5 := Lib.hid (chain HB4.out hb5); have HYR := HY.out w5 HB5.out (own_mono hown5 HB4.out.size) (HV4.out.on hb5) 2; clear hown5 hb5; obtain ⟨fn, tmps, assign, body, hy, hR⟩ := HYR)
      | (refine ⟨trivial, ?_⟩; gi_at_call 74; refine (callsIn_wide.2 (cloneI_calls (xs := path) (HRD0.out.on ((Below.refl _ _).drew)) hn1)).mono ?_; rintro e w3 ⟨A3, c3, rfl, hown3, hb3⟩; have HB3 := Lib.hid (beldrew hb3); have HO3 := Lib.hid hown3; have HBX3 := Lib.hid (HBX.out.on (beldrew hb3)); obtain ⟨r0, r1, r2, r3, r4⟩ := HBX3.out.cells; clear hown3 hb3)
      | (refine ⟨trivial, ?_⟩; gi_at_call 55; refine (callsIn_wide.2 (clone_calls HF.out HFP.out hpl (HVI0.out.on HB3.out))).mono ?_; rintro e w5 ⟨v5, rfl, ⟨sb5, sn5, sp5, rfl, hd5⟩, hb5⟩; have HD5 := Lib.hid hd5; obtain ⟨Ab5, nb5, cb5, An5, nn5, cn5, Ap5, cp5, rfl, rfl, rfl, _⟩ := hd5; have HB5 := Lib.hid (chain HB3.out hb5); have HYR := HY.out w5 HB5.out (own_below HO3.out hb5 (Nat.le_refl _)) (VInS.vin ⟨_, _, _, rfl, HD5.out⟩ (fun b hb => hb.2)) 2; clear hb5; obtain ⟨fn, tmps, assign, body, hy, hR⟩ := HYR)
      | (refine ⟨trivial, ?_⟩; gi_at_call 55; refine (callsIn_wide.2 (clone_calls HF.out HFP.out hpl (HVI0.out.on ((Below.refl _ _).drew)))).mono ?_; rintro e w4 ⟨v4, rfl, ⟨sb4, sn4, sp4, rfl, hd4⟩, hb4⟩; have HV4 := Lib.hid (VInS.vin ⟨_, _, _, rfl, hd4⟩ (fun b hb => hb.2)); obtain ⟨Ab4, nb4, cb4, An4, nn4, cn4, Ap4, cp4, rfl, rfl, rfl, _⟩ := hd4; have HB4 := Lib.hid (beldrew hb4); clear hb4)
      | (refine hR.mono ?_; clear hR; rintro e W6 ⟨b, rfl, hend⟩; have HE := Lib.hid hend; clear hend))
    all_goals (gi_wp2_with fail)
    all_goals go_meet
    all_goals exact ⟨b, rfl, HE.out⟩
  case rest =>
    obtain ⟨b, rfl, hfst⟩ := hcut
    have HFS := Lib.hid hfst
    clear hfst
    cases b
    · obtain ⟨x, hxg, hxj⟩ := HFS.out.2 rfl
      have HXG := Lib.hid hxg
      have HXJ := Lib.hid hxj
      clear hxg hxj
      go_wp2_with fail
      go_ret
      exact ⟨false, [x], rfl, fun h => (by cases h), fun _ => ⟨⟨walkF path p 0, by simp [HXG.out, walkL]⟩, HXJ.out⟩⟩
    · obtain ⟨⟨x, hxg, hxj⟩, hkp⟩ := HFS.out.1 rfl
      have HXG := Lib.hid hxg
      have HXJ := Lib.hid hxj
      have HKP := Lib.hid hkp
      have hm0 := HM26.out W.heap.size HBJ.out
      obtain ⟨r0, r1, r2, r3, r4⟩ := (HBX.out.kp hkp hm0).cells
      obtain ⟨np, hnp⟩ : ∃ np, p.len = np := ⟨_, rfl⟩
      have HNP := Lib.hid hnp
      rw [hnp] at r4 hpl hpc
      have HM0 := Lib.hid hm0
      clear hxg hxj hkp hnp hm0
      go_wp2_with fail
      go_loopw [19] (WkRel J M path d p pre W0) (fun k _ => np - (intOf k).toNat)
      case atStart => exact ⟨0, [x], rfl, Nat.zero_le _, by simp [HXG.out, VF.take_zero, walkF], HXJ.out, HKP.out⟩
      case round =>
        obtain ⟨i, xs, rfl, hi, hgh, hjr, hkr⟩ := hrel
        rw [HNP.out] at hi
        have HGH := Lib.hid hgh
        have HJR := Lib.hid hjr
        have HKR := Lib.hid hkr
        clear hgh hjr hkr r0 r1 r2 r3 r4
        by_cases hlt : i < np
        · obtain ⟨b, o, hAp, hb, hfin⟩ := HP.out (by rw [HNP.out]; omega)
          subst hAp
          have hK : KpM M W wr := (KpM.below HB0.out).trans HKR.out
          obtain ⟨d', p', hdr⟩ := VF.drop_cons (F := p) (i := i) (by rw [HNP.out]; exact hlt)
          obtain ⟨sb', sn', sp', ⟨k0, k1, k2, k3, k4⟩, hd'⟩ := FInS.at_ p b o i d' p' _ (hfin.kp hb hK) hdr
          have HV' : Hid (VInS wr (Sm M wr) (.agg #[.int .i64 d'.k, .int .i64 d'.n, sb', sn', sp']) d' p') := Lib.hid ⟨sb', sn', sp', rfl, hd'⟩
          obtain ⟨Ab', nb', cb', An', nn', cn', Ap', cp', rfl, rfl, rfl, _⟩ := hd'
          have HCT := Lib.hid (wk_pick HALL.out hdr HFP.out)
          have HDR := Lib.hid hdr
          have HRR := Lib.hid (HR.out.kp hK)
          have hht := ht_at hdr
          have hBR := HJB.out _ _ HJR.out
          clear hfin hdr hK
          have hli : (i : Int) < (np : Int) := by omega
          have h0 : (0 : Int) ≤ (i : Int) := by omega
          go_upto_region 6 with (fail)
          obtain ⟨W5, hW5⟩ : ∃ W5, wr.alloc (.cells #[.int .i64 d'.k, .int .i64 d'.n, .slice Ab' nb' cb', .slice An' nn' cn', .slice Ap' p'.len cp'] 26) = W5 := ⟨_, rfl⟩
          have hz5 : W5.heap.size = wr.heap.size + 1 := by rw [← hW5]; simp
          have HB5 := Lib.hid (show Below wr.heap.size wr W5 by rw [← hW5]; exact bel1 _ _)
          have HX5 := Lib.hid (show Bx W5 wr.heap.size (.int .i64 d'.k) (.int .i64 d'.n) (.slice Ab' nb' cb') (.slice An' nn' cn') (.slice Ap' p'.len cp') by rw [← hW5]; exact Bx.new _ _ _ _ _ _)
          rw [hW5]
          have HZ5 := Lib.hid hz5
          clear hW5 hz5 k0 k1 k2 k3 k4
          have HRW := Lib.hid (HRR.out.rd (fun b hb => hb.lt))
          have HPR := Lib.hid (show (pre ++ xs).map Wk.ghost ++ walkL (path ++ [(i : Int)]) d' p' <+: L from wk_prefix HL.out HGH.out HDR.out (by rw [HNP.out]; exact hlt))
          obtain ⟨y0, y1, y2, y3, y4⟩ := HX5.out.cells
          have y0' := fun ob => cell_up (o := ob) y0
          have y1' := fun ob => cell_up (o := ob) y1
          have y2' := fun ob => cell_up (o := ob) y2
          have y3' := fun ob => cell_up (o := ob) y3
          have y4' := fun ob => cell_up (o := ob) y4
          go_cut [32] (fun t wx => ∃ b, t = .bool (!b) ∧ NxtEnd J Jx M (path ++ [(i : Int)]) d' p' (pre ++ xs) wr b wx)
          case first =>
            go_region_law (first
              | (refine step_appI slI rfl (.tmp 26) (.tmp 28) rfl W5.heap.size A6 n c6 (iv path) (by simp [Act.eval, Act.put]) (HO6.out.alloc _) w6.heap.size (.int .i64 (i : Int)) (by simp [Act.eval, Act.put]) (cell_new1 _ _ _) rfl (by omega) (by have := HB6.out.size; simp only [alloc_size]; omega) (bel_up HB6.out _) (Nat.le_refl _) (Nat.le_refl _) ?_; intro A7 c7 w7 hown7 hb7; have HO7 := Lib.hid hown7; have HB7 := Lib.hid hb7; have c7c := (HX5.out.on hb7).cells; obtain ⟨v0, v1, v2, v3, v4⟩ := c7c; clear hown7 hb7)
              | (refine step_appI slI rfl (.tmp 26) (.tmp 28) rfl W5.heap.size A6 n c6 (iv path) (by simp [Act.eval, Act.put]) HO6.out W5.heap.size (.int .i64 (i : Int)) (by simp [Act.eval, Act.put]) HG6.out rfl (by omega) HB6.out.size HB6.out (Nat.le_refl _) (Nat.le_refl _) ?_; intro A7 c7 w7 hown7 hb7; have HO7 := Lib.hid hown7; have HB7 := Lib.hid hb7; have c7c := (HX5.out.on hb7).cells; obtain ⟨v0, v1, v2, v3, v4⟩ := c7c; clear hown7 hb7)
              | (go_simp; go_at_call 74; refine (cloneI_calls (xs := path) (HRW.out.on (by repeat (first | exact HB5.out | refine Below.drew ?_ | refine bel_up ?_ _))) hn1).mono ?_; rintro e w6 ⟨A6, c6, rfl, hown6, hb6⟩; have HB6 := Lib.hid (show Below W5.heap.size W5 w6 by first | (with_reducible exact beldrew hb6) | (with_reducible exact beldrewA hb6)); have HO6 := Lib.hid (own_mono (base' := W5.heap.size) hown6 (by simp)); have c6c := (HX5.out.on HB6.out).cells; obtain ⟨u0, u1, u2, u3, u4⟩ := c6c; have u0' := fun ob => cell_up (o := ob) u0; have u1' := fun ob => cell_up (o := ob) u1; have u2' := fun ob => cell_up (o := ob) u2; have u3' := fun ob => cell_up (o := ob) u3; have u4' := fun ob => cell_up (o := ob) u4; (first | have HG6 := Lib.hid ((hb6.cell (p := ⟨W5.heap.size, 0, none⟩) (by simp)).trans (cell_drew (cell_new1 W5 (.int .i64 (i : Int)) 3))) | skip); clear hown6 hb6)
              | (go_simp; go_at_call 60; refine (HCT.out (path ++ [(i : Int)]) (pre ++ xs) w7 _ A7 (n + 1) c7 (HV'.out.kp (KpM.below (chain HB5.out HB7.out))) (by rw [iv_snoc]; exact RdS.row HO7.out (fun k hk => HM3.out k (by have := HZ5.out; omega))) (by omega) (HJ.out _ _ _ HJR.out (chain HB5.out HB7.out)) HPR.out).mono ?_; rintro e w8 ⟨b8, ys, rfl, h81, h82⟩; have HN := Lib.hid (show NxtEnd J Jx M (path ++ [(i : Int)]) d' p' (pre ++ xs) wr b8 w8 from ⟨ys, fun h => ⟨(h81 h).1, (h81 h).2.1, (KpM.below (chain HB5.out HB7.out)).trans (h81 h).2.2⟩, h82⟩); clear h81 h82))
            all_goals go_wp2_with fail
            all_goals go_meet
            all_goals exact ⟨b8, rfl, HN.out⟩
          case rest =>
            obtain ⟨b8, rfl, ys, h1, h2⟩ := hcut
            have H1 := Lib.hid h1
            have H2 := Lib.hid h2
            clear h1 h2
            cases b8
            · obtain ⟨hg, hx⟩ := H2.out rfl
              have HG := Lib.hid hg
              have HX := Lib.hid hx
              clear hg hx
              go_wp2_with fail
              go_ret
              exact ⟨false, xs ++ ys, rfl, fun h => (by cases h), fun _ => ⟨wk_cut HGH.out HDR.out (by rw [HNP.out]; exact hlt) HG.out, by rw [← List.append_assoc]; exact HX.out⟩⟩
            · obtain ⟨hg, hx, hk⟩ := H1.out rfl
              have HG := Lib.hid hg
              have HX := Lib.hid hx
              have HK := Lib.hid hk
              clear hg hx hk
              go_wp2_with fail
              go_roundw
              case rel => exact ⟨i + 1, xs ++ ys, by go_num, by rw [HNP.out]; omega, wk_next HGH.out HDR.out (by rw [HNP.out]; exact hlt) HG.out, by rw [← List.append_assoc]; exact HX.out, HKR.out.trans HK.out⟩
              case measure => simp [intOf]; omega
        · have HIN := Lib.hid (show p.take i = p from VF.take_all (by rw [HNP.out]; omega))
          go_wp2_with fail
          go_ret
          exact ⟨true, xs, rfl, fun _ => ⟨by rw [HGH.out, HIN.out]; rfl, HJR.out, (KpM.below HB0.out).trans HKR.out⟩, fun h => (by cases h)⟩
end Go.Proofs.Ytolognhjdmkohaa
