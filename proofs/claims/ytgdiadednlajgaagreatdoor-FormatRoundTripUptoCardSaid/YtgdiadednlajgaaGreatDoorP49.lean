import Derived.Test.YtgdiadednlajgaaGreatDoorP48
namespace Go.Proofs.YtgdiadednlajgaaGreatDoor
open Go.RowKit
set_option linter.unusedVariables false
set_option linter.unusedSimpArgs false
theorem checkF_code {F : List Rl} (h : (checkF F).1 = 0) : checkF F = (0, 0) := by
  unfold checkF at h ⊢
  split
  · next h0 => rw [if_pos h0] at h; cases h
  next h0 =>
  rw [if_neg h0] at h
  split
  · next h1 => rw [if_pos h1] at h; cases h
  next h1 =>
  rw [if_neg h1] at h
  cases ha : firstN F.length (fun k => ruleAt F k != 0) with
  | some k =>
    rw [ha] at h
    have := (firstN_at ha).2.1
    exact absurd h (by simpa using this)
  | none =>
    rw [ha] at h
    cases hb : firstN F.length (fun k => useAt F k != 0) with
    | some k =>
      rw [hb] at h
      have := (firstN_at hb).2.1
      exact absurd h (by simpa using this)
    | none =>
      rw [hb] at h
      cases hc : firstN F.length (cycB F) with
      | some k => rw [hc] at h; cases h
      | none =>
        rw [hc] at h
        cases hd : firstN F.length (fun k => !((finL F).getD k false)) with
        | some k => rw [hd] at h; cases h
        | none =>
          rw [hd] at h
          cases he : firstN F.length (conflAt F) with
          | some k => rw [he] at h; cases h
          | none => rfl
theorem faultF_code {F : List Rl} (h : (faultF F).1 = 0) : faultF F = (0, 0) := by
  unfold faultF at h ⊢
  split
  · next h0 =>
    rw [if_pos h0] at h
    exact checkF_code h
  · next h0 =>
    rw [if_neg h0] at h
    split
    · next h1 => rw [if_pos h1] at h; cases h
    · rfl
theorem faultF_len {F : List Rl} (h : faultF F = (0, 0)) : (textF F).length ≤ 2000 := by
  unfold faultF at h
  split at h
  · next h0 => exact absurd h h0
  · split at h
    · cases h
    · omega
theorem parse_e {s : List UInt8} {F : List Rl} {e : Int × Int} (h : parseF s = (F, e)) : (e = (0, 0)) ∨ (e.1 ≠ 0 ∧ F = []) := by
  unfold parseF at h
  split at h
  · cases h; exact .inr ⟨by decide, rfl⟩
  · split at h
    · cases h; exact .inr ⟨(by decide : (1 : Int) ≠ 0), rfl⟩
    · split at h
      · cases h; exact .inr ⟨(by decide : (12 : Int) ≠ 0), rfl⟩
      · next F' _ =>
        split at h
        · next hne =>
          cases h
          exact .inr ⟨fun h0 => hne (faultF_code h0), rfl⟩
        · cases h
          exact .inl rfl
section
variable {A : Option Addr} {n c : Nat} {W : World} {F : List Rl} {s : List UInt8}
set_option maxRecDepth 1000000 in
set_option maxHeartbeats 16000000 in
theorem lawRoundTrip_calls (hf : FmIn W W.heap.size A n F) (hs : FSm F) (hc : n ≤ c) (hg : GV W) (hl : s.length ≤ 1048576) :
    Calls Tryz.prog 7 #[.agg #[.slice A n c], .string ⟨s.toArray⟩] W (BoolEnd W true) := by
  obtain rfl : n = F.length := hf.1.symm
  have HF := Lib.hid hf
  have HS := Lib.hid hs
  have HG := Lib.hid hg
  clear hf hs hg
  obtain ⟨⟨pa, pb⟩, hp⟩ : ∃ p, faultF F = p := ⟨_, rfl⟩
  go_enter Tryz.func7, Tryz.ntmps7
  refine s_go (M := []) (W := W) (N := 62) (E := [(0, .agg #[.slice A F.length c]), (1, .string ⟨s.toArray⟩)]) (O := []) ?_ (Ag.cons (Ag.cons (Ag.nil rfl rfl) rfl) rfl) (Wd.start [] W)
  repeat (first | ((with_reducible show sE _ _ _ _ _ _ _ _); first | refine s_seq ?_ | refine s_region ?_ | refine s_draw (by kernel_rfl) (by kernel_rfl) ?_ | refine s_skip ?_ | refine s_cond_true rfl ?_ | refine s_cond_false rfl ?_ | refine s_exit ?_ | refine s_ret ?_ | refine s_block ?_ | refine s_label ?_) | ((with_reducible show xE _ _ _ _ _ _ _); first | refine x_nextV ?_ | refine x_block_out ?_ | refine x_block_exit (by decide) ?_ | refine x_then_exit ?_ | refine x_then_ret ?_ | refine x_block_ret ?_ | refine x_block_normal ?_) | fail)
  refine l_loud (u_box rfl rfl rfl rfl) rfl (by decide) (fun b2 _ => ?_)
  refine l_op (o_assign rfl rfl (by decide) rfl rfl) ?_
  refine l_nil ?_
  repeat (first | ((with_reducible show sE _ _ _ _ _ _ _ _); first | refine s_seq ?_ | refine s_region ?_ | refine s_draw (by kernel_rfl) (by kernel_rfl) ?_ | refine s_skip ?_ | refine s_cond_true rfl ?_ | refine s_cond_false rfl ?_ | refine s_exit ?_ | refine s_ret ?_ | refine s_block ?_ | refine s_label ?_) | ((with_reducible show xE _ _ _ _ _ _ _); first | refine x_nextV ?_ | refine x_block_out ?_ | refine x_block_exit (by decide) ?_ | refine x_then_exit ?_ | refine x_then_ret ?_ | refine x_block_ret ?_ | refine x_block_normal ?_) | fail)
  refine l_op (o_call (f := 9) rfl rfl (by decide) rfl rfl (fun w hw => example_calls (HG.out.on hw.k.below))) ?_
  refine l_op (o_not rfl rfl (by decide) rfl rfl rfl) ?_
  refine l_nil ?_
  repeat (first | ((with_reducible show sE _ _ _ _ _ _ _ _); first | refine s_seq ?_ | refine s_region ?_ | refine s_draw (by kernel_rfl) (by kernel_rfl) ?_ | refine s_skip ?_ | refine s_cond_true rfl ?_ | refine s_cond_false rfl ?_ | refine s_exit ?_ | refine s_ret ?_ | refine s_block ?_ | refine s_label ?_) | ((with_reducible show xE _ _ _ _ _ _ _); first | refine x_nextV ?_ | refine x_block_out ?_ | refine x_block_exit (by decide) ?_ | refine x_then_exit ?_ | refine x_then_ret ?_ | refine x_block_ret ?_ | refine x_block_normal ?_) | fail)
  first | refine l_op (o_load rfl rfl (by decide) rfl rfl (by first | exact fun w hw => hw.cell_blkL 0 rfl rfl | exact fun w hw => hw.cell_blkL 1 rfl rfl | exact fun w hw => hw.cell_blkL 2 rfl rfl | exact fun w hw => hw.cell_blkL 3 rfl rfl | exact fun w hw => hw.cell_blkL 4 rfl rfl | exact fun w hw => hw.cell_blkL 5 rfl rfl | exact fun w hw => hw.cell_old (by assumption) (by simp) | exact fun w hw => hw.cell_range (by assumption) rfl (by simp))) ?_ | refine l_op (o_loadN rfl rfl (by decide) rfl rfl (by first | exact fun w hw => hw.range_blk 0 rfl | exact fun w hw => hw.range_blk 1 rfl | exact fun w hw => hw.range_blk 2 rfl | exact fun w hw => hw.range_blk 3 rfl | exact fun w hw => hw.range_blk 4 rfl | exact fun w hw => hw.range_blk 5 rfl | exact fun w hw => hw.range_old (by assumption) (by simp)) (by first | rfl | exact setC_len _)) ?_
  refine l_op (o_call (f := 19) rfl rfl (by decide) rfl rfl (fun w hw => (print_calls (HF.out.on hw.k.below) HS.out hc (HG.out.on hw.k.below)).mono (fun _ _ h => by rw [hp] at h; exact h))) ?_
  refine l_op (o_move rfl rfl (by decide) rfl rfl) ?_
  refine l_op (o_extract rfl rfl (by decide) rfl rfl rfl) ?_
  refine l_op (o_extract rfl rfl (by decide) rfl rfl rfl) ?_
  refine l_loud (u_alloc rfl rfl) rfl (by decide) (fun b6 _ => ?_)
  refine l_op (o_assign rfl rfl (by decide) rfl rfl) ?_
  first | (refine l_loud0 (u_storeN 0 rfl rfl rfl rfl rfl rfl rfl (by simp)) rfl (fun _ _ => ?_); rw [putL_full (by rfl)]) | (refine l_loud0 (u_storeN 1 rfl rfl rfl rfl rfl rfl rfl (by simp)) rfl (fun _ _ => ?_); rw [putL_full (by rfl)]) | (refine l_loud0 (u_storeN 2 rfl rfl rfl rfl rfl rfl rfl (by simp)) rfl (fun _ _ => ?_); rw [putL_full (by rfl)]) | (refine l_loud0 (u_storeN 3 rfl rfl rfl rfl rfl rfl rfl (by simp)) rfl (fun _ _ => ?_); rw [putL_full (by rfl)]) | (refine l_loud0 (u_storeN 4 rfl rfl rfl rfl rfl rfl rfl (by simp)) rfl (fun _ _ => ?_); rw [putL_full (by rfl)]) | refine l_loud0 (u_store 0 rfl rfl rfl rfl rfl rfl rfl) rfl (fun _ _ => ?_) | refine l_loud0 (u_store 1 rfl rfl rfl rfl rfl rfl rfl) rfl (fun _ _ => ?_) | refine l_loud0 (u_store 2 rfl rfl rfl rfl rfl rfl rfl) rfl (fun _ _ => ?_) | refine l_loud0 (u_store 3 rfl rfl rfl rfl rfl rfl rfl) rfl (fun _ _ => ?_) | refine l_loud0 (u_store 4 rfl rfl rfl rfl rfl rfl rfl) rfl (fun _ _ => ?_)
  refine l_nil ?_
  refine x_nextV ?_
  refine s_meet (ι := Unit) (fun _ => True) (fun _ => [(1, .string ⟨s.toArray⟩)]) (fun _ => []) ?_ (fun _ _ => ?_)
  · by_cases hz : pa = 0
    · subst hz
      obtain rfl : pb = 0 := by have := faultF_code (F := F) (by rw [hp]); rw [hp] at this; exact congrArg (·.2) this
      have hpr : printF F = textF F := by unfold printF; rw [if_pos hp]
      rw [hpr]
      have hl2 := faultF_len hp
      have hpt := parse_text hp
      repeat (first | ((with_reducible show sE _ _ _ _ _ _ _ _); first | refine s_seq ?_ | refine s_region ?_ | refine s_draw (by kernel_rfl) (by kernel_rfl) ?_ | refine s_skip ?_ | refine s_cond_true rfl ?_ | refine s_cond_false rfl ?_ | refine s_exit ?_ | refine s_ret ?_ | refine s_block ?_ | refine s_label ?_) | ((with_reducible show xE _ _ _ _ _ _ _); first | refine x_nextV ?_ | refine x_block_out ?_ | refine x_block_exit (by decide) ?_ | refine x_then_exit ?_ | refine x_then_ret ?_ | refine x_block_ret ?_ | refine x_block_normal ?_) | fail)
      refine l_op (o_fieldAddr rfl rfl (by decide) rfl rfl) ?_
      first | refine l_op (o_load rfl rfl (by decide) rfl rfl (by first | exact fun w hw => hw.cell_blkL 0 rfl rfl | exact fun w hw => hw.cell_blkL 1 rfl rfl | exact fun w hw => hw.cell_blkL 2 rfl rfl | exact fun w hw => hw.cell_blkL 3 rfl rfl | exact fun w hw => hw.cell_blkL 4 rfl rfl | exact fun w hw => hw.cell_blkL 5 rfl rfl | exact fun w hw => hw.cell_old (by assumption) (by simp) | exact fun w hw => hw.cell_range (by assumption) rfl (by simp))) ?_ | refine l_op (o_loadN rfl rfl (by decide) rfl rfl (by first | exact fun w hw => hw.range_blk 0 rfl | exact fun w hw => hw.range_blk 1 rfl | exact fun w hw => hw.range_blk 2 rfl | exact fun w hw => hw.range_blk 3 rfl | exact fun w hw => hw.range_blk 4 rfl | exact fun w hw => hw.range_blk 5 rfl | exact fun w hw => hw.range_old (by assumption) (by simp)) (by first | rfl | exact setC_len _)) ?_
      refine l_op (o_eql rfl rfl (by decide) rfl rfl rfl (by first | assumption | decide | exact beq_iff_eq.2 (by omega) | exact beq_eq_false_iff_ne.2 (by omega) | rfl)) ?_
      refine l_nil ?_
      repeat (first | ((with_reducible show sE _ _ _ _ _ _ _ _); first | refine s_seq ?_ | refine s_region ?_ | refine s_draw (by kernel_rfl) (by kernel_rfl) ?_ | refine s_skip ?_ | refine s_cond_true rfl ?_ | refine s_cond_false rfl ?_ | refine s_exit ?_ | refine s_ret ?_ | refine s_block ?_ | refine s_label ?_) | ((with_reducible show xE _ _ _ _ _ _ _); first | refine x_nextV ?_ | refine x_block_out ?_ | refine x_block_exit (by decide) ?_ | refine x_then_exit ?_ | refine x_then_ret ?_ | refine x_block_ret ?_ | refine x_block_normal ?_) | fail)
      refine l_op (o_move rfl rfl (by decide) rfl rfl) ?_
      (refine l_loud (u_call _ _ _ (f := 21) rfl rfl rfl (fun w hw => parse_wd (s0 := textF F) HG.out (by omega) hw)) rfl (by decide) (fun y hy => ?_); obtain ⟨F1, A1, c1, e1, at1⟩ := y; obtain rfl : F1 = F := (pr_eq hy hpt).1; obtain rfl : e1 = (0, 0) := (pr_eq hy hpt).2; refine l_re (fun w hw => Wd.swapL (L := at1) (P := [_, _]) (O := []) hw) ?_)
      refine l_op (o_move rfl rfl (by decide) rfl rfl) ?_
      refine l_op (o_extract rfl rfl (by decide) rfl rfl rfl) ?_
      refine l_op (o_extract rfl rfl (by decide) rfl rfl rfl) ?_
      refine l_loud (u_alloc rfl rfl) rfl (by decide) (fun b7 _ => ?_)
      refine l_loud (u_alloc rfl rfl) rfl (by decide) (fun b8 _ => ?_)
      first | (refine l_loud0 (u_storeN 0 rfl rfl rfl rfl rfl rfl rfl (by simp)) rfl (fun _ _ => ?_); rw [putL_full (by rfl)]) | (refine l_loud0 (u_storeN 1 rfl rfl rfl rfl rfl rfl rfl (by simp)) rfl (fun _ _ => ?_); rw [putL_full (by rfl)]) | (refine l_loud0 (u_storeN 2 rfl rfl rfl rfl rfl rfl rfl (by simp)) rfl (fun _ _ => ?_); rw [putL_full (by rfl)]) | (refine l_loud0 (u_storeN 3 rfl rfl rfl rfl rfl rfl rfl (by simp)) rfl (fun _ _ => ?_); rw [putL_full (by rfl)]) | (refine l_loud0 (u_storeN 4 rfl rfl rfl rfl rfl rfl rfl (by simp)) rfl (fun _ _ => ?_); rw [putL_full (by rfl)]) | refine l_loud0 (u_store 0 rfl rfl rfl rfl rfl rfl rfl) rfl (fun _ _ => ?_) | refine l_loud0 (u_store 1 rfl rfl rfl rfl rfl rfl rfl) rfl (fun _ _ => ?_) | refine l_loud0 (u_store 2 rfl rfl rfl rfl rfl rfl rfl) rfl (fun _ _ => ?_) | refine l_loud0 (u_store 3 rfl rfl rfl rfl rfl rfl rfl) rfl (fun _ _ => ?_) | refine l_loud0 (u_store 4 rfl rfl rfl rfl rfl rfl rfl) rfl (fun _ _ => ?_)
      first | (refine l_loud0 (u_storeN 0 rfl rfl rfl rfl rfl rfl rfl (by simp)) rfl (fun _ _ => ?_); rw [putL_full (by rfl)]) | (refine l_loud0 (u_storeN 1 rfl rfl rfl rfl rfl rfl rfl (by simp)) rfl (fun _ _ => ?_); rw [putL_full (by rfl)]) | (refine l_loud0 (u_storeN 2 rfl rfl rfl rfl rfl rfl rfl (by simp)) rfl (fun _ _ => ?_); rw [putL_full (by rfl)]) | (refine l_loud0 (u_storeN 3 rfl rfl rfl rfl rfl rfl rfl (by simp)) rfl (fun _ _ => ?_); rw [putL_full (by rfl)]) | (refine l_loud0 (u_storeN 4 rfl rfl rfl rfl rfl rfl rfl (by simp)) rfl (fun _ _ => ?_); rw [putL_full (by rfl)]) | refine l_loud0 (u_store 0 rfl rfl rfl rfl rfl rfl rfl) rfl (fun _ _ => ?_) | refine l_loud0 (u_store 1 rfl rfl rfl rfl rfl rfl rfl) rfl (fun _ _ => ?_) | refine l_loud0 (u_store 2 rfl rfl rfl rfl rfl rfl rfl) rfl (fun _ _ => ?_) | refine l_loud0 (u_store 3 rfl rfl rfl rfl rfl rfl rfl) rfl (fun _ _ => ?_) | refine l_loud0 (u_store 4 rfl rfl rfl rfl rfl rfl rfl) rfl (fun _ _ => ?_)
      refine l_nil ?_
      repeat (first | ((with_reducible show sE _ _ _ _ _ _ _ _); first | refine s_seq ?_ | refine s_region ?_ | refine s_draw (by kernel_rfl) (by kernel_rfl) ?_ | refine s_skip ?_ | refine s_cond_true rfl ?_ | refine s_cond_false rfl ?_ | refine s_exit ?_ | refine s_ret ?_ | refine s_block ?_ | refine s_label ?_) | ((with_reducible show xE _ _ _ _ _ _ _); first | refine x_nextV ?_ | refine x_block_out ?_ | refine x_block_exit (by decide) ?_ | refine x_then_exit ?_ | refine x_then_ret ?_ | refine x_block_ret ?_ | refine x_block_normal ?_) | fail)
      refine l_op (o_fieldAddr rfl rfl (by decide) rfl rfl) ?_
      first | refine l_op (o_load rfl rfl (by decide) rfl rfl (by first | exact fun w hw => hw.cell_blkL 0 rfl rfl | exact fun w hw => hw.cell_blkL 1 rfl rfl | exact fun w hw => hw.cell_blkL 2 rfl rfl | exact fun w hw => hw.cell_blkL 3 rfl rfl | exact fun w hw => hw.cell_blkL 4 rfl rfl | exact fun w hw => hw.cell_blkL 5 rfl rfl | exact fun w hw => hw.cell_old (by assumption) (by simp) | exact fun w hw => hw.cell_range (by assumption) rfl (by simp))) ?_ | refine l_op (o_loadN rfl rfl (by decide) rfl rfl (by first | exact fun w hw => hw.range_blk 0 rfl | exact fun w hw => hw.range_blk 1 rfl | exact fun w hw => hw.range_blk 2 rfl | exact fun w hw => hw.range_blk 3 rfl | exact fun w hw => hw.range_blk 4 rfl | exact fun w hw => hw.range_blk 5 rfl | exact fun w hw => hw.range_old (by assumption) (by simp)) (by first | rfl | exact setC_len _)) ?_
      refine l_op (o_neq rfl rfl (by decide) rfl rfl rfl (by first | assumption | decide | exact bne_iff_ne.2 (by omega) | exact bne_eq_false_iff_eq.2 (by omega) | rfl)) ?_
      refine l_op (o_move rfl rfl (by decide) rfl rfl) ?_
      first | refine l_op (o_load rfl rfl (by decide) rfl rfl (by first | exact fun w hw => hw.cell_blkL 0 rfl rfl | exact fun w hw => hw.cell_blkL 1 rfl rfl | exact fun w hw => hw.cell_blkL 2 rfl rfl | exact fun w hw => hw.cell_blkL 3 rfl rfl | exact fun w hw => hw.cell_blkL 4 rfl rfl | exact fun w hw => hw.cell_blkL 5 rfl rfl | exact fun w hw => hw.cell_old (by assumption) (by simp) | exact fun w hw => hw.cell_range (by assumption) rfl (by simp))) ?_ | refine l_op (o_loadN rfl rfl (by decide) rfl rfl (by first | exact fun w hw => hw.range_blk 0 rfl | exact fun w hw => hw.range_blk 1 rfl | exact fun w hw => hw.range_blk 2 rfl | exact fun w hw => hw.range_blk 3 rfl | exact fun w hw => hw.range_blk 4 rfl | exact fun w hw => hw.range_blk 5 rfl | exact fun w hw => hw.range_old (by assumption) (by simp)) (by first | rfl | exact setC_len _)) ?_ | refine l_op (o_skip rfl (by decide) rfl) ?_ | refine l_op (o_skip0 rfl rfl) ?_
      first | refine l_op (o_load rfl rfl (by decide) rfl rfl (by first | exact fun w hw => hw.cell_blkL 0 rfl rfl | exact fun w hw => hw.cell_blkL 1 rfl rfl | exact fun w hw => hw.cell_blkL 2 rfl rfl | exact fun w hw => hw.cell_blkL 3 rfl rfl | exact fun w hw => hw.cell_blkL 4 rfl rfl | exact fun w hw => hw.cell_blkL 5 rfl rfl | exact fun w hw => hw.cell_old (by assumption) (by simp) | exact fun w hw => hw.cell_range (by assumption) rfl (by simp))) ?_ | refine l_op (o_loadN rfl rfl (by decide) rfl rfl (by first | exact fun w hw => hw.range_blk 0 rfl | exact fun w hw => hw.range_blk 1 rfl | exact fun w hw => hw.range_blk 2 rfl | exact fun w hw => hw.range_blk 3 rfl | exact fun w hw => hw.range_blk 4 rfl | exact fun w hw => hw.range_blk 5 rfl | exact fun w hw => hw.range_old (by assumption) (by simp)) (by first | rfl | exact setC_len _)) ?_ | refine l_op (o_skip rfl (by decide) rfl) ?_ | refine l_op (o_skip0 rfl rfl) ?_
      first | refine l_op (o_call (f := 23) rfl rfl (by decide) rfl rfl (fun w hw => sameFormat_calls (hy.f w (Wd.at_ (L := at1) (O := []) hw.tl.tl.tl.tl)) (HF.out.on hw.k.below) HS.out)) ?_ | refine l_op (o_skip rfl (by decide) rfl) ?_ | refine l_op (o_skip0 rfl rfl) ?_
      first | refine l_op (o_not rfl rfl (by decide) rfl rfl rfl) ?_ | refine l_op (o_skip rfl (by decide) rfl) ?_ | refine l_op (o_skip0 rfl rfl) ?_
      first | refine l_op (o_pick_yes rfl rfl (by decide) rfl rfl rfl) ?_ | refine l_op (o_pick_no rfl rfl (by decide) rfl rfl rfl) ?_
      refine l_nil ?_
      repeat (first | ((with_reducible show sE _ _ _ _ _ _ _ _); first | refine s_seq ?_ | refine s_region ?_ | refine s_draw (by kernel_rfl) (by kernel_rfl) ?_ | refine s_skip ?_ | refine s_cond_true rfl ?_ | refine s_cond_false rfl ?_ | refine s_exit ?_ | refine s_ret ?_ | refine s_block ?_ | refine s_label ?_) | ((with_reducible show xE _ _ _ _ _ _ _); first | refine x_nextV ?_ | refine x_block_out ?_ | refine x_block_exit (by decide) ?_ | refine x_then_exit ?_ | refine x_then_ret ?_ | refine x_block_ret ?_ | refine x_block_normal ?_) | fail)
      exact x_meet () [] (by decide) trivial (.cons rfl rfl .nil) rfl
    · skip
      repeat (first | ((with_reducible show sE _ _ _ _ _ _ _ _); first | refine s_seq ?_ | refine s_region ?_ | refine s_draw (by kernel_rfl) (by kernel_rfl) ?_ | refine s_skip ?_ | refine s_cond_true rfl ?_ | refine s_cond_false rfl ?_ | refine s_exit ?_ | refine s_ret ?_ | refine s_block ?_ | refine s_label ?_) | ((with_reducible show xE _ _ _ _ _ _ _); first | refine x_nextV ?_ | refine x_block_out ?_ | refine x_block_exit (by decide) ?_ | refine x_then_exit ?_ | refine x_then_ret ?_ | refine x_block_ret ?_ | refine x_block_normal ?_) | fail)
      refine l_op (o_fieldAddr rfl rfl (by decide) rfl rfl) ?_
      first | refine l_op (o_load rfl rfl (by decide) rfl rfl (by first | exact fun w hw => hw.cell_blkL 0 rfl rfl | exact fun w hw => hw.cell_blkL 1 rfl rfl | exact fun w hw => hw.cell_blkL 2 rfl rfl | exact fun w hw => hw.cell_blkL 3 rfl rfl | exact fun w hw => hw.cell_blkL 4 rfl rfl | exact fun w hw => hw.cell_blkL 5 rfl rfl | exact fun w hw => hw.cell_old (by assumption) (by simp) | exact fun w hw => hw.cell_range (by assumption) rfl (by simp))) ?_ | refine l_op (o_loadN rfl rfl (by decide) rfl rfl (by first | exact fun w hw => hw.range_blk 0 rfl | exact fun w hw => hw.range_blk 1 rfl | exact fun w hw => hw.range_blk 2 rfl | exact fun w hw => hw.range_blk 3 rfl | exact fun w hw => hw.range_blk 4 rfl | exact fun w hw => hw.range_blk 5 rfl | exact fun w hw => hw.range_old (by assumption) (by simp)) (by first | rfl | exact setC_len _)) ?_
      refine l_op (o_eql rfl rfl (by decide) rfl rfl rfl (by first | assumption | decide | exact beq_iff_eq.2 (by omega) | exact beq_eq_false_iff_ne.2 (by omega) | rfl)) ?_
      refine l_nil ?_
      repeat (first | ((with_reducible show sE _ _ _ _ _ _ _ _); first | refine s_seq ?_ | refine s_region ?_ | refine s_draw (by kernel_rfl) (by kernel_rfl) ?_ | refine s_skip ?_ | refine s_cond_true rfl ?_ | refine s_cond_false rfl ?_ | refine s_exit ?_ | refine s_ret ?_ | refine s_block ?_ | refine s_label ?_) | ((with_reducible show xE _ _ _ _ _ _ _); first | refine x_nextV ?_ | refine x_block_out ?_ | refine x_block_exit (by decide) ?_ | refine x_then_exit ?_ | refine x_then_ret ?_ | refine x_block_ret ?_ | refine x_block_normal ?_) | fail)
      exact x_meet () [] (by decide) trivial (.cons rfl rfl .nil) rfl
  · obtain ⟨⟨F1, e1⟩, hps⟩ : ∃ y, parseF s = y := ⟨_, rfl⟩
    rcases parse_e hps with rfl | ⟨he, rfl⟩
    · have htp := text_parse (s := s) (F := F1) hps (.inr trivial)
      have hpr : printF F1 = s := by unfold printF; rw [if_pos htp.2]; exact htp.1
      have hss : ((⟨s.toArray⟩ : ByteArray).data.toList == (⟨s.toArray⟩ : ByteArray).data.toList) = true := beq_iff_eq.2 rfl
      repeat (first | ((with_reducible show sE _ _ _ _ _ _ _ _); first | refine s_seq ?_ | refine s_region ?_ | refine s_draw (by kernel_rfl) (by kernel_rfl) ?_ | refine s_skip ?_ | refine s_cond_true rfl ?_ | refine s_cond_false rfl ?_ | refine s_exit ?_ | refine s_ret ?_ | refine s_block ?_ | refine s_label ?_) | ((with_reducible show xE _ _ _ _ _ _ _); first | refine x_nextV ?_ | refine x_block_out ?_ | refine x_block_exit (by decide) ?_ | refine x_then_exit ?_ | refine x_then_ret ?_ | refine x_block_ret ?_ | refine x_block_normal ?_) | fail)
      refine l_op (o_move rfl rfl (by decide) rfl rfl) ?_
      (refine l_loud (u_call _ _ _ (f := 21) rfl rfl rfl (fun w hw => parse_wd (s0 := s) HG.out hl hw)) rfl (by decide) (fun y hy => ?_); obtain ⟨F2, A1, c1, e2, at1⟩ := y; obtain rfl : F2 = F1 := (pr_eq hy hps).1; obtain rfl : e2 = (0, 0) := (pr_eq hy hps).2)
      refine l_op (o_move rfl rfl (by decide) rfl rfl) ?_
      refine l_op (o_extract rfl rfl (by decide) rfl rfl rfl) ?_
      refine l_op (o_extract rfl rfl (by decide) rfl rfl rfl) ?_
      refine l_loud (u_alloc rfl rfl) rfl (by decide) (fun b9 _ => ?_)
      refine l_loud (u_alloc rfl rfl) rfl (by decide) (fun b10 _ => ?_)
      first | (refine l_loud0 (u_storeN 0 rfl rfl rfl rfl rfl rfl rfl (by simp)) rfl (fun _ _ => ?_); rw [putL_full (by rfl)]) | (refine l_loud0 (u_storeN 1 rfl rfl rfl rfl rfl rfl rfl (by simp)) rfl (fun _ _ => ?_); rw [putL_full (by rfl)]) | (refine l_loud0 (u_storeN 2 rfl rfl rfl rfl rfl rfl rfl (by simp)) rfl (fun _ _ => ?_); rw [putL_full (by rfl)]) | (refine l_loud0 (u_storeN 3 rfl rfl rfl rfl rfl rfl rfl (by simp)) rfl (fun _ _ => ?_); rw [putL_full (by rfl)]) | (refine l_loud0 (u_storeN 4 rfl rfl rfl rfl rfl rfl rfl (by simp)) rfl (fun _ _ => ?_); rw [putL_full (by rfl)]) | refine l_loud0 (u_store 0 rfl rfl rfl rfl rfl rfl rfl) rfl (fun _ _ => ?_) | refine l_loud0 (u_store 1 rfl rfl rfl rfl rfl rfl rfl) rfl (fun _ _ => ?_) | refine l_loud0 (u_store 2 rfl rfl rfl rfl rfl rfl rfl) rfl (fun _ _ => ?_) | refine l_loud0 (u_store 3 rfl rfl rfl rfl rfl rfl rfl) rfl (fun _ _ => ?_) | refine l_loud0 (u_store 4 rfl rfl rfl rfl rfl rfl rfl) rfl (fun _ _ => ?_)
      first | (refine l_loud0 (u_storeN 0 rfl rfl rfl rfl rfl rfl rfl (by simp)) rfl (fun _ _ => ?_); rw [putL_full (by rfl)]) | (refine l_loud0 (u_storeN 1 rfl rfl rfl rfl rfl rfl rfl (by simp)) rfl (fun _ _ => ?_); rw [putL_full (by rfl)]) | (refine l_loud0 (u_storeN 2 rfl rfl rfl rfl rfl rfl rfl (by simp)) rfl (fun _ _ => ?_); rw [putL_full (by rfl)]) | (refine l_loud0 (u_storeN 3 rfl rfl rfl rfl rfl rfl rfl (by simp)) rfl (fun _ _ => ?_); rw [putL_full (by rfl)]) | (refine l_loud0 (u_storeN 4 rfl rfl rfl rfl rfl rfl rfl (by simp)) rfl (fun _ _ => ?_); rw [putL_full (by rfl)]) | refine l_loud0 (u_store 0 rfl rfl rfl rfl rfl rfl rfl) rfl (fun _ _ => ?_) | refine l_loud0 (u_store 1 rfl rfl rfl rfl rfl rfl rfl) rfl (fun _ _ => ?_) | refine l_loud0 (u_store 2 rfl rfl rfl rfl rfl rfl rfl) rfl (fun _ _ => ?_) | refine l_loud0 (u_store 3 rfl rfl rfl rfl rfl rfl rfl) rfl (fun _ _ => ?_) | refine l_loud0 (u_store 4 rfl rfl rfl rfl rfl rfl rfl) rfl (fun _ _ => ?_)
      refine l_nil ?_
      repeat (first | ((with_reducible show sE _ _ _ _ _ _ _ _); first | refine s_seq ?_ | refine s_region ?_ | refine s_draw (by kernel_rfl) (by kernel_rfl) ?_ | refine s_skip ?_ | refine s_cond_true rfl ?_ | refine s_cond_false rfl ?_ | refine s_exit ?_ | refine s_ret ?_ | refine s_block ?_ | refine s_label ?_) | ((with_reducible show xE _ _ _ _ _ _ _); first | refine x_nextV ?_ | refine x_block_out ?_ | refine x_block_exit (by decide) ?_ | refine x_then_exit ?_ | refine x_then_ret ?_ | refine x_block_ret ?_ | refine x_block_normal ?_) | fail)
      refine l_op (o_fieldAddr rfl rfl (by decide) rfl rfl) ?_
      first | refine l_op (o_load rfl rfl (by decide) rfl rfl (by first | exact fun w hw => hw.cell_blkL 0 rfl rfl | exact fun w hw => hw.cell_blkL 1 rfl rfl | exact fun w hw => hw.cell_blkL 2 rfl rfl | exact fun w hw => hw.cell_blkL 3 rfl rfl | exact fun w hw => hw.cell_blkL 4 rfl rfl | exact fun w hw => hw.cell_blkL 5 rfl rfl | exact fun w hw => hw.cell_old (by assumption) (by simp) | exact fun w hw => hw.cell_range (by assumption) rfl (by simp))) ?_ | refine l_op (o_loadN rfl rfl (by decide) rfl rfl (by first | exact fun w hw => hw.range_blk 0 rfl | exact fun w hw => hw.range_blk 1 rfl | exact fun w hw => hw.range_blk 2 rfl | exact fun w hw => hw.range_blk 3 rfl | exact fun w hw => hw.range_blk 4 rfl | exact fun w hw => hw.range_blk 5 rfl | exact fun w hw => hw.range_old (by assumption) (by simp)) (by first | rfl | exact setC_len _)) ?_
      refine l_op (o_neq rfl rfl (by decide) rfl rfl rfl (by first | assumption | decide | exact bne_iff_ne.2 (by omega) | exact bne_eq_false_iff_eq.2 (by omega) | rfl)) ?_
      refine l_nil ?_
      repeat (first | ((with_reducible show sE _ _ _ _ _ _ _ _); first | refine s_seq ?_ | refine s_region ?_ | refine s_draw (by kernel_rfl) (by kernel_rfl) ?_ | refine s_skip ?_ | refine s_cond_true rfl ?_ | refine s_cond_false rfl ?_ | refine s_exit ?_ | refine s_ret ?_ | refine s_block ?_ | refine s_label ?_) | ((with_reducible show xE _ _ _ _ _ _ _); first | refine x_nextV ?_ | refine x_block_out ?_ | refine x_block_exit (by decide) ?_ | refine x_then_exit ?_ | refine x_then_ret ?_ | refine x_block_ret ?_ | refine x_block_normal ?_) | fail)
      first | refine l_op (o_load rfl rfl (by decide) rfl rfl (by first | exact fun w hw => hw.cell_blkL 0 rfl rfl | exact fun w hw => hw.cell_blkL 1 rfl rfl | exact fun w hw => hw.cell_blkL 2 rfl rfl | exact fun w hw => hw.cell_blkL 3 rfl rfl | exact fun w hw => hw.cell_blkL 4 rfl rfl | exact fun w hw => hw.cell_blkL 5 rfl rfl | exact fun w hw => hw.cell_old (by assumption) (by simp) | exact fun w hw => hw.cell_range (by assumption) rfl (by simp))) ?_ | refine l_op (o_loadN rfl rfl (by decide) rfl rfl (by first | exact fun w hw => hw.range_blk 0 rfl | exact fun w hw => hw.range_blk 1 rfl | exact fun w hw => hw.range_blk 2 rfl | exact fun w hw => hw.range_blk 3 rfl | exact fun w hw => hw.range_blk 4 rfl | exact fun w hw => hw.range_blk 5 rfl | exact fun w hw => hw.range_old (by assumption) (by simp)) (by first | rfl | exact setC_len _)) ?_
      refine l_op (o_call (f := 19) rfl rfl (by decide) rfl rfl (fun w hw => (print_calls (hy.f w (Wd.at_ (L := at1) (O := []) hw.tl.tl)) hy.sm hy.c (HG.out.on hw.k.below)).mono (fun _ _ h => by rw [hpr, htp.2] at h; exact h))) ?_
      refine l_op (o_move rfl rfl (by decide) rfl rfl) ?_
      refine l_op (o_extract rfl rfl (by decide) rfl rfl rfl) ?_
      refine l_op (o_extract rfl rfl (by decide) rfl rfl rfl) ?_
      refine l_loud (u_alloc rfl rfl) rfl (by decide) (fun b12 _ => ?_)
      refine l_op (o_assign rfl rfl (by decide) rfl rfl) ?_
      first | (refine l_loud0 (u_storeN 0 rfl rfl rfl rfl rfl rfl rfl (by simp)) rfl (fun _ _ => ?_); rw [putL_full (by rfl)]) | (refine l_loud0 (u_storeN 1 rfl rfl rfl rfl rfl rfl rfl (by simp)) rfl (fun _ _ => ?_); rw [putL_full (by rfl)]) | (refine l_loud0 (u_storeN 2 rfl rfl rfl rfl rfl rfl rfl (by simp)) rfl (fun _ _ => ?_); rw [putL_full (by rfl)]) | (refine l_loud0 (u_storeN 3 rfl rfl rfl rfl rfl rfl rfl (by simp)) rfl (fun _ _ => ?_); rw [putL_full (by rfl)]) | (refine l_loud0 (u_storeN 4 rfl rfl rfl rfl rfl rfl rfl (by simp)) rfl (fun _ _ => ?_); rw [putL_full (by rfl)]) | refine l_loud0 (u_store 0 rfl rfl rfl rfl rfl rfl rfl) rfl (fun _ _ => ?_) | refine l_loud0 (u_store 1 rfl rfl rfl rfl rfl rfl rfl) rfl (fun _ _ => ?_) | refine l_loud0 (u_store 2 rfl rfl rfl rfl rfl rfl rfl) rfl (fun _ _ => ?_) | refine l_loud0 (u_store 3 rfl rfl rfl rfl rfl rfl rfl) rfl (fun _ _ => ?_) | refine l_loud0 (u_store 4 rfl rfl rfl rfl rfl rfl rfl) rfl (fun _ _ => ?_)
      refine l_nil ?_
      repeat (first | ((with_reducible show sE _ _ _ _ _ _ _ _); first | refine s_seq ?_ | refine s_region ?_ | refine s_draw (by kernel_rfl) (by kernel_rfl) ?_ | refine s_skip ?_ | refine s_cond_true rfl ?_ | refine s_cond_false rfl ?_ | refine s_exit ?_ | refine s_ret ?_ | refine s_block ?_ | refine s_label ?_) | ((with_reducible show xE _ _ _ _ _ _ _); first | refine x_nextV ?_ | refine x_block_out ?_ | refine x_block_exit (by decide) ?_ | refine x_then_exit ?_ | refine x_then_ret ?_ | refine x_block_ret ?_ | refine x_block_normal ?_) | fail)
      refine l_op (o_fieldAddr rfl rfl (by decide) rfl rfl) ?_
      first | refine l_op (o_load rfl rfl (by decide) rfl rfl (by first | exact fun w hw => hw.cell_blkL 0 rfl rfl | exact fun w hw => hw.cell_blkL 1 rfl rfl | exact fun w hw => hw.cell_blkL 2 rfl rfl | exact fun w hw => hw.cell_blkL 3 rfl rfl | exact fun w hw => hw.cell_blkL 4 rfl rfl | exact fun w hw => hw.cell_blkL 5 rfl rfl | exact fun w hw => hw.cell_old (by assumption) (by simp) | exact fun w hw => hw.cell_range (by assumption) rfl (by simp))) ?_ | refine l_op (o_loadN rfl rfl (by decide) rfl rfl (by first | exact fun w hw => hw.range_blk 0 rfl | exact fun w hw => hw.range_blk 1 rfl | exact fun w hw => hw.range_blk 2 rfl | exact fun w hw => hw.range_blk 3 rfl | exact fun w hw => hw.range_blk 4 rfl | exact fun w hw => hw.range_blk 5 rfl | exact fun w hw => hw.range_old (by assumption) (by simp)) (by first | rfl | exact setC_len _)) ?_
      refine l_op (o_eql rfl rfl (by decide) rfl rfl rfl (by first | assumption | decide | exact beq_iff_eq.2 (by omega) | exact beq_eq_false_iff_ne.2 (by omega) | rfl)) ?_
      refine l_op (o_move rfl rfl (by decide) rfl rfl) ?_
      first | refine l_op (o_move rfl rfl (by decide) rfl rfl) ?_ | refine l_op (o_skip rfl (by decide) rfl) ?_ | refine l_op (o_skip0 rfl rfl) ?_
      first | refine l_op (o_move rfl rfl (by decide) rfl rfl) ?_ | refine l_op (o_skip rfl (by decide) rfl) ?_ | refine l_op (o_skip0 rfl rfl) ?_
      first | refine l_op (o_seql rfl rfl (by decide) rfl rfl rfl (by first | assumption | rfl)) ?_ | refine l_op (o_skip rfl (by decide) rfl) ?_ | refine l_op (o_skip0 rfl rfl) ?_
      first | refine l_op (o_pick_yes rfl rfl (by decide) rfl rfl rfl) ?_ | refine l_op (o_pick_no rfl rfl (by decide) rfl rfl rfl) ?_
      refine l_op (o_assign rfl rfl (by decide) rfl rfl) ?_
      refine l_nil ?_
      repeat (first | ((with_reducible show sE _ _ _ _ _ _ _ _); first | refine s_seq ?_ | refine s_region ?_ | refine s_draw (by kernel_rfl) (by kernel_rfl) ?_ | refine s_skip ?_ | refine s_cond_true rfl ?_ | refine s_cond_false rfl ?_ | refine s_exit ?_ | refine s_ret ?_ | refine s_block ?_ | refine s_label ?_) | ((with_reducible show xE _ _ _ _ _ _ _); first | refine x_nextV ?_ | refine x_block_out ?_ | refine x_block_exit (by decide) ?_ | refine x_then_exit ?_ | refine x_then_ret ?_ | refine x_block_ret ?_ | refine x_block_normal ?_) | fail)
      exact x_body1 (by first | exact .inl rfl | exact .inr rfl) rfl (.tmp rfl) (fun w hw => bool_end rfl hw)
    · obtain ⟨ea, eb⟩ := e1
      have he' : ea ≠ 0 := he
      repeat (first | ((with_reducible show sE _ _ _ _ _ _ _ _); first | refine s_seq ?_ | refine s_region ?_ | refine s_draw (by kernel_rfl) (by kernel_rfl) ?_ | refine s_skip ?_ | refine s_cond_true rfl ?_ | refine s_cond_false rfl ?_ | refine s_exit ?_ | refine s_ret ?_ | refine s_block ?_ | refine s_label ?_) | ((with_reducible show xE _ _ _ _ _ _ _); first | refine x_nextV ?_ | refine x_block_out ?_ | refine x_block_exit (by decide) ?_ | refine x_then_exit ?_ | refine x_then_ret ?_ | refine x_block_ret ?_ | refine x_block_normal ?_) | fail)
      refine l_op (o_move rfl rfl (by decide) rfl rfl) ?_
      (refine l_loud (u_call _ _ _ (f := 21) rfl rfl rfl (fun w hw => parse_wd (s0 := s) HG.out hl hw)) rfl (by decide) (fun y hy => ?_); obtain ⟨F2, A1, c1, e2, at1⟩ := y; obtain rfl : F2 = [] := (pr_eq hy hps).1; obtain rfl : e2 = (ea, eb) := (pr_eq hy hps).2)
      refine l_op (o_move rfl rfl (by decide) rfl rfl) ?_
      refine l_op (o_extract rfl rfl (by decide) rfl rfl rfl) ?_
      refine l_op (o_extract rfl rfl (by decide) rfl rfl rfl) ?_
      refine l_loud (u_alloc rfl rfl) rfl (by decide) (fun b9 _ => ?_)
      refine l_loud (u_alloc rfl rfl) rfl (by decide) (fun b10 _ => ?_)
      first | (refine l_loud0 (u_storeN 0 rfl rfl rfl rfl rfl rfl rfl (by simp)) rfl (fun _ _ => ?_); rw [putL_full (by rfl)]) | (refine l_loud0 (u_storeN 1 rfl rfl rfl rfl rfl rfl rfl (by simp)) rfl (fun _ _ => ?_); rw [putL_full (by rfl)]) | (refine l_loud0 (u_storeN 2 rfl rfl rfl rfl rfl rfl rfl (by simp)) rfl (fun _ _ => ?_); rw [putL_full (by rfl)]) | (refine l_loud0 (u_storeN 3 rfl rfl rfl rfl rfl rfl rfl (by simp)) rfl (fun _ _ => ?_); rw [putL_full (by rfl)]) | (refine l_loud0 (u_storeN 4 rfl rfl rfl rfl rfl rfl rfl (by simp)) rfl (fun _ _ => ?_); rw [putL_full (by rfl)]) | refine l_loud0 (u_store 0 rfl rfl rfl rfl rfl rfl rfl) rfl (fun _ _ => ?_) | refine l_loud0 (u_store 1 rfl rfl rfl rfl rfl rfl rfl) rfl (fun _ _ => ?_) | refine l_loud0 (u_store 2 rfl rfl rfl rfl rfl rfl rfl) rfl (fun _ _ => ?_) | refine l_loud0 (u_store 3 rfl rfl rfl rfl rfl rfl rfl) rfl (fun _ _ => ?_) | refine l_loud0 (u_store 4 rfl rfl rfl rfl rfl rfl rfl) rfl (fun _ _ => ?_)
      first | (refine l_loud0 (u_storeN 0 rfl rfl rfl rfl rfl rfl rfl (by simp)) rfl (fun _ _ => ?_); rw [putL_full (by rfl)]) | (refine l_loud0 (u_storeN 1 rfl rfl rfl rfl rfl rfl rfl (by simp)) rfl (fun _ _ => ?_); rw [putL_full (by rfl)]) | (refine l_loud0 (u_storeN 2 rfl rfl rfl rfl rfl rfl rfl (by simp)) rfl (fun _ _ => ?_); rw [putL_full (by rfl)]) | (refine l_loud0 (u_storeN 3 rfl rfl rfl rfl rfl rfl rfl (by simp)) rfl (fun _ _ => ?_); rw [putL_full (by rfl)]) | (refine l_loud0 (u_storeN 4 rfl rfl rfl rfl rfl rfl rfl (by simp)) rfl (fun _ _ => ?_); rw [putL_full (by rfl)]) | refine l_loud0 (u_store 0 rfl rfl rfl rfl rfl rfl rfl) rfl (fun _ _ => ?_) | refine l_loud0 (u_store 1 rfl rfl rfl rfl rfl rfl rfl) rfl (fun _ _ => ?_) | refine l_loud0 (u_store 2 rfl rfl rfl rfl rfl rfl rfl) rfl (fun _ _ => ?_) | refine l_loud0 (u_store 3 rfl rfl rfl rfl rfl rfl rfl) rfl (fun _ _ => ?_) | refine l_loud0 (u_store 4 rfl rfl rfl rfl rfl rfl rfl) rfl (fun _ _ => ?_)
      refine l_nil ?_
      repeat (first | ((with_reducible show sE _ _ _ _ _ _ _ _); first | refine s_seq ?_ | refine s_region ?_ | refine s_draw (by kernel_rfl) (by kernel_rfl) ?_ | refine s_skip ?_ | refine s_cond_true rfl ?_ | refine s_cond_false rfl ?_ | refine s_exit ?_ | refine s_ret ?_ | refine s_block ?_ | refine s_label ?_) | ((with_reducible show xE _ _ _ _ _ _ _); first | refine x_nextV ?_ | refine x_block_out ?_ | refine x_block_exit (by decide) ?_ | refine x_then_exit ?_ | refine x_then_ret ?_ | refine x_block_ret ?_ | refine x_block_normal ?_) | fail)
      refine l_op (o_fieldAddr rfl rfl (by decide) rfl rfl) ?_
      first | refine l_op (o_load rfl rfl (by decide) rfl rfl (by first | exact fun w hw => hw.cell_blkL 0 rfl rfl | exact fun w hw => hw.cell_blkL 1 rfl rfl | exact fun w hw => hw.cell_blkL 2 rfl rfl | exact fun w hw => hw.cell_blkL 3 rfl rfl | exact fun w hw => hw.cell_blkL 4 rfl rfl | exact fun w hw => hw.cell_blkL 5 rfl rfl | exact fun w hw => hw.cell_old (by assumption) (by simp) | exact fun w hw => hw.cell_range (by assumption) rfl (by simp))) ?_ | refine l_op (o_loadN rfl rfl (by decide) rfl rfl (by first | exact fun w hw => hw.range_blk 0 rfl | exact fun w hw => hw.range_blk 1 rfl | exact fun w hw => hw.range_blk 2 rfl | exact fun w hw => hw.range_blk 3 rfl | exact fun w hw => hw.range_blk 4 rfl | exact fun w hw => hw.range_blk 5 rfl | exact fun w hw => hw.range_old (by assumption) (by simp)) (by first | rfl | exact setC_len _)) ?_
      refine l_op (o_neq rfl rfl (by decide) rfl rfl rfl (by first | assumption | decide | exact bne_iff_ne.2 (by omega) | exact bne_eq_false_iff_eq.2 (by omega) | rfl)) ?_
      refine l_nil ?_
      repeat (first | ((with_reducible show sE _ _ _ _ _ _ _ _); first | refine s_seq ?_ | refine s_region ?_ | refine s_draw (by kernel_rfl) (by kernel_rfl) ?_ | refine s_skip ?_ | refine s_cond_true rfl ?_ | refine s_cond_false rfl ?_ | refine s_exit ?_ | refine s_ret ?_ | refine s_block ?_ | refine s_label ?_) | ((with_reducible show xE _ _ _ _ _ _ _); first | refine x_nextV ?_ | refine x_block_out ?_ | refine x_block_exit (by decide) ?_ | refine x_then_exit ?_ | refine x_then_ret ?_ | refine x_block_ret ?_ | refine x_block_normal ?_) | fail)
      refine l_op (o_fieldAddr rfl rfl (by decide) rfl rfl) ?_
      first | refine l_op (o_load rfl rfl (by decide) rfl rfl (by first | exact fun w hw => hw.cell_blkL 0 rfl rfl | exact fun w hw => hw.cell_blkL 1 rfl rfl | exact fun w hw => hw.cell_blkL 2 rfl rfl | exact fun w hw => hw.cell_blkL 3 rfl rfl | exact fun w hw => hw.cell_blkL 4 rfl rfl | exact fun w hw => hw.cell_blkL 5 rfl rfl | exact fun w hw => hw.cell_old (by assumption) (by simp) | exact fun w hw => hw.cell_range (by assumption) rfl (by simp))) ?_ | refine l_op (o_loadN rfl rfl (by decide) rfl rfl (by first | exact fun w hw => hw.range_blk 0 rfl | exact fun w hw => hw.range_blk 1 rfl | exact fun w hw => hw.range_blk 2 rfl | exact fun w hw => hw.range_blk 3 rfl | exact fun w hw => hw.range_blk 4 rfl | exact fun w hw => hw.range_blk 5 rfl | exact fun w hw => hw.range_old (by assumption) (by simp)) (by first | rfl | exact setC_len _)) ?_
      refine l_op (o_len rfl rfl (by decide) rfl rfl) ?_
      refine l_op (o_eql rfl rfl (by decide) rfl rfl rfl (by first | assumption | decide | exact beq_iff_eq.2 (by omega) | exact beq_eq_false_iff_ne.2 (by omega) | rfl)) ?_
      refine l_op (o_assign rfl rfl (by decide) rfl rfl) ?_
      refine l_nil ?_
      repeat (first | ((with_reducible show sE _ _ _ _ _ _ _ _); first | refine s_seq ?_ | refine s_region ?_ | refine s_draw (by kernel_rfl) (by kernel_rfl) ?_ | refine s_skip ?_ | refine s_cond_true rfl ?_ | refine s_cond_false rfl ?_ | refine s_exit ?_ | refine s_ret ?_ | refine s_block ?_ | refine s_label ?_) | ((with_reducible show xE _ _ _ _ _ _ _); first | refine x_nextV ?_ | refine x_block_out ?_ | refine x_block_exit (by decide) ?_ | refine x_then_exit ?_ | refine x_then_ret ?_ | refine x_block_ret ?_ | refine x_block_normal ?_) | fail)
      exact x_body1 (by first | exact .inl rfl | exact .inr rfl) rfl (.tmp rfl) (fun w hw => bool_end rfl hw)
end
end Go.Proofs.YtgdiadednlajgaaGreatDoor
