import Derived.Test.YtgdiadednlajgaaGreatDoorP15
namespace Go.Proofs.YtgdiadednlajgaaGreatDoor
open Go.RowKit
set_option linter.unusedVariables false
set_option linter.unusedSimpArgs false
set_option maxRecDepth 100000 in
set_option maxHeartbeats 8000000 in
theorem checkRule_1 {r : Rl} {early : List Rl} {A Ab An Ap : Option Addr} {m c n cb cn cp : Nat} {W : World} (he : FmIn W W.heap.size A m early) (hl : RuL W r Ab cb An cn Ap cp) (hs : RSm r) (hm : m ≤ 1048576) (hn : n ≤ 1048576) (hk1 : (r.kind == 1) = true) (hk7 : (r.kind == 7) = false) (hk8 : (r.kind == 8) = false) :
    Calls Tryz.prog 58 #[.agg (ruC r (.slice Ab r.bs.length cb) (.slice An r.names.length cn) (.slice Ap r.parts.length cp)).toArray, .slice A m c, .int .i64 (n : Int)] W (IntEnd W (ruleC r early n)) := by
  have HE := Lib.hid he
  have HL := Lib.hid hl
  have HS := Lib.hid hs
  have hnm : (⟨r.name.toArray⟩ : ByteArray).size ≤ 9223372036854775807 := by
    have := hs.name
    show r.name.toArray.size ≤ _
    rw [List.size_toArray]
    omega
  obtain ⟨C, hC⟩ : ∃ C, ruleC r early n = C := ⟨_, rfl⟩
  have HC := Lib.hid hC
  rw [hC]
  clear hC he hl hs
  go_enter Tryz.func58, Tryz.ntmps58
  refine s_go (M := []) (W := W) (N := 84) (E := [(0, .agg (ruC r (.slice Ab r.bs.length cb) (.slice An r.names.length cn) (.slice Ap r.parts.length cp)).toArray), (1, .slice A m c), (2, .int .i64 (n : Int))]) (O := []) ?_ (Ag.cons (Ag.cons (Ag.cons (Ag.nil rfl rfl) rfl) rfl) rfl) (Wd.start [] W)
  repeat (first | refine l_op (o_assign rfl rfl (by decide) rfl rfl) ?_ | refine l_op (o_fieldAddr rfl rfl (by decide) rfl rfl) ?_ | refine l_op (o_load rfl rfl (by decide) rfl rfl (by first | exact fun w hw => hw.cell_blkL 0 rfl rfl | exact fun w hw => hw.cell_blkL 1 rfl rfl | exact fun w hw => hw.cell_blkL 2 rfl rfl | exact fun w hw => hw.cell_blkL 3 rfl rfl | exact fun w hw => hw.cell_blkL 4 rfl rfl | exact fun w hw => hw.cell_blkL 5 rfl rfl | exact fun w hw => hw.cell_old (by assumption) (by simp) | exact fun w hw => hw.cell_range (by assumption) rfl (by simp))) ?_ | refine l_loud (u_box rfl rfl rfl rfl) rfl (by decide) (fun br _ => ?_) | refine l_op (o_call (f := 77) rfl rfl (by decide) rfl rfl (fun w hw => name_calls _ w hnm)) ?_ | refine l_nil ?_ | refine s_seq ?_ | refine s_region ?_ | refine s_block ?_ | refine l_op (o_not rfl rfl (by decide) rfl rfl rfl) ?_)
  refine s_cond rfl (fun h1 => ?_) (fun h1 => ?_)
  · skip
    repeat (first | refine l_op (o_assign rfl rfl (by decide) rfl rfl) ?_ | refine l_nil ?_ | refine s_seq ?_ | refine s_region ?_ | refine s_ret ?_ | refine x_then_ret ?_ | refine x_block_ret ?_)
    refine x_body1 (.inr rfl) rfl (.tmp rfl) (fun w hw => int_end ?_ hw)
    rw [← HC.out]
    simp [ruleC, hk1, hk7, hk8, h1]
  repeat (first | refine l_op (o_move rfl rfl (by decide) rfl rfl) ?_ | refine l_op (o_assign rfl rfl (by decide) rfl rfl) ?_ | refine l_op (o_fieldAddr rfl rfl (by decide) rfl rfl) ?_ | refine l_op (o_load rfl rfl (by decide) rfl rfl (by first | exact fun w hw => hw.cell_blkL 0 rfl rfl | exact fun w hw => hw.cell_blkL 1 rfl rfl | exact fun w hw => hw.cell_blkL 2 rfl rfl | exact fun w hw => hw.cell_blkL 3 rfl rfl | exact fun w hw => hw.cell_blkL 4 rfl rfl | exact fun w hw => hw.cell_blkL 5 rfl rfl | exact fun w hw => hw.cell_old (by assumption) (by simp) | exact fun w hw => hw.cell_range (by assumption) rfl (by simp))) ?_ | refine l_op (o_call (f := 84) rfl rfl (by decide) rfl rfl (fun w hw => (find_rule_calls (HE.out.on hw.k.below) hm).mono (fun _ _ h => h))) ?_ | refine l_nil ?_ | refine s_seq ?_ | refine s_region ?_ | refine l_op (o_geq rfl rfl (by decide) rfl rfl rfl (by first | assumption | exact decide_eq_true (by omega) | exact decide_eq_false (by omega) | rfl)) ?_)
  refine s_cond rfl (fun h2 => ?_) (fun h2 => ?_)
  · skip
    repeat (first | refine l_op (o_assign rfl rfl (by decide) rfl rfl) ?_ | refine l_nil ?_ | refine s_seq ?_ | refine s_region ?_ | refine s_ret ?_ | refine x_then_ret ?_ | refine x_block_ret ?_)
    refine x_body1 (.inr rfl) rfl (.tmp rfl) (fun w hw => int_end ?_ hw)
    rw [← HC.out]
    simp [ruleC, hk1, hk7, hk8, h1, h2]
  repeat (first | refine l_op (o_assign rfl rfl (by decide) rfl rfl) ?_ | refine l_op (o_fieldAddr rfl rfl (by decide) rfl rfl) ?_ | refine l_op (o_load rfl rfl (by decide) rfl rfl (by first | exact fun w hw => hw.cell_blkL 0 rfl rfl | exact fun w hw => hw.cell_blkL 1 rfl rfl | exact fun w hw => hw.cell_blkL 2 rfl rfl | exact fun w hw => hw.cell_blkL 3 rfl rfl | exact fun w hw => hw.cell_blkL 4 rfl rfl | exact fun w hw => hw.cell_blkL 5 rfl rfl | exact fun w hw => hw.cell_old (by assumption) (by simp) | exact fun w hw => hw.cell_range (by assumption) rfl (by simp))) ?_ | refine l_op (o_call (f := 52) rfl rfl (by decide) rfl rfl (fun w hw => Calls.stay (fin_calls _ _ _ w))) ?_ | refine l_nil ?_ | refine s_seq ?_ | refine s_region ?_ | refine l_op (o_not rfl rfl (by decide) rfl rfl rfl) ?_)
  refine s_cond rfl (fun h3 => ?_) (fun h3 => ?_)
  · skip
    repeat (first | refine l_op (o_assign rfl rfl (by decide) rfl rfl) ?_ | refine l_nil ?_ | refine s_seq ?_ | refine s_region ?_ | refine s_ret ?_ | refine x_then_ret ?_ | refine x_block_ret ?_)
    refine x_body1 (.inr rfl) rfl (.tmp rfl) (fun w hw => int_end ?_ hw)
    rw [← HC.out]
    simp [ruleC, hk1, hk7, hk8, h1, h2, h3]
  repeat (first | refine l_op (o_assign rfl rfl (by decide) rfl rfl) ?_ | refine l_op (o_loadN rfl rfl (by decide) rfl rfl (by first | exact fun w hw => hw.range_blk 0 rfl | exact fun w hw => hw.range_blk 1 rfl | exact fun w hw => hw.range_blk 2 rfl | exact fun w hw => hw.range_blk 3 rfl | exact fun w hw => hw.range_blk 4 rfl | exact fun w hw => hw.range_blk 5 rfl | exact fun w hw => hw.range_old (by assumption) (by simp)) (by first | rfl | exact setC_len _)) ?_ | refine l_op (o_call (f := 90) rfl rfl (by decide) rfl rfl (fun w hw => formed_calls w)) ?_ | refine l_nil ?_ | refine s_seq ?_ | refine s_region ?_ | refine l_op (o_not rfl rfl (by decide) rfl rfl rfl) ?_)
  refine s_cond rfl (fun h4 => ?_) (fun h4 => ?_)
  · skip
    repeat (first | refine l_op (o_assign rfl rfl (by decide) rfl rfl) ?_ | refine l_nil ?_ | refine s_seq ?_ | refine s_region ?_ | refine s_ret ?_ | refine x_then_ret ?_ | refine x_block_ret ?_)
    refine x_body1 (.inr rfl) rfl (.tmp rfl) (fun w hw => int_end ?_ hw)
    rw [← HC.out]
    simp [ruleC, hk1, hk7, hk8, h1, h2, h3, h4]
  repeat (first | refine l_op (o_move rfl rfl (by decide) rfl rfl) ?_ | refine l_op (o_assign rfl rfl (by decide) rfl rfl) ?_ | refine l_op (o_fieldAddr rfl rfl (by decide) rfl rfl) ?_ | refine l_op (o_load rfl rfl (by decide) rfl rfl (by first | exact fun w hw => hw.cell_blkL 0 rfl rfl | exact fun w hw => hw.cell_blkL 1 rfl rfl | exact fun w hw => hw.cell_blkL 2 rfl rfl | exact fun w hw => hw.cell_blkL 3 rfl rfl | exact fun w hw => hw.cell_blkL 4 rfl rfl | exact fun w hw => hw.cell_blkL 5 rfl rfl | exact fun w hw => hw.cell_old (by assumption) (by simp) | exact fun w hw => hw.cell_range (by assumption) rfl (by simp))) ?_ | refine l_nil ?_ | refine s_seq ?_ | refine s_region ?_ | refine l_op (o_len rfl rfl (by decide) rfl rfl) ?_ | refine l_op (o_eql rfl rfl (by decide) rfl rfl rfl (by first | assumption | exact beq_iff_eq.2 (by omega) | exact beq_eq_false_iff_ne.2 (by omega) | rfl)) ?_ | refine l_op (o_pick_yes rfl rfl (by decide) rfl rfl rfl) ?_)
  refine s_cond rfl (fun h5 => ?_) (fun h5 => ?_)
  · skip
    repeat (first | refine l_op (o_assign rfl rfl (by decide) rfl rfl) ?_ | refine l_nil ?_ | refine s_seq ?_ | refine s_region ?_ | refine s_ret ?_ | refine x_then_ret ?_ | refine x_block_ret ?_)
    refine x_body1 (.inr rfl) rfl (.tmp rfl) (fun w hw => int_end ?_ hw)
    rw [← HC.out]
    simp [ruleC, hk1, hk7, hk8, h1, h2, h3, h4, h5]
  repeat (first | refine l_op (o_assign rfl rfl (by decide) rfl rfl) ?_ | refine l_op (o_fieldAddr rfl rfl (by decide) rfl rfl) ?_ | refine l_op (o_load rfl rfl (by decide) rfl rfl (by first | exact fun w hw => hw.cell_blkL 0 rfl rfl | exact fun w hw => hw.cell_blkL 1 rfl rfl | exact fun w hw => hw.cell_blkL 2 rfl rfl | exact fun w hw => hw.cell_blkL 3 rfl rfl | exact fun w hw => hw.cell_blkL 4 rfl rfl | exact fun w hw => hw.cell_blkL 5 rfl rfl | exact fun w hw => hw.cell_old (by assumption) (by simp) | exact fun w hw => hw.cell_range (by assumption) rfl (by simp))) ?_ | refine l_nil ?_ | refine s_seq ?_ | refine s_region ?_ | refine l_op (o_len rfl rfl (by decide) rfl rfl) ?_ | refine l_op (o_gtr rfl rfl (by decide) rfl rfl rfl (by first | assumption | exact decide_eq_true (by omega) | exact decide_eq_false (by omega) | rfl)) ?_)
  refine s_cond rfl (fun h6 => ?_) (fun h6 => ?_)
  · skip
    repeat (first | refine l_op (o_assign rfl rfl (by decide) rfl rfl) ?_ | refine l_nil ?_ | refine s_seq ?_ | refine s_region ?_ | refine s_ret ?_ | refine x_then_ret ?_ | refine x_block_ret ?_)
    refine x_body1 (.inr rfl) rfl (.tmp rfl) (fun w hw => int_end ?_ hw)
    rw [← HC.out]
    simp [ruleC, hk1, hk7, hk8, h1, h2, h3, h4, h5, h6]
  repeat (first | refine l_op (o_move rfl rfl (by decide) rfl rfl) ?_ | refine l_op (o_assign rfl rfl (by decide) rfl rfl) ?_ | refine l_op (o_fieldAddr rfl rfl (by decide) rfl rfl) ?_ | refine l_op (o_load rfl rfl (by decide) rfl rfl (by first | exact fun w hw => hw.cell_blkL 0 rfl rfl | exact fun w hw => hw.cell_blkL 1 rfl rfl | exact fun w hw => hw.cell_blkL 2 rfl rfl | exact fun w hw => hw.cell_blkL 3 rfl rfl | exact fun w hw => hw.cell_blkL 4 rfl rfl | exact fun w hw => hw.cell_blkL 5 rfl rfl | exact fun w hw => hw.cell_old (by assumption) (by simp) | exact fun w hw => hw.cell_range (by assumption) rfl (by simp))) ?_ | refine l_nil ?_ | refine s_seq ?_ | refine s_region ?_ | refine s_cond_false rfl ?_ | refine l_op (o_len rfl rfl (by decide) rfl rfl) ?_ | refine l_op (o_eql rfl rfl (by decide) rfl rfl rfl (by first | assumption | exact beq_iff_eq.2 (by omega) | exact beq_eq_false_iff_ne.2 (by omega) | rfl)) ?_ | refine l_op (o_gtr rfl rfl (by decide) rfl rfl rfl (by first | assumption | exact decide_eq_true (by omega) | exact decide_eq_false (by omega) | rfl)) ?_ | refine l_op (o_pick_no rfl rfl (by decide) rfl rfl rfl) ?_ | refine l_op (o_skip rfl (by decide) rfl) ?_)
  refine s_cond rfl (fun h10 => ?_) (fun h10 => ?_)
  · skip
    repeat (first | refine l_op (o_assign rfl rfl (by decide) rfl rfl) ?_ | refine l_nil ?_ | refine s_seq ?_ | refine s_region ?_ | refine s_ret ?_ | refine x_then_ret ?_ | refine x_block_ret ?_)
    refine x_body1 (.inr rfl) rfl (.tmp rfl) (fun w hw => int_end ?_ hw)
    rw [← HC.out]
    simp [ruleC, hk1, hk7, hk8, h1, h2, h3, h4, h5, h6, h10]
  repeat (first | refine l_op (o_move rfl rfl (by decide) rfl rfl) ?_ | refine l_op (o_assign rfl rfl (by decide) rfl rfl) ?_ | refine l_op (o_loadN rfl rfl (by decide) rfl rfl (by first | exact fun w hw => hw.range_blk 0 rfl | exact fun w hw => hw.range_blk 1 rfl | exact fun w hw => hw.range_blk 2 rfl | exact fun w hw => hw.range_blk 3 rfl | exact fun w hw => hw.range_blk 4 rfl | exact fun w hw => hw.range_blk 5 rfl | exact fun w hw => hw.range_old (by assumption) (by simp)) (by first | rfl | exact setC_len _)) ?_ | refine l_op (o_call (f := 91) rfl rfl (by decide) rfl rfl (fun w hw => ranges_calls (by simpa using h3) hn (HL.out.on hw.k.below).p HS.out.parts)) ?_ | refine l_nil ?_ | refine s_seq ?_ | refine s_region ?_ | refine l_op (o_not rfl rfl (by decide) rfl rfl rfl) ?_)
  refine s_cond rfl (fun h11 => ?_) (fun h11 => ?_)
  · skip
    repeat (first | refine l_op (o_assign rfl rfl (by decide) rfl rfl) ?_ | refine l_nil ?_ | refine s_seq ?_ | refine s_region ?_ | refine s_ret ?_ | refine x_then_ret ?_ | refine x_block_ret ?_)
    refine x_body1 (.inr rfl) rfl (.tmp rfl) (fun w hw => int_end ?_ hw)
    rw [← HC.out]
    simp [ruleC, hk1, hk7, hk8, h1, h2, h3, h4, h5, h6, h10, h11]
  repeat (first | refine l_op (o_assign rfl rfl (by decide) rfl rfl) ?_ | refine l_nil ?_ | refine s_seq ?_ | refine s_region ?_ | refine s_skip ?_ | refine s_ret ?_)
  refine x_body1 (.inr rfl) rfl (.tmp rfl) (fun w hw => int_end ?_ hw)
  rw [← HC.out]
  simp [ruleC, hk1, hk7, hk8, h1, h2, h3, h4, h5, h6, h10, h11]
set_option maxRecDepth 100000 in
set_option maxHeartbeats 8000000 in
theorem checkRule_7 {r : Rl} {early : List Rl} {A Ab An Ap : Option Addr} {m c n cb cn cp : Nat} {W : World} (he : FmIn W W.heap.size A m early) (hl : RuL W r Ab cb An cn Ap cp) (hs : RSm r) (hm : m ≤ 1048576) (hn : n ≤ 1048576) (hk1 : (r.kind == 1) = false) (hk7 : (r.kind == 7) = true) (hk8 : (r.kind == 8) = false) :
    Calls Tryz.prog 58 #[.agg (ruC r (.slice Ab r.bs.length cb) (.slice An r.names.length cn) (.slice Ap r.parts.length cp)).toArray, .slice A m c, .int .i64 (n : Int)] W (IntEnd W (ruleC r early n)) := by
  have HE := Lib.hid he
  have HL := Lib.hid hl
  have HS := Lib.hid hs
  have hnm : (⟨r.name.toArray⟩ : ByteArray).size ≤ 9223372036854775807 := by
    have := hs.name
    show r.name.toArray.size ≤ _
    rw [List.size_toArray]
    omega
  obtain ⟨C, hC⟩ : ∃ C, ruleC r early n = C := ⟨_, rfl⟩
  have HC := Lib.hid hC
  rw [hC]
  clear hC he hl hs
  go_enter Tryz.func58, Tryz.ntmps58
  refine s_go (M := []) (W := W) (N := 84) (E := [(0, .agg (ruC r (.slice Ab r.bs.length cb) (.slice An r.names.length cn) (.slice Ap r.parts.length cp)).toArray), (1, .slice A m c), (2, .int .i64 (n : Int))]) (O := []) ?_ (Ag.cons (Ag.cons (Ag.cons (Ag.nil rfl rfl) rfl) rfl) rfl) (Wd.start [] W)
  repeat (first | refine l_op (o_assign rfl rfl (by decide) rfl rfl) ?_ | refine l_op (o_fieldAddr rfl rfl (by decide) rfl rfl) ?_ | refine l_op (o_load rfl rfl (by decide) rfl rfl (by first | exact fun w hw => hw.cell_blkL 0 rfl rfl | exact fun w hw => hw.cell_blkL 1 rfl rfl | exact fun w hw => hw.cell_blkL 2 rfl rfl | exact fun w hw => hw.cell_blkL 3 rfl rfl | exact fun w hw => hw.cell_blkL 4 rfl rfl | exact fun w hw => hw.cell_blkL 5 rfl rfl | exact fun w hw => hw.cell_old (by assumption) (by simp) | exact fun w hw => hw.cell_range (by assumption) rfl (by simp))) ?_ | refine l_loud (u_box rfl rfl rfl rfl) rfl (by decide) (fun br _ => ?_) | refine l_op (o_call (f := 77) rfl rfl (by decide) rfl rfl (fun w hw => name_calls _ w hnm)) ?_ | refine l_nil ?_ | refine s_seq ?_ | refine s_region ?_ | refine s_block ?_ | refine l_op (o_not rfl rfl (by decide) rfl rfl rfl) ?_)
  refine s_cond rfl (fun h1 => ?_) (fun h1 => ?_)
  · skip
    repeat (first | refine l_op (o_assign rfl rfl (by decide) rfl rfl) ?_ | refine l_nil ?_ | refine s_seq ?_ | refine s_region ?_ | refine s_ret ?_ | refine x_then_ret ?_ | refine x_block_ret ?_)
    refine x_body1 (.inr rfl) rfl (.tmp rfl) (fun w hw => int_end ?_ hw)
    rw [← HC.out]
    simp [ruleC, hk1, hk7, hk8, h1]
  repeat (first | refine l_op (o_move rfl rfl (by decide) rfl rfl) ?_ | refine l_op (o_assign rfl rfl (by decide) rfl rfl) ?_ | refine l_op (o_fieldAddr rfl rfl (by decide) rfl rfl) ?_ | refine l_op (o_load rfl rfl (by decide) rfl rfl (by first | exact fun w hw => hw.cell_blkL 0 rfl rfl | exact fun w hw => hw.cell_blkL 1 rfl rfl | exact fun w hw => hw.cell_blkL 2 rfl rfl | exact fun w hw => hw.cell_blkL 3 rfl rfl | exact fun w hw => hw.cell_blkL 4 rfl rfl | exact fun w hw => hw.cell_blkL 5 rfl rfl | exact fun w hw => hw.cell_old (by assumption) (by simp) | exact fun w hw => hw.cell_range (by assumption) rfl (by simp))) ?_ | refine l_op (o_call (f := 84) rfl rfl (by decide) rfl rfl (fun w hw => (find_rule_calls (HE.out.on hw.k.below) hm).mono (fun _ _ h => h))) ?_ | refine l_nil ?_ | refine s_seq ?_ | refine s_region ?_ | refine l_op (o_geq rfl rfl (by decide) rfl rfl rfl (by first | assumption | exact decide_eq_true (by omega) | exact decide_eq_false (by omega) | rfl)) ?_)
  refine s_cond rfl (fun h2 => ?_) (fun h2 => ?_)
  · skip
    repeat (first | refine l_op (o_assign rfl rfl (by decide) rfl rfl) ?_ | refine l_nil ?_ | refine s_seq ?_ | refine s_region ?_ | refine s_ret ?_ | refine x_then_ret ?_ | refine x_block_ret ?_)
    refine x_body1 (.inr rfl) rfl (.tmp rfl) (fun w hw => int_end ?_ hw)
    rw [← HC.out]
    simp [ruleC, hk1, hk7, hk8, h1, h2]
  repeat (first | refine l_op (o_assign rfl rfl (by decide) rfl rfl) ?_ | refine l_op (o_fieldAddr rfl rfl (by decide) rfl rfl) ?_ | refine l_op (o_load rfl rfl (by decide) rfl rfl (by first | exact fun w hw => hw.cell_blkL 0 rfl rfl | exact fun w hw => hw.cell_blkL 1 rfl rfl | exact fun w hw => hw.cell_blkL 2 rfl rfl | exact fun w hw => hw.cell_blkL 3 rfl rfl | exact fun w hw => hw.cell_blkL 4 rfl rfl | exact fun w hw => hw.cell_blkL 5 rfl rfl | exact fun w hw => hw.cell_old (by assumption) (by simp) | exact fun w hw => hw.cell_range (by assumption) rfl (by simp))) ?_ | refine l_op (o_call (f := 52) rfl rfl (by decide) rfl rfl (fun w hw => Calls.stay (fin_calls _ _ _ w))) ?_ | refine l_nil ?_ | refine s_seq ?_ | refine s_region ?_ | refine l_op (o_not rfl rfl (by decide) rfl rfl rfl) ?_)
  refine s_cond rfl (fun h3 => ?_) (fun h3 => ?_)
  · skip
    repeat (first | refine l_op (o_assign rfl rfl (by decide) rfl rfl) ?_ | refine l_nil ?_ | refine s_seq ?_ | refine s_region ?_ | refine s_ret ?_ | refine x_then_ret ?_ | refine x_block_ret ?_)
    refine x_body1 (.inr rfl) rfl (.tmp rfl) (fun w hw => int_end ?_ hw)
    rw [← HC.out]
    simp [ruleC, hk1, hk7, hk8, h1, h2, h3]
  repeat (first | refine l_op (o_assign rfl rfl (by decide) rfl rfl) ?_ | refine l_op (o_loadN rfl rfl (by decide) rfl rfl (by first | exact fun w hw => hw.range_blk 0 rfl | exact fun w hw => hw.range_blk 1 rfl | exact fun w hw => hw.range_blk 2 rfl | exact fun w hw => hw.range_blk 3 rfl | exact fun w hw => hw.range_blk 4 rfl | exact fun w hw => hw.range_blk 5 rfl | exact fun w hw => hw.range_old (by assumption) (by simp)) (by first | rfl | exact setC_len _)) ?_ | refine l_op (o_call (f := 90) rfl rfl (by decide) rfl rfl (fun w hw => formed_calls w)) ?_ | refine l_nil ?_ | refine s_seq ?_ | refine s_region ?_ | refine l_op (o_not rfl rfl (by decide) rfl rfl rfl) ?_)
  refine s_cond rfl (fun h4 => ?_) (fun h4 => ?_)
  · skip
    repeat (first | refine l_op (o_assign rfl rfl (by decide) rfl rfl) ?_ | refine l_nil ?_ | refine s_seq ?_ | refine s_region ?_ | refine s_ret ?_ | refine x_then_ret ?_ | refine x_block_ret ?_)
    refine x_body1 (.inr rfl) rfl (.tmp rfl) (fun w hw => int_end ?_ hw)
    rw [← HC.out]
    simp [ruleC, hk1, hk7, hk8, h1, h2, h3, h4]
  repeat (first | refine l_op (o_move rfl rfl (by decide) rfl rfl) ?_ | refine l_op (o_assign rfl rfl (by decide) rfl rfl) ?_ | refine l_op (o_fieldAddr rfl rfl (by decide) rfl rfl) ?_ | refine l_op (o_load rfl rfl (by decide) rfl rfl (by first | exact fun w hw => hw.cell_blkL 0 rfl rfl | exact fun w hw => hw.cell_blkL 1 rfl rfl | exact fun w hw => hw.cell_blkL 2 rfl rfl | exact fun w hw => hw.cell_blkL 3 rfl rfl | exact fun w hw => hw.cell_blkL 4 rfl rfl | exact fun w hw => hw.cell_blkL 5 rfl rfl | exact fun w hw => hw.cell_old (by assumption) (by simp) | exact fun w hw => hw.cell_range (by assumption) rfl (by simp))) ?_ | refine l_nil ?_ | refine s_seq ?_ | refine s_region ?_ | refine s_cond_false rfl ?_ | refine l_op (o_len rfl rfl (by decide) rfl rfl) ?_ | refine l_op (o_eql rfl rfl (by decide) rfl rfl rfl (by first | assumption | exact beq_iff_eq.2 (by omega) | exact beq_eq_false_iff_ne.2 (by omega) | rfl)) ?_ | refine l_op (o_gtr rfl rfl (by decide) rfl rfl rfl (by first | assumption | exact decide_eq_true (by omega) | exact decide_eq_false (by omega) | rfl)) ?_ | refine l_op (o_pick_no rfl rfl (by decide) rfl rfl rfl) ?_ | refine l_op (o_skip rfl (by decide) rfl) ?_)
  refine s_cond rfl (fun h6 => ?_) (fun h6 => ?_)
  · skip
    repeat (first | refine l_op (o_assign rfl rfl (by decide) rfl rfl) ?_ | refine l_nil ?_ | refine s_seq ?_ | refine s_region ?_ | refine s_ret ?_ | refine x_then_ret ?_ | refine x_block_ret ?_)
    refine x_body1 (.inr rfl) rfl (.tmp rfl) (fun w hw => int_end ?_ hw)
    rw [← HC.out]
    simp [ruleC, hk1, hk7, hk8, h1, h2, h3, h4, h6]
  repeat (first | refine l_op (o_move rfl rfl (by decide) rfl rfl) ?_ | refine l_op (o_assign rfl rfl (by decide) rfl rfl) ?_ | refine l_op (o_fieldAddr rfl rfl (by decide) rfl rfl) ?_ | refine l_op (o_load rfl rfl (by decide) rfl rfl (by first | exact fun w hw => hw.cell_blkL 0 rfl rfl | exact fun w hw => hw.cell_blkL 1 rfl rfl | exact fun w hw => hw.cell_blkL 2 rfl rfl | exact fun w hw => hw.cell_blkL 3 rfl rfl | exact fun w hw => hw.cell_blkL 4 rfl rfl | exact fun w hw => hw.cell_blkL 5 rfl rfl | exact fun w hw => hw.cell_old (by assumption) (by simp) | exact fun w hw => hw.cell_range (by assumption) rfl (by simp))) ?_ | refine l_nil ?_ | refine s_seq ?_ | refine s_region ?_ | refine l_op (o_len rfl rfl (by decide) rfl rfl) ?_ | refine l_op (o_eql rfl rfl (by decide) rfl rfl rfl (by first | assumption | exact beq_iff_eq.2 (by omega) | exact beq_eq_false_iff_ne.2 (by omega) | rfl)) ?_ | refine l_op (o_neq rfl rfl (by decide) rfl rfl rfl (by first | assumption | exact bne_iff_ne.2 (by omega) | exact bne_eq_false_iff_eq.2 (by omega) | rfl)) ?_ | refine l_op (o_pick_yes rfl rfl (by decide) rfl rfl rfl) ?_)
  refine s_cond rfl (fun h7 => ?_) (fun h7 => ?_)
  · skip
    repeat (first | refine l_op (o_assign rfl rfl (by decide) rfl rfl) ?_ | refine l_nil ?_ | refine s_seq ?_ | refine s_region ?_ | refine s_ret ?_ | refine x_then_ret ?_ | refine x_block_ret ?_)
    refine x_body1 (.inr rfl) rfl (.tmp rfl) (fun w hw => int_end ?_ hw)
    rw [← HC.out]
    simp [ruleC, hk1, hk7, hk8, h1, h2, h3, h4, h6, h7]
  repeat (first | refine l_op (o_move rfl rfl (by decide) rfl rfl) ?_ | refine l_op (o_assign rfl rfl (by decide) rfl rfl) ?_ | refine l_op (o_fieldAddr rfl rfl (by decide) rfl rfl) ?_ | refine l_op (o_load rfl rfl (by decide) rfl rfl (by first | exact fun w hw => hw.cell_blkL 0 rfl rfl | exact fun w hw => hw.cell_blkL 1 rfl rfl | exact fun w hw => hw.cell_blkL 2 rfl rfl | exact fun w hw => hw.cell_blkL 3 rfl rfl | exact fun w hw => hw.cell_blkL 4 rfl rfl | exact fun w hw => hw.cell_blkL 5 rfl rfl | exact fun w hw => hw.cell_old (by assumption) (by simp) | exact fun w hw => hw.cell_range (by assumption) rfl (by simp))) ?_ | refine l_nil ?_ | refine s_seq ?_ | refine s_region ?_ | refine l_op (o_len rfl rfl (by decide) rfl rfl) ?_ | refine l_op (o_eql rfl rfl (by decide) rfl rfl rfl (by first | assumption | exact beq_iff_eq.2 (by omega) | exact beq_eq_false_iff_ne.2 (by omega) | rfl)) ?_ | refine l_op (o_pick_yes rfl rfl (by decide) rfl rfl rfl) ?_)
  refine s_cond rfl (fun h8 => ?_) (fun h8 => ?_)
  · skip
    rw [h8]
    repeat (first | refine l_op (o_assign rfl rfl (by decide) rfl rfl) ?_ | refine l_nil ?_ | refine s_seq ?_ | refine s_region ?_ | refine s_skip ?_ | refine s_cond_true rfl ?_ | refine s_ret ?_ | refine x_then_ret ?_ | refine x_block_ret ?_)
    refine x_body1 (.inr rfl) rfl (.tmp rfl) (fun w hw => int_end ?_ hw)
    rw [← HC.out]
    simp [ruleC, hk1, hk7, hk8, h1, h2, h3, h4, h6, h7, h8]
  repeat (first | refine l_op (o_move rfl rfl (by decide) rfl rfl) ?_ | refine l_op (o_assign rfl rfl (by decide) rfl rfl) ?_ | refine l_op (o_fieldAddr rfl rfl (by decide) rfl rfl) ?_ | refine l_op (o_load rfl rfl (by decide) rfl rfl (by first | exact fun w hw => hw.cell_blkL 0 rfl rfl | exact fun w hw => hw.cell_blkL 1 rfl rfl | exact fun w hw => hw.cell_blkL 2 rfl rfl | exact fun w hw => hw.cell_blkL 3 rfl rfl | exact fun w hw => hw.cell_blkL 4 rfl rfl | exact fun w hw => hw.cell_blkL 5 rfl rfl | exact fun w hw => hw.cell_old (by assumption) (by simp) | exact fun w hw => hw.cell_range (by assumption) rfl (by simp))) ?_ | refine l_nil ?_ | refine s_seq ?_ | refine s_region ?_ | refine s_cond_false rfl ?_ | refine l_op (o_len rfl rfl (by decide) rfl rfl) ?_ | refine l_op (o_eql rfl rfl (by decide) rfl rfl rfl (by first | assumption | exact beq_iff_eq.2 (by omega) | exact beq_eq_false_iff_ne.2 (by omega) | rfl)) ?_ | refine l_op (o_gtr rfl rfl (by decide) rfl rfl rfl (by first | assumption | exact decide_eq_true (by omega) | exact decide_eq_false (by omega) | rfl)) ?_ | refine l_op (o_pick_no rfl rfl (by decide) rfl rfl rfl) ?_ | refine l_op (o_skip rfl (by decide) rfl) ?_)
  refine s_cond rfl (fun h10 => ?_) (fun h10 => ?_)
  · skip
    repeat (first | refine l_op (o_assign rfl rfl (by decide) rfl rfl) ?_ | refine l_nil ?_ | refine s_seq ?_ | refine s_region ?_ | refine s_ret ?_ | refine x_then_ret ?_ | refine x_block_ret ?_)
    refine x_body1 (.inr rfl) rfl (.tmp rfl) (fun w hw => int_end ?_ hw)
    rw [← HC.out]
    simp [ruleC, hk1, hk7, hk8, h1, h2, h3, h4, h6, h7, h8, h10]
  repeat (first | refine l_op (o_move rfl rfl (by decide) rfl rfl) ?_ | refine l_op (o_assign rfl rfl (by decide) rfl rfl) ?_ | refine l_op (o_loadN rfl rfl (by decide) rfl rfl (by first | exact fun w hw => hw.range_blk 0 rfl | exact fun w hw => hw.range_blk 1 rfl | exact fun w hw => hw.range_blk 2 rfl | exact fun w hw => hw.range_blk 3 rfl | exact fun w hw => hw.range_blk 4 rfl | exact fun w hw => hw.range_blk 5 rfl | exact fun w hw => hw.range_old (by assumption) (by simp)) (by first | rfl | exact setC_len _)) ?_ | refine l_op (o_call (f := 91) rfl rfl (by decide) rfl rfl (fun w hw => ranges_calls (by simpa using h3) hn (HL.out.on hw.k.below).p HS.out.parts)) ?_ | refine l_nil ?_ | refine s_seq ?_ | refine s_region ?_ | refine l_op (o_not rfl rfl (by decide) rfl rfl rfl) ?_)
  refine s_cond rfl (fun h11 => ?_) (fun h11 => ?_)
  · skip
    repeat (first | refine l_op (o_assign rfl rfl (by decide) rfl rfl) ?_ | refine l_nil ?_ | refine s_seq ?_ | refine s_region ?_ | refine s_ret ?_ | refine x_then_ret ?_ | refine x_block_ret ?_)
    refine x_body1 (.inr rfl) rfl (.tmp rfl) (fun w hw => int_end ?_ hw)
    rw [← HC.out]
    simp [ruleC, hk1, hk7, hk8, h1, h2, h3, h4, h6, h7, h8, h10, h11]
  repeat (first | refine l_op (o_assign rfl rfl (by decide) rfl rfl) ?_ | refine l_nil ?_ | refine s_seq ?_ | refine s_region ?_ | refine s_skip ?_ | refine s_ret ?_)
  refine x_body1 (.inr rfl) rfl (.tmp rfl) (fun w hw => int_end ?_ hw)
  rw [← HC.out]
  simp [ruleC, hk1, hk7, hk8, h1, h2, h3, h4, h6, h7, h8, h10, h11]
set_option maxRecDepth 100000 in
set_option maxHeartbeats 8000000 in
theorem checkRule_8 {r : Rl} {early : List Rl} {A Ab An Ap : Option Addr} {m c n cb cn cp : Nat} {W : World} (he : FmIn W W.heap.size A m early) (hl : RuL W r Ab cb An cn Ap cp) (hs : RSm r) (hm : m ≤ 1048576) (hn : n ≤ 1048576) (hk1 : (r.kind == 1) = false) (hk7 : (r.kind == 7) = false) (hk8 : (r.kind == 8) = true) :
    Calls Tryz.prog 58 #[.agg (ruC r (.slice Ab r.bs.length cb) (.slice An r.names.length cn) (.slice Ap r.parts.length cp)).toArray, .slice A m c, .int .i64 (n : Int)] W (IntEnd W (ruleC r early n)) := by
  have HE := Lib.hid he
  have HL := Lib.hid hl
  have HS := Lib.hid hs
  have hnm : (⟨r.name.toArray⟩ : ByteArray).size ≤ 9223372036854775807 := by
    have := hs.name
    show r.name.toArray.size ≤ _
    rw [List.size_toArray]
    omega
  obtain ⟨C, hC⟩ : ∃ C, ruleC r early n = C := ⟨_, rfl⟩
  have HC := Lib.hid hC
  rw [hC]
  clear hC he hl hs
  go_enter Tryz.func58, Tryz.ntmps58
  refine s_go (M := []) (W := W) (N := 84) (E := [(0, .agg (ruC r (.slice Ab r.bs.length cb) (.slice An r.names.length cn) (.slice Ap r.parts.length cp)).toArray), (1, .slice A m c), (2, .int .i64 (n : Int))]) (O := []) ?_ (Ag.cons (Ag.cons (Ag.cons (Ag.nil rfl rfl) rfl) rfl) rfl) (Wd.start [] W)
  repeat (first | refine l_op (o_assign rfl rfl (by decide) rfl rfl) ?_ | refine l_op (o_fieldAddr rfl rfl (by decide) rfl rfl) ?_ | refine l_op (o_load rfl rfl (by decide) rfl rfl (by first | exact fun w hw => hw.cell_blkL 0 rfl rfl | exact fun w hw => hw.cell_blkL 1 rfl rfl | exact fun w hw => hw.cell_blkL 2 rfl rfl | exact fun w hw => hw.cell_blkL 3 rfl rfl | exact fun w hw => hw.cell_blkL 4 rfl rfl | exact fun w hw => hw.cell_blkL 5 rfl rfl | exact fun w hw => hw.cell_old (by assumption) (by simp) | exact fun w hw => hw.cell_range (by assumption) rfl (by simp))) ?_ | refine l_loud (u_box rfl rfl rfl rfl) rfl (by decide) (fun br _ => ?_) | refine l_op (o_call (f := 77) rfl rfl (by decide) rfl rfl (fun w hw => name_calls _ w hnm)) ?_ | refine l_nil ?_ | refine s_seq ?_ | refine s_region ?_ | refine s_block ?_ | refine l_op (o_not rfl rfl (by decide) rfl rfl rfl) ?_)
  refine s_cond rfl (fun h1 => ?_) (fun h1 => ?_)
  · skip
    repeat (first | refine l_op (o_assign rfl rfl (by decide) rfl rfl) ?_ | refine l_nil ?_ | refine s_seq ?_ | refine s_region ?_ | refine s_ret ?_ | refine x_then_ret ?_ | refine x_block_ret ?_)
    refine x_body1 (.inr rfl) rfl (.tmp rfl) (fun w hw => int_end ?_ hw)
    rw [← HC.out]
    simp [ruleC, hk1, hk7, hk8, h1]
  repeat (first | refine l_op (o_move rfl rfl (by decide) rfl rfl) ?_ | refine l_op (o_assign rfl rfl (by decide) rfl rfl) ?_ | refine l_op (o_fieldAddr rfl rfl (by decide) rfl rfl) ?_ | refine l_op (o_load rfl rfl (by decide) rfl rfl (by first | exact fun w hw => hw.cell_blkL 0 rfl rfl | exact fun w hw => hw.cell_blkL 1 rfl rfl | exact fun w hw => hw.cell_blkL 2 rfl rfl | exact fun w hw => hw.cell_blkL 3 rfl rfl | exact fun w hw => hw.cell_blkL 4 rfl rfl | exact fun w hw => hw.cell_blkL 5 rfl rfl | exact fun w hw => hw.cell_old (by assumption) (by simp) | exact fun w hw => hw.cell_range (by assumption) rfl (by simp))) ?_ | refine l_op (o_call (f := 84) rfl rfl (by decide) rfl rfl (fun w hw => (find_rule_calls (HE.out.on hw.k.below) hm).mono (fun _ _ h => h))) ?_ | refine l_nil ?_ | refine s_seq ?_ | refine s_region ?_ | refine l_op (o_geq rfl rfl (by decide) rfl rfl rfl (by first | assumption | exact decide_eq_true (by omega) | exact decide_eq_false (by omega) | rfl)) ?_)
  refine s_cond rfl (fun h2 => ?_) (fun h2 => ?_)
  · skip
    repeat (first | refine l_op (o_assign rfl rfl (by decide) rfl rfl) ?_ | refine l_nil ?_ | refine s_seq ?_ | refine s_region ?_ | refine s_ret ?_ | refine x_then_ret ?_ | refine x_block_ret ?_)
    refine x_body1 (.inr rfl) rfl (.tmp rfl) (fun w hw => int_end ?_ hw)
    rw [← HC.out]
    simp [ruleC, hk1, hk7, hk8, h1, h2]
  repeat (first | refine l_op (o_assign rfl rfl (by decide) rfl rfl) ?_ | refine l_op (o_fieldAddr rfl rfl (by decide) rfl rfl) ?_ | refine l_op (o_load rfl rfl (by decide) rfl rfl (by first | exact fun w hw => hw.cell_blkL 0 rfl rfl | exact fun w hw => hw.cell_blkL 1 rfl rfl | exact fun w hw => hw.cell_blkL 2 rfl rfl | exact fun w hw => hw.cell_blkL 3 rfl rfl | exact fun w hw => hw.cell_blkL 4 rfl rfl | exact fun w hw => hw.cell_blkL 5 rfl rfl | exact fun w hw => hw.cell_old (by assumption) (by simp) | exact fun w hw => hw.cell_range (by assumption) rfl (by simp))) ?_ | refine l_op (o_call (f := 52) rfl rfl (by decide) rfl rfl (fun w hw => Calls.stay (fin_calls _ _ _ w))) ?_ | refine l_nil ?_ | refine s_seq ?_ | refine s_region ?_ | refine l_op (o_not rfl rfl (by decide) rfl rfl rfl) ?_)
  refine s_cond rfl (fun h3 => ?_) (fun h3 => ?_)
  · skip
    repeat (first | refine l_op (o_assign rfl rfl (by decide) rfl rfl) ?_ | refine l_nil ?_ | refine s_seq ?_ | refine s_region ?_ | refine s_ret ?_ | refine x_then_ret ?_ | refine x_block_ret ?_)
    refine x_body1 (.inr rfl) rfl (.tmp rfl) (fun w hw => int_end ?_ hw)
    rw [← HC.out]
    simp [ruleC, hk1, hk7, hk8, h1, h2, h3]
  repeat (first | refine l_op (o_assign rfl rfl (by decide) rfl rfl) ?_ | refine l_op (o_loadN rfl rfl (by decide) rfl rfl (by first | exact fun w hw => hw.range_blk 0 rfl | exact fun w hw => hw.range_blk 1 rfl | exact fun w hw => hw.range_blk 2 rfl | exact fun w hw => hw.range_blk 3 rfl | exact fun w hw => hw.range_blk 4 rfl | exact fun w hw => hw.range_blk 5 rfl | exact fun w hw => hw.range_old (by assumption) (by simp)) (by first | rfl | exact setC_len _)) ?_ | refine l_op (o_call (f := 90) rfl rfl (by decide) rfl rfl (fun w hw => formed_calls w)) ?_ | refine l_nil ?_ | refine s_seq ?_ | refine s_region ?_ | refine l_op (o_not rfl rfl (by decide) rfl rfl rfl) ?_)
  refine s_cond rfl (fun h4 => ?_) (fun h4 => ?_)
  · skip
    repeat (first | refine l_op (o_assign rfl rfl (by decide) rfl rfl) ?_ | refine l_nil ?_ | refine s_seq ?_ | refine s_region ?_ | refine s_ret ?_ | refine x_then_ret ?_ | refine x_block_ret ?_)
    refine x_body1 (.inr rfl) rfl (.tmp rfl) (fun w hw => int_end ?_ hw)
    rw [← HC.out]
    simp [ruleC, hk1, hk7, hk8, h1, h2, h3, h4]
  repeat (first | refine l_op (o_move rfl rfl (by decide) rfl rfl) ?_ | refine l_op (o_assign rfl rfl (by decide) rfl rfl) ?_ | refine l_op (o_fieldAddr rfl rfl (by decide) rfl rfl) ?_ | refine l_op (o_load rfl rfl (by decide) rfl rfl (by first | exact fun w hw => hw.cell_blkL 0 rfl rfl | exact fun w hw => hw.cell_blkL 1 rfl rfl | exact fun w hw => hw.cell_blkL 2 rfl rfl | exact fun w hw => hw.cell_blkL 3 rfl rfl | exact fun w hw => hw.cell_blkL 4 rfl rfl | exact fun w hw => hw.cell_blkL 5 rfl rfl | exact fun w hw => hw.cell_old (by assumption) (by simp) | exact fun w hw => hw.cell_range (by assumption) rfl (by simp))) ?_ | refine l_nil ?_ | refine s_seq ?_ | refine s_region ?_ | refine s_cond_false rfl ?_ | refine l_op (o_len rfl rfl (by decide) rfl rfl) ?_ | refine l_op (o_eql rfl rfl (by decide) rfl rfl rfl (by first | assumption | exact beq_iff_eq.2 (by omega) | exact beq_eq_false_iff_ne.2 (by omega) | rfl)) ?_ | refine l_op (o_gtr rfl rfl (by decide) rfl rfl rfl (by first | assumption | exact decide_eq_true (by omega) | exact decide_eq_false (by omega) | rfl)) ?_ | refine l_op (o_pick_no rfl rfl (by decide) rfl rfl rfl) ?_ | refine l_op (o_skip rfl (by decide) rfl) ?_)
  refine s_cond rfl (fun h6 => ?_) (fun h6 => ?_)
  · skip
    repeat (first | refine l_op (o_assign rfl rfl (by decide) rfl rfl) ?_ | refine l_nil ?_ | refine s_seq ?_ | refine s_region ?_ | refine s_ret ?_ | refine x_then_ret ?_ | refine x_block_ret ?_)
    refine x_body1 (.inr rfl) rfl (.tmp rfl) (fun w hw => int_end ?_ hw)
    rw [← HC.out]
    simp [ruleC, hk1, hk7, hk8, h1, h2, h3, h4, h6]
  repeat (first | refine l_op (o_move rfl rfl (by decide) rfl rfl) ?_ | refine l_op (o_assign rfl rfl (by decide) rfl rfl) ?_ | refine l_op (o_fieldAddr rfl rfl (by decide) rfl rfl) ?_ | refine l_op (o_load rfl rfl (by decide) rfl rfl (by first | exact fun w hw => hw.cell_blkL 0 rfl rfl | exact fun w hw => hw.cell_blkL 1 rfl rfl | exact fun w hw => hw.cell_blkL 2 rfl rfl | exact fun w hw => hw.cell_blkL 3 rfl rfl | exact fun w hw => hw.cell_blkL 4 rfl rfl | exact fun w hw => hw.cell_blkL 5 rfl rfl | exact fun w hw => hw.cell_old (by assumption) (by simp) | exact fun w hw => hw.cell_range (by assumption) rfl (by simp))) ?_ | refine l_nil ?_ | refine s_seq ?_ | refine s_region ?_ | refine s_cond_false rfl ?_ | refine l_op (o_len rfl rfl (by decide) rfl rfl) ?_ | refine l_op (o_eql rfl rfl (by decide) rfl rfl rfl (by first | assumption | exact beq_iff_eq.2 (by omega) | exact beq_eq_false_iff_ne.2 (by omega) | rfl)) ?_ | refine l_op (o_lss rfl rfl (by decide) rfl rfl rfl (by first | assumption | exact decide_eq_true (by omega) | exact decide_eq_false (by omega) | rfl)) ?_ | refine l_op (o_pick_yes rfl rfl (by decide) rfl rfl rfl) ?_ | refine l_op (o_pick_no rfl rfl (by decide) rfl rfl rfl) ?_ | refine l_op (o_skip rfl (by decide) rfl) ?_)
  refine s_cond rfl (fun h9 => ?_) (fun h9 => ?_)
  · skip
    rw [h9]
    repeat (first | refine l_op (o_assign rfl rfl (by decide) rfl rfl) ?_ | refine l_nil ?_ | refine s_seq ?_ | refine s_region ?_ | refine s_ret ?_ | refine x_then_ret ?_ | refine x_block_ret ?_)
    refine x_body1 (.inr rfl) rfl (.tmp rfl) (fun w hw => int_end ?_ hw)
    rw [← HC.out]
    simp [ruleC, hk1, hk7, hk8, h1, h2, h3, h4, h6, h9]
  repeat (first | refine l_op (o_assign rfl rfl (by decide) rfl rfl) ?_ | refine l_op (o_fieldAddr rfl rfl (by decide) rfl rfl) ?_ | refine l_op (o_load rfl rfl (by decide) rfl rfl (by first | exact fun w hw => hw.cell_blkL 0 rfl rfl | exact fun w hw => hw.cell_blkL 1 rfl rfl | exact fun w hw => hw.cell_blkL 2 rfl rfl | exact fun w hw => hw.cell_blkL 3 rfl rfl | exact fun w hw => hw.cell_blkL 4 rfl rfl | exact fun w hw => hw.cell_blkL 5 rfl rfl | exact fun w hw => hw.cell_old (by assumption) (by simp) | exact fun w hw => hw.cell_range (by assumption) rfl (by simp))) ?_ | refine l_nil ?_ | refine s_seq ?_ | refine s_region ?_ | refine l_op (o_len rfl rfl (by decide) rfl rfl) ?_ | refine l_op (o_gtr rfl rfl (by decide) rfl rfl rfl (by first | assumption | exact decide_eq_true (by omega) | exact decide_eq_false (by omega) | rfl)) ?_)
  refine s_cond rfl (fun h10 => ?_) (fun h10 => ?_)
  · skip
    repeat (first | refine l_op (o_assign rfl rfl (by decide) rfl rfl) ?_ | refine l_nil ?_ | refine s_seq ?_ | refine s_region ?_ | refine s_ret ?_ | refine x_then_ret ?_ | refine x_block_ret ?_)
    refine x_body1 (.inr rfl) rfl (.tmp rfl) (fun w hw => int_end ?_ hw)
    rw [← HC.out]
    simp [ruleC, hk1, hk7, hk8, h1, h2, h3, h4, h6, h9, h10]
  repeat (first | refine l_op (o_move rfl rfl (by decide) rfl rfl) ?_ | refine l_op (o_assign rfl rfl (by decide) rfl rfl) ?_ | refine l_op (o_loadN rfl rfl (by decide) rfl rfl (by first | exact fun w hw => hw.range_blk 0 rfl | exact fun w hw => hw.range_blk 1 rfl | exact fun w hw => hw.range_blk 2 rfl | exact fun w hw => hw.range_blk 3 rfl | exact fun w hw => hw.range_blk 4 rfl | exact fun w hw => hw.range_blk 5 rfl | exact fun w hw => hw.range_old (by assumption) (by simp)) (by first | rfl | exact setC_len _)) ?_ | refine l_op (o_call (f := 91) rfl rfl (by decide) rfl rfl (fun w hw => ranges_calls (by simpa using h3) hn (HL.out.on hw.k.below).p HS.out.parts)) ?_ | refine l_nil ?_ | refine s_seq ?_ | refine s_region ?_ | refine l_op (o_not rfl rfl (by decide) rfl rfl rfl) ?_)
  refine s_cond rfl (fun h11 => ?_) (fun h11 => ?_)
  · skip
    repeat (first | refine l_op (o_assign rfl rfl (by decide) rfl rfl) ?_ | refine l_nil ?_ | refine s_seq ?_ | refine s_region ?_ | refine s_ret ?_ | refine x_then_ret ?_ | refine x_block_ret ?_)
    refine x_body1 (.inr rfl) rfl (.tmp rfl) (fun w hw => int_end ?_ hw)
    rw [← HC.out]
    simp [ruleC, hk1, hk7, hk8, h1, h2, h3, h4, h6, h9, h10, h11]
  repeat (first | refine l_op (o_assign rfl rfl (by decide) rfl rfl) ?_ | refine l_nil ?_ | refine s_seq ?_ | refine s_region ?_ | refine s_skip ?_ | refine s_ret ?_)
  refine x_body1 (.inr rfl) rfl (.tmp rfl) (fun w hw => int_end ?_ hw)
  rw [← HC.out]
  simp [ruleC, hk1, hk7, hk8, h1, h2, h3, h4, h6, h9, h10, h11]
set_option maxRecDepth 100000 in
set_option maxHeartbeats 8000000 in
theorem checkRule_0 {r : Rl} {early : List Rl} {A Ab An Ap : Option Addr} {m c n cb cn cp : Nat} {W : World} (he : FmIn W W.heap.size A m early) (hl : RuL W r Ab cb An cn Ap cp) (hs : RSm r) (hm : m ≤ 1048576) (hn : n ≤ 1048576) (hk1 : (r.kind == 1) = false) (hk7 : (r.kind == 7) = false) (hk8 : (r.kind == 8) = false) :
    Calls Tryz.prog 58 #[.agg (ruC r (.slice Ab r.bs.length cb) (.slice An r.names.length cn) (.slice Ap r.parts.length cp)).toArray, .slice A m c, .int .i64 (n : Int)] W (IntEnd W (ruleC r early n)) := by
  have HE := Lib.hid he
  have HL := Lib.hid hl
  have HS := Lib.hid hs
  have hnm : (⟨r.name.toArray⟩ : ByteArray).size ≤ 9223372036854775807 := by
    have := hs.name
    show r.name.toArray.size ≤ _
    rw [List.size_toArray]
    omega
  obtain ⟨C, hC⟩ : ∃ C, ruleC r early n = C := ⟨_, rfl⟩
  have HC := Lib.hid hC
  rw [hC]
  clear hC he hl hs
  go_enter Tryz.func58, Tryz.ntmps58
  refine s_go (M := []) (W := W) (N := 84) (E := [(0, .agg (ruC r (.slice Ab r.bs.length cb) (.slice An r.names.length cn) (.slice Ap r.parts.length cp)).toArray), (1, .slice A m c), (2, .int .i64 (n : Int))]) (O := []) ?_ (Ag.cons (Ag.cons (Ag.cons (Ag.nil rfl rfl) rfl) rfl) rfl) (Wd.start [] W)
  repeat (first | refine l_op (o_assign rfl rfl (by decide) rfl rfl) ?_ | refine l_op (o_fieldAddr rfl rfl (by decide) rfl rfl) ?_ | refine l_op (o_load rfl rfl (by decide) rfl rfl (by first | exact fun w hw => hw.cell_blkL 0 rfl rfl | exact fun w hw => hw.cell_blkL 1 rfl rfl | exact fun w hw => hw.cell_blkL 2 rfl rfl | exact fun w hw => hw.cell_blkL 3 rfl rfl | exact fun w hw => hw.cell_blkL 4 rfl rfl | exact fun w hw => hw.cell_blkL 5 rfl rfl | exact fun w hw => hw.cell_old (by assumption) (by simp) | exact fun w hw => hw.cell_range (by assumption) rfl (by simp))) ?_ | refine l_loud (u_box rfl rfl rfl rfl) rfl (by decide) (fun br _ => ?_) | refine l_op (o_call (f := 77) rfl rfl (by decide) rfl rfl (fun w hw => name_calls _ w hnm)) ?_ | refine l_nil ?_ | refine s_seq ?_ | refine s_region ?_ | refine s_block ?_ | refine l_op (o_not rfl rfl (by decide) rfl rfl rfl) ?_)
  refine s_cond rfl (fun h1 => ?_) (fun h1 => ?_)
  · skip
    repeat (first | refine l_op (o_assign rfl rfl (by decide) rfl rfl) ?_ | refine l_nil ?_ | refine s_seq ?_ | refine s_region ?_ | refine s_ret ?_ | refine x_then_ret ?_ | refine x_block_ret ?_)
    refine x_body1 (.inr rfl) rfl (.tmp rfl) (fun w hw => int_end ?_ hw)
    rw [← HC.out]
    simp [ruleC, hk1, hk7, hk8, h1]
  repeat (first | refine l_op (o_move rfl rfl (by decide) rfl rfl) ?_ | refine l_op (o_assign rfl rfl (by decide) rfl rfl) ?_ | refine l_op (o_fieldAddr rfl rfl (by decide) rfl rfl) ?_ | refine l_op (o_load rfl rfl (by decide) rfl rfl (by first | exact fun w hw => hw.cell_blkL 0 rfl rfl | exact fun w hw => hw.cell_blkL 1 rfl rfl | exact fun w hw => hw.cell_blkL 2 rfl rfl | exact fun w hw => hw.cell_blkL 3 rfl rfl | exact fun w hw => hw.cell_blkL 4 rfl rfl | exact fun w hw => hw.cell_blkL 5 rfl rfl | exact fun w hw => hw.cell_old (by assumption) (by simp) | exact fun w hw => hw.cell_range (by assumption) rfl (by simp))) ?_ | refine l_op (o_call (f := 84) rfl rfl (by decide) rfl rfl (fun w hw => (find_rule_calls (HE.out.on hw.k.below) hm).mono (fun _ _ h => h))) ?_ | refine l_nil ?_ | refine s_seq ?_ | refine s_region ?_ | refine l_op (o_geq rfl rfl (by decide) rfl rfl rfl (by first | assumption | exact decide_eq_true (by omega) | exact decide_eq_false (by omega) | rfl)) ?_)
  refine s_cond rfl (fun h2 => ?_) (fun h2 => ?_)
  · skip
    repeat (first | refine l_op (o_assign rfl rfl (by decide) rfl rfl) ?_ | refine l_nil ?_ | refine s_seq ?_ | refine s_region ?_ | refine s_ret ?_ | refine x_then_ret ?_ | refine x_block_ret ?_)
    refine x_body1 (.inr rfl) rfl (.tmp rfl) (fun w hw => int_end ?_ hw)
    rw [← HC.out]
    simp [ruleC, hk1, hk7, hk8, h1, h2]
  repeat (first | refine l_op (o_assign rfl rfl (by decide) rfl rfl) ?_ | refine l_op (o_fieldAddr rfl rfl (by decide) rfl rfl) ?_ | refine l_op (o_load rfl rfl (by decide) rfl rfl (by first | exact fun w hw => hw.cell_blkL 0 rfl rfl | exact fun w hw => hw.cell_blkL 1 rfl rfl | exact fun w hw => hw.cell_blkL 2 rfl rfl | exact fun w hw => hw.cell_blkL 3 rfl rfl | exact fun w hw => hw.cell_blkL 4 rfl rfl | exact fun w hw => hw.cell_blkL 5 rfl rfl | exact fun w hw => hw.cell_old (by assumption) (by simp) | exact fun w hw => hw.cell_range (by assumption) rfl (by simp))) ?_ | refine l_op (o_call (f := 52) rfl rfl (by decide) rfl rfl (fun w hw => Calls.stay (fin_calls _ _ _ w))) ?_ | refine l_nil ?_ | refine s_seq ?_ | refine s_region ?_ | refine l_op (o_not rfl rfl (by decide) rfl rfl rfl) ?_)
  refine s_cond rfl (fun h3 => ?_) (fun h3 => ?_)
  · skip
    repeat (first | refine l_op (o_assign rfl rfl (by decide) rfl rfl) ?_ | refine l_nil ?_ | refine s_seq ?_ | refine s_region ?_ | refine s_ret ?_ | refine x_then_ret ?_ | refine x_block_ret ?_)
    refine x_body1 (.inr rfl) rfl (.tmp rfl) (fun w hw => int_end ?_ hw)
    rw [← HC.out]
    simp [ruleC, hk1, hk7, hk8, h1, h2, h3]
  repeat (first | refine l_op (o_assign rfl rfl (by decide) rfl rfl) ?_ | refine l_op (o_loadN rfl rfl (by decide) rfl rfl (by first | exact fun w hw => hw.range_blk 0 rfl | exact fun w hw => hw.range_blk 1 rfl | exact fun w hw => hw.range_blk 2 rfl | exact fun w hw => hw.range_blk 3 rfl | exact fun w hw => hw.range_blk 4 rfl | exact fun w hw => hw.range_blk 5 rfl | exact fun w hw => hw.range_old (by assumption) (by simp)) (by first | rfl | exact setC_len _)) ?_ | refine l_op (o_call (f := 90) rfl rfl (by decide) rfl rfl (fun w hw => formed_calls w)) ?_ | refine l_nil ?_ | refine s_seq ?_ | refine s_region ?_ | refine l_op (o_not rfl rfl (by decide) rfl rfl rfl) ?_)
  refine s_cond rfl (fun h4 => ?_) (fun h4 => ?_)
  · skip
    repeat (first | refine l_op (o_assign rfl rfl (by decide) rfl rfl) ?_ | refine l_nil ?_ | refine s_seq ?_ | refine s_region ?_ | refine s_ret ?_ | refine x_then_ret ?_ | refine x_block_ret ?_)
    refine x_body1 (.inr rfl) rfl (.tmp rfl) (fun w hw => int_end ?_ hw)
    rw [← HC.out]
    simp [ruleC, hk1, hk7, hk8, h1, h2, h3, h4]
  repeat (first | refine l_op (o_move rfl rfl (by decide) rfl rfl) ?_ | refine l_op (o_assign rfl rfl (by decide) rfl rfl) ?_ | refine l_op (o_fieldAddr rfl rfl (by decide) rfl rfl) ?_ | refine l_op (o_load rfl rfl (by decide) rfl rfl (by first | exact fun w hw => hw.cell_blkL 0 rfl rfl | exact fun w hw => hw.cell_blkL 1 rfl rfl | exact fun w hw => hw.cell_blkL 2 rfl rfl | exact fun w hw => hw.cell_blkL 3 rfl rfl | exact fun w hw => hw.cell_blkL 4 rfl rfl | exact fun w hw => hw.cell_blkL 5 rfl rfl | exact fun w hw => hw.cell_old (by assumption) (by simp) | exact fun w hw => hw.cell_range (by assumption) rfl (by simp))) ?_ | refine l_nil ?_ | refine s_seq ?_ | refine s_region ?_ | refine s_cond_false rfl ?_ | refine l_op (o_len rfl rfl (by decide) rfl rfl) ?_ | refine l_op (o_eql rfl rfl (by decide) rfl rfl rfl (by first | assumption | exact beq_iff_eq.2 (by omega) | exact beq_eq_false_iff_ne.2 (by omega) | rfl)) ?_ | refine l_op (o_gtr rfl rfl (by decide) rfl rfl rfl (by first | assumption | exact decide_eq_true (by omega) | exact decide_eq_false (by omega) | rfl)) ?_ | refine l_op (o_pick_no rfl rfl (by decide) rfl rfl rfl) ?_ | refine l_op (o_skip rfl (by decide) rfl) ?_)
  refine s_cond rfl (fun h6 => ?_) (fun h6 => ?_)
  · skip
    repeat (first | refine l_op (o_assign rfl rfl (by decide) rfl rfl) ?_ | refine l_nil ?_ | refine s_seq ?_ | refine s_region ?_ | refine s_ret ?_ | refine x_then_ret ?_ | refine x_block_ret ?_)
    refine x_body1 (.inr rfl) rfl (.tmp rfl) (fun w hw => int_end ?_ hw)
    rw [← HC.out]
    simp [ruleC, hk1, hk7, hk8, h1, h2, h3, h4, h6]
  repeat (first | refine l_op (o_move rfl rfl (by decide) rfl rfl) ?_ | refine l_op (o_assign rfl rfl (by decide) rfl rfl) ?_ | refine l_op (o_fieldAddr rfl rfl (by decide) rfl rfl) ?_ | refine l_op (o_load rfl rfl (by decide) rfl rfl (by first | exact fun w hw => hw.cell_blkL 0 rfl rfl | exact fun w hw => hw.cell_blkL 1 rfl rfl | exact fun w hw => hw.cell_blkL 2 rfl rfl | exact fun w hw => hw.cell_blkL 3 rfl rfl | exact fun w hw => hw.cell_blkL 4 rfl rfl | exact fun w hw => hw.cell_blkL 5 rfl rfl | exact fun w hw => hw.cell_old (by assumption) (by simp) | exact fun w hw => hw.cell_range (by assumption) rfl (by simp))) ?_ | refine l_nil ?_ | refine s_seq ?_ | refine s_region ?_ | refine s_cond_false rfl ?_ | refine l_op (o_len rfl rfl (by decide) rfl rfl) ?_ | refine l_op (o_eql rfl rfl (by decide) rfl rfl rfl (by first | assumption | exact beq_iff_eq.2 (by omega) | exact beq_eq_false_iff_ne.2 (by omega) | rfl)) ?_ | refine l_op (o_gtr rfl rfl (by decide) rfl rfl rfl (by first | assumption | exact decide_eq_true (by omega) | exact decide_eq_false (by omega) | rfl)) ?_ | refine l_op (o_pick_no rfl rfl (by decide) rfl rfl rfl) ?_ | refine l_op (o_skip rfl (by decide) rfl) ?_)
  refine s_cond rfl (fun h10 => ?_) (fun h10 => ?_)
  · skip
    repeat (first | refine l_op (o_assign rfl rfl (by decide) rfl rfl) ?_ | refine l_nil ?_ | refine s_seq ?_ | refine s_region ?_ | refine s_ret ?_ | refine x_then_ret ?_ | refine x_block_ret ?_)
    refine x_body1 (.inr rfl) rfl (.tmp rfl) (fun w hw => int_end ?_ hw)
    rw [← HC.out]
    simp [ruleC, hk1, hk7, hk8, h1, h2, h3, h4, h6, h10]
  repeat (first | refine l_op (o_move rfl rfl (by decide) rfl rfl) ?_ | refine l_op (o_assign rfl rfl (by decide) rfl rfl) ?_ | refine l_op (o_loadN rfl rfl (by decide) rfl rfl (by first | exact fun w hw => hw.range_blk 0 rfl | exact fun w hw => hw.range_blk 1 rfl | exact fun w hw => hw.range_blk 2 rfl | exact fun w hw => hw.range_blk 3 rfl | exact fun w hw => hw.range_blk 4 rfl | exact fun w hw => hw.range_blk 5 rfl | exact fun w hw => hw.range_old (by assumption) (by simp)) (by first | rfl | exact setC_len _)) ?_ | refine l_op (o_call (f := 91) rfl rfl (by decide) rfl rfl (fun w hw => ranges_calls (by simpa using h3) hn (HL.out.on hw.k.below).p HS.out.parts)) ?_ | refine l_nil ?_ | refine s_seq ?_ | refine s_region ?_ | refine l_op (o_not rfl rfl (by decide) rfl rfl rfl) ?_)
  refine s_cond rfl (fun h11 => ?_) (fun h11 => ?_)
  · skip
    repeat (first | refine l_op (o_assign rfl rfl (by decide) rfl rfl) ?_ | refine l_nil ?_ | refine s_seq ?_ | refine s_region ?_ | refine s_ret ?_ | refine x_then_ret ?_ | refine x_block_ret ?_)
    refine x_body1 (.inr rfl) rfl (.tmp rfl) (fun w hw => int_end ?_ hw)
    rw [← HC.out]
    simp [ruleC, hk1, hk7, hk8, h1, h2, h3, h4, h6, h10, h11]
  repeat (first | refine l_op (o_assign rfl rfl (by decide) rfl rfl) ?_ | refine l_nil ?_ | refine s_seq ?_ | refine s_region ?_ | refine s_skip ?_ | refine s_ret ?_)
  refine x_body1 (.inr rfl) rfl (.tmp rfl) (fun w hw => int_end ?_ hw)
  rw [← HC.out]
  simp [ruleC, hk1, hk7, hk8, h1, h2, h3, h4, h6, h10, h11]
theorem checkRule_calls {r : Rl} {early : List Rl} {A Ab An Ap : Option Addr} {m c n cb cn cp : Nat} {W : World} (he : FmIn W W.heap.size A m early) (hl : RuL W r Ab cb An cn Ap cp) (hs : RSm r) (hm : m ≤ 1048576) (hn : n ≤ 1048576) :
    Calls Tryz.prog 58 #[.agg (ruC r (.slice Ab r.bs.length cb) (.slice An r.names.length cn) (.slice Ap r.parts.length cp)).toArray, .slice A m c, .int .i64 (n : Int)] W (IntEnd W (ruleC r early n)) := by
  by_cases h1 : r.kind = 1
  · exact checkRule_1 he hl hs hm hn (beq_iff_eq.2 h1) (beq_eq_false_iff_ne.2 (by omega)) (beq_eq_false_iff_ne.2 (by omega))
  · by_cases h7 : r.kind = 7
    · exact checkRule_7 he hl hs hm hn (beq_eq_false_iff_ne.2 (by omega)) (beq_iff_eq.2 h7) (beq_eq_false_iff_ne.2 (by omega))
    · by_cases h8 : r.kind = 8
      · exact checkRule_8 he hl hs hm hn (beq_eq_false_iff_ne.2 (by omega)) (beq_eq_false_iff_ne.2 (by omega)) (beq_iff_eq.2 h8)
      · exact checkRule_0 he hl hs hm hn (beq_eq_false_iff_ne.2 h1) (beq_eq_false_iff_ne.2 h7) (beq_eq_false_iff_ne.2 h8)
end Go.Proofs.YtgdiadednlajgaaGreatDoor
