import Derived.Test.YtgdiadednlajgaaGreatDoorP28
namespace Go.Proofs.YtgdiadednlajgaaGreatDoor
open Go.RowKit
set_option linter.unusedVariables false
set_option linter.unusedSimpArgs false
def StEnd (W : World) (l : List UInt8) (e : Ending) (w' : World) : Prop := e = .returned (.string ⟨l.toArray⟩) ∧ Below W.heap.size W w'
set_option maxRecDepth 100000 in
set_option maxHeartbeats 16000000 in
theorem line_calls {F : List Rl} {r : Rl} {A Ab An Ap : Option Addr} {n c cb cn cp : Nat} {W : World} (hf : FmIn W W.heap.size A n F) (hl : RuL W r Ab cb An cn Ap cp) (hL : LOk F r) (hn0 : 0 < n) (hg : GV W) (hj : (Lib.join (lineWs F r) [32]).length ≤ 1000000) :
    Calls Tryz.prog 38 #[.agg #[.slice A n c], .agg (ruC r (.slice Ab r.bs.length cb) (.slice An r.names.length cn) (.slice Ap r.parts.length cp)).toArray] W (StEnd W (lineB F r)) := by
  have hlen : F.length = n := hf.1
  have hN := nsm_of (hlen ▸ hL.ok) hn0
  have hk := hL.ok.kind
  have hb16 := hL.ok.bs16
  have hp12 := hL.ok.p12
  obtain ⟨b, o, rfl⟩ := hf.addr hn0
  obtain ⟨rc, Ac, cc, Ad, cd, Ae, ce, hrc, hgc, _⟩ := hf.rl (i := r.count.toNat) (by have := hN.count; omega)
  obtain ⟨rm, Am, cm, Bm, dm, Cm, em, hrm, hgm, _⟩ := hf.rl (i := r.elem.toNat) (by have := hN.elem; omega)
  have HNC := Lib.hid (nmAt_eq hrc)
  have HNM := Lib.hid (nmAt_eq hrm)
  have HFM := Lib.hid hf
  have HL := Lib.hid hl
  have HLO := Lib.hid hL
  have HG := Lib.hid hg
  have HJ := Lib.hid hj
  have HLEN := Lib.hid hlen
  have hks := hN.stop
  have hkz := hN.size
  have hkn := hN.mn
  have hkx := hN.mx
  have hkc := hN.count
  have hke := hN.elem
  clear hrc hrm hf hl hL hg hj hlen hN
  have hkw := kind_word hk
  go_enter Tryz.func38, Tryz.ntmps38
  refine s_go (M := []) (W := W) (N := 146) (E := [(0, .agg #[.slice (some ⟨b, o, none⟩) n c]), (1, .agg (ruC r (.slice Ab r.bs.length cb) (.slice An r.names.length cn) (.slice Ap r.parts.length cp)).toArray)]) (O := []) ?_ (Ag.cons (Ag.cons (Ag.nil rfl rfl) rfl) rfl) (Wd.start [] W)
  repeat (first | refine l_op (o_assign rfl rfl (by decide) rfl rfl) ?_ | refine l_loud (u_box rfl rfl rfl rfl) rfl (by decide) (fun br _ => ?_) | refine l_nil ?_ | refine s_seq ?_ | refine s_region ?_)
  rename_i bf _ _
  refine s_meet (ι := Nat × Nat) (fun _ => True) (fun y => [(2, .pointer (some ⟨bf, 0, none⟩)), (3, .pointer (some ⟨br, 0, none⟩)), (5, .pointer (some ⟨y.1, 0, none⟩))]) (fun y => [.blk y.1 (.cells [.slice (some ⟨y.2, 0, none⟩) 2 2].toArray 50 (0, 0)), .row (some ⟨y.2, 0, none⟩) 2 2 9 1 (sv [r.name, kindW r.kind]), Atom.blk br (.cells (ruC r (.slice Ab r.bs.length cb) (.slice An r.names.length cn) (.slice Ap r.parts.length cp)).toArray 52 (0, 0)), Atom.blk bf (.cells [.slice (some ⟨b, o, none⟩) n c].toArray 24 (0, 0))]) ?_ ?_
  · refine s_drawnO [] (by kernel_rfl) ?_
    first | refine d_op 0 rfl (by kernel_rfl) (Through.rfl_) (o_fieldAddr rfl rfl (by decide) rfl rfl) ?_
    first | refine d_op 1 rfl (by kernel_rfl) (Through.rfl_) (o_load rfl rfl (by decide) rfl rfl (by first | exact fun w hw => hw.cell_blkL 0 rfl rfl | exact fun w hw => hw.cell_blkL 1 rfl rfl | exact fun w hw => hw.cell_blkL 2 rfl rfl | exact fun w hw => hw.cell_blkL 3 rfl rfl | exact fun w hw => hw.cell_blkL 4 rfl rfl | exact fun w hw => hw.cell_blkL 5 rfl rfl | exact fun w hw => hw.cell_old (by assumption) (by simp) | exact fun w hw => hw.cell_range (by assumption) rfl (by simp))) ?_
    first | refine d_op 3 rfl (by kernel_rfl) (Through.rfl_) (o_fieldAddr rfl rfl (by decide) rfl rfl) ?_
    first | refine d_op 4 rfl (by kernel_rfl) (Through.rfl_) (o_load rfl rfl (by decide) rfl rfl (by first | exact fun w hw => hw.cell_blkL 0 rfl rfl | exact fun w hw => hw.cell_blkL 1 rfl rfl | exact fun w hw => hw.cell_blkL 2 rfl rfl | exact fun w hw => hw.cell_blkL 3 rfl rfl | exact fun w hw => hw.cell_blkL 4 rfl rfl | exact fun w hw => hw.cell_blkL 5 rfl rfl | exact fun w hw => hw.cell_old (by assumption) (by simp) | exact fun w hw => hw.cell_range (by assumption) rfl (by simp))) ?_
    first | refine d_op 5 rfl (by kernel_rfl) (Through.rfl_) (o_sub (k := .i64) rfl rfl (by decide) rfl rfl rfl (IntWalk.i64_in _ (by omega))) ?_
    refine d_two 2 9 (by kernel_rfl) (d_step rfl rfl (u_call _ _ _ (f := 64) rfl rfl rfl (fun w hw => fields_wd HG.out hw (HG.out.on hw.k.below))) (fun _ => .inr (Through.sel [1, 2] (by decide) rfl)) rfl (by decide) (fun bz _ => ?_)) (d_step rfl rfl (u_alloc (t := 50) rfl rfl) (fun _ => .inr (Through.sel [1, 2] (by decide) rfl)) rfl (by decide) (fun g _ => ?_))
    · refine d_op 6 rfl (by kernel_rfl) (Through.sel [1, 2] (by decide) rfl) (o_indexAddrI1 rfl rfl (by decide) rfl rfl rfl (by omega)) ?_
      refine d_two 7 9 (by kernel_rfl) (d_step rfl rfl (u_load rfl rfl rfl (fun w hw => hw.cell_rd 0 rfl hkw)) (fun _ => .inr (Through.sel [1, 2] (by decide) rfl)) rfl (by decide) (fun _ _ => ?_)) (d_step rfl rfl (u_alloc (t := 50) rfl rfl) (fun _ => .inr (Through.sel [2, 3] (by decide) rfl)) rfl (by decide) (fun g _ => ?_))
      · refine d_two 8 9 (by kernel_rfl) (d_step rfl rfl (u_slice2 rfl rfl rfl rfl) (fun _ => .inr (Through.sel [2, 3] (by decide) rfl)) rfl (by decide) (fun bs _ => ?_)) (d_step rfl rfl (u_alloc (t := 50) rfl rfl) (fun _ => .inr (Through.sel [2, 3] (by decide) rfl)) rfl (by decide) (fun g _ => ?_))
        · refine d_loud 9 (by kernel_rfl) rfl rfl (u_alloc (t := 50) rfl rfl) (fun _ => .inr (Through.sel [3, 4] (by decide) rfl)) rfl (by decide) (fun g _ => ?_)
          refine d_loud0 10 (by kernel_rfl) rfl rfl (u_store 0 rfl rfl rfl rfl rfl rfl rfl) (fun _ => .inr (Through.sel [3, 4] (by decide) rfl)) rfl (fun _ _ => ?_)
          refine d_end ?_ (by kernel_rfl)
          refine x_blk_row 1 (n := 2) (s := 1) rfl rfl (by decide) ?_
          exact x_meet (g, bs) [0, 1, 3, 4] (by decide) trivial (.cons rfl rfl (.cons rfl rfl (.cons rfl rfl .nil))) rfl
        · refine d_loud 8 (by kernel_rfl) rfl rfl (u_slice2 rfl rfl rfl rfl) (fun _ => .inr (Through.sel [3, 4] (by decide) rfl)) rfl (by decide) (fun bs _ => ?_)
          refine d_loud0 10 (by kernel_rfl) rfl rfl (u_store 1 rfl rfl rfl rfl rfl rfl rfl) (fun _ => .inr (Through.sel [3, 4] (by decide) rfl)) rfl (fun _ _ => ?_)
          refine d_end ?_ (by kernel_rfl)
          refine x_blk_row 0 (n := 2) (s := 1) rfl rfl (by decide) ?_
          exact x_meet (g, bs) [1, 0, 3, 4] (by decide) trivial (.cons rfl rfl (.cons rfl rfl (.cons rfl rfl .nil))) rfl
      · refine d_loud 7 (by kernel_rfl) rfl rfl (u_load rfl rfl rfl (fun w hw => hw.cell_rd 1 rfl hkw)) (fun _ => .inr (Through.sel [2, 3] (by decide) rfl)) rfl (by decide) (fun _ _ => ?_)
        refine d_loud 8 (by kernel_rfl) rfl rfl (u_slice2 rfl rfl rfl rfl) (fun _ => .inr (Through.sel [3, 4] (by decide) rfl)) rfl (by decide) (fun bs _ => ?_)
        refine d_loud0 10 (by kernel_rfl) rfl rfl (u_store 1 rfl rfl rfl rfl rfl rfl rfl) (fun _ => .inr (Through.sel [3, 4] (by decide) rfl)) rfl (fun _ _ => ?_)
        refine d_end ?_ (by kernel_rfl)
        refine x_blk_row 0 (n := 2) (s := 1) rfl rfl (by decide) ?_
        exact x_meet (g, bs) [1, 0, 3, 4] (by decide) trivial (.cons rfl rfl (.cons rfl rfl (.cons rfl rfl .nil))) rfl
    · refine d_loud 2 (by kernel_rfl) rfl rfl (u_call _ _ _ (f := 64) rfl rfl rfl (fun w hw => fields_wd HG.out hw (HG.out.on hw.k.below))) (fun _ => .inr (Through.sel [2, 3] (by decide) rfl)) rfl (by decide) (fun bz _ => ?_)
      refine d_op 6 rfl (by kernel_rfl) (Through.sel [2, 3] (by decide) rfl) (o_indexAddrI1 rfl rfl (by decide) rfl rfl rfl (by omega)) ?_
      refine d_loud 7 (by kernel_rfl) rfl rfl (u_load rfl rfl rfl (fun w hw => hw.cell_rd 0 rfl hkw)) (fun _ => .inr (Through.sel [2, 3] (by decide) rfl)) rfl (by decide) (fun _ _ => ?_)
      refine d_loud 8 (by kernel_rfl) rfl rfl (u_slice2 rfl rfl rfl rfl) (fun _ => .inr (Through.sel [3, 4] (by decide) rfl)) rfl (by decide) (fun bs _ => ?_)
      refine d_loud0 10 (by kernel_rfl) rfl rfl (u_store 2 rfl rfl rfl rfl rfl rfl rfl) (fun _ => .inr (Through.sel [3, 4] (by decide) rfl)) rfl (fun _ _ => ?_)
      refine d_end ?_ (by kernel_rfl)
      refine x_blk_row 0 (n := 2) (s := 1) rfl rfl (by decide) ?_
      exact x_meet (g, bs) [2, 0, 3, 4] (by decide) trivial (.cons rfl rfl (.cons rfl rfl (.cons rfl rfl .nil))) rfl
  rintro ⟨g, bs⟩ _
  show sE _ _ _ _ _ [(2, .pointer (some ⟨bf, 0, none⟩)), (3, .pointer (some ⟨br, 0, none⟩)), (5, .pointer (some ⟨g, 0, none⟩))] [Atom.blk g (.cells [.slice (some ⟨bs, 0, none⟩) [r.name, kindW r.kind].length 2].toArray 50 (0, 0)), Atom.row (some ⟨bs, 0, none⟩) [r.name, kindW r.kind].length 2 9 1 (sv [r.name, kindW r.kind]), Atom.blk br (.cells (ruC r (.slice Ab r.bs.length cb) (.slice An r.names.length cn) (.slice Ap r.parts.length cp)).toArray 52 (0, 0)), Atom.blk bf (.cells [.slice (some ⟨b, o, none⟩) n c].toArray 24 (0, 0))] _
  generalize hw0 : [r.name, kindW r.kind] = ws0
  have hl0 : ws0.length ≤ 2 := by rw [← hw0]; exact Nat.le_refl _
  repeat (first | refine l_op (o_move rfl rfl (by decide) rfl rfl) ?_ | refine l_op (o_assign rfl rfl (by decide) rfl rfl) ?_ | refine l_op (o_fieldAddr rfl rfl (by decide) rfl rfl) ?_ | refine l_op (o_load rfl rfl (by decide) rfl rfl (by first | exact fun w hw => hw.cell_blkL 0 rfl rfl | exact fun w hw => hw.cell_blkL 1 rfl rfl | exact fun w hw => hw.cell_blkL 2 rfl rfl | exact fun w hw => hw.cell_blkL 3 rfl rfl | exact fun w hw => hw.cell_blkL 4 rfl rfl | exact fun w hw => hw.cell_blkL 5 rfl rfl | exact fun w hw => hw.cell_old (by assumption) (by simp) | exact fun w hw => hw.cell_range (by assumption) rfl (by simp))) ?_ | refine l_nil ?_ | refine s_seq ?_ | refine s_region ?_ | refine s_block ?_ | refine l_op (o_len rfl rfl (by decide) rfl rfl) ?_ | refine l_op (o_eql rfl rfl (by decide) rfl rfl rfl (by first | assumption | exact beq_iff_eq.2 (by omega) | exact beq_eq_false_iff_ne.2 (by omega) | rfl)) ?_ | refine l_op (o_func rfl rfl (by decide) rfl rfl) ?_)
  refine s_loop (ι := Nat) (fun i => i ≤ r.bs.length) (fun i => r.bs.length - i) (fun i => [(2, .pointer (some ⟨bf, 0, none⟩)), (3, .pointer (some ⟨br, 0, none⟩)), (5, .pointer (some ⟨g, 0, none⟩)), (6, .func (.func 65) #[] #[.pointer (some ⟨g, 0, none⟩)]), (7, .bool (r.kind == 2)), (8, .string ⟨(hexL (r.bs.take i)).toArray⟩), (29, .slice Ab r.bs.length cb), (30, .int .i64 (r.bs.length : Int)), (31, .int .i64 (i : Int))]) (fun _ => [Atom.blk g (.cells [.slice (some ⟨bs, 0, none⟩) ws0.length 2].toArray 50 (0, 0)), Atom.row (some ⟨bs, 0, none⟩) ws0.length 2 9 1 (sv ws0), Atom.blk br (.cells (ruC r (.slice Ab r.bs.length cb) (.slice An r.names.length cn) (.slice Ap r.parts.length cp)).toArray 52 (0, 0)), Atom.blk bf (.cells [.slice (some ⟨b, o, none⟩) n c].toArray 24 (0, 0))]) 0 [0, 1, 2, 3] (by decide) (Nat.zero_le _) (.cons rfl rfl (.cons rfl rfl (.cons rfl rfl (.cons rfl rfl (.cons rfl rfl (.cons rfl rfl (.cons rfl rfl (.cons rfl rfl (.cons rfl rfl .nil))))))))) rfl ?_
  rintro i hi
  by_cases hin : i < r.bs.length
  · obtain ⟨bb, ob, hA, _, hbc⟩ := HL.out.b.2 (by omega)
    subst hA
    obtain ⟨cc, hcc⟩ : ∃ cc, r.bs[i]? = some cc := ⟨_, List.getElem?_eq_getElem hin⟩
    have hcell : W.cell? ⟨bb, ob + i, none⟩ = some (.int .u8 (cc.toNat : Int)) := hbc i _ (by unfold bv; rw [List.getElem?_map, hcc]; rfl)
    have hlt : cc.toNat < 256 := cc.toNat_lt
    have HCC := Lib.hid hcc
    clear hcc hbc
    repeat (first | refine l_op (o_assign rfl rfl (by decide) rfl rfl) ?_ | refine l_op (o_load rfl rfl (by decide) rfl rfl (by first | exact fun w hw => hw.cell_blkL 0 rfl rfl | exact fun w hw => hw.cell_blkL 1 rfl rfl | exact fun w hw => hw.cell_blkL 2 rfl rfl | exact fun w hw => hw.cell_blkL 3 rfl rfl | exact fun w hw => hw.cell_blkL 4 rfl rfl | exact fun w hw => hw.cell_blkL 5 rfl rfl | exact fun w hw => hw.cell_old (by assumption) (by simp) | exact fun w hw => hw.cell_range (by assumption) rfl (by simp))) ?_ | refine l_op (o_indexAddr1 rfl rfl (by decide) rfl rfl rfl hin) ?_ | refine l_nil ?_ | refine s_seq ?_ | refine s_region ?_ | refine s_skip ?_ | refine s_cond_true rfl ?_ | refine s_block ?_ | refine l_op (o_lss rfl rfl (by decide) rfl rfl rfl (by first | assumption | exact decide_eq_true (by omega) | exact decide_eq_false (by omega) | rfl)) ?_)
    repeat (first | refine q_op (o_move rfl rfl (by decide) rfl rfl) ?_ | refine q_op (o_assign rfl rfl (by decide) rfl rfl) ?_ | refine q_op (o_hi rfl rfl (by decide) rfl rfl rfl) ?_ | refine q_op (o_lo rfl rfl (by decide) rfl rfl rfl) ?_ | refine q_op (o_inc8 (by omega) rfl rfl (by decide) rfl rfl rfl) ?_ | (refine q_op (o_scut Tryz.underlying9 rfl rfl (by decide) rfl rfl rfl rfl (by omega) (by first | (show cc.toNat / 16 + 1 ≤ 16; omega) | (show cc.toNat % 16 + 1 ≤ 16; omega))) ?_; rw [dig_cut (by omega)]) | (refine q_op (o_sadd rfl rfl (by decide) rfl rfl rfl (by rw [ba_size, ba_size]; simp only [hexL_len, List.length_take, List.length_append, List.length_cons, List.length_nil] <;> omega)) ?_; rw [ba_app]) | refine q_end ?_ | refine s_draw (by kernel_rfl) (by kernel_rfl) ?_)
    repeat (first | refine l_op (o_move rfl rfl (by decide) rfl rfl) ?_ | refine l_nil ?_ | refine s_region ?_ | refine l_op (o_add (k := .i64) rfl rfl (by decide) rfl rfl rfl (IntWalk.i64_in _ (by omega))) ?_)
    refine x_round (i + 1) [0, 1, 2, 3] (by decide) hin (by show r.bs.length - (i + 1) < r.bs.length - i; omega) (.cons rfl rfl (.cons rfl rfl (.cons rfl rfl (.cons rfl rfl (.cons rfl rfl (.cons rfl (by rw [← hx_step HCC.out]) (.cons rfl rfl (.cons rfl rfl (.cons rfl (by go_num) .nil))))))))) rfl
  have htk : r.bs.take i = r.bs := List.take_of_length_le (by omega)
  rw [htk]
  repeat (first | refine l_op (o_assign rfl rfl (by decide) rfl rfl) ?_ | refine l_op (o_fieldAddr rfl rfl (by decide) rfl rfl) ?_ | refine l_op (o_load rfl rfl (by decide) rfl rfl (by first | exact fun w hw => hw.cell_blkL 0 rfl rfl | exact fun w hw => hw.cell_blkL 1 rfl rfl | exact fun w hw => hw.cell_blkL 2 rfl rfl | exact fun w hw => hw.cell_blkL 3 rfl rfl | exact fun w hw => hw.cell_blkL 4 rfl rfl | exact fun w hw => hw.cell_blkL 5 rfl rfl | exact fun w hw => hw.cell_old (by assumption) (by simp) | exact fun w hw => hw.cell_range (by assumption) rfl (by simp))) ?_ | refine l_nil ?_ | refine s_seq ?_ | refine s_region ?_ | refine s_cond_false rfl ?_ | refine s_exit ?_ | refine l_op (o_lss rfl rfl (by decide) rfl rfl rfl (by first | assumption | exact decide_eq_true (by omega) | exact decide_eq_false (by omega) | rfl)) ?_)
  refine s_meet (ι := Unit) (fun _ => True) (fun _ => [(2, .pointer (some ⟨bf, 0, none⟩)), (3, .pointer (some ⟨br, 0, none⟩)), (5, .pointer (some ⟨g, 0, none⟩)), (6, .func (.func 65) #[] #[.pointer (some ⟨g, 0, none⟩)]), (7, .bool (r.kind == 2)), (8, .string ⟨(hexL r.bs).toArray⟩), (11, .string ⟨(if r.big then bigW else littleW).toArray⟩)]) (fun _ => [Atom.blk g (.cells [.slice (some ⟨bs, 0, none⟩) ws0.length 2].toArray 50 (0, 0)), Atom.row (some ⟨bs, 0, none⟩) ws0.length 2 9 1 (sv ws0), Atom.blk br (.cells (ruC r (.slice Ab r.bs.length cb) (.slice An r.names.length cn) (.slice Ap r.parts.length cp)).toArray 52 (0, 0)), Atom.blk bf (.cells [.slice (some ⟨b, o, none⟩) n c].toArray 24 (0, 0))]) ?_ ?_
  · refine s_cond rfl (fun hb => ?_) (fun hb => ?_)
    · skip
      repeat (first | refine l_op (o_assign rfl rfl (by decide) rfl rfl) ?_ | refine l_nil ?_ | refine s_region ?_)
      exact x_meet () [0, 1, 2, 3] (by decide) trivial (.cons rfl rfl (.cons rfl rfl (.cons rfl rfl (.cons rfl rfl (.cons rfl rfl (.cons rfl rfl (.cons rfl (by rw [hb]; rfl) .nil))))))) rfl
    · skip
      repeat (first | refine s_skip ?_)
      exact x_meet () [0, 1, 2, 3] (by decide) trivial (.cons rfl rfl (.cons rfl rfl (.cons rfl rfl (.cons rfl rfl (.cons rfl rfl (.cons rfl rfl (.cons rfl (by rw [hb]; rfl) .nil))))))) rfl
  rintro _ _
  repeat (first | refine l_op (o_move rfl rfl (by decide) rfl rfl) ?_ | refine l_op (o_fieldAddr rfl rfl (by decide) rfl rfl) ?_ | refine l_op (o_load rfl rfl (by decide) rfl rfl (by first | exact fun w hw => hw.cell_blkL 0 rfl rfl | exact fun w hw => hw.cell_blkL 1 rfl rfl | exact fun w hw => hw.cell_blkL 2 rfl rfl | exact fun w hw => hw.cell_blkL 3 rfl rfl | exact fun w hw => hw.cell_blkL 4 rfl rfl | exact fun w hw => hw.cell_blkL 5 rfl rfl | exact fun w hw => hw.cell_old (by assumption) (by simp) | exact fun w hw => hw.cell_range (by assumption) rfl (by simp))) ?_ | refine l_loud (u_callv (f := 65) (fun _ : Option Addr × Nat => .tuple #[]) (fun _ => True) _ rfl rfl rfl rfl (fun w hw => add_wd _ _ (by omega) hw)) rfl (by decide) (fun y1 _ => ?_) | refine l_nil ?_ | refine s_seq ?_ | refine s_region ?_ | refine l_op (o_eql rfl rfl (by decide) rfl rfl rfl (by first | assumption | exact beq_iff_eq.2 (by omega) | exact beq_eq_false_iff_ne.2 (by omega) | rfl)) ?_)
  generalize hw1 : ws0 ++ ifW (r.kind == 1) (hexL r.bs) = ws1
  have hl1 := ifW_le hw1 hl0
  refine s_drawnO [6] (by kernel_rfl) ?_
  first | refine d_op 0 rfl (by kernel_rfl) (Through.rfl_) (o_move rfl rfl (by decide) rfl rfl) ?_
  first | refine d_op 1 rfl (by kernel_rfl) (Through.rfl_) (o_loadN rfl rfl (by decide) rfl rfl (by first | exact fun w hw => hw.range_blk 0 rfl | exact fun w hw => hw.range_blk 1 rfl | exact fun w hw => hw.range_blk 2 rfl | exact fun w hw => hw.range_blk 3 rfl | exact fun w hw => hw.range_blk 4 rfl | exact fun w hw => hw.range_blk 5 rfl | exact fun w hw => hw.range_old (by assumption) (by simp)) (by first | rfl | exact setC_len _)) ?_
  first | refine d_op 2 rfl (by kernel_rfl) (Through.rfl_) (o_call (f := 66) rfl rfl (by decide) rfl rfl (fun w hw => usesStop_calls w)) ?_
  first | refine d_op 3 rfl (by kernel_rfl) (Through.rfl_) (o_fieldAddr rfl rfl (by decide) rfl rfl) ?_
  first | refine d_op 4 rfl (by kernel_rfl) (Through.rfl_) (o_load rfl rfl (by decide) rfl rfl (by first | exact fun w hw => hw.cell_blkL 0 rfl rfl | exact fun w hw => hw.cell_blkL 1 rfl rfl | exact fun w hw => hw.cell_blkL 2 rfl rfl | exact fun w hw => hw.cell_blkL 3 rfl rfl | exact fun w hw => hw.cell_blkL 4 rfl rfl | exact fun w hw => hw.cell_blkL 5 rfl rfl | exact fun w hw => hw.cell_old (by assumption) (by simp) | exact fun w hw => hw.cell_range (by assumption) rfl (by simp))) ?_
  first | refine d_op 5 rfl (by kernel_rfl) (Through.rfl_) (o_call (f := 67) rfl rfl (by decide) rfl rfl (fun w hw => itoa_calls (HG.out.on hw.k.below) (by omega) (by omega))) ?_
  refine d_loud 6 (by kernel_rfl) rfl rfl (u_callv (f := 65) (fun _ : Option Addr × Nat => .tuple #[]) (fun _ => True) _ rfl rfl rfl rfl (fun w hw => add_wd _ _ (by omega) hw)) (fun _ => .inl (by decide)) rfl (by decide) (fun y2 _ => ?_)
  refine d_end ?_ (by kernel_rfl)
  generalize hw2 : ws1 ++ ifW (useStop r.kind) (Lib.itoa r.stop) = ws2
  have hl2 := ifW_le hw2 hl1
  repeat (first | refine s_seq ?_)
  refine s_drawnO [6] (by kernel_rfl) ?_
  first | refine d_op 0 rfl (by kernel_rfl) (Through.rfl_) (o_move rfl rfl (by decide) rfl rfl) ?_
  first | refine d_op 1 rfl (by kernel_rfl) (Through.rfl_) (o_loadN rfl rfl (by decide) rfl rfl (by first | exact fun w hw => hw.range_blk 0 rfl | exact fun w hw => hw.range_blk 1 rfl | exact fun w hw => hw.range_blk 2 rfl | exact fun w hw => hw.range_blk 3 rfl | exact fun w hw => hw.range_blk 4 rfl | exact fun w hw => hw.range_blk 5 rfl | exact fun w hw => hw.range_old (by assumption) (by simp)) (by first | rfl | exact setC_len _)) ?_
  first | refine d_op 2 rfl (by kernel_rfl) (Through.rfl_) (o_call (f := 68) rfl rfl (by decide) rfl rfl (fun w hw => usesSize_calls w)) ?_
  first | refine d_op 3 rfl (by kernel_rfl) (Through.rfl_) (o_fieldAddr rfl rfl (by decide) rfl rfl) ?_
  first | refine d_op 4 rfl (by kernel_rfl) (Through.rfl_) (o_load rfl rfl (by decide) rfl rfl (by first | exact fun w hw => hw.cell_blkL 0 rfl rfl | exact fun w hw => hw.cell_blkL 1 rfl rfl | exact fun w hw => hw.cell_blkL 2 rfl rfl | exact fun w hw => hw.cell_blkL 3 rfl rfl | exact fun w hw => hw.cell_blkL 4 rfl rfl | exact fun w hw => hw.cell_blkL 5 rfl rfl | exact fun w hw => hw.cell_old (by assumption) (by simp) | exact fun w hw => hw.cell_range (by assumption) rfl (by simp))) ?_
  first | refine d_op 5 rfl (by kernel_rfl) (Through.rfl_) (o_call (f := 67) rfl rfl (by decide) rfl rfl (fun w hw => itoa_calls (HG.out.on hw.k.below) (by omega) (by omega))) ?_
  refine d_loud 6 (by kernel_rfl) rfl rfl (u_callv (f := 65) (fun _ : Option Addr × Nat => .tuple #[]) (fun _ => True) _ rfl rfl rfl rfl (fun w hw => add_wd _ _ (by omega) hw)) (fun _ => .inl (by decide)) rfl (by decide) (fun y3 _ => ?_)
  refine d_end ?_ (by kernel_rfl)
  generalize hw3 : ws2 ++ ifW (useSize r.kind) (Lib.itoa r.size) = ws3
  have hl3 := ifW_le hw3 hl2
  repeat (first | refine l_op (o_move rfl rfl (by decide) rfl rfl) ?_ | refine l_op (o_fieldAddr rfl rfl (by decide) rfl rfl) ?_ | refine l_op (o_load rfl rfl (by decide) rfl rfl (by first | exact fun w hw => hw.cell_blkL 0 rfl rfl | exact fun w hw => hw.cell_blkL 1 rfl rfl | exact fun w hw => hw.cell_blkL 2 rfl rfl | exact fun w hw => hw.cell_blkL 3 rfl rfl | exact fun w hw => hw.cell_blkL 4 rfl rfl | exact fun w hw => hw.cell_blkL 5 rfl rfl | exact fun w hw => hw.cell_old (by assumption) (by simp) | exact fun w hw => hw.cell_range (by assumption) rfl (by simp))) ?_ | refine l_loud (u_callv (f := 65) (fun _ : Option Addr × Nat => .tuple #[]) (fun _ => True) _ rfl rfl rfl rfl (fun w hw => add_wd _ _ (by omega) hw)) rfl (by decide) (fun y4 _ => ?_) | refine l_op (o_call (f := 67) rfl rfl (by decide) rfl rfl (fun w hw => itoa_calls (HG.out.on hw.k.below) (by omega) (by omega))) ?_ | refine l_nil ?_ | refine s_seq ?_ | refine s_region ?_)
  generalize hw4 : ws3 ++ ifW (r.kind == 2) (if r.big then bigW else littleW) = ws4
  have hl4 := ifW_le hw4 hl3
  repeat (first | refine l_loud (u_callv (f := 65) (fun _ : Option Addr × Nat => .tuple #[]) (fun _ => True) _ rfl rfl rfl rfl (fun w hw => add_wd _ _ (by omega) hw)) rfl (by decide) (fun y5 _ => ?_) | refine l_nil ?_ | refine s_seq ?_)
  generalize hw5 : ws4 ++ ifW (r.kind == 2) (Lib.itoa r.mn) = ws5
  have hl5 := ifW_le hw5 hl4
  skip
  refine s_drawnO [6] (by kernel_rfl) ?_
  first | refine d_op 0 rfl (by kernel_rfl) (Through.rfl_) (o_move rfl rfl (by decide) rfl rfl) ?_
  first | refine d_op 1 rfl (by kernel_rfl) (Through.rfl_) (o_loadN rfl rfl (by decide) rfl rfl (by first | exact fun w hw => hw.range_blk 0 rfl | exact fun w hw => hw.range_blk 1 rfl | exact fun w hw => hw.range_blk 2 rfl | exact fun w hw => hw.range_blk 3 rfl | exact fun w hw => hw.range_blk 4 rfl | exact fun w hw => hw.range_blk 5 rfl | exact fun w hw => hw.range_old (by assumption) (by simp)) (by first | rfl | exact setC_len _)) ?_
  first | refine d_op 2 rfl (by kernel_rfl) (Through.rfl_) (o_call (f := 69) rfl rfl (by decide) rfl rfl (fun w hw => usesMax_calls w)) ?_
  first | refine d_op 3 rfl (by kernel_rfl) (Through.rfl_) (o_fieldAddr rfl rfl (by decide) rfl rfl) ?_
  first | refine d_op 4 rfl (by kernel_rfl) (Through.rfl_) (o_load rfl rfl (by decide) rfl rfl (by first | exact fun w hw => hw.cell_blkL 0 rfl rfl | exact fun w hw => hw.cell_blkL 1 rfl rfl | exact fun w hw => hw.cell_blkL 2 rfl rfl | exact fun w hw => hw.cell_blkL 3 rfl rfl | exact fun w hw => hw.cell_blkL 4 rfl rfl | exact fun w hw => hw.cell_blkL 5 rfl rfl | exact fun w hw => hw.cell_old (by assumption) (by simp) | exact fun w hw => hw.cell_range (by assumption) rfl (by simp))) ?_
  first | refine d_op 5 rfl (by kernel_rfl) (Through.rfl_) (o_call (f := 67) rfl rfl (by decide) rfl rfl (fun w hw => itoa_calls (HG.out.on hw.k.below) (by omega) (by omega))) ?_
  refine d_loud 6 (by kernel_rfl) rfl rfl (u_callv (f := 65) (fun _ : Option Addr × Nat => .tuple #[]) (fun _ => True) _ rfl rfl rfl rfl (fun w hw => add_wd _ _ (by omega) hw)) (fun _ => .inl (by decide)) rfl (by decide) (fun y6 _ => ?_)
  refine d_end ?_ (by kernel_rfl)
  generalize hw6 : ws5 ++ ifW (useMax r.kind) (Lib.itoa r.mx) = ws6
  have hl6 := ifW_le hw6 hl5
  repeat (first | refine s_seq ?_)
  refine s_drawnO [10] (by kernel_rfl) ?_
  first | refine d_op 0 rfl (by kernel_rfl) (Through.rfl_) (o_move rfl rfl (by decide) rfl rfl) ?_
  first | refine d_op 1 rfl (by kernel_rfl) (Through.rfl_) (o_loadN rfl rfl (by decide) rfl rfl (by first | exact fun w hw => hw.range_blk 0 rfl | exact fun w hw => hw.range_blk 1 rfl | exact fun w hw => hw.range_blk 2 rfl | exact fun w hw => hw.range_blk 3 rfl | exact fun w hw => hw.range_blk 4 rfl | exact fun w hw => hw.range_blk 5 rfl | exact fun w hw => hw.range_old (by assumption) (by simp)) (by first | rfl | exact setC_len _)) ?_
  first | refine d_op 2 rfl (by kernel_rfl) (Through.rfl_) (o_call (f := 70) rfl rfl (by decide) rfl rfl (fun w hw => usesCount_calls w)) ?_
  first | refine d_op 3 rfl (by kernel_rfl) (Through.rfl_) (o_fieldAddr rfl rfl (by decide) rfl rfl) ?_
  first | refine d_op 4 rfl (by kernel_rfl) (Through.rfl_) (o_load rfl rfl (by decide) rfl rfl (by first | exact fun w hw => hw.cell_blkL 0 rfl rfl | exact fun w hw => hw.cell_blkL 1 rfl rfl | exact fun w hw => hw.cell_blkL 2 rfl rfl | exact fun w hw => hw.cell_blkL 3 rfl rfl | exact fun w hw => hw.cell_blkL 4 rfl rfl | exact fun w hw => hw.cell_blkL 5 rfl rfl | exact fun w hw => hw.cell_old (by assumption) (by simp) | exact fun w hw => hw.cell_range (by assumption) rfl (by simp))) ?_
  first | refine d_op 5 rfl (by kernel_rfl) (Through.rfl_) (o_fieldAddr rfl rfl (by decide) rfl rfl) ?_
  first | refine d_op 6 rfl (by kernel_rfl) (Through.rfl_) (o_load rfl rfl (by decide) rfl rfl (by first | exact fun w hw => hw.cell_blkL 0 rfl rfl | exact fun w hw => hw.cell_blkL 1 rfl rfl | exact fun w hw => hw.cell_blkL 2 rfl rfl | exact fun w hw => hw.cell_blkL 3 rfl rfl | exact fun w hw => hw.cell_blkL 4 rfl rfl | exact fun w hw => hw.cell_blkL 5 rfl rfl | exact fun w hw => hw.cell_old (by assumption) (by simp) | exact fun w hw => hw.cell_range (by assumption) rfl (by simp))) ?_
  first | refine d_op 7 rfl (by kernel_rfl) (Through.rfl_) (o_indexAddrI rfl rfl (by decide) rfl rfl rfl hkc) ?_
  first | refine d_op 8 rfl (by kernel_rfl) (Through.rfl_) (o_fieldAddr rfl rfl (by decide) rfl rfl) ?_
  first | refine d_op 9 rfl (by kernel_rfl) (Through.rfl_) (o_load rfl rfl (by decide) rfl rfl (by first | exact fun w hw => hw.cell_blkL 0 rfl rfl | exact fun w hw => hw.cell_blkL 1 rfl rfl | exact fun w hw => hw.cell_blkL 2 rfl rfl | exact fun w hw => hw.cell_blkL 3 rfl rfl | exact fun w hw => hw.cell_blkL 4 rfl rfl | exact fun w hw => hw.cell_blkL 5 rfl rfl | exact fun w hw => hw.cell_old (by assumption) (by simp) | exact fun w hw => hw.cell_range (by assumption) rfl (by simp))) ?_
  refine d_loud 10 (by kernel_rfl) rfl rfl (u_callv (f := 65) (fun _ : Option Addr × Nat => .tuple #[]) (fun _ => True) _ rfl rfl rfl rfl (fun w hw => add_wd _ _ (by omega) hw)) (fun _ => .inl (by decide)) rfl (by decide) (fun y7 _ => ?_)
  refine d_end ?_ (by kernel_rfl)
  generalize hw7 : ws6 ++ ifW (useCount r.kind) (rc.name) = ws7
  have hl7 := ifW_le hw7 hl6
  repeat (first | refine s_seq ?_)
  refine s_drawnO [10] (by kernel_rfl) ?_
  first | refine d_op 0 rfl (by kernel_rfl) (Through.rfl_) (o_move rfl rfl (by decide) rfl rfl) ?_
  first | refine d_op 1 rfl (by kernel_rfl) (Through.rfl_) (o_loadN rfl rfl (by decide) rfl rfl (by first | exact fun w hw => hw.range_blk 0 rfl | exact fun w hw => hw.range_blk 1 rfl | exact fun w hw => hw.range_blk 2 rfl | exact fun w hw => hw.range_blk 3 rfl | exact fun w hw => hw.range_blk 4 rfl | exact fun w hw => hw.range_blk 5 rfl | exact fun w hw => hw.range_old (by assumption) (by simp)) (by first | rfl | exact setC_len _)) ?_
  first | refine d_op 2 rfl (by kernel_rfl) (Through.rfl_) (o_call (f := 71) rfl rfl (by decide) rfl rfl (fun w hw => usesOf_calls w)) ?_
  first | refine d_op 3 rfl (by kernel_rfl) (Through.rfl_) (o_fieldAddr rfl rfl (by decide) rfl rfl) ?_
  first | refine d_op 4 rfl (by kernel_rfl) (Through.rfl_) (o_load rfl rfl (by decide) rfl rfl (by first | exact fun w hw => hw.cell_blkL 0 rfl rfl | exact fun w hw => hw.cell_blkL 1 rfl rfl | exact fun w hw => hw.cell_blkL 2 rfl rfl | exact fun w hw => hw.cell_blkL 3 rfl rfl | exact fun w hw => hw.cell_blkL 4 rfl rfl | exact fun w hw => hw.cell_blkL 5 rfl rfl | exact fun w hw => hw.cell_old (by assumption) (by simp) | exact fun w hw => hw.cell_range (by assumption) rfl (by simp))) ?_
  first | refine d_op 5 rfl (by kernel_rfl) (Through.rfl_) (o_fieldAddr rfl rfl (by decide) rfl rfl) ?_
  first | refine d_op 6 rfl (by kernel_rfl) (Through.rfl_) (o_load rfl rfl (by decide) rfl rfl (by first | exact fun w hw => hw.cell_blkL 0 rfl rfl | exact fun w hw => hw.cell_blkL 1 rfl rfl | exact fun w hw => hw.cell_blkL 2 rfl rfl | exact fun w hw => hw.cell_blkL 3 rfl rfl | exact fun w hw => hw.cell_blkL 4 rfl rfl | exact fun w hw => hw.cell_blkL 5 rfl rfl | exact fun w hw => hw.cell_old (by assumption) (by simp) | exact fun w hw => hw.cell_range (by assumption) rfl (by simp))) ?_
  first | refine d_op 7 rfl (by kernel_rfl) (Through.rfl_) (o_indexAddrI rfl rfl (by decide) rfl rfl rfl hke) ?_
  first | refine d_op 8 rfl (by kernel_rfl) (Through.rfl_) (o_fieldAddr rfl rfl (by decide) rfl rfl) ?_
  first | refine d_op 9 rfl (by kernel_rfl) (Through.rfl_) (o_load rfl rfl (by decide) rfl rfl (by first | exact fun w hw => hw.cell_blkL 0 rfl rfl | exact fun w hw => hw.cell_blkL 1 rfl rfl | exact fun w hw => hw.cell_blkL 2 rfl rfl | exact fun w hw => hw.cell_blkL 3 rfl rfl | exact fun w hw => hw.cell_blkL 4 rfl rfl | exact fun w hw => hw.cell_blkL 5 rfl rfl | exact fun w hw => hw.cell_old (by assumption) (by simp) | exact fun w hw => hw.cell_range (by assumption) rfl (by simp))) ?_
  refine d_loud 10 (by kernel_rfl) rfl rfl (u_callv (f := 65) (fun _ : Option Addr × Nat => .tuple #[]) (fun _ => True) _ rfl rfl rfl rfl (fun w hw => add_wd _ _ (by omega) hw)) (fun _ => .inl (by decide)) rfl (by decide) (fun y8 _ => ?_)
  refine d_end ?_ (by kernel_rfl)
  generalize hw8 : ws7 ++ ifW (useOf r.kind) (rm.name) = ws8
  have hl8 := ifW_le hw8 hl7
  repeat (first | refine l_op (o_move rfl rfl (by decide) rfl rfl) ?_ | refine l_op (o_fieldAddr rfl rfl (by decide) rfl rfl) ?_ | refine l_op (o_load rfl rfl (by decide) rfl rfl (by first | exact fun w hw => hw.cell_blkL 0 rfl rfl | exact fun w hw => hw.cell_blkL 1 rfl rfl | exact fun w hw => hw.cell_blkL 2 rfl rfl | exact fun w hw => hw.cell_blkL 3 rfl rfl | exact fun w hw => hw.cell_blkL 4 rfl rfl | exact fun w hw => hw.cell_blkL 5 rfl rfl | exact fun w hw => hw.cell_old (by assumption) (by simp) | exact fun w hw => hw.cell_range (by assumption) rfl (by simp))) ?_ | refine l_nil ?_ | refine s_seq ?_ | refine s_region ?_ | refine s_block ?_ | refine l_op (o_len rfl rfl (by decide) rfl rfl) ?_)
  have hh : ws8 = headWs F r := by
    rw [← hw8, ← hw7, ← hw6, ← hw5, ← hw4, ← hw3, ← hw2, ← hw1, ← hw0]
    unfold headWs
    rw [HNC.out, HNM.out]
  have HH := Lib.hid hh
  clear hw0 hw1 hw2 hw3 hw4 hw5 hw6 hw7 hw8 hl0 hl1 hl2 hl3 hl4 hl5 hl6 hl7 hh
  refine s_loop (ι := Nat × Option Addr × Nat) (fun y => y.1 ≤ r.parts.length) (fun y => r.parts.length - y.1) (fun y => [(2, .pointer (some ⟨bf, 0, none⟩)), (3, .pointer (some ⟨br, 0, none⟩)), (5, .pointer (some ⟨g, 0, none⟩)), (6, .func (.func 65) #[] #[.pointer (some ⟨g, 0, none⟩)]), (113, .slice Ap r.parts.length cp), (114, .int .i64 (r.parts.length : Int)), (115, .int .i64 (y.1 : Int))]) (fun y => [Atom.blk g (.cells [.slice y.2.1 (ws8 ++ (List.range y.1).map (partW F r)).length y.2.2].toArray 50 (0, 0)), Atom.row y.2.1 (ws8 ++ (List.range y.1).map (partW F r)).length y.2.2 9 1 (sv (ws8 ++ (List.range y.1).map (partW F r))), Atom.blk br (.cells (ruC r (.slice Ab r.bs.length cb) (.slice An r.names.length cn) (.slice Ap r.parts.length cp)).toArray 52 (0, 0)), Atom.blk bf (.cells [.slice (some ⟨b, o, none⟩) n c].toArray 24 (0, 0))]) (0, y8.1, y8.2) [0, 1, 2, 3] (by decide) (Nat.zero_le _) (.cons rfl rfl (.cons rfl rfl (.cons rfl rfl (.cons rfl rfl (.cons rfl rfl (.cons rfl rfl (.cons rfl rfl .nil))))))) (by
    show _ = [Atom.blk g (.cells [.slice y8.1 (ws8 ++ (List.range 0).map (partW F r)).length y8.2].toArray 50 (0, 0)), Atom.row y8.1 (ws8 ++ (List.range 0).map (partW F r)).length y8.2 9 1 (sv (ws8 ++ (List.range 0).map (partW F r))), Atom.blk br (.cells (ruC r (.slice Ab r.bs.length cb) (.slice An r.names.length cn) (.slice Ap r.parts.length cp)).toArray 52 (0, 0)), Atom.blk bf (.cells [.slice (some ⟨b, o, none⟩) n c].toArray 24 (0, 0))]
    rw [show (List.range 0).map (partW F r) = [] from rfl, List.append_nil]
    rfl) ?_
  rintro ⟨i, A', c'⟩ hi
  have hi' : i ≤ r.parts.length := hi
  clear hi
  show sE _ _ _ _ _ [(2, .pointer (some ⟨bf, 0, none⟩)), (3, .pointer (some ⟨br, 0, none⟩)), (5, .pointer (some ⟨g, 0, none⟩)), (6, .func (.func 65) #[] #[.pointer (some ⟨g, 0, none⟩)]), (113, .slice Ap r.parts.length cp), (114, .int .i64 (r.parts.length : Int)), (115, .int .i64 (i : Int))] [Atom.blk g (.cells [.slice A' (ws8 ++ (List.range i).map (partW F r)).length c'].toArray 50 (0, 0)), Atom.row A' (ws8 ++ (List.range i).map (partW F r)).length c' 9 1 (sv (ws8 ++ (List.range i).map (partW F r))), Atom.blk br (.cells (ruC r (.slice Ab r.bs.length cb) (.slice An r.names.length cn) (.slice Ap r.parts.length cp)).toArray 52 (0, 0)), Atom.blk bf (.cells [.slice (some ⟨b, o, none⟩) n c].toArray 24 (0, 0))] _
  obtain ⟨wp, hwp⟩ : ∃ wp, wp = ws8 ++ (List.range i).map (partW F r) := ⟨_, rfl⟩
  have hlp : wp.length ≤ 100 := by rw [hwp, List.length_append, List.length_map, List.length_range]; omega
  rw [← hwp]
  have HWP := Lib.hid hwp
  clear hwp
  by_cases hin : i < r.parts.length
  · obtain ⟨bp, op, hA, _, hpc⟩ := HL.out.p.2 (by omega)
    subst hA
    obtain ⟨x, hx⟩ : ∃ x, r.parts[i]? = some x := ⟨_, List.getElem?_eq_getElem hin⟩
    have hcp : W.cell? ⟨bp, op + i, none⟩ = some (.int .i64 x) := hpc i _ (by unfold iv; rw [List.getElem?_map, hx]; rfl)
    have hxn : 0 ≤ x ∧ x < (n : Int) := by
      have h78 : r.kind = 7 ∨ r.kind = 8 := by
        refine Classical.byContradiction fun hno => ?_
        have := (zr_of HLO.out.ok).parts (by omega) (by omega)
        rw [this] at hin
        exact absurd hin (by simp)
      have := HLO.out.ok.parts h78 x (List.mem_of_getElem? hx)
      rw [HLEN.out] at this
      exact this
    obtain ⟨rx, Ax, cx, Bx, dx, Cx, ex, hrx, hgx, _⟩ := HFM.out.rl (i := x.toNat) (by omega)
    have hnx := nmAt_eq hrx
    have hnl : rx.name.length ≤ 32 := by rw [← hnx]; exact name_len (HLO.out.all x (by rw [HLEN.out]; exact hxn))
    have hgp : r.parts.getD i 0 = x := by rw [List.getD_eq_getElem?_getD, hx]; rfl
    have HX := Lib.hid (show nmAt F (r.parts.getD i 0) = rx.name by rw [hgp, hnx])
    clear hx hrx hnx hgp hpc
    have hstep : ∀ q, q = partW F r i → wp ++ [q] = ws8 ++ (List.range (i + 1)).map (partW F r) := fun q hq => by rw [hq, HWP.out, List.range_succ, List.map_append, List.append_assoc]; rfl
    have HST := Lib.hid hstep
    clear hstep
    by_cases h7 : r.kind = 7
    · have hk7 : (r.kind == 7) = true := beq_iff_eq.2 h7
      have hnp := (HLO.out.ok.seven h7).1
      obtain ⟨bn, on, hAn, _, hnc⟩ := HL.out.n.2 (by omega)
      subst hAn
      obtain ⟨l, hl'⟩ : ∃ l, r.names[i]? = some l := ⟨_, List.getElem?_eq_getElem (by omega)⟩
      have hcn : W.cell? ⟨bn, on + i, none⟩ = some (.string ⟨l.toArray⟩) := hnc i _ (by unfold sv; rw [List.getElem?_map, hl']; rfl)
      have hinn : i < r.names.length := by omega
      have hll : l.length ≤ 32 := by
        rcases HLO.out.part h7 l (List.mem_of_getElem? hl') with rfl | h
        · decide
        · exact name_len h
      have HGN := Lib.hid (show r.names.getD i [] = l by rw [List.getD_eq_getElem?_getD, hl']; rfl)
      clear hl' hnc hnp
      by_cases he : l = []
      · subst he
        repeat (first | refine l_op (o_move rfl rfl (by decide) rfl rfl) ?_ | refine l_op (o_assign rfl rfl (by decide) rfl rfl) ?_ | refine l_op (o_fieldAddr rfl rfl (by decide) rfl rfl) ?_ | refine l_op (o_load rfl rfl (by decide) rfl rfl (by first | exact fun w hw => hw.cell_blkL 0 rfl rfl | exact fun w hw => hw.cell_blkL 1 rfl rfl | exact fun w hw => hw.cell_blkL 2 rfl rfl | exact fun w hw => hw.cell_blkL 3 rfl rfl | exact fun w hw => hw.cell_blkL 4 rfl rfl | exact fun w hw => hw.cell_blkL 5 rfl rfl | exact fun w hw => hw.cell_old (by assumption) (by simp) | exact fun w hw => hw.cell_range (by assumption) rfl (by simp))) ?_ | refine l_op (o_indexAddr1 rfl rfl (by decide) rfl rfl rfl (by assumption)) ?_ | refine l_op (o_indexAddrI rfl rfl (by decide) rfl rfl rfl hxn) ?_ | (refine l_op (o_sadd rfl rfl (by decide) rfl rfl rfl (by rw [ba_size, ba_size]; simp only [hexL_len, List.length_take, List.length_append, List.length_cons, List.length_nil] <;> omega)) ?_; rw [ba_app]) | refine l_loud (u_callv (f := 65) (fun _ : Option Addr × Nat => .tuple #[]) (fun _ => True) _ rfl rfl rfl rfl (fun w hw => add_wd _ _ (by omega) hw)) rfl (by decide) (fun yz _ => ?_) | refine l_nil ?_ | refine s_seq ?_ | refine s_region ?_ | refine s_skip ?_ | refine s_cond_true rfl ?_ | refine s_block ?_ | refine l_op (o_eql rfl rfl (by decide) rfl rfl rfl (by first | assumption | exact beq_iff_eq.2 (by omega) | exact beq_eq_false_iff_ne.2 (by omega) | rfl)) ?_ | refine l_op (o_lss rfl rfl (by decide) rfl rfl rfl (by first | assumption | exact decide_eq_true (by omega) | exact decide_eq_false (by omega) | rfl)) ?_ | refine l_op (o_add (k := .i64) rfl rfl (by decide) rfl rfl rfl (IntWalk.i64_in _ (by omega))) ?_ | refine l_op (o_seql rfl rfl (by decide) rfl rfl rfl (by first | assumption | rfl)) ?_)
        refine x_round (i + 1, yz.1, yz.2) [0, 1, 2, 3] (by decide) hin (by show r.parts.length - (i + 1) < r.parts.length - i; omega) (.cons rfl rfl (.cons rfl rfl (.cons rfl rfl (.cons rfl rfl (.cons rfl rfl (.cons rfl rfl (.cons rfl (by go_num) .nil))))))) ?_
        have hq := HST.out ([45] ++ [58] ++ rx.name) (by unfold partW; rw [hk7, HGN.out, HX.out]; rfl)
        show [Atom.blk g (.cells [.slice yz.1 (wp ++ [[45] ++ [58] ++ rx.name]).length yz.2].toArray 50 (0, 0)), Atom.row yz.1 (wp ++ [[45] ++ [58] ++ rx.name]).length yz.2 9 1 (sv (wp ++ [[45] ++ [58] ++ rx.name])), _, _] = [Atom.blk g (.cells [.slice yz.1 (ws8 ++ (List.range (i + 1)).map (partW F r)).length yz.2].toArray 50 (0, 0)), Atom.row yz.1 (ws8 ++ (List.range (i + 1)).map (partW F r)).length yz.2 9 1 (sv (ws8 ++ (List.range (i + 1)).map (partW F r))), _, _]
        rw [hq]
        rfl
      · have hle : ((⟨l.toArray⟩ : ByteArray).data.toList == (⟨#[]⟩ : ByteArray).data.toList) = false := beq_eq_false_iff_ne.2 (by simpa using he)
        repeat (first | refine l_op (o_move rfl rfl (by decide) rfl rfl) ?_ | refine l_op (o_assign rfl rfl (by decide) rfl rfl) ?_ | refine l_op (o_fieldAddr rfl rfl (by decide) rfl rfl) ?_ | refine l_op (o_load rfl rfl (by decide) rfl rfl (by first | exact fun w hw => hw.cell_blkL 0 rfl rfl | exact fun w hw => hw.cell_blkL 1 rfl rfl | exact fun w hw => hw.cell_blkL 2 rfl rfl | exact fun w hw => hw.cell_blkL 3 rfl rfl | exact fun w hw => hw.cell_blkL 4 rfl rfl | exact fun w hw => hw.cell_blkL 5 rfl rfl | exact fun w hw => hw.cell_old (by assumption) (by simp) | exact fun w hw => hw.cell_range (by assumption) rfl (by simp))) ?_ | refine l_op (o_indexAddr1 rfl rfl (by decide) rfl rfl rfl (by assumption)) ?_ | refine l_op (o_indexAddrI rfl rfl (by decide) rfl rfl rfl hxn) ?_ | (refine l_op (o_sadd rfl rfl (by decide) rfl rfl rfl (by rw [ba_size, ba_size]; simp only [hexL_len, List.length_take, List.length_append, List.length_cons, List.length_nil] <;> omega)) ?_; rw [ba_app]) | refine l_loud (u_callv (f := 65) (fun _ : Option Addr × Nat => .tuple #[]) (fun _ => True) _ rfl rfl rfl rfl (fun w hw => add_wd _ _ (by omega) hw)) rfl (by decide) (fun yz _ => ?_) | refine l_nil ?_ | refine s_seq ?_ | refine s_region ?_ | refine s_skip ?_ | refine s_cond_true rfl ?_ | refine s_cond_false rfl ?_ | refine s_block ?_ | refine l_op (o_eql rfl rfl (by decide) rfl rfl rfl (by first | assumption | exact beq_iff_eq.2 (by omega) | exact beq_eq_false_iff_ne.2 (by omega) | rfl)) ?_ | refine l_op (o_lss rfl rfl (by decide) rfl rfl rfl (by first | assumption | exact decide_eq_true (by omega) | exact decide_eq_false (by omega) | rfl)) ?_ | refine l_op (o_add (k := .i64) rfl rfl (by decide) rfl rfl rfl (IntWalk.i64_in _ (by omega))) ?_ | refine l_op (o_seql rfl rfl (by decide) rfl rfl rfl (by first | assumption | rfl)) ?_)
        refine x_round (i + 1, yz.1, yz.2) [0, 1, 2, 3] (by decide) hin (by show r.parts.length - (i + 1) < r.parts.length - i; omega) (.cons rfl rfl (.cons rfl rfl (.cons rfl rfl (.cons rfl rfl (.cons rfl rfl (.cons rfl rfl (.cons rfl (by go_num) .nil))))))) ?_
        have hq := HST.out (l ++ [58] ++ rx.name) (by unfold partW; rw [hk7, HGN.out, HX.out, beq_eq_false_iff_ne.2 he]; rfl)
        show [Atom.blk g (.cells [.slice yz.1 (wp ++ [l ++ [58] ++ rx.name]).length yz.2].toArray 50 (0, 0)), Atom.row yz.1 (wp ++ [l ++ [58] ++ rx.name]).length yz.2 9 1 (sv (wp ++ [l ++ [58] ++ rx.name])), _, _] = [Atom.blk g (.cells [.slice yz.1 (ws8 ++ (List.range (i + 1)).map (partW F r)).length yz.2].toArray 50 (0, 0)), Atom.row yz.1 (ws8 ++ (List.range (i + 1)).map (partW F r)).length yz.2 9 1 (sv (ws8 ++ (List.range (i + 1)).map (partW F r))), _, _]
        rw [hq]
        rfl
    · have hk7 : (r.kind == 7) = false := beq_eq_false_iff_ne.2 h7
      repeat (first | refine l_op (o_move rfl rfl (by decide) rfl rfl) ?_ | refine l_op (o_assign rfl rfl (by decide) rfl rfl) ?_ | refine l_op (o_fieldAddr rfl rfl (by decide) rfl rfl) ?_ | refine l_op (o_load rfl rfl (by decide) rfl rfl (by first | exact fun w hw => hw.cell_blkL 0 rfl rfl | exact fun w hw => hw.cell_blkL 1 rfl rfl | exact fun w hw => hw.cell_blkL 2 rfl rfl | exact fun w hw => hw.cell_blkL 3 rfl rfl | exact fun w hw => hw.cell_blkL 4 rfl rfl | exact fun w hw => hw.cell_blkL 5 rfl rfl | exact fun w hw => hw.cell_old (by assumption) (by simp) | exact fun w hw => hw.cell_range (by assumption) rfl (by simp))) ?_ | refine l_op (o_indexAddr1 rfl rfl (by decide) rfl rfl rfl (by assumption)) ?_ | refine l_op (o_indexAddrI rfl rfl (by decide) rfl rfl rfl hxn) ?_ | (refine l_op (o_sadd rfl rfl (by decide) rfl rfl rfl (by rw [ba_size, ba_size]; simp only [hexL_len, List.length_take, List.length_append, List.length_cons, List.length_nil] <;> omega)) ?_; rw [ba_app]) | refine l_loud (u_callv (f := 65) (fun _ : Option Addr × Nat => .tuple #[]) (fun _ => True) _ rfl rfl rfl rfl (fun w hw => add_wd _ _ (by omega) hw)) rfl (by decide) (fun yz _ => ?_) | refine l_nil ?_ | refine s_seq ?_ | refine s_region ?_ | refine s_skip ?_ | refine s_cond_true rfl ?_ | refine s_cond_false rfl ?_ | refine s_block ?_ | refine l_op (o_eql rfl rfl (by decide) rfl rfl rfl (by first | assumption | exact beq_iff_eq.2 (by omega) | exact beq_eq_false_iff_ne.2 (by omega) | rfl)) ?_ | refine l_op (o_lss rfl rfl (by decide) rfl rfl rfl (by first | assumption | exact decide_eq_true (by omega) | exact decide_eq_false (by omega) | rfl)) ?_ | refine l_op (o_add (k := .i64) rfl rfl (by decide) rfl rfl rfl (IntWalk.i64_in _ (by omega))) ?_)
      refine x_round (i + 1, yz.1, yz.2) [0, 1, 2, 3] (by decide) hin (by show r.parts.length - (i + 1) < r.parts.length - i; omega) (.cons rfl rfl (.cons rfl rfl (.cons rfl rfl (.cons rfl rfl (.cons rfl rfl (.cons rfl rfl (.cons rfl (by go_num) .nil))))))) ?_
      have hq := HST.out ([] ++ rx.name) (by unfold partW; rw [hk7, HX.out]; rfl)
      show [Atom.blk g (.cells [.slice yz.1 (wp ++ [[] ++ rx.name]).length yz.2].toArray 50 (0, 0)), Atom.row yz.1 (wp ++ [[] ++ rx.name]).length yz.2 9 1 (sv (wp ++ [[] ++ rx.name])), _, _] = [Atom.blk g (.cells [.slice yz.1 (ws8 ++ (List.range (i + 1)).map (partW F r)).length yz.2].toArray 50 (0, 0)), Atom.row yz.1 (ws8 ++ (List.range (i + 1)).map (partW F r)).length yz.2 9 1 (sv (ws8 ++ (List.range (i + 1)).map (partW F r))), _, _]
      rw [hq]
      rfl
  have hlw : wp = lineWs F r := by
    rw [HWP.out, HH.out, show i = r.parts.length by omega]
    rfl
  have hjw : (Lib.join wp [32]).length ≤ 1000000 := by rw [hlw]; exact HJ.out
  have HLW := Lib.hid hlw
  clear hlw
  repeat (first | refine l_op (o_assign rfl rfl (by decide) rfl rfl) ?_ | refine l_op (o_load rfl rfl (by decide) rfl rfl (by first | exact fun w hw => hw.cell_blkL 0 rfl rfl | exact fun w hw => hw.cell_blkL 1 rfl rfl | exact fun w hw => hw.cell_blkL 2 rfl rfl | exact fun w hw => hw.cell_blkL 3 rfl rfl | exact fun w hw => hw.cell_blkL 4 rfl rfl | exact fun w hw => hw.cell_blkL 5 rfl rfl | exact fun w hw => hw.cell_old (by assumption) (by simp) | exact fun w hw => hw.cell_range (by assumption) rfl (by simp))) ?_ | refine l_op (o_call (f := 72) rfl rfl (by decide) rfl rfl (fun w hw => sjoin_calls (row_rd (hw.own 1 _ rfl) (by decide)).1 (row_rd (hw.own 1 _ rfl) (by decide)).2 (by omega) hjw)) ?_ | (refine l_op (o_sadd rfl rfl (by decide) rfl rfl rfl (by rw [ba_size, ba_size]; simp only [hexL_len, List.length_take, List.length_append, List.length_cons, List.length_nil] <;> omega)) ?_; rw [ba_app]) | refine l_nil ?_ | refine s_seq ?_ | refine s_region ?_ | refine s_cond_false rfl ?_ | refine s_exit ?_ | refine s_ret ?_ | refine l_op (o_lss rfl rfl (by decide) rfl rfl rfl (by first | assumption | exact decide_eq_true (by omega) | exact decide_eq_false (by omega) | rfl)) ?_)
  refine x_body1 (by first | exact .inl rfl | exact .inr rfl) rfl (.tmp rfl) (fun w hw => ⟨?_, hw.k.below⟩)
  unfold lineB
  rw [HLW.out]
end Go.Proofs.YtgdiadednlajgaaGreatDoor
