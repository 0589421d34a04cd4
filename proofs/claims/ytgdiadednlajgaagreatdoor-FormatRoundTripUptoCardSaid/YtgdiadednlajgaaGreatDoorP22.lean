import Derived.Test.YtgdiadednlajgaaGreatDoorP17
namespace Go.Proofs.YtgdiadednlajgaaGreatDoor
open Go.RowKit
set_option linter.unusedVariables false
set_option linter.unusedSimpArgs false
def BoolEnd (W : World) (c : Bool) (e : Ending) (w' : World) : Prop := e = .returned (.bool c) ∧ Below W.heap.size W w'
theorem bool_end {W w : World} {c c' : Bool} {O : List Atom} (h : c = c') (hw : Wd [] W O w) : BoolEnd W c' (.returned (.bool c)) w := ⟨by rw [h], hw.k.below⟩
theorem begins_wd {r : Rl} {Ab An Ap : Option Addr} {cb cn cp n : Nat} {W w : World} {O : List Atom} (hl : RuL W r Ab cb An cn Ap cp) (hr : ROk n r) (hw : Wd [] W O w) :
    Calls Tryz.prog 54 #[.agg (ruC r (.slice Ab r.bs.length cb) (.slice An r.names.length cn) (.slice Ap r.parts.length cp)).toArray] w (CallEnd (fun y : Option Addr × Nat => .slice y.1 (bl r).length y.2) (fun y => (bl r).length ≤ y.2 ∧ (bl r = [] → y = (none, 0))) [] W (fun y => .rd y.1 (bl r).length 1 (iv (bl r)) :: O)) := by
  refine (begins_calls (hl.on hw.k.below) hr.kind (fun h => (hr.seven h).2) (fun h => by have := hr.eight h; omega)).mono ?_
  rintro e w' ⟨A, m, c, rfl, h1, h2, h3, h4, h5⟩
  have hm : (bl r).length = m := by have := h1.len; rw [iv_len] at this; exact this
  subst hm
  refine ⟨(A, c), rfl, ⟨h2, fun h => ?_⟩, (hw.on h3).rd_far hw h1 (fun b o e hn => ?_)⟩
  · obtain ⟨rfl, rfl⟩ := h5 (by rw [h]; rfl)
    rfl
  · rcases h4 b o e hn with h | ⟨⟨o', h⟩, h0⟩
    · exact .inl h
    · right
      obtain ⟨b', o'', e', hlt, _⟩ := hl.p.2 h0
      rw [h] at e'
      cases e'
      exact hlt
theorem clone_wd {l : List Int} {A : Option Addr} {c : Nat} {W w : World} {O : List Atom} (hl : 0 < l.length) (hl' : l.length ≤ 1048576) (hw : Wd [] W (.rd A l.length 1 (iv l) :: O) w) :
    Calls Tryz.prog 93 #[.slice A l.length c] w (CallEnd (fun y : Nat × Nat × Nat × List Value => .slice (some ⟨y.1, y.2.1, none⟩) l.length y.2.2.1) (fun y => WinP y.2.1 l.length y.2.2.1 y.2.2.2 (iv l)) [] W (fun y => .blk y.1 (.cells y.2.2.2.toArray 3 (0, 0)) :: .rd A l.length 1 (iv l) :: O)) := by
  refine (cloneI_calls (hw.own 0 _ rfl) hl hl').mono ?_
  rintro e w' ⟨b, q, c', cur, rfl, h1, h2, h3, h4⟩
  exact ⟨(b, q, c', cur), rfl, h3, hw.push h4 h2 (fun b' hb' => by cases hb'; exact h1)⟩
theorem win_tail {q n c : Nat} {cur : List Value} {x : Int} {t : List Int} (h : WinP q (n + 1) c cur (iv (x :: t))) : ∃ q', cutA (some ⟨0, q, none⟩) c 1 1 = some ⟨0, q', none⟩ ∧ (∀ b, cutA (some ⟨b, q, none⟩) c 1 1 = some ⟨b, q', none⟩) ∧ WinP q' n (c - 1) cur (iv t) := by
  obtain ⟨h1, h2, h3, h4, h5⟩ := h
  have hl : (iv t).length = n := by rw [iv_len] at h4 ⊢; simpa using h4
  by_cases hc : c = 1
  · refine ⟨q, by rw [cutA, if_pos hc], fun b => by rw [cutA, if_pos hc], by omega, by omega, by omega, hl, fun j u hu => ?_⟩
    have hn : n = 0 := by omega
    rw [List.getElem?_eq_none (by omega)] at hu
    cases hu
  · refine ⟨q + 1, by rw [cutA, if_neg hc, Option.map_some, Addr.add_mid], fun b => by rw [cutA, if_neg hc, Option.map_some, Addr.add_mid], by omega, by omega, by omega, hl, fun j u hu => ?_⟩
    have := h5 (j + 1) u (by exact hu)
    rwa [show q + (j + 1) = q + 1 + j by omega] at this
def cyE (bf bs k n : Nat) (s : Cy) : Env := [(1, .int .i64 (k : Int)), (2, .pointer (some ⟨bf, 0, none⟩)), (5, .slice (some ⟨bs, 0, none⟩) n n), (6, .slice (some ⟨s.b, s.q, none⟩) s.qs.length s.c)]
def cyO (bf bs n c : Nat) (A : Option Addr) (s : Cy) : List Atom := [.blk s.b (.cells s.cur.toArray 3 (0, 0)), .row (some ⟨bs, 0, none⟩) n n 4 1 (boolC s.seen), .blk bf (.cells [.slice A n c].toArray 24 (0, 0))]
set_option maxRecDepth 100000 in
set_option maxHeartbeats 8000000 in
theorem cyclic_calls {F : List Rl} {A : Option Addr} {n c k : Nat} {W : World} (hf : FmIn W W.heap.size A n F) (hF : FOk F) (hn : n ≤ 40) (hk : k < n) :
    Calls Tryz.prog 60 #[.agg #[.slice A n c], .int .i64 (k : Int)] W (BoolEnd W (cycB F k)) := by
  have hlen : F.length = n := hf.1
  obtain ⟨b, o, rfl⟩ := hf.addr (by omega)
  obtain ⟨rk, Ab, cb, An, cn, Ap, cp, hrk, hrg, hlk⟩ := hf.rl hk
  have hok := hF k rk hrk
  have HBG := Lib.hid (bg_eq hrk)
  have HFM := Lib.hid hf
  have HOK := Lib.hid hok
  have HLK := Lib.hid hlk
  have HF := Lib.hid hF
  have HLEN := Lib.hid hlen
  have h12 := bl_len hok
  clear hrk hf hok hlk hF hlen
  go_enter Tryz.func60, Tryz.ntmps60
  refine s_go (M := []) (W := W) (N := 46) (E := [(0, .agg #[.slice (some ⟨b, o, none⟩) n c]), (1, .int .i64 (k : Int))]) (O := []) ?_ (Ag.cons (Ag.cons (Ag.nil rfl rfl) rfl) rfl) (Wd.start [] W)
  repeat (first | refine l_op (o_move rfl rfl (by decide) rfl rfl) ?_ | refine l_op (o_assign rfl rfl (by decide) rfl rfl) ?_ | refine l_op (o_fieldAddr rfl rfl (by decide) rfl rfl) ?_ | refine l_op (o_load rfl rfl (by decide) rfl rfl (by first | exact fun w hw => hw.cell_blkL 0 rfl rfl | exact fun w hw => hw.cell_blkL 1 rfl rfl | exact fun w hw => hw.cell_blkL 2 rfl rfl | exact fun w hw => hw.cell_blkL 3 rfl rfl | exact fun w hw => hw.cell_blkL 4 rfl rfl | exact fun w hw => hw.cell_blkL 5 rfl rfl | exact fun w hw => hw.cell_old (by assumption) (by simp) | exact fun w hw => hw.cell_range (by assumption) rfl (by simp))) ?_ | refine l_op (o_loadN rfl rfl (by decide) rfl rfl (by first | exact fun w hw => hw.range_blk 0 rfl | exact fun w hw => hw.range_blk 1 rfl | exact fun w hw => hw.range_blk 2 rfl | exact fun w hw => hw.range_blk 3 rfl | exact fun w hw => hw.range_blk 4 rfl | exact fun w hw => hw.range_blk 5 rfl | exact fun w hw => hw.range_old (by assumption) (by simp)) (by first | rfl | exact setC_len _)) ?_ | refine l_loud (u_box rfl rfl rfl rfl) rfl (by decide) (fun bf _ => ?_) | refine l_loud (u_make rfl rfl rfl rfl (by omega)) rfl (by decide) (fun bs _ => ?_) | refine l_op (o_indexAddr rfl rfl (by decide) rfl rfl rfl hk) ?_ | refine l_loud (u_call _ _ _ (f := 54) rfl rfl rfl (fun w hw => begins_wd (n := F.length) HLK.out HOK.out hw)) rfl (by decide) (fun y hy => ?_) | refine l_nil ?_ | refine s_seq ?_ | refine s_region ?_ | refine l_op (o_len rfl rfl (by decide) rfl rfl) ?_)
  obtain ⟨l, hl⟩ : ∃ l, bl rk = l := ⟨_, rfl⟩
  rw [hl] at hy h12 ⊢
  cases l with
  | nil =>
    obtain rfl := hy.2 rfl
    repeat (first | refine l_op (o_assign rfl rfl (by decide) rfl rfl) ?_ | refine l_op (o_call (f := 93) rfl rfl (by decide) rfl rfl (fun w hw => cloneI_nil w)) ?_ | refine l_nil ?_ | refine s_seq ?_ | refine s_block ?_)
    refine s_loop (ι := Unit) (fun _ => True) (fun _ => 0) (fun _ => [(6, .slice none 0 0)]) (fun _ => []) () [] (by decide) trivial (.cons rfl rfl .nil) rfl ?_
    rintro _ _
    repeat (first | refine l_op (o_move rfl rfl (by decide) rfl rfl) ?_ | refine l_op (o_assign rfl rfl (by decide) rfl rfl) ?_ | refine l_nil ?_ | refine s_seq ?_ | refine s_region ?_ | refine s_cond_false rfl ?_ | refine s_exit ?_ | refine s_ret ?_ | refine l_op (o_len rfl rfl (by decide) rfl rfl) ?_ | refine l_op (o_gtr rfl rfl (by decide) rfl rfl rfl (by first | assumption | exact decide_eq_true (by omega) | exact decide_eq_false (by omega) | rfl)) ?_)
    refine x_body1 (by first | exact .inl rfl | exact .inr rfl) rfl (.tmp rfl) (fun w hw => bool_end ?_ hw)
    cases hc : cycB F k with
    | false => rfl
    | true =>
      exfalso
      have hr := (cycB_iff HF.out.bd (by rw [HLEN.out]; exact hk)).1 hc
      have hnone : ∀ j, Rch F k j → False := by
        intro j hj
        induction hj with
        | one h => rw [HBG.out, hl] at h; cases h
        | more _ _ ih => exact ih
      exact hnone k hr
  | cons x0 t0 =>
    refine l_loud (u_call _ _ _ (f := 93) rfl rfl rfl (fun w hw => clone_wd (l := x0 :: t0) (by simp) (by omega) hw)) rfl (by decide) (fun z hz => ?_)
    obtain ⟨b1, q1, c1, cur1⟩ := z
    have hz0 : WinP q1 (x0 :: t0).length c1 cur1 (iv (x0 :: t0)) := hz
    clear hz
    have h0 : CyP F k { seen := List.replicate n false, qs := x0 :: t0, b := b1, q := q1, c := c1, cur := cur1 } := by
      have hno : ∀ i : Nat, (List.replicate n false).getD i false = false := fun i => by
        rw [List.getD_eq_getElem?_getD, List.getElem?_replicate]
        split <;> rfl
      have hin := bl_in HOK.out
      rw [hl] at hin
      have hbg : bg F k = (x0 :: t0).map Int.toNat := by rw [HBG.out, hl]
      refine ⟨by rw [List.length_replicate, HLEN.out], hz0, hin, fun x hx => .one ?_, fun x hx => .inr ?_, fun i hi => ?_, hno k, ?_⟩
      · rw [hbg]
        exact List.mem_map_of_mem hx
      · rw [hbg, List.mem_map] at hx
        obtain ⟨y', hy', rfl⟩ := hx
        have := hin y' hy'
        rw [show ((y'.toNat : Nat) : Int) = y' by omega]
        exact hy'
      · have hi' : (List.replicate n false).getD i false = true := hi
        rw [hno i] at hi'
        cases hi'
      · have := cnt_le (fun i => !((List.replicate n false).getD i false)) F.length
        show 13 * cnt (fun i => !((List.replicate n false).getD i false)) F.length + (x0 :: t0).length ≤ _
        omega
    clear hy hl h12
    repeat (first | refine l_op (o_assign rfl rfl (by decide) rfl rfl) ?_ | refine l_nil ?_ | refine s_seq ?_ | refine s_block ?_)
    refine s_loop (CyP F k) (fun s => 13 * unseen s F.length + s.qs.length) (cyE bf bs k n) (cyO bf bs n c (some ⟨b, o, none⟩)) { seen := List.replicate n false, qs := x0 :: t0, b := b1, q := q1, c := c1, cur := cur1 } [0, 2, 3] (by decide) h0 (.cons rfl rfl (.cons rfl rfl (.cons rfl rfl (.cons rfl rfl .nil)))) (by show [_, Atom.row _ _ _ _ _ _, _] = _; rw [madeB]; rfl) ?_
    rintro ⟨seen, qs, b2, q2, c2, cur2⟩ hp
    have HPP := Lib.hid hp
    clear hp
    cases qs with
    | nil =>
      show sE _ _ _ _ _ [(1, .int .i64 (k : Int)), (2, .pointer (some ⟨bf, 0, none⟩)), (5, .slice (some ⟨bs, 0, none⟩) n n), (6, .slice (some ⟨b2, q2, none⟩) 0 c2)] [.blk b2 (.cells cur2.toArray 3 (0, 0)), .row (some ⟨bs, 0, none⟩) n n 4 1 (boolC seen), .blk bf (.cells [.slice (some ⟨b, o, none⟩) n c].toArray 24 (0, 0))] _
      repeat (first | refine l_op (o_move rfl rfl (by decide) rfl rfl) ?_ | refine l_op (o_assign rfl rfl (by decide) rfl rfl) ?_ | refine l_nil ?_ | refine s_seq ?_ | refine s_region ?_ | refine s_cond_false rfl ?_ | refine s_exit ?_ | refine s_ret ?_ | refine l_op (o_len rfl rfl (by decide) rfl rfl) ?_ | refine l_op (o_gtr rfl rfl (by decide) rfl rfl rfl (by first | assumption | exact decide_eq_true (by omega) | exact decide_eq_false (by omega) | rfl)) ?_)
      refine x_body1 (by first | exact .inl rfl | exact .inr rfl) rfl (.tmp rfl) (fun w hw => bool_end (HPP.out.done HF.out (by rw [HLEN.out]; exact hk) rfl).symm hw)
    | cons x t =>
      show sE _ _ _ _ _ [(1, .int .i64 (k : Int)), (2, .pointer (some ⟨bf, 0, none⟩)), (5, .slice (some ⟨bs, 0, none⟩) n n), (6, .slice (some ⟨b2, q2, none⟩) (x :: t).length c2)] [.blk b2 (.cells cur2.toArray 3 (0, 0)), .row (some ⟨bs, 0, none⟩) n n 4 1 (boolC seen), .blk bf (.cells [.slice (some ⟨b, o, none⟩) n c].toArray 24 (0, 0))] _
      have hx := HPP.out.inn x List.mem_cons_self
      rw [HLEN.out] at hx
      have hc0 : cur2[q2 + 0]? = some (.int .i64 x) := HPP.out.win.2.2.2.2 0 _ rfl
      obtain ⟨q3, _, hcut, hwt⟩ := win_tail (show WinP q2 (t.length + 1) c2 cur2 (iv (x :: t)) from HPP.out.win)
      have HWT := Lib.hid hwt
      clear hwt
      have hlt : 0 < (x :: t).length := by simp
      by_cases hxk : x = (k : Int)
      · have hxk' : (x == (k : Int)) = true := beq_iff_eq.2 hxk
        repeat (first | refine l_op (o_move rfl rfl (by decide) rfl rfl) ?_ | refine l_op (o_assign rfl rfl (by decide) rfl rfl) ?_ | refine l_op (o_indexAddr1 (j := 0) rfl rfl (by decide) rfl rfl rfl hlt) ?_ | refine l_op (o_load rfl rfl (by decide) rfl rfl (fun w hw => hw.cell_blkL 0 rfl hc0)) ?_ | (refine l_op (o_slice_l (l := 1) rfl rfl (by decide) rfl rfl rfl hlt) ?_; rw [hcut]) | refine l_nil ?_ | refine s_seq ?_ | refine s_region ?_ | refine s_skip ?_ | refine s_cond_true rfl ?_ | refine s_ret ?_ | refine s_block ?_ | refine x_then_ret ?_ | refine x_block_ret ?_ | refine l_op (o_len rfl rfl (by decide) rfl rfl) ?_ | refine l_op (o_eql rfl rfl (by decide) rfl rfl rfl (by first | assumption | exact beq_iff_eq.2 (by omega) | exact beq_eq_false_iff_ne.2 (by omega) | rfl)) ?_ | refine l_op (o_gtr rfl rfl (by decide) rfl rfl rfl (by first | assumption | exact decide_eq_true (by omega) | exact decide_eq_false (by omega) | rfl)) ?_)
        refine x_body1 (by first | exact .inl rfl | exact .inr rfl) rfl (.tmp rfl) (fun w hw => bool_end ?_ hw)
        refine ((cycB_iff HF.out.bd (by rw [HLEN.out]; exact hk)).2 ?_).symm
        have := HPP.out.sound x List.mem_cons_self
        rw [hxk] at this
        simpa using this
      · have hxk' : (x == (k : Int)) = false := beq_eq_false_iff_ne.2 hxk
        have hs0 : (boolC seen)[0 + x.toNat]? = some (.bool (seen.getD x.toNat false)) := by
          rw [Nat.zero_add]
          exact boolC_at (by rw [show seen.length = F.length from HPP.out.len, HLEN.out]; omega)
        have HXK := Lib.hid hxk
        clear hxk
        obtain ⟨sx, hsx⟩ : ∃ sx, seen.getD x.toNat false = sx := ⟨_, rfl⟩
        rw [hsx] at hs0
        have HSX := Lib.hid hsx
        clear hsx
        cases sx with
        | true =>
          repeat (first | refine l_op (o_move rfl rfl (by decide) rfl rfl) ?_ | refine l_op (o_assign rfl rfl (by decide) rfl rfl) ?_ | refine l_op (o_indexAddr1 (j := 0) rfl rfl (by decide) rfl rfl rfl hlt) ?_ | refine l_op (o_load rfl rfl (by decide) rfl rfl (fun w hw => hw.cell_blkL 0 rfl hc0)) ?_ | (refine l_op (o_slice_l (l := 1) rfl rfl (by decide) rfl rfl rfl hlt) ?_; rw [hcut]) | refine l_op (o_indexAddrI1 rfl rfl (by decide) rfl rfl rfl hx) ?_ | refine l_op (o_load rfl rfl (by decide) rfl rfl (fun w hw => hw.cell_row 1 rfl hs0)) ?_ | refine l_nil ?_ | refine s_seq ?_ | refine s_region ?_ | refine s_skip ?_ | refine s_cond_true rfl ?_ | refine s_cond_false rfl ?_ | refine s_block ?_ | refine x_block_normal ?_ | refine l_op (o_len rfl rfl (by decide) rfl rfl) ?_ | refine l_op (o_eql rfl rfl (by decide) rfl rfl rfl (by first | assumption | exact beq_iff_eq.2 (by omega) | exact beq_eq_false_iff_ne.2 (by omega) | rfl)) ?_ | refine l_op (o_gtr rfl rfl (by decide) rfl rfl rfl (by first | assumption | exact decide_eq_true (by omega) | exact decide_eq_false (by omega) | rfl)) ?_ | refine l_op (o_not rfl rfl (by decide) rfl rfl rfl) ?_)
          refine x_round { seen := seen, qs := t, b := b2, q := q3, c := c2 - 1, cur := cur2 } [0, 1, 2] (by decide) (HPP.out.old rfl HSX.out hx.1 HWT.out) (by show 13 * unseen _ _ + t.length < 13 * unseen _ _ + (t.length + 1); exact Nat.lt_succ_self _) (.cons rfl rfl (.cons rfl rfl (.cons rfl rfl (.cons rfl rfl .nil)))) rfl
        | false =>
          obtain ⟨rx, Ab', cb', An', cn', Ap', cp', hrx, hrgx, hlx⟩ := HFM.out.rl (i := x.toNat) (by omega)
          have HRX := Lib.hid hrx
          have HLX := Lib.hid hlx
          have HOX := Lib.hid (HF.out _ _ hrx)
          have h12 := bl_len HOX.out
          have hsm := HPP.out.small
          have hul := hsm
          rw [HLEN.out] at hul
          clear hrx hlx hsm
          have hqs : t.length ≤ 13 * n + 12 := by
            have : (Cy.mk seen (x :: t) b2 q2 c2 cur2).qs.length = t.length + 1 := rfl
            omega
          clear hul
          repeat (first | refine l_op (o_move rfl rfl (by decide) rfl rfl) ?_ | refine l_op (o_assign rfl rfl (by decide) rfl rfl) ?_ | refine l_op (o_fieldAddr rfl rfl (by decide) rfl rfl) ?_ | refine l_op (o_load rfl rfl (by decide) rfl rfl (by first | exact fun w hw => hw.cell_blkL 0 rfl rfl | exact fun w hw => hw.cell_blkL 1 rfl rfl | exact fun w hw => hw.cell_blkL 2 rfl rfl | exact fun w hw => hw.cell_blkL 3 rfl rfl | exact fun w hw => hw.cell_blkL 4 rfl rfl | exact fun w hw => hw.cell_blkL 5 rfl rfl | exact fun w hw => hw.cell_old (by assumption) (by simp) | exact fun w hw => hw.cell_range (by assumption) rfl (by simp))) ?_ | refine l_op (o_loadN rfl rfl (by decide) rfl rfl (by first | exact fun w hw => hw.range_blk 0 rfl | exact fun w hw => hw.range_blk 1 rfl | exact fun w hw => hw.range_blk 2 rfl | exact fun w hw => hw.range_blk 3 rfl | exact fun w hw => hw.range_blk 4 rfl | exact fun w hw => hw.range_blk 5 rfl | exact fun w hw => hw.range_old (by assumption) (by simp)) (by first | rfl | exact setC_len _)) ?_ | refine l_op (o_indexAddr1 (j := 0) rfl rfl (by decide) rfl rfl rfl hlt) ?_ | refine l_op (o_load rfl rfl (by decide) rfl rfl (fun w hw => hw.cell_blkL 0 rfl hc0)) ?_ | (refine l_op (o_slice_l (l := 1) rfl rfl (by decide) rfl rfl rfl hlt) ?_; rw [hcut]) | refine l_op (o_indexAddrI1 rfl rfl (by decide) rfl rfl rfl hx) ?_ | refine l_op (o_indexAddrI rfl rfl (by decide) rfl rfl rfl hx) ?_ | refine l_op (o_load rfl rfl (by decide) rfl rfl (fun w hw => hw.cell_row 1 rfl hs0)) ?_ | refine l_loud0 (u_store_row 1 rfl rfl rfl rfl rfl rfl (by omega)) rfl (fun _ _ => ?_) | refine l_loud (u_call _ _ _ (f := 54) rfl rfl rfl (fun w hw => begins_wd (n := F.length) HLX.out HOX.out hw)) rfl (by decide) (fun z hz => ?_) | refine l_loud (u_append_win (n := t.length) 1 rfl rfl rfl rfl rfl HWT.out (fun w hw => hw.own 0 _ rfl) (iv_one _) (by omega)) rfl (by decide) (fun y hy => ?_) | refine l_nil ?_ | refine s_seq ?_ | refine s_region ?_ | refine s_skip ?_ | refine s_cond_true rfl ?_ | refine s_cond_false rfl ?_ | refine s_block ?_ | refine x_block_normal ?_ | refine l_op (o_len rfl rfl (by decide) rfl rfl) ?_ | refine l_op (o_eql rfl rfl (by decide) rfl rfl rfl (by first | assumption | exact beq_iff_eq.2 (by omega) | exact beq_eq_false_iff_ne.2 (by omega) | rfl)) ?_ | refine l_op (o_gtr rfl rfl (by decide) rfl rfl rfl (by first | assumption | exact decide_eq_true (by omega) | exact decide_eq_false (by omega) | rfl)) ?_ | refine l_op (o_not rfl rfl (by decide) rfl rfl rfl) ?_)
          obtain ⟨b4, q4, c4, cur4⟩ := y
          have hnew := HPP.out.new (b' := b4) (q' := q4) (c' := c4) (cur' := cur4) HF.out rfl HRX.out HSX.out HXK.out (by
            have h : WinP q4 (t.length + (bl rx).length) c4 cur4 (iv t ++ iv (bl rx)) := hy
            rw [List.length_append, iv_app]
            exact h)
          refine x_round { seen := seen.set x.toNat true, qs := t ++ bl rx, b := b4, q := q4, c := c4, cur := cur4 } [1, 2, 3] (by decide) hnew.1 hnew.2 (.cons rfl rfl (.cons rfl rfl (.cons rfl rfl (.cons rfl (by rw [List.length_append]) .nil)))) ?_
          show [_, Atom.row _ _ _ _ _ ((boolC seen).set (0 + x.toNat) (.bool true)), _] = _
          rw [Nat.zero_add, boolC_set]
          rfl
end Go.Proofs.YtgdiadednlajgaaGreatDoor
