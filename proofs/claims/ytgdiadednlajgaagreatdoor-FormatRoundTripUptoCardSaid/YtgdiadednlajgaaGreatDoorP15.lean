import Derived.Test.YtgdiadednlajgaaGreatDoorP11
namespace Go.Proofs.YtgdiadednlajgaaGreatDoor
open Go.RowKit
set_option linter.unusedVariables false
set_option linter.unusedSimpArgs false
theorem FmIn.addr {W : World} {A : Option Addr} {n : Nat} {F : List Rl} (h : FmIn W W.heap.size A n F) (hn : 0 < n) : ∃ b o, A = some ⟨b, o, none⟩ := by
  obtain ⟨b, o, e, _⟩ := h.2 hn
  exact ⟨b, o, e⟩
theorem FmIn.rl {W : World} {b o n i : Nat} {F : List Rl} (h : FmIn W W.heap.size (some ⟨b, o, none⟩) n F) (hi : i < n) : ∃ r Ab cb An cn Ap cp, F[i]? = some r ∧ W.rangeAt b (o + i * 12) (ruC r (.slice Ab r.bs.length cb) (.slice An r.names.length cn) (.slice Ap r.parts.length cp)) ∧ RuL W r Ab cb An cn Ap cp := by
  obtain ⟨b', o', r, Ab, cb, An, cn, Ap, cp, e, hr, hc, hl⟩ := h.rule hi
  cases e
  exact ⟨r, Ab, cb, An, cn, Ap, cp, hr, hc, hl⟩
def IntEnd (W : World) (c : Int) (e : Ending) (w' : World) : Prop := e = .returned (.int .i64 c) ∧ Below W.heap.size W w'
theorem int_end {W w : World} {c c' : Int} {O : List Atom} (h : c = c') (hw : Wd [] W O w) : IntEnd W c' (.returned (.int .i64 c)) w := ⟨by rw [h], hw.k.below⟩
def kindAt (F : List Rl) (x : Int) : Int := match F[x.toNat]? with | some r => r.kind | none => 0
theorem kindAt_eq {F : List Rl} {x : Int} {r : Rl} (h : F[x.toNat]? = some r) : kindAt F x = r.kind := by unfold kindAt; rw [h]
def firstC (g : Nat → Int) : Nat → Nat → Int
  | _, 0 => 0
  | i, k + 1 => if g i = 0 then firstC g (i + 1) k else g i
theorem firstC_no {g : Nat → Int} {i n : Nat} (h : i < n) (h0 : g i = 0) : firstC g i (n - i) = firstC g (i + 1) (n - (i + 1)) := by
  rw [show n - i = (n - (i + 1)) + 1 by omega, firstC, if_pos h0]
theorem firstC_yes {g : Nat → Int} {i n : Nat} (h : i < n) (h0 : g i ≠ 0) : firstC g i (n - i) = g i := by
  rw [show n - i = (n - (i + 1)) + 1 by omega, firstC, if_neg h0]
def nameC (F : List Rl) (names : List (List UInt8)) (parts : List Int) (i : Nat) : Int :=
  if (names.getD i []) == [] then (if kindAt F (parts.getD i 0) != 1 then 13 else 0)
  else if !(isName (names.getD i [])) then 7 else if hasB (names.take i) (names.getD i []) then 8 else 0
def useC (F : List Rl) (r : Rl) : Int :=
  if useCount r.kind && !(useMax (kindAt F r.count)) then 13 else if r.kind != 7 then 0 else firstC (nameC F r.names r.parts) 0 r.names.length
structure UseOk (n : Nat) (r : Rl) : Prop where
  count : useCount r.kind = true → 0 ≤ r.count ∧ r.count < n
  parts : r.kind = 7 → r.parts.length = r.names.length ∧ ∀ x ∈ r.parts, 0 ≤ x ∧ x < n
set_option maxRecDepth 100000 in
set_option maxHeartbeats 8000000 in
theorem checkUse_a {F : List Rl} {r : Rl} {A Ab An Ap : Option Addr} {n c cb cn cp : Nat} {W : World} (hf : FmIn W W.heap.size A n F) (hl : RuL W r Ab cb An cn Ap cp) (hs : RSm r) (hu : UseOk n r) (hc : useCount r.kind = true) :
    Calls Tryz.prog 59 #[.agg #[.slice A n c], .agg (ruC r (.slice Ab r.bs.length cb) (.slice An r.names.length cn) (.slice Ap r.parts.length cp)).toArray] W (IntEnd W (useC F r)) := by
  have hcn := hu.count hc
  obtain ⟨b, o, rfl⟩ := hf.addr (by omega)
  obtain ⟨rc, Ac, cc, Ad, cd, Ae, ce, hrc, hrg, _⟩ := hf.rl (i := r.count.toNat) (by omega)
  have HK := Lib.hid (kindAt_eq hrc)
  have h7 : (r.kind != 7) = true := by
    rw [bne_iff_ne]
    intro h
    rw [h] at hc
    exact absurd hc (by decide)
  clear hrc hl hf
  go_enter Tryz.func59, Tryz.ntmps59
  refine s_go (M := []) (W := W) (N := 66) (E := [(0, .agg #[.slice (some ⟨b, o, none⟩) n c]), (1, .agg (ruC r (.slice Ab r.bs.length cb) (.slice An r.names.length cn) (.slice Ap r.parts.length cp)).toArray)]) (O := []) ?_ (Ag.cons (Ag.cons (Ag.nil rfl rfl) rfl) rfl) (Wd.start [] W)
  repeat (first | refine l_op (o_move rfl rfl (by decide) rfl rfl) ?_ | refine l_op (o_assign rfl rfl (by decide) rfl rfl) ?_ | refine l_op (o_fieldAddr rfl rfl (by decide) rfl rfl) ?_ | refine l_op (o_load rfl rfl (by decide) rfl rfl (by first | exact fun w hw => hw.cell_blkL 0 rfl rfl | exact fun w hw => hw.cell_blkL 1 rfl rfl | exact fun w hw => hw.cell_blkL 2 rfl rfl | exact fun w hw => hw.cell_blkL 3 rfl rfl | exact fun w hw => hw.cell_blkL 4 rfl rfl | exact fun w hw => hw.cell_blkL 5 rfl rfl | exact fun w hw => hw.cell_old (by assumption) (by simp) | exact fun w hw => hw.cell_range (by assumption) rfl (by simp))) ?_ | refine l_op (o_loadN rfl rfl (by decide) rfl rfl (by first | exact fun w hw => hw.range_blk 0 rfl | exact fun w hw => hw.range_blk 1 rfl | exact fun w hw => hw.range_blk 2 rfl | exact fun w hw => hw.range_blk 3 rfl | exact fun w hw => hw.range_blk 4 rfl | exact fun w hw => hw.range_blk 5 rfl | exact fun w hw => hw.range_old (by assumption) (by simp)) (by first | rfl | exact setC_len _)) ?_ | refine l_loud (u_box rfl rfl rfl rfl) rfl (by decide) (fun br _ => ?_) | (refine l_op (o_call (f := 70) rfl rfl (by decide) rfl rfl (fun w hw => usesCount_calls w)) ?_; rw [hc]) | refine l_op (o_call (f := 69) rfl rfl (by decide) rfl rfl (fun w hw => usesMax_calls w)) ?_ | refine l_op (o_indexAddrI rfl rfl (by decide) rfl rfl rfl (by omega)) ?_ | refine l_nil ?_ | refine s_seq ?_ | refine s_region ?_ | refine l_op (o_pick_yes rfl rfl (by decide) rfl rfl rfl) ?_ | refine l_op (o_not rfl rfl (by decide) rfl rfl rfl) ?_)
  refine s_cond rfl (fun hx => ?_) (fun hx => ?_)
  · skip
    repeat (first | refine l_op (o_assign rfl rfl (by decide) rfl rfl) ?_ | refine l_nil ?_ | refine s_seq ?_ | refine s_region ?_ | refine s_ret ?_ | refine x_then_ret ?_)
    refine x_body1 (.inr rfl) rfl (.tmp rfl) (fun w hw => int_end ?_ hw)
    simp [useC, hc, HK.out, hx]
  · skip
    repeat (first | refine l_op (o_assign rfl rfl (by decide) rfl rfl) ?_ | refine l_op (o_fieldAddr rfl rfl (by decide) rfl rfl) ?_ | refine l_op (o_load rfl rfl (by decide) rfl rfl (by first | exact fun w hw => hw.cell_blkL 0 rfl rfl | exact fun w hw => hw.cell_blkL 1 rfl rfl | exact fun w hw => hw.cell_blkL 2 rfl rfl | exact fun w hw => hw.cell_blkL 3 rfl rfl | exact fun w hw => hw.cell_blkL 4 rfl rfl | exact fun w hw => hw.cell_blkL 5 rfl rfl | exact fun w hw => hw.cell_old (by assumption) (by simp) | exact fun w hw => hw.cell_range (by assumption) rfl (by simp))) ?_ | refine l_nil ?_ | refine s_seq ?_ | refine s_region ?_ | refine s_skip ?_ | refine s_cond_true rfl ?_ | refine s_ret ?_ | refine x_then_ret ?_ | refine l_op (o_neq rfl rfl (by decide) rfl rfl rfl (by first | assumption | exact bne_iff_ne.2 (by omega) | exact bne_eq_false_iff_eq.2 (by omega) | rfl)) ?_)
    refine x_body1 (.inr rfl) rfl (.tmp rfl) (fun w hw => int_end ?_ hw)
    simp [useC, hc, HK.out, hx, h7]
set_option maxRecDepth 100000 in
set_option maxHeartbeats 8000000 in
theorem checkUse_b {F : List Rl} {r : Rl} {A Ab An Ap : Option Addr} {n c cb cn cp : Nat} {W : World} (hc : useCount r.kind = false) (h7 : (r.kind != 7) = true) :
    Calls Tryz.prog 59 #[.agg #[.slice A n c], .agg (ruC r (.slice Ab r.bs.length cb) (.slice An r.names.length cn) (.slice Ap r.parts.length cp)).toArray] W (IntEnd W (useC F r)) := by
  go_enter Tryz.func59, Tryz.ntmps59
  refine s_go (M := []) (W := W) (N := 66) (E := [(0, .agg #[.slice A n c]), (1, .agg (ruC r (.slice Ab r.bs.length cb) (.slice An r.names.length cn) (.slice Ap r.parts.length cp)).toArray)]) (O := []) ?_ (Ag.cons (Ag.cons (Ag.nil rfl rfl) rfl) rfl) (Wd.start [] W)
  repeat (first | refine l_op (o_move rfl rfl (by decide) rfl rfl) ?_ | refine l_op (o_assign rfl rfl (by decide) rfl rfl) ?_ | refine l_op (o_fieldAddr rfl rfl (by decide) rfl rfl) ?_ | refine l_op (o_load rfl rfl (by decide) rfl rfl (by first | exact fun w hw => hw.cell_blkL 0 rfl rfl | exact fun w hw => hw.cell_blkL 1 rfl rfl | exact fun w hw => hw.cell_blkL 2 rfl rfl | exact fun w hw => hw.cell_blkL 3 rfl rfl | exact fun w hw => hw.cell_blkL 4 rfl rfl | exact fun w hw => hw.cell_blkL 5 rfl rfl | exact fun w hw => hw.cell_old (by assumption) (by simp) | exact fun w hw => hw.cell_range (by assumption) rfl (by simp))) ?_ | refine l_op (o_loadN rfl rfl (by decide) rfl rfl (by first | exact fun w hw => hw.range_blk 0 rfl | exact fun w hw => hw.range_blk 1 rfl | exact fun w hw => hw.range_blk 2 rfl | exact fun w hw => hw.range_blk 3 rfl | exact fun w hw => hw.range_blk 4 rfl | exact fun w hw => hw.range_blk 5 rfl | exact fun w hw => hw.range_old (by assumption) (by simp)) (by first | rfl | exact setC_len _)) ?_ | refine l_loud (u_box rfl rfl rfl rfl) rfl (by decide) (fun br _ => ?_) | (refine l_op (o_call (f := 70) rfl rfl (by decide) rfl rfl (fun w hw => usesCount_calls w)) ?_; rw [hc]) | refine l_nil ?_ | refine s_seq ?_ | refine s_region ?_ | refine s_skip ?_ | refine s_cond_true rfl ?_ | refine s_cond_false rfl ?_ | refine s_ret ?_ | refine x_then_ret ?_ | refine l_op (o_neq rfl rfl (by decide) rfl rfl rfl (by first | assumption | exact bne_iff_ne.2 (by omega) | exact bne_eq_false_iff_eq.2 (by omega) | rfl)) ?_ | refine l_op (o_pick_no rfl rfl (by decide) rfl rfl rfl) ?_ | refine l_op (o_skip rfl (by decide) rfl) ?_)
  refine x_body1 (.inr rfl) rfl (.tmp rfl) (fun w hw => int_end ?_ hw)
  simp [useC, hc, h7]
theorem rd_take_sv {w : World} {B n i c : Nat} {A : Option Addr} {xs : List (List UInt8)} (h : Rd w B 1 A n (sv xs)) (hi : i ≤ n) (hc : n ≤ c) : Rd w B 1 (cutA A c 0 1) i (sv (xs.take i)) := by
  have := h.cut (k := 0) (m := i) (c := c) (by omega) hc
  rw [Nat.zero_mul, List.drop_zero, Nat.mul_one] at this
  unfold sv at this ⊢
  rw [List.map_take]
  exact this
def chE (bf br n c i : Nat) (r : Rl) (A An : Option Addr) (cn : Nat) : Env := [(2, .pointer (some ⟨bf, 0, none⟩)), (3, .pointer (some ⟨br, 0, none⟩)), (23, .slice An r.names.length cn), (24, .int .i64 (r.names.length : Int)), (25, .int .i64 (i : Int))]
set_option maxRecDepth 100000 in
set_option maxHeartbeats 8000000 in
theorem checkUse_c {F : List Rl} {r : Rl} {A Ab An Ap : Option Addr} {n c cb cn cp : Nat} {W : World} (hf : FmIn W W.heap.size A n F) (hl : RuL W r Ab cb An cn Ap cp) (hs : RSm r) (hu : UseOk n r) (h7 : r.kind = 7) :
    Calls Tryz.prog 59 #[.agg #[.slice A n c], .agg (ruC r (.slice Ab r.bs.length cb) (.slice An r.names.length cn) (.slice Ap r.parts.length cp)).toArray] W (IntEnd W (useC F r)) := by
  have hc : useCount r.kind = false := by rw [h7]; rfl
  have HP := Lib.hid (hu.parts h7)
  have HF := Lib.hid hf
  have HL := Lib.hid hl
  have HS := Lib.hid hs
  have hnl : r.names.length ≤ 1048576 := hs.names
  obtain ⟨C, hC⟩ : ∃ C, useC F r = C := ⟨_, rfl⟩
  have HC := Lib.hid (show firstC (nameC F r.names r.parts) 0 r.names.length = C by rw [← hC, useC, hc, h7]; rfl)
  rw [hC]
  clear hC hu hf hl hs
  go_enter Tryz.func59, Tryz.ntmps59
  refine s_go (M := []) (W := W) (N := 66) (E := [(0, .agg #[.slice A n c]), (1, .agg (ruC r (.slice Ab r.bs.length cb) (.slice An r.names.length cn) (.slice Ap r.parts.length cp)).toArray)]) (O := []) ?_ (Ag.cons (Ag.cons (Ag.nil rfl rfl) rfl) rfl) (Wd.start [] W)
  repeat (first | refine l_op (o_move rfl rfl (by decide) rfl rfl) ?_ | refine l_op (o_assign rfl rfl (by decide) rfl rfl) ?_ | refine l_op (o_fieldAddr rfl rfl (by decide) rfl rfl) ?_ | refine l_op (o_load rfl rfl (by decide) rfl rfl (by first | exact fun w hw => hw.cell_blkL 0 rfl rfl | exact fun w hw => hw.cell_blkL 1 rfl rfl | exact fun w hw => hw.cell_blkL 2 rfl rfl | exact fun w hw => hw.cell_blkL 3 rfl rfl | exact fun w hw => hw.cell_blkL 4 rfl rfl | exact fun w hw => hw.cell_blkL 5 rfl rfl | exact fun w hw => hw.cell_old (by assumption) (by simp) | exact fun w hw => hw.cell_range (by assumption) rfl (by simp))) ?_ | refine l_op (o_loadN rfl rfl (by decide) rfl rfl (by first | exact fun w hw => hw.range_blk 0 rfl | exact fun w hw => hw.range_blk 1 rfl | exact fun w hw => hw.range_blk 2 rfl | exact fun w hw => hw.range_blk 3 rfl | exact fun w hw => hw.range_blk 4 rfl | exact fun w hw => hw.range_blk 5 rfl | exact fun w hw => hw.range_old (by assumption) (by simp)) (by first | rfl | exact setC_len _)) ?_ | refine l_loud (u_box rfl rfl rfl rfl) rfl (by decide) (fun br _ => ?_) | (refine l_op (o_call (f := 70) rfl rfl (by decide) rfl rfl (fun w hw => usesCount_calls w)) ?_; rw [hc]) | refine l_nil ?_ | refine s_seq ?_ | refine s_region ?_ | refine s_skip ?_ | refine s_cond_false rfl ?_ | refine s_block ?_ | refine l_op (o_len rfl rfl (by decide) rfl rfl) ?_ | refine l_op (o_neq rfl rfl (by decide) rfl rfl rfl (by first | assumption | exact bne_iff_ne.2 (by omega) | exact bne_eq_false_iff_eq.2 (by omega) | rfl)) ?_ | refine l_op (o_pick_no rfl rfl (by decide) rfl rfl rfl) ?_ | refine l_op (o_skip rfl (by decide) rfl) ?_)
  rename_i bf _ _
  refine s_loop (ι := Nat) (fun i => i ≤ r.names.length ∧ firstC (nameC F r.names r.parts) i (r.names.length - i) = C) (fun i => r.names.length - i) (fun i => chE bf br n c i r A An cn) (fun i => [.blk br (.cells (ruC r (.slice Ab r.bs.length cb) (.slice An r.names.length cn) (.slice Ap r.parts.length cp)).toArray 52 (0, 0)), .blk bf (.cells [.slice A n c].toArray 24 (0, 0))]) 0 [0, 1] (by decide) ⟨Nat.zero_le _, HC.out⟩ (.cons rfl rfl (.cons rfl rfl (.cons rfl rfl (.cons rfl rfl (.cons rfl rfl .nil))))) rfl ?_
  rintro i ⟨hi, hC⟩
  have HI := Lib.hid hC
  clear hC
  by_cases hlt : i < r.names.length
  · obtain ⟨bn, on, s, rfl, _, hsn, hcell⟩ := sv_at HL.out.n hlt
    have hgd : r.names.getD i [] = s.data.toList := by rw [List.getD_eq_getElem?_getD, hsn]; rfl
    have HG := Lib.hid hgd
    clear hgd
    cases he : s.data.toList == ([] : List UInt8) with
    | true =>
      have hne : (s.data.toList != ([] : List UInt8)) = false := by rw [bne, he]; rfl
      obtain ⟨bp, op, x, rfl, _, hx, hcx⟩ := iv_at HL.out.p (show i < r.parts.length by rw [HP.out.1]; exact hlt)
      have hxr := HP.out.2 x (List.mem_of_getElem? hx)
      obtain ⟨b, o, rfl⟩ := HF.out.addr (by omega)
      obtain ⟨rx, Ac, cc, Ad, cd, Ae, ce, hrx, hrg, _⟩ := HF.out.rl (i := x.toNat) (by omega)
      have hgx : r.parts.getD i 0 = x := by rw [List.getD_eq_getElem?_getD, hx]; rfl
      have HK := Lib.hid (show kindAt F (r.parts.getD i 0) = rx.kind by rw [hgx]; exact kindAt_eq hrx)
      have hip : i < r.parts.length := by rw [HP.out.1]; exact hlt
      clear hsn hx hrx hgx
      repeat (first | refine l_op (o_move rfl rfl (by decide) rfl rfl) ?_ | refine l_op (o_assign rfl rfl (by decide) rfl rfl) ?_ | refine l_op (o_load rfl rfl (by decide) rfl rfl (by first | exact fun w hw => hw.cell_blkL 0 rfl rfl | exact fun w hw => hw.cell_blkL 1 rfl rfl | exact fun w hw => hw.cell_blkL 2 rfl rfl | exact fun w hw => hw.cell_blkL 3 rfl rfl | exact fun w hw => hw.cell_blkL 4 rfl rfl | exact fun w hw => hw.cell_blkL 5 rfl rfl | exact fun w hw => hw.cell_old (by assumption) (by simp) | exact fun w hw => hw.cell_range (by assumption) rfl (by simp))) ?_ | refine l_op (o_indexAddr1 rfl rfl (by decide) rfl rfl rfl (by assumption)) ?_ | refine l_nil ?_ | refine s_seq ?_ | refine s_region ?_ | refine s_skip ?_ | refine s_cond_true rfl ?_ | refine s_block ?_ | refine l_op (o_lss rfl rfl (by decide) rfl rfl rfl (by first | assumption | exact decide_eq_true (by omega) | exact decide_eq_false (by omega) | rfl)) ?_)
      repeat (first | refine q_op (o_move rfl rfl (by decide) rfl rfl) ?_ | refine q_op (o_assign rfl rfl (by decide) rfl rfl) ?_ | refine q_op (o_fieldAddr rfl rfl (by decide) rfl rfl) ?_ | refine q_op (o_load rfl rfl (by decide) rfl rfl (by first | exact fun w hw => hw.cell_blkL 0 rfl rfl | exact fun w hw => hw.cell_blkL 1 rfl rfl | exact fun w hw => hw.cell_blkL 2 rfl rfl | exact fun w hw => hw.cell_blkL 3 rfl rfl | exact fun w hw => hw.cell_blkL 4 rfl rfl | exact fun w hw => hw.cell_blkL 5 rfl rfl | exact fun w hw => hw.cell_old (by assumption) (by simp) | exact fun w hw => hw.cell_range (by assumption) rfl (by simp))) ?_ | refine q_op (o_indexAddr1 rfl rfl (by decide) rfl rfl rfl (by assumption)) ?_ | refine q_op (o_indexAddrI rfl rfl (by decide) rfl rfl rfl (by omega)) ?_ | refine q_end ?_ | refine s_draw (by kernel_rfl) (by kernel_rfl) ?_ | refine q_op (o_neq rfl rfl (by decide) rfl rfl rfl (by first | assumption | exact bne_iff_ne.2 (by omega) | exact bne_eq_false_iff_eq.2 (by omega) | rfl)) ?_ | refine q_op (o_pick_yes rfl rfl (by decide) rfl rfl rfl) ?_ | refine q_op (o_seql rfl rfl (by decide) rfl rfl rfl (by first | assumption | rfl)) ?_)
      skip
      refine s_cond rfl (fun hk => ?_) (fun hk => ?_)
      · skip
        repeat (first | refine l_op (o_assign rfl rfl (by decide) rfl rfl) ?_ | refine l_nil ?_ | refine s_seq ?_ | refine s_region ?_ | refine s_ret ?_ | refine x_then_ret ?_ | refine x_block_ret ?_)
        refine x_body1 (.inr rfl) rfl (.tmp rfl) (fun w hw => int_end ?_ hw)
        have hv : nameC F r.names r.parts i = 13 := by unfold nameC; rw [HG.out, he, HK.out, hk]; rfl
        rw [← HI.out, firstC_yes hlt (by rw [hv]; decide), hv]
      · skip
        repeat (first | refine l_op (o_move rfl rfl (by decide) rfl rfl) ?_ | refine l_op (o_assign rfl rfl (by decide) rfl rfl) ?_ | refine l_nil ?_ | refine s_seq ?_ | refine s_region ?_ | refine s_skip ?_ | refine s_cond_false rfl ?_ | refine l_op (o_pick_no rfl rfl (by decide) rfl rfl rfl) ?_ | refine l_op (o_add (k := .i64) rfl rfl (by decide) rfl rfl rfl (IntWalk.i64_in _ (by omega))) ?_ | refine l_op (o_sneq rfl rfl (by decide) rfl rfl rfl (by first | assumption | rfl)) ?_ | refine l_op (o_skip rfl (by decide) rfl) ?_)
        refine x_round (i + 1) [0, 1] (by decide) ⟨by omega, ?_⟩ (by omega) (.cons rfl rfl (.cons rfl rfl (.cons rfl rfl (.cons rfl rfl (.cons rfl (by go_num) .nil))))) rfl
        have hv : nameC F r.names r.parts i = 0 := by unfold nameC; rw [HG.out, he, HK.out, hk]; rfl
        rw [← firstC_no hlt hv]
        exact HI.out
    | false =>
      have hne : (s.data.toList != ([] : List UInt8)) = true := by rw [bne, he]; rfl
      have hsz : s.size ≤ 9223372036854775807 := by
        have := HS.out.each _ (List.mem_of_getElem? hsn)
        have e : s.size = s.data.toList.length := by simp
        omega
      clear hsn
      repeat (first | refine l_op (o_move rfl rfl (by decide) rfl rfl) ?_ | refine l_op (o_assign rfl rfl (by decide) rfl rfl) ?_ | refine l_op (o_load rfl rfl (by decide) rfl rfl (by first | exact fun w hw => hw.cell_blkL 0 rfl rfl | exact fun w hw => hw.cell_blkL 1 rfl rfl | exact fun w hw => hw.cell_blkL 2 rfl rfl | exact fun w hw => hw.cell_blkL 3 rfl rfl | exact fun w hw => hw.cell_blkL 4 rfl rfl | exact fun w hw => hw.cell_blkL 5 rfl rfl | exact fun w hw => hw.cell_old (by assumption) (by simp) | exact fun w hw => hw.cell_range (by assumption) rfl (by simp))) ?_ | refine l_op (o_indexAddr1 rfl rfl (by decide) rfl rfl rfl (by assumption)) ?_ | refine l_nil ?_ | refine s_seq ?_ | refine s_region ?_ | refine s_skip ?_ | refine s_cond_true rfl ?_ | refine s_block ?_ | refine l_op (o_lss rfl rfl (by decide) rfl rfl rfl (by first | assumption | exact decide_eq_true (by omega) | exact decide_eq_false (by omega) | rfl)) ?_)
      repeat (first | refine q_op (o_move rfl rfl (by decide) rfl rfl) ?_ | refine q_op (o_assign rfl rfl (by decide) rfl rfl) ?_ | refine q_end ?_ | refine s_draw (by kernel_rfl) (by kernel_rfl) ?_ | refine q_op (o_pick_no rfl rfl (by decide) rfl rfl rfl) ?_ | refine q_op (o_seql rfl rfl (by decide) rfl rfl rfl (by first | assumption | rfl)) ?_ | refine q_op (o_skip rfl (by decide) rfl) ?_)
      repeat (first | refine l_op (o_move rfl rfl (by decide) rfl rfl) ?_ | refine l_op (o_assign rfl rfl (by decide) rfl rfl) ?_ | refine l_op (o_call (f := 77) rfl rfl (by decide) rfl rfl (fun w hw => name_calls _ w hsz)) ?_ | refine l_nil ?_ | refine s_seq ?_ | refine s_region ?_ | refine s_cond_false rfl ?_ | refine l_op (o_pick_yes rfl rfl (by decide) rfl rfl rfl) ?_ | refine l_op (o_not rfl rfl (by decide) rfl rfl rfl) ?_ | refine l_op (o_sneq rfl rfl (by decide) rfl rfl rfl (by first | assumption | rfl)) ?_)
      refine s_cond rfl (fun hk => ?_) (fun hk => ?_)
      · skip
        repeat (first | refine l_op (o_assign rfl rfl (by decide) rfl rfl) ?_ | refine l_nil ?_ | refine s_seq ?_ | refine s_region ?_ | refine s_ret ?_ | refine x_then_ret ?_ | refine x_block_ret ?_)
        refine x_body1 (.inr rfl) rfl (.tmp rfl) (fun w hw => int_end ?_ hw)
        have hv : nameC F r.names r.parts i = 7 := by unfold nameC; rw [HG.out, he, hk]; rfl
        rw [← HI.out, firstC_yes hlt (by rw [hv]; decide), hv]
      · skip
        repeat (first | refine l_op (o_move rfl rfl (by decide) rfl rfl) ?_ | refine l_op (o_assign rfl rfl (by decide) rfl rfl) ?_ | refine l_op (o_fieldAddr rfl rfl (by decide) rfl rfl) ?_ | refine l_op (o_load rfl rfl (by decide) rfl rfl (by first | exact fun w hw => hw.cell_blkL 0 rfl rfl | exact fun w hw => hw.cell_blkL 1 rfl rfl | exact fun w hw => hw.cell_blkL 2 rfl rfl | exact fun w hw => hw.cell_blkL 3 rfl rfl | exact fun w hw => hw.cell_blkL 4 rfl rfl | exact fun w hw => hw.cell_blkL 5 rfl rfl | exact fun w hw => hw.cell_old (by assumption) (by simp) | exact fun w hw => hw.cell_range (by assumption) rfl (by simp))) ?_ | (refine l_op (o_slice_h rfl rfl (by decide) rfl rfl rfl (by have := HL.out.cn; omega)) ?_) | refine l_op (o_call (f := 92) rfl rfl (by decide) rfl rfl (fun w hw => Calls.stay (containsStrs_calls (rd_take_sv (HL.out.on hw.k.below).n (by omega) HL.out.cn) (by omega)))) ?_ | refine l_nil ?_ | refine s_seq ?_ | refine s_region ?_ | refine l_op (o_pick_yes rfl rfl (by decide) rfl rfl rfl) ?_ | refine l_op (o_sneq rfl rfl (by decide) rfl rfl rfl (by first | assumption | rfl)) ?_)
        refine s_cond rfl (fun hq => ?_) (fun hq => ?_)
        · skip
          repeat (first | refine l_op (o_assign rfl rfl (by decide) rfl rfl) ?_ | refine l_nil ?_ | refine s_seq ?_ | refine s_region ?_ | refine s_ret ?_ | refine x_then_ret ?_ | refine x_block_ret ?_)
          refine x_body1 (.inr rfl) rfl (.tmp rfl) (fun w hw => int_end ?_ hw)
          have hv : nameC F r.names r.parts i = 8 := by unfold nameC; rw [HG.out, he, hk, hq]; rfl
          rw [← HI.out, firstC_yes hlt (by rw [hv]; decide), hv]
        · skip
          repeat (first | refine l_op (o_move rfl rfl (by decide) rfl rfl) ?_ | refine l_nil ?_ | refine s_region ?_ | refine s_skip ?_ | refine l_op (o_add (k := .i64) rfl rfl (by decide) rfl rfl rfl (IntWalk.i64_in _ (by omega))) ?_)
          refine x_round (i + 1) [0, 1] (by decide) ⟨by omega, ?_⟩ (by omega) (.cons rfl rfl (.cons rfl rfl (.cons rfl rfl (.cons rfl rfl (.cons rfl (by go_num) .nil))))) rfl
          have hv : nameC F r.names r.parts i = 0 := by unfold nameC; rw [HG.out, he, hk, hq]; rfl
          rw [← firstC_no hlt hv]
          exact HI.out
  · skip
    repeat (first | refine l_op (o_assign rfl rfl (by decide) rfl rfl) ?_ | refine l_nil ?_ | refine s_seq ?_ | refine s_region ?_ | refine s_cond_false rfl ?_ | refine s_exit ?_ | refine s_ret ?_ | refine l_op (o_lss rfl rfl (by decide) rfl rfl rfl (by first | assumption | exact decide_eq_true (by omega) | exact decide_eq_false (by omega) | rfl)) ?_)
    refine x_body1 (by first | exact .inl rfl | exact .inr rfl) rfl (.tmp rfl) (fun w hw => int_end ?_ hw)
    rw [← HI.out, show r.names.length - i = 0 by omega]
    rfl
theorem checkUse_calls {F : List Rl} {r : Rl} {A Ab An Ap : Option Addr} {n c cb cn cp : Nat} {W : World} (hf : FmIn W W.heap.size A n F) (hl : RuL W r Ab cb An cn Ap cp) (hs : RSm r) (hu : UseOk n r) :
    Calls Tryz.prog 59 #[.agg #[.slice A n c], .agg (ruC r (.slice Ab r.bs.length cb) (.slice An r.names.length cn) (.slice Ap r.parts.length cp)).toArray] W (IntEnd W (useC F r)) := by
  cases hc : useCount r.kind with
  | true => exact checkUse_a hf hl hs hu hc
  | false =>
    by_cases h7 : r.kind = 7
    · exact checkUse_c hf hl hs hu h7
    · exact checkUse_b hc (bne_iff_ne.2 h7)
end Go.Proofs.YtgdiadednlajgaaGreatDoor
