import Derived.Test.YtgdiadednlajgaaGreatDoorP23
namespace Go.Proofs.YtgdiadednlajgaaGreatDoor
open Go.RowKit
set_option linter.unusedVariables false
set_option linter.unusedSimpArgs false
section
variable {P : Program} {ops : Array Oper} {C : World → Prop} {N : Nat} {E : Env} {o : Oper} {d : Nat}
theorem o_indexArrI {t e : TypeId} {x y : Operand} {b q n s : Nat} {k : IntKind} {m : Int} [hT : Ar P t n e s] (ho : o.op = .indexAddr t x y) (hd : o.dst = some d) (hN : d < N) (hw : wantE ops E o = some true) (hx : ev E x = some (.pointer (some ⟨b, q, none⟩))) (hy : ev E y = some (.int k m)) (hj : 0 ≤ m ∧ m < n) : oE P ops C N E ((d, .pointer (some ⟨b, q + m.toNat * s, none⟩)) :: E) o := by
  obtain ⟨j, rfl⟩ : ∃ j : Nat, m = (j : Int) := ⟨m.toNat, by omega⟩
  exact o_indexArr ho hd hN hw hx hy (by omega)
end
theorem Rd.cellAt {w : World} {B s b n j : Nat} {xs : List Value} {u : Value} (h : Rd w B s (some ⟨b, 0, none⟩) n xs) (hn : 0 < n) (hu : xs[j]? = some u) : w.cell? ⟨b, 0 + j, none⟩ = some u := by
  obtain ⟨b', o, e, _, hc⟩ := h.2 hn
  cases e
  exact hc j u hu
def meetL (S : List (Nat → Bool)) : (Nat → Bool) → List Int → Bool
  | _, [] => false
  | seen, x :: l => (List.range 256).any (fun c => (S.getD x.toNat nilS) c && seen c) || meetL S (orS seen (S.getD x.toNat nilS)) l
def conflR (S : List (Nat → Bool)) (r : Rl) : Bool :=
  if r.kind = 9 then (S.getD r.elem.toNat nilS) r.stop.toNat else if r.kind = 8 then meetL S noS r.parts else false
def seenS (S : List (Nat → Bool)) (l : List Int) : Nat → Bool := l.foldl (fun s x => orS s (S.getD x.toNat nilS)) noS
theorem meetL_app (S : List (Nat → Bool)) : ∀ (l m : List Int) (s : Nat → Bool), meetL S s (l ++ m) = (meetL S s l || meetL S (l.foldl (fun s x => orS s (S.getD x.toNat nilS)) s) m)
  | [], m, s => rfl
  | x :: l, m, s => by
    rw [List.cons_append, meetL, meetL, meetL_app S l m, List.foldl_cons, Bool.or_assoc]
def seenTo (s t : Nat → Bool) (c : Nat) : Nat → Bool := fun j => if j < c then s j || t j else s j
theorem seenTo_zero (s t : Nat → Bool) : seenTo s t 0 = s := by funext j; simp [seenTo]
theorem seenTo_all (s t : Nat → Bool) : setC (seenTo s t 256) = setC (orS s t) := setC_ext fun j hj => by simp [seenTo, hj, orS]
theorem seenTo_step (s t : Nat → Bool) (c : Nat) : (setC (seenTo s t c)).set c (.bool (s c || t c)) = setC (seenTo s t (c + 1)) := by
  rw [setC_set]
  congr 1
  funext j
  unfold seenTo
  by_cases h1 : j = c
  · subst h1; simp
  · by_cases h2 : j < c
    · have : j < c + 1 := by omega
      simp [h1, h2, this]
    · have : ¬ j < c + 1 := by omega
      simp [h1, h2, this]
theorem seenTo_at (s t : Nat → Bool) {c : Nat} (hc : c < 256) : (setC (seenTo s t c))[c]? = some (.bool (s c)) := by
  rw [setC_at _ hc]
  simp [seenTo]
set_option maxRecDepth 100000 in
set_option maxHeartbeats 8000000 in
theorem conflict_a {S : List (Nat → Bool)} {r : Rl} {Ab An Ap : Option Addr} {b n c cb cn cp : Nat} {W : World} (hr : ROk n r) (hS : S.length = n) (hrd : Rd W W.heap.size 256 (some ⟨b, 0, none⟩) n (setsC S)) (hk : r.kind = 9) :
    Calls Tryz.prog 63 #[.agg (ruC r (.slice Ab r.bs.length cb) (.slice An r.names.length cn) (.slice Ap r.parts.length cp)).toArray, .slice (some ⟨b, 0, none⟩) n c] W (BoolEnd W (conflR S r)) := by
  obtain ⟨name, kind, bs, size, big, mn, mx, stop, count, elem, names, parts⟩ := r
  have he := hr.elem (.inr hk)
  have hs := hr.stop (.inr (.inr hk))
  simp only at he hs hk
  subst hk
  have hs' : 0 ≤ stop ∧ stop < (256 : Nat) := by omega
  have hcell : W.cell? ⟨b, 0 + elem.toNat * 256 + stop.toNat * 1, none⟩ = some (.bool ((S.getD elem.toNat nilS) stop.toNat)) := by
    rw [Nat.mul_one, Nat.add_assoc]
    exact hrd.cellAt (by omega) (setsC_at S _ _ (by omega) (by omega))
  go_enter Tryz.func63, Tryz.ntmps63
  refine s_go (M := []) (W := W) (N := 55) (E := [(0, .agg (ruC ⟨name, 9, bs, size, big, mn, mx, stop, count, elem, names, parts⟩ (.slice Ab bs.length cb) (.slice An names.length cn) (.slice Ap parts.length cp)).toArray), (1, .slice (some ⟨b, 0, none⟩) n c)]) (O := []) ?_ (Ag.cons (Ag.cons (Ag.nil rfl rfl) rfl) rfl) (Wd.start [] W)
  repeat (first | refine l_op (o_assign rfl rfl (by decide) rfl rfl) ?_ | refine l_op (o_fieldAddr rfl rfl (by decide) rfl rfl) ?_ | refine l_op (o_load rfl rfl (by decide) rfl rfl (by first | exact fun w hw => hw.cell_blkL 0 rfl rfl | exact fun w hw => hw.cell_blkL 1 rfl rfl | exact fun w hw => hw.cell_blkL 2 rfl rfl | exact fun w hw => hw.cell_blkL 3 rfl rfl | exact fun w hw => hw.cell_blkL 4 rfl rfl | exact fun w hw => hw.cell_blkL 5 rfl rfl | exact fun w hw => hw.cell_old (by assumption) (by simp) | exact fun w hw => hw.cell_range (by assumption) rfl (by simp))) ?_ | refine l_loud (u_box rfl rfl rfl rfl) rfl (by decide) (fun br _ => ?_) | refine l_nil ?_ | refine s_seq ?_ | refine s_region ?_ | refine s_cond_true rfl ?_ | refine s_block ?_ | refine l_op (o_eql rfl rfl (by decide) rfl rfl rfl (by first | assumption | exact beq_iff_eq.2 (by omega) | exact beq_eq_false_iff_ne.2 (by omega) | rfl)) ?_)
  repeat (first | refine q_op (o_move rfl rfl (by decide) rfl rfl) ?_ | refine q_op (o_assign rfl rfl (by decide) rfl rfl) ?_ | refine q_op (o_fieldAddr rfl rfl (by decide) rfl rfl) ?_ | refine q_op (o_load rfl rfl (by decide) rfl rfl (by first | exact fun w hw => hw.cell_blkL 0 rfl rfl | exact fun w hw => hw.cell_blkL 1 rfl rfl | exact fun w hw => hw.cell_blkL 2 rfl rfl | exact fun w hw => hw.cell_blkL 3 rfl rfl | exact fun w hw => hw.cell_blkL 4 rfl rfl | exact fun w hw => hw.cell_blkL 5 rfl rfl | exact fun w hw => hw.cell_old (by assumption) (by simp) | exact fun w hw => hw.cell_range (by assumption) rfl (by simp))) ?_ | refine q_op (o_indexAddrI rfl rfl (by decide) rfl rfl rfl he) ?_ | refine q_op (o_indexArrI rfl rfl (by decide) rfl rfl rfl hs') ?_ | refine q_end ?_ | refine s_draw (by kernel_rfl) (by kernel_rfl) ?_)
  repeat (first | refine s_ret ?_ | refine x_then_ret ?_ | refine x_block_ret ?_)
  refine x_body1 (by first | exact .inl rfl | exact .inr rfl) rfl (.tmp rfl) (fun w hw => bool_end rfl hw)
set_option maxRecDepth 100000 in
set_option maxHeartbeats 8000000 in
theorem conflict_b {S : List (Nat → Bool)} {r : Rl} {A Ab An Ap : Option Addr} {n c cb cn cp : Nat} {W : World} (h9 : (r.kind == 9) = false) (h8 : (r.kind == 8) = false) :
    Calls Tryz.prog 63 #[.agg (ruC r (.slice Ab r.bs.length cb) (.slice An r.names.length cn) (.slice Ap r.parts.length cp)).toArray, .slice A n c] W (BoolEnd W (conflR S r)) := by
  go_enter Tryz.func63, Tryz.ntmps63
  refine s_go (M := []) (W := W) (N := 55) (E := [(0, .agg (ruC r (.slice Ab r.bs.length cb) (.slice An r.names.length cn) (.slice Ap r.parts.length cp)).toArray), (1, .slice A n c)]) (O := []) ?_ (Ag.cons (Ag.cons (Ag.nil rfl rfl) rfl) rfl) (Wd.start [] W)
  repeat (first | refine l_op (o_assign rfl rfl (by decide) rfl rfl) ?_ | refine l_op (o_fieldAddr rfl rfl (by decide) rfl rfl) ?_ | refine l_op (o_load rfl rfl (by decide) rfl rfl (by first | exact fun w hw => hw.cell_blkL 0 rfl rfl | exact fun w hw => hw.cell_blkL 1 rfl rfl | exact fun w hw => hw.cell_blkL 2 rfl rfl | exact fun w hw => hw.cell_blkL 3 rfl rfl | exact fun w hw => hw.cell_blkL 4 rfl rfl | exact fun w hw => hw.cell_blkL 5 rfl rfl | exact fun w hw => hw.cell_old (by assumption) (by simp) | exact fun w hw => hw.cell_range (by assumption) rfl (by simp))) ?_ | refine l_loud (u_box rfl rfl rfl rfl) rfl (by decide) (fun br _ => ?_) | refine l_nil ?_ | refine s_seq ?_ | refine s_region ?_ | refine s_skip ?_ | refine s_cond_false rfl ?_ | refine s_ret ?_ | refine s_block ?_ | refine l_op (o_eql rfl rfl (by decide) rfl rfl rfl (by first | assumption | exact beq_iff_eq.2 (by omega) | exact beq_eq_false_iff_ne.2 (by omega) | rfl)) ?_)
  refine x_body1 (by first | exact .inl rfl | exact .inr rfl) rfl (.tmp rfl) (fun w hw => bool_end ?_ hw)
  unfold conflR
  rw [if_neg (by simpa using h9), if_neg (by simpa using h8)]
set_option maxRecDepth 100000 in
set_option maxHeartbeats 8000000 in
theorem conflict_c {S : List (Nat → Bool)} {r : Rl} {Ab An Ap : Option Addr} {b n c cb cn cp : Nat} {W : World} (hl : RuL W r Ab cb An cn Ap cp) (hr : ROk n r) (hS : S.length = n) (hrd : Rd W W.heap.size 256 (some ⟨b, 0, none⟩) n (setsC S)) (hk : r.kind = 8) :
    Calls Tryz.prog 63 #[.agg (ruC r (.slice Ab r.bs.length cb) (.slice An r.names.length cn) (.slice Ap r.parts.length cp)).toArray, .slice (some ⟨b, 0, none⟩) n c] W (BoolEnd W (conflR S r)) := by
  have h12 := hr.p12
  have h2 := hr.eight hk
  have hin := hr.parts (.inr hk)
  have hp := hl.p
  obtain ⟨name, kind, bs, size, big, mn, mx, stop, count, elem, names, parts⟩ := r
  simp only at h12 h2 hin hp hk
  subst hk
  have HIN := Lib.hid hin
  have HRD := Lib.hid hrd
  clear hin hrd hl hr
  obtain ⟨bp, op, hA, hpb, hpc⟩ := hp.2 (by omega)
  subst hA
  have HPC := Lib.hid hpc
  clear hp hpc
  have hconf : conflR S ⟨name, 8, bs, size, big, mn, mx, stop, count, elem, names, parts⟩ = meetL S noS parts := rfl
  rw [hconf]
  clear hconf
  go_enter Tryz.func63, Tryz.ntmps63
  refine s_go (M := []) (W := W) (N := 55) (E := [(0, .agg (ruC ⟨name, 8, bs, size, big, mn, mx, stop, count, elem, names, parts⟩ (.slice Ab bs.length cb) (.slice An names.length cn) (.slice (some ⟨bp, op, none⟩) parts.length cp)).toArray), (1, .slice (some ⟨b, 0, none⟩) n c)]) (O := []) ?_ (Ag.cons (Ag.cons (Ag.nil rfl rfl) rfl) rfl) (Wd.start [] W)
  repeat (first | refine l_op (o_move rfl rfl (by decide) rfl rfl) ?_ | refine l_op (o_assign rfl rfl (by decide) rfl rfl) ?_ | refine l_op (o_fieldAddr rfl rfl (by decide) rfl rfl) ?_ | refine l_op (o_load rfl rfl (by decide) rfl rfl (by first | exact fun w hw => hw.cell_blkL 0 rfl rfl | exact fun w hw => hw.cell_blkL 1 rfl rfl | exact fun w hw => hw.cell_blkL 2 rfl rfl | exact fun w hw => hw.cell_blkL 3 rfl rfl | exact fun w hw => hw.cell_blkL 4 rfl rfl | exact fun w hw => hw.cell_blkL 5 rfl rfl | exact fun w hw => hw.cell_old (by assumption) (by simp) | exact fun w hw => hw.cell_range (by assumption) rfl (by simp))) ?_ | refine l_loud (u_box rfl rfl rfl rfl) rfl (by decide) (fun br _ => ?_) | refine l_loud (u_alloc (t := 63) rfl rfl) rfl (by decide) (fun b7 _ => ?_) | refine l_nil ?_ | refine s_seq ?_ | refine s_region ?_ | refine s_cond_true rfl ?_ | refine s_cond_false rfl ?_ | refine s_block ?_ | refine l_op (o_len rfl rfl (by decide) rfl rfl) ?_ | refine l_op (o_eql rfl rfl (by decide) rfl rfl rfl (by first | assumption | exact beq_iff_eq.2 (by omega) | exact beq_eq_false_iff_ne.2 (by omega) | rfl)) ?_)
  refine s_loop (ι := Nat) (fun j => j ≤ parts.length ∧ meetL S noS (parts.take j) = false) (fun j => parts.length - j) (fun j => [(1, .slice (some ⟨b, 0, none⟩) n c), (5, .pointer (some ⟨b7, 0, none⟩)), (25, .slice (some ⟨bp, op, none⟩) parts.length cp), (26, .int .i64 (parts.length : Int)), (27, .int .i64 (j : Int))]) (fun j => [.blk b7 (.cells (setC (seenS S (parts.take j))).toArray 63 (0, 0))]) 0 [0] (by decide) ⟨Nat.zero_le _, rfl⟩ (.cons rfl rfl (.cons rfl rfl (.cons rfl rfl (.cons rfl rfl (.cons rfl rfl .nil))))) rfl ?_
  rintro j ⟨hj, hno⟩
  have HNO := Lib.hid hno
  clear hno
  by_cases hjn : j < parts.length
  · obtain ⟨x, hx⟩ : ∃ x, parts[j]? = some x := ⟨_, List.getElem?_eq_getElem hjn⟩
    have hxn := HIN.out x (List.mem_of_getElem? hx)
    have hcj : W.cell? ⟨bp, op + j, none⟩ = some (.int .i64 x) := HPC.out j _ (by unfold iv; rw [List.getElem?_map, hx]; rfl)
    have HX := Lib.hid hx
    clear hx
    obtain ⟨st, hst⟩ : ∃ st, st = S.getD x.toNat nilS := ⟨_, rfl⟩
    obtain ⟨s, hs⟩ : ∃ s, s = seenS S (parts.take j) := ⟨_, rfl⟩
    have hset : W.rangeAt b (0 + x.toNat * 256) (setC st) := fun q u hu => by
      rw [Nat.add_assoc]
      rw [hst] at hu
      exact HRD.out.cellAt (by omega) (setsC_drop S x.toNat (by omega) q u hu)
    rw [← hs]
    have HST := Lib.hid hst
    have HS := Lib.hid hs
    clear hst hs
    repeat (first | refine l_op (o_move rfl rfl (by decide) rfl rfl) ?_ | refine l_op (o_assign rfl rfl (by decide) rfl rfl) ?_ | refine l_op (o_load rfl rfl (by decide) rfl rfl (by first | exact fun w hw => hw.cell_blkL 0 rfl rfl | exact fun w hw => hw.cell_blkL 1 rfl rfl | exact fun w hw => hw.cell_blkL 2 rfl rfl | exact fun w hw => hw.cell_blkL 3 rfl rfl | exact fun w hw => hw.cell_blkL 4 rfl rfl | exact fun w hw => hw.cell_blkL 5 rfl rfl | exact fun w hw => hw.cell_old (by assumption) (by simp) | exact fun w hw => hw.cell_range (by assumption) rfl (by simp))) ?_ | refine l_op (o_loadN rfl rfl (by decide) rfl rfl (by first | exact fun w hw => hw.range_blk 0 rfl | exact fun w hw => hw.range_blk 1 rfl | exact fun w hw => hw.range_blk 2 rfl | exact fun w hw => hw.range_blk 3 rfl | exact fun w hw => hw.range_blk 4 rfl | exact fun w hw => hw.range_blk 5 rfl | exact fun w hw => hw.range_old (by assumption) (by simp)) (by first | rfl | exact setC_len _)) ?_ | refine l_op (o_indexAddr1 rfl rfl (by decide) rfl rfl rfl hjn) ?_ | refine l_op (o_indexAddrI rfl rfl (by decide) rfl rfl rfl hxn) ?_ | refine l_nil ?_ | refine s_seq ?_ | refine s_region ?_ | refine s_skip ?_ | refine s_cond_true rfl ?_ | refine s_block ?_ | refine l_op (o_lss rfl rfl (by decide) rfl rfl rfl (by first | assumption | exact decide_eq_true (by omega) | exact decide_eq_false (by omega) | rfl)) ?_)
    refine s_loop (ι := Nat) (fun q => q ≤ 256 ∧ ∀ i, i < q → (st i && s i) = false) (fun q => 256 - q) (fun q => [(1, .slice (some ⟨b, 0, none⟩) n c), (5, .pointer (some ⟨b7, 0, none⟩)), (25, .slice (some ⟨bp, op, none⟩) parts.length cp), (26, .int .i64 (parts.length : Int)), (27, .int .i64 (j : Int)), (34, .agg (setC st).toArray), (35, .int .i64 (q : Int))]) (fun q => [.blk b7 (.cells (setC (seenTo s st q)).toArray 63 (0, 0))]) 0 [0] (by decide) ⟨Nat.zero_le _, fun i hi => absurd hi (Nat.not_lt_zero _)⟩ (.cons rfl rfl (.cons rfl rfl (.cons rfl rfl (.cons rfl rfl (.cons rfl rfl (.cons rfl rfl (.cons rfl rfl .nil))))))) (by rw [seenTo_zero]; rfl) ?_
    rintro q ⟨hq, hmn⟩
    have HMN := Lib.hid hmn
    clear hmn
    by_cases hqn : q < 256
    · have hc0 : (setC (seenTo s st q))[0 + q * 1]? = some (.bool (s q)) := by rw [Nat.zero_add, Nat.mul_one]; exact seenTo_at s st hqn
      obtain ⟨sq, hsq⟩ : ∃ sq, s q = sq := ⟨_, rfl⟩
      obtain ⟨tq, htq⟩ : ∃ tq, st q = tq := ⟨_, rfl⟩
      have htc : (setC st)[q]? = some (.bool tq) := by rw [setC_at st hqn, htq]
      rw [hsq] at hc0
      have HSQ := Lib.hid hsq
      have HTQ := Lib.hid htq
      clear hsq htq
      cases tq with
      | true =>
        cases sq with
        | true =>
          repeat (first | refine l_op (o_move rfl rfl (by decide) rfl rfl) ?_ | refine l_op (o_assign rfl rfl (by decide) rfl rfl) ?_ | refine l_op (o_index (v := .bool true) rfl rfl (by decide) rfl rfl rfl hqn htc) ?_ | refine l_op (o_indexArr rfl rfl (by decide) rfl rfl rfl hqn) ?_ | refine l_op (o_load rfl rfl (by decide) rfl rfl (fun w hw => hw.cell_blkL 0 rfl hc0)) ?_ | refine l_nil ?_ | refine s_seq ?_ | refine s_region ?_ | refine s_skip ?_ | refine s_cond_true rfl ?_ | refine s_ret ?_ | refine s_block ?_ | refine x_then_ret ?_ | refine x_block_ret ?_ | refine l_op (o_lss rfl rfl (by decide) rfl rfl rfl (by first | assumption | exact decide_eq_true (by omega) | exact decide_eq_false (by omega) | rfl)) ?_ | refine l_op (o_pick_yes rfl rfl (by decide) rfl rfl rfl) ?_)
          refine x_body1 (by first | exact .inl rfl | exact .inr rfl) rfl (.tmp rfl) (fun w hw => bool_end ?_ hw)
          have e1 : meetL S noS (parts.take (j + 1)) = true := by
            rw [List.take_add_one, HX.out, Option.toList_some, meetL_app, HNO.out, Bool.false_or, meetL, Bool.or_eq_true]
            refine .inl (List.any_eq_true.2 ⟨q, List.mem_range.2 hqn, ?_⟩)
            rw [← HST.out, HTQ.out]
            show (true && seenS S (parts.take j) q) = true
            rw [← HS.out, HSQ.out]
            rfl
          have e2 := meetL_app S (parts.take (j + 1)) (parts.drop (j + 1)) noS
          rw [List.take_append_drop, e1, Bool.true_or] at e2
          exact e2.symm
        | false =>
          repeat (first | refine l_op (o_move rfl rfl (by decide) rfl rfl) ?_ | refine l_op (o_assign rfl rfl (by decide) rfl rfl) ?_ | refine l_op (o_index (v := .bool true) rfl rfl (by decide) rfl rfl rfl hqn htc) ?_ | refine l_op (o_indexArr rfl rfl (by decide) rfl rfl rfl hqn) ?_ | refine l_op (o_load rfl rfl (by decide) rfl rfl (fun w hw => hw.cell_blkL 0 rfl hc0)) ?_ | refine l_loud0 (u_store 0 rfl rfl rfl rfl rfl rfl hc0) rfl (fun _ _ => ?_) | refine l_nil ?_ | refine s_seq ?_ | refine s_region ?_ | refine s_skip ?_ | refine s_cond_true rfl ?_ | refine s_cond_false rfl ?_ | refine s_block ?_ | refine l_op (o_lss rfl rfl (by decide) rfl rfl rfl (by first | assumption | exact decide_eq_true (by omega) | exact decide_eq_false (by omega) | rfl)) ?_ | refine l_op (o_pick_yes rfl rfl (by decide) rfl rfl rfl) ?_ | refine l_op (o_pick_no rfl rfl (by decide) rfl rfl rfl) ?_ | refine l_op (o_add (k := .i64) rfl rfl (by decide) rfl rfl rfl (IntWalk.i64_in _ (by omega))) ?_)
          refine x_round (q + 1) [0] (by decide) ⟨hqn, fun i hi => ?_⟩ (by show 256 - (q + 1) < 256 - q; omega) (.cons rfl rfl (.cons rfl rfl (.cons rfl rfl (.cons rfl rfl (.cons rfl rfl (.cons rfl rfl (.cons rfl (by go_num) .nil))))))) ?_
          · rcases Nat.lt_or_ge i q with h | h
            · exact HMN.out i h
            · obtain rfl : i = q := by omega
              rw [HTQ.out, HSQ.out]; rfl
          · show [Atom.blk b7 (.cells ((setC (seenTo s st q)).set (0 + q * 1) (.bool true)).toArray _ _)] = [Atom.blk b7 (.cells (setC (seenTo s st (q + 1))).toArray _ _)]
            rw [← seenTo_step, HTQ.out, HSQ.out, Nat.zero_add, Nat.mul_one]
            rfl
      | false =>
        cases sq with
        | true =>
          repeat (first | refine l_op (o_move rfl rfl (by decide) rfl rfl) ?_ | refine l_op (o_assign rfl rfl (by decide) rfl rfl) ?_ | refine l_op (o_skip rfl (by decide) rfl) ?_ | refine l_op (o_index (v := .bool false) rfl rfl (by decide) rfl rfl rfl hqn htc) ?_ | refine l_op (o_indexArr rfl rfl (by decide) rfl rfl rfl hqn) ?_ | refine l_op (o_load rfl rfl (by decide) rfl rfl (fun w hw => hw.cell_blkL 0 rfl hc0)) ?_ | refine l_loud0 (u_store 0 rfl rfl rfl rfl rfl rfl hc0) rfl (fun _ _ => ?_) | refine l_nil ?_ | refine s_seq ?_ | refine s_region ?_ | refine s_skip ?_ | refine s_cond_true rfl ?_ | refine s_cond_false rfl ?_ | refine s_block ?_ | refine l_op (o_lss rfl rfl (by decide) rfl rfl rfl (by first | assumption | exact decide_eq_true (by omega) | exact decide_eq_false (by omega) | rfl)) ?_ | refine l_op (o_pick_yes rfl rfl (by decide) rfl rfl rfl) ?_ | refine l_op (o_pick_no rfl rfl (by decide) rfl rfl rfl) ?_ | refine l_op (o_add (k := .i64) rfl rfl (by decide) rfl rfl rfl (IntWalk.i64_in _ (by omega))) ?_)
          refine x_round (q + 1) [0] (by decide) ⟨hqn, fun i hi => ?_⟩ (by show 256 - (q + 1) < 256 - q; omega) (.cons rfl rfl (.cons rfl rfl (.cons rfl rfl (.cons rfl rfl (.cons rfl rfl (.cons rfl rfl (.cons rfl (by go_num) .nil))))))) ?_
          · rcases Nat.lt_or_ge i q with h | h
            · exact HMN.out i h
            · obtain rfl : i = q := by omega
              rw [HTQ.out, HSQ.out]; rfl
          · show [Atom.blk b7 (.cells ((setC (seenTo s st q)).set (0 + q * 1) (.bool true)).toArray _ _)] = [Atom.blk b7 (.cells (setC (seenTo s st (q + 1))).toArray _ _)]
            rw [← seenTo_step, HTQ.out, HSQ.out, Nat.zero_add, Nat.mul_one]
            rfl
        | false =>
          repeat (first | refine l_op (o_move rfl rfl (by decide) rfl rfl) ?_ | refine l_op (o_assign rfl rfl (by decide) rfl rfl) ?_ | refine l_op (o_skip rfl (by decide) rfl) ?_ | refine l_op (o_index (v := .bool false) rfl rfl (by decide) rfl rfl rfl hqn htc) ?_ | refine l_op (o_indexArr rfl rfl (by decide) rfl rfl rfl hqn) ?_ | refine l_op (o_load rfl rfl (by decide) rfl rfl (fun w hw => hw.cell_blkL 0 rfl hc0)) ?_ | refine l_loud0 (u_store 0 rfl rfl rfl rfl rfl rfl hc0) rfl (fun _ _ => ?_) | refine l_nil ?_ | refine s_seq ?_ | refine s_region ?_ | refine s_skip ?_ | refine s_cond_true rfl ?_ | refine s_cond_false rfl ?_ | refine s_block ?_ | refine l_op (o_lss rfl rfl (by decide) rfl rfl rfl (by first | assumption | exact decide_eq_true (by omega) | exact decide_eq_false (by omega) | rfl)) ?_ | refine l_op (o_pick_no rfl rfl (by decide) rfl rfl rfl) ?_ | refine l_op (o_add (k := .i64) rfl rfl (by decide) rfl rfl rfl (IntWalk.i64_in _ (by omega))) ?_)
          refine x_round (q + 1) [0] (by decide) ⟨hqn, fun i hi => ?_⟩ (by show 256 - (q + 1) < 256 - q; omega) (.cons rfl rfl (.cons rfl rfl (.cons rfl rfl (.cons rfl rfl (.cons rfl rfl (.cons rfl rfl (.cons rfl (by go_num) .nil))))))) ?_
          · rcases Nat.lt_or_ge i q with h | h
            · exact HMN.out i h
            · obtain rfl : i = q := by omega
              rw [HTQ.out, HSQ.out]; rfl
          · show [Atom.blk b7 (.cells ((setC (seenTo s st q)).set (0 + q * 1) (.bool false)).toArray _ _)] = [Atom.blk b7 (.cells (setC (seenTo s st (q + 1))).toArray _ _)]
            rw [← seenTo_step, HTQ.out, HSQ.out, Nat.zero_add, Nat.mul_one]
            rfl
    · skip
      repeat (first | refine l_op (o_move rfl rfl (by decide) rfl rfl) ?_ | refine l_nil ?_ | refine s_seq ?_ | refine s_region ?_ | refine s_cond_false rfl ?_ | refine s_exit ?_ | refine l_op (o_lss rfl rfl (by decide) rfl rfl rfl (by first | assumption | exact decide_eq_true (by omega) | exact decide_eq_false (by omega) | rfl)) ?_ | refine l_op (o_add (k := .i64) rfl rfl (by decide) rfl rfl rfl (IntWalk.i64_in _ (by omega))) ?_)
      obtain rfl : q = 256 := by omega
      refine x_round (j + 1) [0] (by decide) ⟨hjn, ?_⟩ (by show parts.length - (j + 1) < parts.length - j; omega) (.cons rfl rfl (.cons rfl rfl (.cons rfl rfl (.cons rfl rfl (.cons rfl (by go_num) .nil))))) ?_
      · rw [List.take_add_one, HX.out, Option.toList_some, meetL_app, HNO.out, Bool.false_or, meetL]
        show (_ || false) = false
        rw [Bool.or_false, List.any_eq_false]
        intro i hi
        rw [← HST.out]
        have := HMN.out i (List.mem_range.1 hi)
        show ¬ (st i && seenS S (parts.take j) i) = true
        rw [← HS.out, this]
        exact Bool.false_ne_true
      · show [Atom.blk b7 (.cells (setC (seenTo s st 256)).toArray _ _)] = [Atom.blk b7 (.cells (setC (seenS S (parts.take (j + 1)))).toArray _ _)]
        rw [seenTo_all, List.take_add_one, HX.out, Option.toList_some]
        unfold seenS
        rw [List.foldl_append, HST.out, HS.out]
        rfl
  · skip
    repeat (first | refine l_op (o_assign rfl rfl (by decide) rfl rfl) ?_ | refine l_nil ?_ | refine s_seq ?_ | refine s_region ?_ | refine s_cond_false rfl ?_ | refine s_exit ?_ | refine s_ret ?_ | refine l_op (o_lss rfl rfl (by decide) rfl rfl rfl (by first | assumption | exact decide_eq_true (by omega) | exact decide_eq_false (by omega) | rfl)) ?_)
    refine x_body1 (by first | exact .inl rfl | exact .inr rfl) rfl (.tmp rfl) (fun w hw => bool_end ?_ hw)
    have := HNO.out
    rw [List.take_of_length_le (by omega)] at this
    exact this.symm
theorem conflict_calls {S : List (Nat → Bool)} {r : Rl} {Ab An Ap : Option Addr} {b n c cb cn cp : Nat} {W : World} (hl : RuL W r Ab cb An cn Ap cp) (hr : ROk n r) (hS : S.length = n) (hrd : Rd W W.heap.size 256 (some ⟨b, 0, none⟩) n (setsC S)) :
    Calls Tryz.prog 63 #[.agg (ruC r (.slice Ab r.bs.length cb) (.slice An r.names.length cn) (.slice Ap r.parts.length cp)).toArray, .slice (some ⟨b, 0, none⟩) n c] W (BoolEnd W (conflR S r)) := by
  by_cases h9 : r.kind = 9
  · exact conflict_a hr hS hrd h9
  · by_cases h8 : r.kind = 8
    · exact conflict_c hl hr hS hrd h8
    · exact conflict_b (beq_eq_false_iff_ne.2 h9) (beq_eq_false_iff_ne.2 h8)
end Go.Proofs.YtgdiadednlajgaaGreatDoor
