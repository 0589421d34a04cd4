import Derived.Test.YtgdiadednlajgaaGreatDoorP28
import Derived.Test.YtgdiadednlajgaaGreatDoorP42
import Derived.Test.YtgdiadednlajgaaGreatDoorP18
namespace Go.Proofs.YtgdiadednlajgaaGreatDoor
open Go.RowKit
set_option linter.unusedVariables false
set_option linter.unusedSimpArgs false
structure LeV (w : World) (g bs n : Nat) (out : List Int) (gf : Nat) (A : Option Addr) (c : Nat) : Prop where
  v : w.cell? ⟨g, 0, none⟩ = some (.slice (some ⟨bs, 0, none⟩) n n)
  at_ : ∀ j, j < n → w.cell? ⟨bs, 0 + j, none⟩ = some (.int .i64 (out.getD j 0))
  f : w.cell? ⟨gf, 0, none⟩ = some (.slice A n c)
abbrev leArgs (r : Rl) (Ab An Ap : Option Addr) (cb cn cp g gf : Nat) : Array Value := [Value.agg (ruC r (.slice Ab r.bs.length cb) (.slice An r.names.length cn) (.slice Ap r.parts.length cp)).toArray].toArray ++ #[.pointer (some ⟨g, 0, none⟩), .pointer (some ⟨gf, 0, none⟩)]
section
variable {F : List Rl} {A Ab An Ap : Option Addr} {n c cb cn cp g bs gf : Nat} {out : List Int} {W : World}
set_option maxRecDepth 100000 in
set_option maxHeartbeats 8000000 in
theorem leone_s {r : Rl} (hk : r.kind = 1 ∨ (r.kind = 2 ∨ r.kind = 4) ∨ r.kind = 3 ∨ (r.kind = 5 ∨ r.kind = 9)) :
    Calls Tryz.prog 33 (leArgs r Ab An Ap cb cn cp g gf) W (IntEnd W (oneT F out r)) := by
  rw [show leArgs r Ab An Ap cb cn cp g gf = #[.agg (ruC r (.slice Ab r.bs.length cb) (.slice An r.names.length cn) (.slice Ap r.parts.length cp)).toArray, .pointer (some ⟨g, 0, none⟩), .pointer (some ⟨gf, 0, none⟩)] from app12 _ _ _]
  obtain ⟨name, kind, bs', size, big, mn, mx, stop, count, elem, names, parts⟩ := r
  simp only at hk
  rcases hk with rfl | (rfl | rfl) | rfl | (rfl | rfl) <;>
  · go_enter Tryz.func33, Tryz.ntmps33
    refine s_go (M := []) (W := W) (N := 87) (E := [(0, .agg (ruC ⟨name, _, bs', size, big, mn, mx, stop, count, elem, names, parts⟩ (.slice Ab bs'.length cb) (.slice An names.length cn) (.slice Ap parts.length cp)).toArray), (1, .pointer (some ⟨g, 0, none⟩)), (2, .pointer (some ⟨gf, 0, none⟩))]) (O := []) ?_ (Ag.cons (Ag.cons (Ag.cons (Ag.nil rfl rfl) rfl) rfl) rfl) (Wd.start [] W)
    repeat (first | refine l_op (o_assign rfl rfl (by decide) rfl rfl) ?_ | refine l_op (o_fieldAddr rfl rfl (by decide) rfl rfl) ?_ | refine l_op (o_load rfl rfl (by decide) rfl rfl (by first | exact fun w hw => hw.cell_blkL 0 rfl rfl | exact fun w hw => hw.cell_blkL 1 rfl rfl | exact fun w hw => hw.cell_blkL 2 rfl rfl | exact fun w hw => hw.cell_blkL 3 rfl rfl | exact fun w hw => hw.cell_blkL 4 rfl rfl | exact fun w hw => hw.cell_blkL 5 rfl rfl | exact fun w hw => hw.cell_old (by assumption) (by simp) | exact fun w hw => hw.cell_range (by assumption) rfl (by simp))) ?_ | refine l_loud (u_box rfl rfl rfl rfl) rfl (by decide) (fun br _ => ?_) | refine l_nil ?_ | refine s_seq ?_ | refine s_region ?_ | refine s_skip ?_ | refine s_cond_true rfl ?_ | refine s_cond_false rfl ?_ | refine s_ret ?_ | refine s_block ?_ | refine x_then_ret ?_ | refine x_block_ret ?_ | refine l_op (o_len rfl rfl (by decide) rfl rfl) ?_ | refine l_op (o_eql rfl rfl (by decide) rfl rfl rfl (by first | assumption | exact beq_iff_eq.2 (by omega) | exact beq_eq_false_iff_ne.2 (by omega) | rfl)) ?_)
    exact x_body1 (by first | exact .inl rfl | exact .inr rfl) rfl (.tmp rfl) (fun w hw => int_end rfl hw)
set_option maxRecDepth 100000 in
set_option maxHeartbeats 8000000 in
theorem leone_10 {r : Rl} (hv : LeV W g bs n out gf A c) (hf : FmIn W W.heap.size A n F) (hk : r.kind = 10) (hc : 0 ≤ r.count ∧ r.count < n) (hmn : 0 ≤ mnAt F r.count ∧ mnAt F r.count ≤ 4294967295) (hb : ∀ j : Nat, 0 ≤ out.getD j 0 ∧ out.getD j 0 ≤ 1001) :
    Calls Tryz.prog 33 (leArgs r Ab An Ap cb cn cp g gf) W (IntEnd W (oneT F out r)) := by
  rw [show leArgs r Ab An Ap cb cn cp g gf = #[.agg (ruC r (.slice Ab r.bs.length cb) (.slice An r.names.length cn) (.slice Ap r.parts.length cp)).toArray, .pointer (some ⟨g, 0, none⟩), .pointer (some ⟨gf, 0, none⟩)] from app12 _ _ _]
  rw [oneT_10 out hk]
  obtain ⟨name, kind, bs', size, big, mn, mx, stop, count, elem, names, parts⟩ := r
  simp only at hk hc hmn ⊢
  subst hk
  obtain ⟨b, o, rfl⟩ := hf.addr (by omega)
  obtain ⟨rc, Ac, cc, Ad, cd, Ae, ce, hrc, hrg, _⟩ := hf.rl (i := count.toNat) (by omega)
  have hv1 := hv.v
  have hv2 := hv.at_ count.toNat (by omega)
  have hv3 := hv.f
  have hb1 := hb count.toNat
  have hmc := mnAt_eq hrc
  rw [hmc] at hmn ⊢
  have hlk : lk out count = out.getD count.toNat 0 := rfl
  rw [hlk]
  generalize out.getD count.toNat 0 = oc at hv2 hb1
  clear hrc hmc hv hf hb hlk
  go_enter Tryz.func33, Tryz.ntmps33
  refine s_go (M := []) (W := W) (N := 87) (E := [(0, .agg (ruC ⟨name, 10, bs', size, big, mn, mx, stop, count, elem, names, parts⟩ (.slice Ab bs'.length cb) (.slice An names.length cn) (.slice Ap parts.length cp)).toArray), (1, .pointer (some ⟨g, 0, none⟩)), (2, .pointer (some ⟨gf, 0, none⟩))]) (O := []) ?_ (Ag.cons (Ag.cons (Ag.cons (Ag.nil rfl rfl) rfl) rfl) rfl) (Wd.start [] W)
  repeat (first | refine l_op (o_assign rfl rfl (by decide) rfl rfl) ?_ | refine l_op (o_fieldAddr rfl rfl (by decide) rfl rfl) ?_ | refine l_op (o_load rfl rfl (by decide) rfl rfl (by first | exact fun w hw => hw.cell_blkL 0 rfl rfl | exact fun w hw => hw.cell_blkL 1 rfl rfl | exact fun w hw => hw.cell_blkL 2 rfl rfl | exact fun w hw => hw.cell_blkL 3 rfl rfl | exact fun w hw => hw.cell_blkL 4 rfl rfl | exact fun w hw => hw.cell_blkL 5 rfl rfl | exact fun w hw => hw.cell_old (by assumption) (by simp) | exact fun w hw => hw.cell_range (by assumption) rfl (by simp))) ?_ | refine l_loud (u_box rfl rfl rfl rfl) rfl (by decide) (fun br _ => ?_) | refine l_nil ?_ | refine s_seq ?_ | refine s_region ?_ | refine s_cond_true rfl ?_ | refine s_cond_false rfl ?_ | refine s_block ?_ | refine l_op (o_eql rfl rfl (by decide) rfl rfl rfl (by first | assumption | exact beq_iff_eq.2 (by omega) | exact beq_eq_false_iff_ne.2 (by omega) | rfl)) ?_)
  repeat (first | refine q_op (o_assign rfl rfl (by decide) rfl rfl) ?_ | refine q_op (o_fieldAddr rfl rfl (by decide) rfl rfl) ?_ | refine q_op (o_load rfl rfl (by decide) rfl rfl (by first | exact fun w hw => hw.cell_blkL 0 rfl rfl | exact fun w hw => hw.cell_blkL 1 rfl rfl | exact fun w hw => hw.cell_blkL 2 rfl rfl | exact fun w hw => hw.cell_blkL 3 rfl rfl | exact fun w hw => hw.cell_blkL 4 rfl rfl | exact fun w hw => hw.cell_blkL 5 rfl rfl | exact fun w hw => hw.cell_old (by assumption) (by simp) | exact fun w hw => hw.cell_range (by assumption) rfl (by simp))) ?_ | refine q_op (o_loadN rfl rfl (by decide) rfl rfl (by first | exact fun w hw => hw.range_blk 0 rfl | exact fun w hw => hw.range_blk 1 rfl | exact fun w hw => hw.range_blk 2 rfl | exact fun w hw => hw.range_blk 3 rfl | exact fun w hw => hw.range_blk 4 rfl | exact fun w hw => hw.range_blk 5 rfl | exact fun w hw => hw.range_old (by assumption) (by simp)) (by first | rfl | exact setC_len _)) ?_ | refine q_op (o_indexAddrI1 rfl rfl (by decide) rfl rfl rfl hc) ?_ | refine q_op (o_indexAddrI rfl rfl (by decide) rfl rfl rfl hc) ?_ | refine q_op (o_call (f := 34) rfl rfl (by decide) rfl rfl (fun w hw => least_calls w)) ?_ | refine q_end ?_ | refine s_draw (by kernel_rfl) (by kernel_rfl) ?_ | refine q_op (o_add (k := .i64) rfl rfl (by decide) rfl rfl rfl (IntWalk.i64_in _ (by omega))) ?_)
  repeat (first | refine s_ret ?_ | refine x_then_ret ?_ | refine x_block_ret ?_)
  exact x_body1 (by first | exact .inl rfl | exact .inr rfl) rfl (.tmp rfl) (fun w hw => int_end rfl hw)
set_option maxRecDepth 100000 in
set_option maxHeartbeats 8000000 in
theorem leone_6 {r : Rl} (hv : LeV W g bs n out gf A c) (hf : FmIn W W.heap.size A n F) (hk : r.kind = 6) (hc : 0 ≤ r.count ∧ r.count < n) (he : 0 ≤ r.elem ∧ r.elem < n) (hmn : 0 ≤ mnAt F r.count ∧ mnAt F r.count ≤ 4294967295) (hb : ∀ j : Nat, 0 ≤ out.getD j 0 ∧ out.getD j 0 ≤ 1001) :
    Calls Tryz.prog 33 (leArgs r Ab An Ap cb cn cp g gf) W (IntEnd W (oneT F out r)) := by
  rw [show leArgs r Ab An Ap cb cn cp g gf = #[.agg (ruC r (.slice Ab r.bs.length cb) (.slice An r.names.length cn) (.slice Ap r.parts.length cp)).toArray, .pointer (some ⟨g, 0, none⟩), .pointer (some ⟨gf, 0, none⟩)] from app12 _ _ _]
  rw [oneT_6 out hk]
  obtain ⟨name, kind, bs', size, big, mn, mx, stop, count, elem, names, parts⟩ := r
  simp only at hk hc he hmn ⊢
  subst hk
  obtain ⟨b, o, rfl⟩ := hf.addr (by omega)
  obtain ⟨rc, Ac, cc, Ad, cd, Ae, ce, hrc, hrg, _⟩ := hf.rl (i := count.toNat) (by omega)
  have hv1 := hv.v
  have hv2 := hv.at_ count.toNat (by omega)
  have hv4 := hv.at_ elem.toNat (by omega)
  have hv3 := hv.f
  have hb1 := hb count.toNat
  have hb2 := hb elem.toNat
  have hmc := mnAt_eq hrc
  rw [hmc] at hmn ⊢
  have hlk : lk out count = out.getD count.toNat 0 := rfl
  have hle : lk out elem = out.getD elem.toNat 0 := rfl
  rw [hlk, hle]
  generalize out.getD count.toNat 0 = oc at hv2 hb1
  generalize out.getD elem.toNat 0 = oe at hv4 hb2
  have hp0 := Int.mul_nonneg hmn.1 hb2.1
  have hp1 : rc.mn * oe ≤ 4294967295 * 1001 := Int.mul_le_mul hmn.2 hb2.2 hb2.1 (by decide)
  clear hrc hmc hv hf hb hlk hle
  go_enter Tryz.func33, Tryz.ntmps33
  refine s_go (M := []) (W := W) (N := 87) (E := [(0, .agg (ruC ⟨name, 6, bs', size, big, mn, mx, stop, count, elem, names, parts⟩ (.slice Ab bs'.length cb) (.slice An names.length cn) (.slice Ap parts.length cp)).toArray), (1, .pointer (some ⟨g, 0, none⟩)), (2, .pointer (some ⟨gf, 0, none⟩))]) (O := []) ?_ (Ag.cons (Ag.cons (Ag.cons (Ag.nil rfl rfl) rfl) rfl) rfl) (Wd.start [] W)
  repeat (first | refine l_op (o_assign rfl rfl (by decide) rfl rfl) ?_ | refine l_op (o_fieldAddr rfl rfl (by decide) rfl rfl) ?_ | refine l_op (o_load rfl rfl (by decide) rfl rfl (by first | exact fun w hw => hw.cell_blkL 0 rfl rfl | exact fun w hw => hw.cell_blkL 1 rfl rfl | exact fun w hw => hw.cell_blkL 2 rfl rfl | exact fun w hw => hw.cell_blkL 3 rfl rfl | exact fun w hw => hw.cell_blkL 4 rfl rfl | exact fun w hw => hw.cell_blkL 5 rfl rfl | exact fun w hw => hw.cell_old (by assumption) (by simp) | exact fun w hw => hw.cell_range (by assumption) rfl (by simp))) ?_ | refine l_loud (u_box rfl rfl rfl rfl) rfl (by decide) (fun br _ => ?_) | refine l_nil ?_ | refine s_seq ?_ | refine s_region ?_ | refine s_cond_true rfl ?_ | refine s_cond_false rfl ?_ | refine s_block ?_ | refine l_op (o_eql rfl rfl (by decide) rfl rfl rfl (by first | assumption | exact beq_iff_eq.2 (by omega) | exact beq_eq_false_iff_ne.2 (by omega) | rfl)) ?_)
  repeat (first | refine q_op (o_assign rfl rfl (by decide) rfl rfl) ?_ | refine q_op (o_fieldAddr rfl rfl (by decide) rfl rfl) ?_ | refine q_op (o_load rfl rfl (by decide) rfl rfl (by first | exact fun w hw => hw.cell_blkL 0 rfl rfl | exact fun w hw => hw.cell_blkL 1 rfl rfl | exact fun w hw => hw.cell_blkL 2 rfl rfl | exact fun w hw => hw.cell_blkL 3 rfl rfl | exact fun w hw => hw.cell_blkL 4 rfl rfl | exact fun w hw => hw.cell_blkL 5 rfl rfl | exact fun w hw => hw.cell_old (by assumption) (by simp) | exact fun w hw => hw.cell_range (by assumption) rfl (by simp))) ?_ | refine q_op (o_loadN rfl rfl (by decide) rfl rfl (by first | exact fun w hw => hw.range_blk 0 rfl | exact fun w hw => hw.range_blk 1 rfl | exact fun w hw => hw.range_blk 2 rfl | exact fun w hw => hw.range_blk 3 rfl | exact fun w hw => hw.range_blk 4 rfl | exact fun w hw => hw.range_blk 5 rfl | exact fun w hw => hw.range_old (by assumption) (by simp)) (by first | rfl | exact setC_len _)) ?_ | refine q_op (o_indexAddrI1 rfl rfl (by decide) rfl rfl rfl hc) ?_ | refine q_op (o_indexAddrI1 rfl rfl (by decide) rfl rfl rfl he) ?_ | refine q_op (o_indexAddrI rfl rfl (by decide) rfl rfl rfl hc) ?_ | refine q_op (o_call (f := 34) rfl rfl (by decide) rfl rfl (fun w hw => least_calls w)) ?_ | refine q_op (o_mul (k := .i64) rfl rfl (by decide) rfl rfl rfl (IntWalk.i64_in _ (by omega))) ?_ | refine q_end ?_ | refine s_draw (by kernel_rfl) (by kernel_rfl) ?_ | refine q_op (o_add (k := .i64) rfl rfl (by decide) rfl rfl rfl (IntWalk.i64_in _ (by omega))) ?_)
  repeat (first | refine s_ret ?_ | refine x_then_ret ?_ | refine x_block_ret ?_)
  exact x_body1 (by first | exact .inl rfl | exact .inr rfl) rfl (.tmp rfl) (fun w hw => int_end rfl hw)
set_option maxRecDepth 100000 in
set_option maxHeartbeats 8000000 in
theorem leone_78 {r : Rl} (hv : LeV W g bs n out gf A c) (hl : RuL W r Ab cb An cn Ap cp) (hk : r.kind = 7 ∨ r.kind = 8) (hp12 : r.parts.length ≤ 12) (hin : ∀ x ∈ r.parts, 0 ≤ x ∧ x < n) (hb : ∀ j : Nat, 0 ≤ out.getD j 0 ∧ out.getD j 0 ≤ 1001) :
    Calls Tryz.prog 33 (leArgs r Ab An Ap cb cn cp g gf) W (IntEnd W (oneT F out r)) := by
  rw [show leArgs r Ab An Ap cb cn cp g gf = #[.agg (ruC r (.slice Ab r.bs.length cb) (.slice An r.names.length cn) (.slice Ap r.parts.length cp)).toArray, .pointer (some ⟨g, 0, none⟩), .pointer (some ⟨gf, 0, none⟩)] from app12 _ _ _]
  have hone : oneT F out r = if r.kind == 8 then minT out r.parts else sumT out r.parts := by
    rcases hk with h | h
    · rw [oneT_7 out h, h]; rfl
    · rw [oneT_8 out h, h]; rfl
  rw [hone]
  clear hone
  have HP := Lib.hid hl.p
  have HIN := Lib.hid hin
  have HB := Lib.hid hb
  have HV := Lib.hid hv
  have hv1 := hv.v
  obtain ⟨name, kind, bs', size, big, mn, mx, stop, count, elem, names, parts⟩ := r
  simp only at hk hp12 ⊢
  clear hl hin hb hv
  have hcell1 : (([Value.string ⟨name.toArray⟩] : List Value)).length = 1 := rfl
  clear hcell1
  rcases hk with rfl | rfl <;>
  · go_enter Tryz.func33, Tryz.ntmps33
    refine s_go (M := []) (W := W) (N := 87) (E := [(0, .agg (ruC ⟨name, _, bs', size, big, mn, mx, stop, count, elem, names, parts⟩ (.slice Ab bs'.length cb) (.slice An names.length cn) (.slice Ap parts.length cp)).toArray), (1, .pointer (some ⟨g, 0, none⟩)), (2, .pointer (some ⟨gf, 0, none⟩))]) (O := []) ?_ (Ag.cons (Ag.cons (Ag.cons (Ag.nil rfl rfl) rfl) rfl) rfl) (Wd.start [] W)
    repeat (first | refine l_op (o_move rfl rfl (by decide) rfl rfl) ?_ | refine l_op (o_assign rfl rfl (by decide) rfl rfl) ?_ | refine l_op (o_fieldAddr rfl rfl (by decide) rfl rfl) ?_ | refine l_op (o_load rfl rfl (by decide) rfl rfl (by first | exact fun w hw => hw.cell_blkL 0 rfl rfl | exact fun w hw => hw.cell_blkL 1 rfl rfl | exact fun w hw => hw.cell_blkL 2 rfl rfl | exact fun w hw => hw.cell_blkL 3 rfl rfl | exact fun w hw => hw.cell_blkL 4 rfl rfl | exact fun w hw => hw.cell_blkL 5 rfl rfl | exact fun w hw => hw.cell_old (by assumption) (by simp) | exact fun w hw => hw.cell_range (by assumption) rfl (by simp))) ?_ | refine l_loud (u_box rfl rfl rfl rfl) rfl (by decide) (fun br _ => ?_) | refine l_nil ?_ | refine s_seq ?_ | refine s_region ?_ | refine s_skip ?_ | refine s_cond_true rfl ?_ | refine s_cond_false rfl ?_ | refine s_block ?_ | refine l_op (o_len rfl rfl (by decide) rfl rfl) ?_ | refine l_op (o_eql rfl rfl (by decide) rfl rfl rfl (by first | assumption | exact beq_iff_eq.2 (by omega) | exact beq_eq_false_iff_ne.2 (by omega) | rfl)) ?_)
    refine s_loop (ι := Nat) (fun i => i ≤ parts.length ∧ 0 ≤ sumT out (parts.take i) ∧ sumT out (parts.take i) ≤ 1001 * i) (fun i => parts.length - i) (fun i => [(1, .pointer (some ⟨g, 0, none⟩)), (3, .pointer (some ⟨br, 0, none⟩)), (5, .int .i64 (sumT out (parts.take i))), (6, .int .i64 (minT out (parts.take i))), (63, .slice Ap parts.length cp), (64, .int .i64 (parts.length : Int)), (65, .int .i64 (i : Int))]) (fun i => [.blk br (.cells (ruC ⟨name, _, bs', size, big, mn, mx, stop, count, elem, names, parts⟩ (.slice Ab bs'.length cb) (.slice An names.length cn) (.slice Ap parts.length cp)).toArray 52 (0, 0))]) 0 [0] (by decide) ⟨Nat.zero_le _, Int.le_refl _, Int.le_refl _⟩ (.cons rfl rfl (.cons rfl rfl (.cons rfl rfl (.cons rfl rfl (.cons rfl rfl (.cons rfl rfl (.cons rfl rfl .nil))))))) rfl ?_
    rintro i ⟨hi, hs0, hs1⟩
    by_cases hlt : i < parts.length
    · obtain ⟨bp, op, hA, _, hpc⟩ := HP.out.2 (by show 0 < parts.length; omega)
      subst hA
      obtain ⟨x, hx⟩ : ∃ x, parts[i]? = some x := ⟨_, List.getElem?_eq_getElem hlt⟩
      have hcp : W.cell? ⟨bp, op + i, none⟩ = some (.int .i64 x) := hpc i _ (by show (iv parts)[i]? = _; unfold iv; rw [List.getElem?_map, hx]; rfl)
      have hxn := HIN.out x (List.mem_of_getElem? hx)
      have hcx := HV.out.at_ x.toNat (by omega)
      have hbx := HB.out x.toNat
      have hsum : sumT out (parts.take (i + 1)) = sumT out (parts.take i) + out.getD x.toNat 0 := by
        rw [List.take_add_one, hx]
        unfold sumT
        rw [List.foldl_append]
        rfl
      have hmin : minT out (parts.take (i + 1)) = min (minT out (parts.take i)) (out.getD x.toNat 0) := by
        rw [List.take_add_one, hx]
        unfold minT
        rw [List.foldl_append]
        rfl
      generalize out.getD x.toNat 0 = ox at hcx hbx hsum hmin
      generalize sumT out (parts.take i) = sm at hs0 hs1 hsum ⊢
      generalize minT out (parts.take i) = mi at hmin ⊢
      clear hx hpc
      repeat (first | refine l_op (o_assign rfl rfl (by decide) rfl rfl) ?_ | refine l_op (o_load rfl rfl (by decide) rfl rfl (by first | exact fun w hw => hw.cell_blkL 0 rfl rfl | exact fun w hw => hw.cell_blkL 1 rfl rfl | exact fun w hw => hw.cell_blkL 2 rfl rfl | exact fun w hw => hw.cell_blkL 3 rfl rfl | exact fun w hw => hw.cell_blkL 4 rfl rfl | exact fun w hw => hw.cell_blkL 5 rfl rfl | exact fun w hw => hw.cell_old (by assumption) (by simp) | exact fun w hw => hw.cell_range (by assumption) rfl (by simp))) ?_ | refine l_op (o_indexAddr1 rfl rfl (by decide) rfl rfl rfl hlt) ?_ | refine l_nil ?_ | refine s_seq ?_ | refine s_region ?_ | refine s_skip ?_ | refine s_cond_true rfl ?_ | refine s_block ?_ | refine l_op (o_lss rfl rfl (by decide) rfl rfl rfl (by first | assumption | exact decide_eq_true (by omega) | exact decide_eq_false (by omega) | rfl)) ?_)
      repeat (first | refine q_op (o_move rfl rfl (by decide) rfl rfl) ?_ | refine q_op (o_assign rfl rfl (by decide) rfl rfl) ?_ | refine q_op (o_load rfl rfl (by decide) rfl rfl (by first | exact fun w hw => hw.cell_blkL 0 rfl rfl | exact fun w hw => hw.cell_blkL 1 rfl rfl | exact fun w hw => hw.cell_blkL 2 rfl rfl | exact fun w hw => hw.cell_blkL 3 rfl rfl | exact fun w hw => hw.cell_blkL 4 rfl rfl | exact fun w hw => hw.cell_blkL 5 rfl rfl | exact fun w hw => hw.cell_old (by assumption) (by simp) | exact fun w hw => hw.cell_range (by assumption) rfl (by simp))) ?_ | refine q_op (o_indexAddrI1 rfl rfl (by decide) rfl rfl rfl hxn) ?_ | refine q_op (o_min rfl rfl (by decide) rfl rfl rfl) ?_ | refine q_end ?_ | refine s_draw (by kernel_rfl) (by kernel_rfl) ?_ | refine q_op (o_add (k := .i64) rfl rfl (by decide) rfl rfl rfl (IntWalk.i64_in _ (by omega))) ?_)
      repeat (first | refine l_op (o_move rfl rfl (by decide) rfl rfl) ?_ | refine l_nil ?_ | refine s_region ?_ | refine l_op (o_add (k := .i64) rfl rfl (by decide) rfl rfl rfl (IntWalk.i64_in _ (by omega))) ?_)
      refine x_round (i + 1) [0] (by decide) ⟨hlt, by omega, by rw [hsum]; omega⟩ (by omega) (.cons rfl rfl (.cons rfl rfl (.cons rfl (by rw [hsum]) (.cons rfl (by rw [hmin]) (.cons rfl rfl (.cons rfl rfl (.cons rfl (by go_num) .nil))))))) rfl
    · have htk : parts.take i = parts := List.take_of_length_le (by omega)
      rw [htk]
      repeat (first | refine l_op (o_move rfl rfl (by decide) rfl rfl) ?_ | refine l_op (o_assign rfl rfl (by decide) rfl rfl) ?_ | refine l_op (o_fieldAddr rfl rfl (by decide) rfl rfl) ?_ | refine l_op (o_load rfl rfl (by decide) rfl rfl (by first | exact fun w hw => hw.cell_blkL 0 rfl rfl | exact fun w hw => hw.cell_blkL 1 rfl rfl | exact fun w hw => hw.cell_blkL 2 rfl rfl | exact fun w hw => hw.cell_blkL 3 rfl rfl | exact fun w hw => hw.cell_blkL 4 rfl rfl | exact fun w hw => hw.cell_blkL 5 rfl rfl | exact fun w hw => hw.cell_old (by assumption) (by simp) | exact fun w hw => hw.cell_range (by assumption) rfl (by simp))) ?_ | refine l_nil ?_ | refine s_seq ?_ | refine s_region ?_ | refine s_skip ?_ | refine s_cond_true rfl ?_ | refine s_cond_false rfl ?_ | refine s_exit ?_ | refine s_ret ?_ | refine x_then_ret ?_ | refine x_block_ret ?_ | refine l_op (o_eql rfl rfl (by decide) rfl rfl rfl (by first | assumption | exact beq_iff_eq.2 (by omega) | exact beq_eq_false_iff_ne.2 (by omega) | rfl)) ?_ | refine l_op (o_lss rfl rfl (by decide) rfl rfl rfl (by first | assumption | exact decide_eq_true (by omega) | exact decide_eq_false (by omega) | rfl)) ?_)
      exact x_body1 (by first | exact .inl rfl | exact .inr rfl) rfl (.tmp rfl) (fun w hw => int_end rfl hw)
end
theorem leone_calls {F : List Rl} {r : Rl} {A Ab An Ap : Option Addr} {n c cb cn cp g bs gf i : Nat} {out : List Int} {W : World} (hv : LeV W g bs n out gf A c) (hf : FmIn W W.heap.size A n F) (hl : RuL W r Ab cb An cn Ap cp) (hu : Usd F) (hr : F[i]? = some r) (hb : ∀ j : Nat, 0 ≤ out.getD j 0 ∧ out.getD j 0 ≤ 1001) :
    Calls Tryz.prog 33 (leArgs r Ab An Ap cb cn cp g gf) W (IntEnd W (oneT F out r)) := by
  have hok := hu.ok i r hr
  rw [hf.1] at hok
  have hmx : (r.kind = 6 ∨ r.kind = 10) → 0 ≤ mnAt F r.count ∧ mnAt F r.count ≤ 4294967295 := fun hk => by
    obtain ⟨q, hq, _⟩ := hu.use i r hr hk
    have hq0 := hu.ok _ _ hq
    rw [mnAt_eq hq]
    exact (nsm_of hq0 (by have := (List.getElem?_eq_some_iff.1 hr).1; omega)).mn
  rcases (by have := kinds10 hok; omega : (r.kind = 1 ∨ (r.kind = 2 ∨ r.kind = 4) ∨ r.kind = 3 ∨ (r.kind = 5 ∨ r.kind = 9)) ∨ r.kind = 6 ∨ r.kind = 10 ∨ r.kind = 7 ∨ r.kind = 8) with hk | h6 | h10 | h7 | h8
  · exact leone_s hk
  · exact leone_6 hv hf h6 (hok.count (.inl h6)) (hok.elem (.inl h6)) (hmx (.inl h6)) hb
  · exact leone_10 hv hf h10 (hok.count (.inr h10)) (hmx (.inr h10)) hb
  · exact leone_78 hv hl (.inl h7) hok.p12 (hok.parts (.inl h7)) hb
  · exact leone_78 hv hl (.inr h8) hok.p12 (hok.parts (.inr h8)) hb
end Go.Proofs.YtgdiadednlajgaaGreatDoor
