import Derived.Test.YtgdiadednlajgaaGreatDoorP17
namespace Go.Proofs.YtgdiadednlajgaaGreatDoor
open Go.RowKit
set_option linter.unusedVariables false
set_option linter.unusedSimpArgs false
def mnAt (F : List Rl) (x : Int) : Int := match F[x.toNat]? with | some r => r.mn | none => 0
theorem mnAt_eq {F : List Rl} {x : Int} {r : Rl} (h : F[x.toNat]? = some r) : mnAt F x = r.mn := by unfold mnAt; rw [h]
def mk (out : List Bool) (x : Int) : Bool := out.getD x.toNat false
def oneF (F : List Rl) (out : List Bool) (r : Rl) : Bool :=
  if r.kind = 10 then mk out r.count
  else if r.kind = 6 then mk out r.count && (mnAt F r.count == 0 || mk out r.elem)
  else if r.kind = 7 then !(r.parts.any fun k => !(mk out k))
  else if r.kind = 8 then r.parts.any fun k => mk out k
  else true
def finStep (F : List Rl) (out : List Bool) (k : Nat) : List Bool := out.set k (out.getD k false || (match F[k]? with | some r => oneF F out r | none => false))
def finRound (F : List Rl) (out : List Bool) : List Bool := (List.range F.length).foldl (finStep F) out
def finL (F : List Rl) : List Bool := iter (finRound F) F.length (List.replicate F.length false)
structure Outs (w : World) (g bs n : Nat) (out : List Bool) : Prop where
  v : w.cell? ⟨g, 0, none⟩ = some (.slice (some ⟨bs, 0, none⟩) n n)
  at_ : ∀ j, j < n → w.cell? ⟨bs, 0 + j, none⟩ = some (.bool (out.getD j false))
theorem Outs.on {w w' : World} {g bs n : Nat} {out : List Bool} (h : Outs w g bs n out) (hb : Below w.heap.size w w') : Outs w' g bs n out :=
  ⟨(hb.cell (fm_sm h.v)).trans h.v, fun j hj => (hb.cell (fm_sm (h.at_ j hj))).trans (h.at_ j hj)⟩
theorem has_calls1 {W : World} {g bs n : Nat} {out : List Bool} {x : Int} (h : Outs W g bs n out) (hx : 0 ≤ x ∧ x < n) : Calls Tryz.prog 94 #[.int .i64 x, .pointer (some ⟨g, 0, none⟩)] W fun e w' => e = .returned (.bool (mk out x)) ∧ Below W.heap.size W w' := by
  have hv := h.v
  have hc := h.at_ x.toNat (by omega)
  clear h
  go_enter Tryz.func94, Tryz.ntmps94
  refine s_go (M := []) (W := W) (N := 8) (E := [(0, .int .i64 x), (1, .pointer (some ⟨g, 0, none⟩))]) (O := []) ?_ (Ag.cons (Ag.cons (Ag.nil rfl rfl) rfl) rfl) (Wd.start [] W)
  repeat (first | refine l_op (o_move rfl rfl (by decide) rfl rfl) ?_ | refine l_op (o_assign rfl rfl (by decide) rfl rfl) ?_ | refine l_op (o_load rfl rfl (by decide) rfl rfl (by first | exact fun w hw => hw.cell_blkL 0 rfl rfl | exact fun w hw => hw.cell_blkL 1 rfl rfl | exact fun w hw => hw.cell_blkL 2 rfl rfl | exact fun w hw => hw.cell_blkL 3 rfl rfl | exact fun w hw => hw.cell_blkL 4 rfl rfl | exact fun w hw => hw.cell_blkL 5 rfl rfl | exact fun w hw => hw.cell_old (by assumption) (by simp) | exact fun w hw => hw.cell_range (by assumption) rfl (by simp))) ?_ | refine l_op (o_indexAddrI1 rfl rfl (by decide) rfl rfl rfl hx) ?_ | refine l_nil ?_ | refine s_seq ?_ | refine s_region ?_ | refine s_ret ?_)
  exact x_body1 (by first | exact .inl rfl | exact .inr rfl) rfl (.tmp rfl) (fun w hw => ⟨rfl, hw.k.below⟩)
theorem app11 (a b : Value) : (#[a] ++ #[b] : Array Value) = #[a, b] := by simp
theorem app12 (a b c : Value) : (#[a] ++ #[b, c] : Array Value) = #[a, b, c] := by simp
theorem has_clo {W : World} {g bs n : Nat} {out : List Bool} {x : Int} (h : Outs W g bs n out) (hx : 0 ≤ x ∧ x < n) : Calls Tryz.prog 94 ([Value.int .i64 x].toArray ++ #[.pointer (some ⟨g, 0, none⟩)]) W fun e w' => e = .returned (.bool (mk out x)) ∧ Below W.heap.size W w' := by
  rw [show ([Value.int .i64 x].toArray ++ #[.pointer (some ⟨g, 0, none⟩)] : Array Value) = _ from app11 _ _]
  exact has_calls1 h hx
theorem nhas_calls {W : World} {h g bs n : Nat} {out : List Bool} {x : Int} (hh : W.cell? ⟨h, 0, none⟩ = some (.func (.func 94) #[] #[.pointer (some ⟨g, 0, none⟩)])) (ho : Outs W g bs n out) (hx : 0 ≤ x ∧ x < n) : Calls Tryz.prog 97 #[.int .i64 x, .pointer (some ⟨h, 0, none⟩)] W fun e w' => e = .returned (.bool (!(mk out x))) ∧ Below W.heap.size W w' := by
  have HO := Lib.hid ho
  clear ho
  go_enter Tryz.func97, Tryz.ntmps97
  refine s_go (M := []) (W := W) (N := 8) (E := [(0, .int .i64 x), (1, .pointer (some ⟨h, 0, none⟩))]) (O := []) ?_ (Ag.cons (Ag.cons (Ag.nil rfl rfl) rfl) rfl) (Wd.start [] W)
  repeat (first | refine l_op (o_move rfl rfl (by decide) rfl rfl) ?_ | refine l_op (o_assign rfl rfl (by decide) rfl rfl) ?_ | refine l_op (o_load rfl rfl (by decide) rfl rfl (by first | exact fun w hw => hw.cell_blkL 0 rfl rfl | exact fun w hw => hw.cell_blkL 1 rfl rfl | exact fun w hw => hw.cell_blkL 2 rfl rfl | exact fun w hw => hw.cell_blkL 3 rfl rfl | exact fun w hw => hw.cell_blkL 4 rfl rfl | exact fun w hw => hw.cell_blkL 5 rfl rfl | exact fun w hw => hw.cell_old (by assumption) (by simp) | exact fun w hw => hw.cell_range (by assumption) rfl (by simp))) ?_ | refine l_op (o_callv (f := 94) rfl rfl (by decide) rfl rfl rfl (fun w hw => has_clo (HO.out.on hw.k.below) hx)) ?_ | refine l_nil ?_ | refine s_seq ?_ | refine s_region ?_ | refine s_ret ?_ | refine l_op (o_not rfl rfl (by decide) rfl rfl rfl) ?_)
  exact x_body1 (by first | exact .inl rfl | exact .inr rfl) rfl (.tmp rfl) (fun w hw => ⟨rfl, hw.k.below⟩)
theorem entered_has : Entered 94 := fun args W => by kernel_rfl
theorem entered_nhas : Entered 97 := fun args W => by kernel_rfl
structure OneV (w : World) (h g bs n : Nat) (out : List Bool) (gf : Nat) (A : Option Addr) (c : Nat) : Prop where
  o : Outs w g bs n out
  h : w.cell? ⟨h, 0, none⟩ = some (.func (.func 94) #[] #[.pointer (some ⟨g, 0, none⟩)])
  f : w.cell? ⟨gf, 0, none⟩ = some (.slice A n c)
set_option maxRecDepth 100000 in
set_option maxHeartbeats 4000000 in
theorem one_10 {F : List Rl} {r : Rl} {A Ab An Ap : Option Addr} {h g bs n gf c cb cn cp : Nat} {out : List Bool} {W : World} (hv : OneV W h g bs n out gf A c) (hf : FmIn W W.heap.size A n F) (hl : RuL W r Ab cb An cn Ap cp) (hr : ROk n r) (hk : r.kind = 10) :
    Calls Tryz.prog 95 #[.agg (ruC r (.slice Ab r.bs.length cb) (.slice An r.names.length cn) (.slice Ap r.parts.length cp)).toArray, .pointer (some ⟨h, 0, none⟩), .pointer (some ⟨gf, 0, none⟩)] W fun e w' => e = .returned (.bool (oneF F out r)) ∧ Below W.heap.size W w' := by
  have hh := hv.h
  have hff := hv.f
  have HO := Lib.hid hv.o
  have HL := Lib.hid hl
  have HR := Lib.hid hr
  have hp12 := hr.p12
  have hcn := hr.count (.inr hk)
  clear hv hl hr
  go_enter Tryz.func95, Tryz.ntmps95
  refine s_go (M := []) (W := W) (N := 48) (E := [(0, .agg (ruC r (.slice Ab r.bs.length cb) (.slice An r.names.length cn) (.slice Ap r.parts.length cp)).toArray), (1, .pointer (some ⟨h, 0, none⟩)), (2, .pointer (some ⟨gf, 0, none⟩))]) (O := []) ?_ (Ag.cons (Ag.cons (Ag.cons (Ag.nil rfl rfl) rfl) rfl) rfl) (Wd.start [] W)
  repeat (first | refine l_op (o_assign rfl rfl (by decide) rfl rfl) ?_ | refine l_op (o_fieldAddr rfl rfl (by decide) rfl rfl) ?_ | refine l_op (o_load rfl rfl (by decide) rfl rfl (by first | exact fun w hw => hw.cell_blkL 0 rfl rfl | exact fun w hw => hw.cell_blkL 1 rfl rfl | exact fun w hw => hw.cell_blkL 2 rfl rfl | exact fun w hw => hw.cell_blkL 3 rfl rfl | exact fun w hw => hw.cell_blkL 4 rfl rfl | exact fun w hw => hw.cell_blkL 5 rfl rfl | exact fun w hw => hw.cell_old (by assumption) (by simp) | exact fun w hw => hw.cell_range (by assumption) rfl (by simp))) ?_ | refine l_loud (u_box rfl rfl rfl rfl) rfl (by decide) (fun br _ => ?_) | refine l_op (o_callv (f := 94) rfl rfl (by decide) rfl rfl rfl (fun w hw => has_clo (HO.out.on hw.k.below) hcn)) ?_ | refine l_nil ?_ | refine s_seq ?_ | refine s_region ?_ | refine s_cond_true rfl ?_ | refine s_ret ?_ | refine s_block ?_ | refine x_then_ret ?_ | refine x_block_ret ?_ | refine l_op (o_eql rfl rfl (by decide) rfl rfl rfl (by first | assumption | exact beq_iff_eq.2 (by omega) | exact beq_eq_false_iff_ne.2 (by omega) | rfl)) ?_)
  exact x_body1 (by first | exact .inl rfl | exact .inr rfl) rfl (.tmp rfl) (fun w hw => ⟨by rw [oneF, if_pos hk], hw.k.below⟩)
set_option maxRecDepth 100000 in
set_option maxHeartbeats 4000000 in
theorem one_6 {F : List Rl} {r : Rl} {A Ab An Ap : Option Addr} {h g bs n gf c cb cn cp : Nat} {out : List Bool} {W : World} (hv : OneV W h g bs n out gf A c) (hf : FmIn W W.heap.size A n F) (hl : RuL W r Ab cb An cn Ap cp) (hr : ROk n r) (hk : r.kind = 6) :
    Calls Tryz.prog 95 #[.agg (ruC r (.slice Ab r.bs.length cb) (.slice An r.names.length cn) (.slice Ap r.parts.length cp)).toArray, .pointer (some ⟨h, 0, none⟩), .pointer (some ⟨gf, 0, none⟩)] W fun e w' => e = .returned (.bool (oneF F out r)) ∧ Below W.heap.size W w' := by
  have hh := hv.h
  have hff := hv.f
  have HO := Lib.hid hv.o
  have HL := Lib.hid hl
  have HR := Lib.hid hr
  have hp12 := hr.p12
  have hcn := hr.count (.inl hk)
  have hen := hr.elem (.inl hk)
  have hlen := hf.1
  obtain ⟨b, o, rfl⟩ := hf.addr (by omega)
  obtain ⟨rc, Ac, cc, Ad, cd, Ae, ce, hrc, hrg, _⟩ := hf.rl (i := r.count.toNat) (by omega)
  have HM := Lib.hid (mnAt_eq hrc)
  clear hrc hf hlen
  obtain ⟨B, hB⟩ : ∃ B, oneF F out r = B := ⟨_, rfl⟩
  have HB := Lib.hid (show (mk out r.count && (mnAt F r.count == 0 || mk out r.elem)) = B by rw [← hB, oneF, if_neg (by omega), if_pos hk])
  rw [hB]
  clear hB
  obtain ⟨h1, hh1⟩ : ∃ x, mk out r.count = x := ⟨_, rfl⟩
  obtain ⟨h3, hh3⟩ : ∃ x, mk out r.elem = x := ⟨_, rfl⟩
  have H1 := Lib.hid hh1
  have H3 := Lib.hid hh3
  clear hh1 hh3
  clear hv hl hr
  go_enter Tryz.func95, Tryz.ntmps95
  refine s_go (M := []) (W := W) (N := 48) (E := [(0, .agg (ruC r (.slice Ab r.bs.length cb) (.slice An r.names.length cn) (.slice Ap r.parts.length cp)).toArray), (1, .pointer (some ⟨h, 0, none⟩)), (2, .pointer (some ⟨gf, 0, none⟩))]) (O := []) ?_ (Ag.cons (Ag.cons (Ag.cons (Ag.nil rfl rfl) rfl) rfl) rfl) (Wd.start [] W)
  cases h1 with
  | false =>
    repeat (first | refine l_op (o_move rfl rfl (by decide) rfl rfl) ?_ | refine l_op (o_assign rfl rfl (by decide) rfl rfl) ?_ | refine l_op (o_fieldAddr rfl rfl (by decide) rfl rfl) ?_ | refine l_op (o_skip rfl (by decide) rfl) ?_ | refine l_op (o_load rfl rfl (by decide) rfl rfl (by first | exact fun w hw => hw.cell_blkL 0 rfl rfl | exact fun w hw => hw.cell_blkL 1 rfl rfl | exact fun w hw => hw.cell_blkL 2 rfl rfl | exact fun w hw => hw.cell_blkL 3 rfl rfl | exact fun w hw => hw.cell_blkL 4 rfl rfl | exact fun w hw => hw.cell_blkL 5 rfl rfl | exact fun w hw => hw.cell_old (by assumption) (by simp) | exact fun w hw => hw.cell_range (by assumption) rfl (by simp))) ?_ | refine l_loud (u_box rfl rfl rfl rfl) rfl (by decide) (fun br _ => ?_) | refine l_op (o_callv (v := .bool false) (f := 94) rfl rfl (by decide) rfl rfl rfl (fun w hw => (has_clo (HO.out.on hw.k.below) hcn).mono fun e w' hq => ⟨by rw [hq.1, H1.out], hq.2⟩)) ?_ | refine l_nil ?_ | refine s_seq ?_ | refine s_region ?_ | refine s_cond_true rfl ?_ | refine s_cond_false rfl ?_ | refine s_ret ?_ | refine s_block ?_ | refine x_then_ret ?_ | refine x_block_ret ?_ | refine l_op (o_eql rfl rfl (by decide) rfl rfl rfl (by first | assumption | exact beq_iff_eq.2 (by omega) | exact beq_eq_false_iff_ne.2 (by omega) | rfl)) ?_ | refine l_op (o_pick_no rfl rfl (by decide) rfl rfl rfl) ?_)
    exact x_body1 (by first | exact .inl rfl | exact .inr rfl) rfl (.tmp rfl) (fun w hw => ⟨by rw [← HB.out, H1.out]; rfl, hw.k.below⟩)
  | true =>
    by_cases hm : rc.mn = 0
    · skip
      repeat (first | refine l_op (o_move rfl rfl (by decide) rfl rfl) ?_ | refine l_op (o_assign rfl rfl (by decide) rfl rfl) ?_ | refine l_op (o_fieldAddr rfl rfl (by decide) rfl rfl) ?_ | refine l_op (o_skip rfl (by decide) rfl) ?_ | refine l_op (o_load rfl rfl (by decide) rfl rfl (by first | exact fun w hw => hw.cell_blkL 0 rfl rfl | exact fun w hw => hw.cell_blkL 1 rfl rfl | exact fun w hw => hw.cell_blkL 2 rfl rfl | exact fun w hw => hw.cell_blkL 3 rfl rfl | exact fun w hw => hw.cell_blkL 4 rfl rfl | exact fun w hw => hw.cell_blkL 5 rfl rfl | exact fun w hw => hw.cell_old (by assumption) (by simp) | exact fun w hw => hw.cell_range (by assumption) rfl (by simp))) ?_ | refine l_op (o_loadN rfl rfl (by decide) rfl rfl (by first | exact fun w hw => hw.range_blk 0 rfl | exact fun w hw => hw.range_blk 1 rfl | exact fun w hw => hw.range_blk 2 rfl | exact fun w hw => hw.range_blk 3 rfl | exact fun w hw => hw.range_blk 4 rfl | exact fun w hw => hw.range_blk 5 rfl | exact fun w hw => hw.range_old (by assumption) (by simp)) (by first | rfl | exact setC_len _)) ?_ | refine l_loud (u_box rfl rfl rfl rfl) rfl (by decide) (fun br _ => ?_) | refine l_op (o_call (f := 34) rfl rfl (by decide) rfl rfl (fun w hw => least_calls w)) ?_ | refine l_op (o_callv (v := .bool true) (f := 94) rfl rfl (by decide) rfl rfl rfl (fun w hw => (has_clo (HO.out.on hw.k.below) hcn).mono fun e w' hq => ⟨by rw [hq.1, H1.out], hq.2⟩)) ?_ | refine l_op (o_indexAddrI rfl rfl (by decide) rfl rfl rfl hcn) ?_ | refine l_nil ?_ | refine s_seq ?_ | refine s_region ?_ | refine s_cond_true rfl ?_ | refine s_cond_false rfl ?_ | refine s_ret ?_ | refine s_block ?_ | refine x_then_ret ?_ | refine x_block_ret ?_ | refine l_op (o_eql rfl rfl (by decide) rfl rfl rfl (by first | assumption | exact beq_iff_eq.2 (by omega) | exact beq_eq_false_iff_ne.2 (by omega) | rfl)) ?_ | refine l_op (o_pick_yes rfl rfl (by decide) rfl rfl rfl) ?_)
      exact x_body1 (by first | exact .inl rfl | exact .inr rfl) rfl (.tmp rfl) (fun w hw => ⟨by rw [← HB.out, H1.out, HM.out, hm]; rfl, hw.k.below⟩)
    · skip
      repeat (first | refine l_op (o_move rfl rfl (by decide) rfl rfl) ?_ | refine l_op (o_assign rfl rfl (by decide) rfl rfl) ?_ | refine l_op (o_fieldAddr rfl rfl (by decide) rfl rfl) ?_ | refine l_op (o_load rfl rfl (by decide) rfl rfl (by first | exact fun w hw => hw.cell_blkL 0 rfl rfl | exact fun w hw => hw.cell_blkL 1 rfl rfl | exact fun w hw => hw.cell_blkL 2 rfl rfl | exact fun w hw => hw.cell_blkL 3 rfl rfl | exact fun w hw => hw.cell_blkL 4 rfl rfl | exact fun w hw => hw.cell_blkL 5 rfl rfl | exact fun w hw => hw.cell_old (by assumption) (by simp) | exact fun w hw => hw.cell_range (by assumption) rfl (by simp))) ?_ | refine l_op (o_loadN rfl rfl (by decide) rfl rfl (by first | exact fun w hw => hw.range_blk 0 rfl | exact fun w hw => hw.range_blk 1 rfl | exact fun w hw => hw.range_blk 2 rfl | exact fun w hw => hw.range_blk 3 rfl | exact fun w hw => hw.range_blk 4 rfl | exact fun w hw => hw.range_blk 5 rfl | exact fun w hw => hw.range_old (by assumption) (by simp)) (by first | rfl | exact setC_len _)) ?_ | refine l_loud (u_box rfl rfl rfl rfl) rfl (by decide) (fun br _ => ?_) | refine l_op (o_call (f := 34) rfl rfl (by decide) rfl rfl (fun w hw => least_calls w)) ?_ | refine l_op (o_callv (v := .bool true) (f := 94) rfl rfl (by decide) rfl rfl rfl (fun w hw => (has_clo (HO.out.on hw.k.below) hcn).mono fun e w' hq => ⟨by rw [hq.1, H1.out], hq.2⟩)) ?_ | refine l_op (o_callv (v := .bool h3) (f := 94) rfl rfl (by decide) rfl rfl rfl (fun w hw => (has_clo (HO.out.on hw.k.below) hen).mono fun e w' hq => ⟨by rw [hq.1, H3.out], hq.2⟩)) ?_ | refine l_op (o_indexAddrI rfl rfl (by decide) rfl rfl rfl hcn) ?_ | refine l_nil ?_ | refine s_seq ?_ | refine s_region ?_ | refine s_cond_true rfl ?_ | refine s_cond_false rfl ?_ | refine s_ret ?_ | refine s_block ?_ | refine x_then_ret ?_ | refine x_block_ret ?_ | refine l_op (o_eql rfl rfl (by decide) rfl rfl rfl (by first | assumption | exact beq_iff_eq.2 (by omega) | exact beq_eq_false_iff_ne.2 (by omega) | rfl)) ?_ | refine l_op (o_pick_yes rfl rfl (by decide) rfl rfl rfl) ?_ | refine l_op (o_pick_no rfl rfl (by decide) rfl rfl rfl) ?_)
      exact x_body1 (by first | exact .inl rfl | exact .inr rfl) rfl (.tmp rfl) (fun w hw => ⟨by rw [← HB.out, H1.out, H3.out, HM.out]; simp [hm], hw.k.below⟩)
set_option maxRecDepth 100000 in
set_option maxHeartbeats 4000000 in
theorem one_7 {F : List Rl} {r : Rl} {A Ab An Ap : Option Addr} {h g bs n gf c cb cn cp : Nat} {out : List Bool} {W : World} (hv : OneV W h g bs n out gf A c) (hf : FmIn W W.heap.size A n F) (hl : RuL W r Ab cb An cn Ap cp) (hr : ROk n r) (hk : r.kind = 7) :
    Calls Tryz.prog 95 #[.agg (ruC r (.slice Ab r.bs.length cb) (.slice An r.names.length cn) (.slice Ap r.parts.length cp)).toArray, .pointer (some ⟨h, 0, none⟩), .pointer (some ⟨gf, 0, none⟩)] W fun e w' => e = .returned (.bool (oneF F out r)) ∧ Below W.heap.size W w' := by
  have hh := hv.h
  have hff := hv.f
  have HO := Lib.hid hv.o
  have HL := Lib.hid hl
  have HR := Lib.hid hr
  have hp12 := hr.p12
  have HP := Lib.hid (hr.parts (.inl hk))
  clear hv hl hr
  go_enter Tryz.func95, Tryz.ntmps95
  refine s_go (M := []) (W := W) (N := 48) (E := [(0, .agg (ruC r (.slice Ab r.bs.length cb) (.slice An r.names.length cn) (.slice Ap r.parts.length cp)).toArray), (1, .pointer (some ⟨h, 0, none⟩)), (2, .pointer (some ⟨gf, 0, none⟩))]) (O := []) ?_ (Ag.cons (Ag.cons (Ag.cons (Ag.nil rfl rfl) rfl) rfl) rfl) (Wd.start [] W)
  repeat (first | refine l_op (o_assign rfl rfl (by decide) rfl rfl) ?_ | refine l_op (o_fieldAddr rfl rfl (by decide) rfl rfl) ?_ | refine l_op (o_load rfl rfl (by decide) rfl rfl (by first | exact fun w hw => hw.cell_blkL 0 rfl rfl | exact fun w hw => hw.cell_blkL 1 rfl rfl | exact fun w hw => hw.cell_blkL 2 rfl rfl | exact fun w hw => hw.cell_blkL 3 rfl rfl | exact fun w hw => hw.cell_blkL 4 rfl rfl | exact fun w hw => hw.cell_blkL 5 rfl rfl | exact fun w hw => hw.cell_old (by assumption) (by simp) | exact fun w hw => hw.cell_range (by assumption) rfl (by simp))) ?_ | refine l_loud (u_box rfl rfl rfl rfl) rfl (by decide) (fun br _ => ?_) | refine l_op (o_call (f := 96) rfl rfl (by decide) rfl rfl (fun w hw => containsF_calls (p := fun k => !(mk out k)) (HL.out.on hw.k.below).p (by omega) (fun x y hx => nhas_calls (y.b.cell (fm_sm (hw.k.below.cell (fm_sm hh) |>.trans hh)) |>.trans (hw.k.below.cell (fm_sm hh) |>.trans hh)) ((HO.out.on hw.k.below).on y.b) (HP.out x hx)) entered_nhas)) ?_ | refine l_nil ?_ | refine s_seq ?_ | refine s_region ?_ | refine s_cond_true rfl ?_ | refine s_cond_false rfl ?_ | refine s_ret ?_ | refine s_block ?_ | refine x_then_ret ?_ | refine x_block_ret ?_ | refine l_op (o_eql rfl rfl (by decide) rfl rfl rfl (by first | assumption | exact beq_iff_eq.2 (by omega) | exact beq_eq_false_iff_ne.2 (by omega) | rfl)) ?_ | refine l_op (o_not rfl rfl (by decide) rfl rfl rfl) ?_ | refine l_op (o_func rfl rfl (by decide) rfl rfl) ?_)
  exact x_body1 (by first | exact .inl rfl | exact .inr rfl) rfl (.tmp rfl) (fun w hw => ⟨by rw [oneF, if_neg (by omega), if_neg (by omega), if_pos hk], hw.k.below⟩)
set_option maxRecDepth 100000 in
set_option maxHeartbeats 4000000 in
theorem one_8 {F : List Rl} {r : Rl} {A Ab An Ap : Option Addr} {h g bs n gf c cb cn cp : Nat} {out : List Bool} {W : World} (hv : OneV W h g bs n out gf A c) (hf : FmIn W W.heap.size A n F) (hl : RuL W r Ab cb An cn Ap cp) (hr : ROk n r) (hk : r.kind = 8) :
    Calls Tryz.prog 95 #[.agg (ruC r (.slice Ab r.bs.length cb) (.slice An r.names.length cn) (.slice Ap r.parts.length cp)).toArray, .pointer (some ⟨h, 0, none⟩), .pointer (some ⟨gf, 0, none⟩)] W fun e w' => e = .returned (.bool (oneF F out r)) ∧ Below W.heap.size W w' := by
  have hh := hv.h
  have hff := hv.f
  have HO := Lib.hid hv.o
  have HL := Lib.hid hl
  have HR := Lib.hid hr
  have hp12 := hr.p12
  have HP := Lib.hid (hr.parts (.inr hk))
  clear hv hl hr
  go_enter Tryz.func95, Tryz.ntmps95
  refine s_go (M := []) (W := W) (N := 48) (E := [(0, .agg (ruC r (.slice Ab r.bs.length cb) (.slice An r.names.length cn) (.slice Ap r.parts.length cp)).toArray), (1, .pointer (some ⟨h, 0, none⟩)), (2, .pointer (some ⟨gf, 0, none⟩))]) (O := []) ?_ (Ag.cons (Ag.cons (Ag.cons (Ag.nil rfl rfl) rfl) rfl) rfl) (Wd.start [] W)
  repeat (first | refine l_op (o_assign rfl rfl (by decide) rfl rfl) ?_ | refine l_op (o_fieldAddr rfl rfl (by decide) rfl rfl) ?_ | refine l_op (o_load rfl rfl (by decide) rfl rfl (by first | exact fun w hw => hw.cell_blkL 0 rfl rfl | exact fun w hw => hw.cell_blkL 1 rfl rfl | exact fun w hw => hw.cell_blkL 2 rfl rfl | exact fun w hw => hw.cell_blkL 3 rfl rfl | exact fun w hw => hw.cell_blkL 4 rfl rfl | exact fun w hw => hw.cell_blkL 5 rfl rfl | exact fun w hw => hw.cell_old (by assumption) (by simp) | exact fun w hw => hw.cell_range (by assumption) rfl (by simp))) ?_ | refine l_loud (u_box rfl rfl rfl rfl) rfl (by decide) (fun br _ => ?_) | refine l_op (o_call (f := 96) rfl rfl (by decide) rfl rfl (fun w hw => containsF_calls (p := fun k => mk out k) (HL.out.on hw.k.below).p (by omega) (fun x y hx => has_calls1 ((HO.out.on hw.k.below).on y.b) (HP.out x hx)) entered_has)) ?_ | refine l_nil ?_ | refine s_seq ?_ | refine s_region ?_ | refine s_cond_true rfl ?_ | refine s_cond_false rfl ?_ | refine s_ret ?_ | refine s_block ?_ | refine x_then_ret ?_ | refine x_block_ret ?_ | refine l_op (o_eql rfl rfl (by decide) rfl rfl rfl (by first | assumption | exact beq_iff_eq.2 (by omega) | exact beq_eq_false_iff_ne.2 (by omega) | rfl)) ?_)
  exact x_body1 (by first | exact .inl rfl | exact .inr rfl) rfl (.tmp rfl) (fun w hw => ⟨by rw [oneF, if_neg (by omega), if_neg (by omega), if_neg (by omega), if_pos hk], hw.k.below⟩)
set_option maxRecDepth 100000 in
set_option maxHeartbeats 4000000 in
theorem one_0 {F : List Rl} {r : Rl} {A Ab An Ap : Option Addr} {h g bs n gf c cb cn cp : Nat} {out : List Bool} {W : World} (hv : OneV W h g bs n out gf A c) (hf : FmIn W W.heap.size A n F) (hl : RuL W r Ab cb An cn Ap cp) (hr : ROk n r) (hk : r.kind ≠ 10 ∧ r.kind ≠ 6 ∧ r.kind ≠ 7 ∧ r.kind ≠ 8) :
    Calls Tryz.prog 95 #[.agg (ruC r (.slice Ab r.bs.length cb) (.slice An r.names.length cn) (.slice Ap r.parts.length cp)).toArray, .pointer (some ⟨h, 0, none⟩), .pointer (some ⟨gf, 0, none⟩)] W fun e w' => e = .returned (.bool (oneF F out r)) ∧ Below W.heap.size W w' := by
  have hh := hv.h
  have hff := hv.f
  have HO := Lib.hid hv.o
  have HL := Lib.hid hl
  have HR := Lib.hid hr
  have hp12 := hr.p12
  clear hv hl hr
  go_enter Tryz.func95, Tryz.ntmps95
  refine s_go (M := []) (W := W) (N := 48) (E := [(0, .agg (ruC r (.slice Ab r.bs.length cb) (.slice An r.names.length cn) (.slice Ap r.parts.length cp)).toArray), (1, .pointer (some ⟨h, 0, none⟩)), (2, .pointer (some ⟨gf, 0, none⟩))]) (O := []) ?_ (Ag.cons (Ag.cons (Ag.cons (Ag.nil rfl rfl) rfl) rfl) rfl) (Wd.start [] W)
  repeat (first | refine l_op (o_assign rfl rfl (by decide) rfl rfl) ?_ | refine l_op (o_fieldAddr rfl rfl (by decide) rfl rfl) ?_ | refine l_op (o_load rfl rfl (by decide) rfl rfl (by first | exact fun w hw => hw.cell_blkL 0 rfl rfl | exact fun w hw => hw.cell_blkL 1 rfl rfl | exact fun w hw => hw.cell_blkL 2 rfl rfl | exact fun w hw => hw.cell_blkL 3 rfl rfl | exact fun w hw => hw.cell_blkL 4 rfl rfl | exact fun w hw => hw.cell_blkL 5 rfl rfl | exact fun w hw => hw.cell_old (by assumption) (by simp) | exact fun w hw => hw.cell_range (by assumption) rfl (by simp))) ?_ | refine l_loud (u_box rfl rfl rfl rfl) rfl (by decide) (fun br _ => ?_) | refine l_nil ?_ | refine s_seq ?_ | refine s_region ?_ | refine s_skip ?_ | refine s_cond_false rfl ?_ | refine s_ret ?_ | refine s_block ?_ | refine l_op (o_eql rfl rfl (by decide) rfl rfl rfl (by first | assumption | exact beq_iff_eq.2 (by omega) | exact beq_eq_false_iff_ne.2 (by omega) | rfl)) ?_)
  exact x_body1 (by first | exact .inl rfl | exact .inr rfl) rfl (.tmp rfl) (fun w hw => ⟨by rw [oneF, if_neg (by omega), if_neg (by omega), if_neg (by omega), if_neg (by omega)], hw.k.below⟩)
theorem one_calls {F : List Rl} {r : Rl} {A Ab An Ap : Option Addr} {h g bs n gf c cb cn cp : Nat} {out : List Bool} {W : World} (hv : OneV W h g bs n out gf A c) (hf : FmIn W W.heap.size A n F) (hl : RuL W r Ab cb An cn Ap cp) (hr : ROk n r) :
    Calls Tryz.prog 95 #[.agg (ruC r (.slice Ab r.bs.length cb) (.slice An r.names.length cn) (.slice Ap r.parts.length cp)).toArray, .pointer (some ⟨h, 0, none⟩), .pointer (some ⟨gf, 0, none⟩)] W fun e w' => e = .returned (.bool (oneF F out r)) ∧ Below W.heap.size W w' := by
  by_cases h10 : r.kind = 10
  · exact one_10 hv hf hl hr h10
  by_cases h6 : r.kind = 6
  · exact one_6 hv hf hl hr h6
  by_cases h7 : r.kind = 7
  · exact one_7 hv hf hl hr h7
  by_cases h8 : r.kind = 8
  · exact one_8 hv hf hl hr h8
  exact one_0 hv hf hl hr ⟨h10, h6, h7, h8⟩
end Go.Proofs.YtgdiadednlajgaaGreatDoor
