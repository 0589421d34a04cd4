import Derived.Test.YtgdiadednlajgaaGreatDoorP29
import Derived.Test.YtgdiadednlajgaaGreatDoorP33
import Derived.Lib.ItoaLen
namespace Go.Proofs.YtgdiadednlajgaaGreatDoor
open Go.RowKit
set_option linter.unusedVariables false
set_option linter.unusedSimpArgs false
section
variable {ops : Array Oper} {C : World → Prop} {N : Nat} {E : Env} {o : Oper} {d : Nat}
theorem o_fneq {x y : Operand} {t' : TypeId} {a b a' b' : Int} {v : Bool} (ho : o.op = .binOp .neq 27 x y t') (hd : o.dst = some d) (hN : d < N) (hw : wantE ops E o = some true) (hx : ev E x = some (.agg #[.int .i64 a, .int .i64 b])) (hy : ev E y = some (.agg #[.int .i64 a', .int .i64 b'])) (hb : (!(a == a' && b == b')) = v) : oE Tryz.prog ops C N E ((d, .bool v) :: E) o :=
  o_val hd hN hw fun ρ w ha _ => by
    subst hb
    by_cases h1 : a = a' <;> by_cases h2 : b = b' <;> simp [execOp, ho, ha.eval hx, ha.eval hy, h1, h2, go_sem]
end
/-! lines are short -/
theorem join_le (m : Nat) : ∀ ws : List (List UInt8), (∀ w ∈ ws, w.length ≤ m) → (Lib.join ws [32]).length ≤ ws.length * (m + 1)
  | [], _ => by simp [Lib.join]
  | [x], h => by
    rw [Lib.join_one]
    have := h x List.mem_cons_self
    simp only [List.length_cons, List.length_nil]
    omega
  | x :: y :: l, h => by
    have ih := join_le m (y :: l) fun w hw => h w (List.mem_cons_of_mem _ hw)
    rw [Lib.join_cons, joinTail_cons, ← Lib.join_cons]
    have := h x List.mem_cons_self
    simp only [List.length_append, List.length_cons, List.length_nil] at ih ⊢
    rw [Nat.add_mul] at ih ⊢
    rw [Nat.add_mul]
    omega
theorem itoa_len {v : Int} (h : 0 ≤ v ∧ v ≤ 4294967295) : (Lib.itoa v).length ≤ 100 := by
  have := Lib.itoa_length_le v (by omega) (by omega)
  omega
theorem ifW_mem {u : Bool} {s w : List UInt8} (h : w ∈ ifW u s) : w = s := by
  unfold ifW at h
  split at h
  · exact List.mem_singleton.1 h
  · cases h
theorem ifW_len (u : Bool) (s : List UInt8) : (ifW u s).length ≤ 1 := by
  unfold ifW
  split <;> simp
theorem line_small {F : List Rl} {r : Rl} (h : LOk F r) (h0 : 0 < F.length) : (Lib.join (lineWs F r) [32]).length ≤ 1000000 := by
  have hN := nsm_of h.ok h0
  have hnm : ∀ x : Int, 0 ≤ x ∧ x < F.length → (nmAt F x).length ≤ 100 := fun x hx => by have := name_len (h.all x hx); omega
  have hlen : (lineWs F r).length ≤ 24 := by
    unfold lineWs headWs
    simp only [List.length_append, List.length_map, List.length_range, List.length_cons, List.length_nil]
    have := h.ok.p12
    have := ifW_len (r.kind == 1) (hexL r.bs)
    have := ifW_len (useStop r.kind) (Lib.itoa r.stop)
    have := ifW_len (useSize r.kind) (Lib.itoa r.size)
    have := ifW_len (r.kind == 2) (if r.big then bigW else littleW)
    have := ifW_len (r.kind == 2) (Lib.itoa r.mn)
    have := ifW_len (useMax r.kind) (Lib.itoa r.mx)
    have := ifW_len (useCount r.kind) (nmAt F r.count)
    have := ifW_len (useOf r.kind) (nmAt F r.elem)
    omega
  have hw : ∀ w ∈ lineWs F r, w.length ≤ 100 := by
    intro w hw
    unfold lineWs headWs at hw
    simp only [List.mem_append] at hw
    rcases hw with (((((((((hw | hw) | hw) | hw) | hw) | hw) | hw) | hw) | hw)) | hw
    · rcases List.mem_cons.1 hw with rfl | hw
      · have := name_len h.name; omega
      · rw [List.mem_singleton.1 hw]
        have hk := h.ok.kind
        rcases (show r.kind = 1 ∨ r.kind = 2 ∨ r.kind = 3 ∨ r.kind = 4 ∨ r.kind = 5 ∨ r.kind = 6 ∨ r.kind = 7 ∨ r.kind = 8 ∨ r.kind = 9 ∨ r.kind = 10 by omega) with e | e | e | e | e | e | e | e | e | e <;> rw [e] <;> decide
    · rw [ifW_mem hw, hexL_len]; have := h.ok.bs16; omega
    · rw [ifW_mem hw]; exact itoa_len hN.stop
    · rw [ifW_mem hw]; exact itoa_len hN.size
    · rw [ifW_mem hw]; split <;> decide
    · rw [ifW_mem hw]; exact itoa_len hN.mn
    · rw [ifW_mem hw]; exact itoa_len hN.mx
    · rw [ifW_mem hw]; exact hnm _ hN.count
    · rw [ifW_mem hw]; exact hnm _ hN.elem
    · rw [List.mem_map] at hw
      obtain ⟨i, hi, rfl⟩ := hw
      rw [List.mem_range] at hi
      have hp : (nmAt F (r.parts.getD i 0)).length ≤ 32 := by
        by_cases h78 : r.kind = 7 ∨ r.kind = 8
        · exact name_len (h.all _ (h.ok.parts h78 _ (by rw [List.getD_eq_getElem?_getD, List.getElem?_eq_getElem hi]; exact List.getElem_mem hi)))
        · rw [(zr_of h.ok).parts (by omega) (by omega)] at hi
          exact absurd hi (by simp)
      unfold partW
      rw [List.length_append]
      split
      · next h7 =>
        have h7' : r.kind = 7 := by simpa using h7
        have hs := (h.ok.seven h7').1
        rw [List.length_append]
        split
        · simp only [List.length_cons, List.length_nil]; omega
        · next hne =>
          have hg : r.names.getD i [] = r.names[i] := by rw [List.getD_eq_getElem?_getD, List.getElem?_eq_getElem (by omega)]; rfl
          have hi2 : i < r.names.length := by omega
          have : (r.names.getD i []).length ≤ 32 := by
            rw [hg]
            rcases h.part h7' r.names[i] (List.getElem_mem hi2) with e | e
            · rw [e]; decide
            · exact name_len e
          simp only [List.length_cons, List.length_nil]; omega
      · simp only [List.length_nil]; omega
  have := join_le 100 (lineWs F r) hw
  have h2 : (lineWs F r).length * (100 + 1) ≤ 24 * (100 + 1) := Nat.mul_le_mul_right _ hlen
  omega
def textT (F : List Rl) (k : Nat) : List UInt8 := ((F.take k).map (lineB F)).flatten
theorem textT_step {F : List Rl} {k : Nat} {r : Rl} (h : F[k]? = some r) : textT F k ++ lineB F r = textT F (k + 1) := by
  unfold textT
  rw [List.take_add_one, h]
  simp
theorem textT_all {F : List Rl} {k : Nat} (h : F.length ≤ k) : textT F k = textF F := by
  unfold textT textF
  rw [List.take_of_length_le h]
def printF (F : List Rl) : List UInt8 := if faultF F = (0, 0) then textF F else []
def PrEnd (W : World) (l : List UInt8) (p : Int × Int) (e : Ending) (w' : World) : Prop := e = .returned (.tuple #[.string ⟨l.toArray⟩, .agg #[.int .i64 p.1, .int .i64 p.2]]) ∧ Below W.heap.size W w'
set_option maxRecDepth 100000 in
set_option maxHeartbeats 16000000 in
theorem print_calls {F : List Rl} {A : Option Addr} {n c : Nat} {W : World} (hf : FmIn W W.heap.size A n F) (hs : FSm F) (hc : n ≤ c) (hg : GV W) :
    Calls Tryz.prog 19 #[.agg #[.slice A n c]] W (PrEnd W (printF F) (faultF F)) := by
  have hlen : F.length = n := hf.1
  have HFM := Lib.hid hf
  have HS := Lib.hid hs
  have HG := Lib.hid hg
  have HLEN := Lib.hid hlen
  clear hf hs hg hlen
  obtain ⟨⟨a, b⟩, hab⟩ : ∃ p, checkF F = p := ⟨_, rfl⟩
  have HC := Lib.hid hab
  clear hab
  go_enter Tryz.func19, Tryz.ntmps19
  refine s_go (M := []) (W := W) (N := 33) (E := [(0, .agg #[.slice A n c])]) (O := []) ?_ (Ag.cons (Ag.nil rfl rfl) rfl) (Wd.start [] W)
  by_cases hz : a = 0 ∧ b = 0
  case neg =>
    have hne : (!(a == 0 && b == 0)) = true := by
      rw [Bool.not_eq_true', Bool.and_eq_false_iff, beq_eq_false_iff_ne, beq_eq_false_iff_ne]
      omega
    repeat (first | refine l_op (o_assign rfl rfl (by decide) rfl rfl) ?_ | refine l_op (o_loadN rfl rfl (by decide) rfl rfl (by first | exact fun w hw => hw.range_blk 0 rfl | exact fun w hw => hw.range_blk 1 rfl | exact fun w hw => hw.range_blk 2 rfl | exact fun w hw => hw.range_blk 3 rfl | exact fun w hw => hw.range_blk 4 rfl | exact fun w hw => hw.range_blk 5 rfl | exact fun w hw => hw.range_old (by assumption) (by simp)) (by first | rfl | exact setC_len _)) ?_ | refine l_loud (u_box rfl rfl rfl rfl) rfl (by decide) (fun bf _ => ?_) | refine l_loud (u_alloc (t := 27) rfl rfl) rfl (by decide) (fun b2 _ => ?_) | (refine l_op (o_call (f := 37) rfl rfl (by decide) rfl rfl (fun w hw => (check_calls (HFM.out.on hw.k.below) HS.out hc).mono (fun _ _ h => by rw [HC.out] at h; exact h))) ?_) | (refine l_loud0 (u_storeN 0 rfl rfl rfl rfl rfl rfl rfl (by simp)) rfl (fun _ _ => ?_); rw [putL_full (by rfl)]) | refine l_op (o_build (xs := []) (vs := []) (v := .agg #[.int .i64 0, .int .i64 0]) rfl rfl (by decide) rfl rfl (fun w => run_build w _ _ _ (by kernel_rfl))) ?_ | refine l_op (o_fneq rfl rfl (by decide) rfl rfl rfl hne) ?_ | refine l_nil ?_ | refine s_seq ?_ | refine s_region ?_ | refine s_cond_true rfl ?_)
    refine s_drawnO [2] (by kernel_rfl) ?_
    first | refine d_op 0 rfl (by kernel_rfl) (Through.rfl_) (o_loadN rfl rfl (by decide) rfl rfl (by first | exact fun w hw => hw.range_blk 0 rfl | exact fun w hw => hw.range_blk 1 rfl | exact fun w hw => hw.range_blk 2 rfl | exact fun w hw => hw.range_blk 3 rfl | exact fun w hw => hw.range_blk 4 rfl | exact fun w hw => hw.range_blk 5 rfl | exact fun w hw => hw.range_old (by assumption) (by simp)) (by first | rfl | exact setC_len _)) ?_
    first | refine d_op 1 rfl (by kernel_rfl) (Through.rfl_) (o_assign rfl rfl (by decide) rfl rfl) ?_
    refine d_loud0 2 (by kernel_rfl) rfl rfl (u_storeN 1 rfl rfl rfl rfl rfl rfl rfl (by simp)) (fun _ => .inl (by decide)) rfl (fun _ _ => ?_)
    rw [putL_full (by rfl)]
    refine d_end ?_ (by kernel_rfl)
    repeat (first | refine s_ret ?_ | refine x_then_ret ?_)
    refine x_body2 (by first | exact .inl rfl | exact .inr rfl) rfl (.tmp rfl) (RsV.blk 1 rfl rfl rfl) (fun w hw => ⟨?_, hw.k.below⟩)
    have hff : faultF F = (a, b) := by
      unfold faultF
      rw [HC.out, if_pos]
      intro h
      exact hz (by simpa using h)
    unfold printF
    rw [hff, if_neg (fun h => hz (by simpa using h))]
  case pos =>
    obtain ⟨rfl, rfl⟩ := hz
    have hlo := len_of HC.out
    have hlon := hlo.1
    have hlox := hlo.2
    rw [HLEN.out] at hlon hlox
    clear hlo
    obtain ⟨b, o, rfl⟩ := HFM.out.addr hlon
    have hpok := pok_of HC.out
    have HP := Lib.hid hpok
    clear hpok
    repeat (first | refine l_op (o_move rfl rfl (by decide) rfl rfl) ?_ | refine l_op (o_assign rfl rfl (by decide) rfl rfl) ?_ | refine l_op (o_fieldAddr rfl rfl (by decide) rfl rfl) ?_ | refine l_op (o_load rfl rfl (by decide) rfl rfl (by first | exact fun w hw => hw.cell_blkL 0 rfl rfl | exact fun w hw => hw.cell_blkL 1 rfl rfl | exact fun w hw => hw.cell_blkL 2 rfl rfl | exact fun w hw => hw.cell_blkL 3 rfl rfl | exact fun w hw => hw.cell_blkL 4 rfl rfl | exact fun w hw => hw.cell_blkL 5 rfl rfl | exact fun w hw => hw.cell_old (by assumption) (by simp) | exact fun w hw => hw.cell_range (by assumption) rfl (by simp))) ?_ | refine l_op (o_loadN rfl rfl (by decide) rfl rfl (by first | exact fun w hw => hw.range_blk 0 rfl | exact fun w hw => hw.range_blk 1 rfl | exact fun w hw => hw.range_blk 2 rfl | exact fun w hw => hw.range_blk 3 rfl | exact fun w hw => hw.range_blk 4 rfl | exact fun w hw => hw.range_blk 5 rfl | exact fun w hw => hw.range_old (by assumption) (by simp)) (by first | rfl | exact setC_len _)) ?_ | refine l_loud (u_box rfl rfl rfl rfl) rfl (by decide) (fun bf _ => ?_) | refine l_loud (u_alloc (t := 27) rfl rfl) rfl (by decide) (fun b2 _ => ?_) | (refine l_op (o_call (f := 37) rfl rfl (by decide) rfl rfl (fun w hw => (check_calls (HFM.out.on hw.k.below) HS.out hc).mono (fun _ _ h => by rw [HC.out] at h; exact h))) ?_) | (refine l_loud0 (u_storeN 0 rfl rfl rfl rfl rfl rfl rfl (by simp)) rfl (fun _ _ => ?_); rw [putL_full (by rfl)]) | refine l_op (o_build (xs := []) (vs := []) (v := .agg #[.int .i64 0, .int .i64 0]) rfl rfl (by decide) rfl rfl (fun w => run_build w _ _ _ (by kernel_rfl))) ?_ | refine l_op (o_fneq rfl rfl (by decide) rfl rfl rfl rfl) ?_ | refine l_nil ?_ | refine s_seq ?_ | refine s_region ?_ | refine s_skip ?_ | refine s_cond_false rfl ?_ | refine s_block ?_ | refine l_op (o_len rfl rfl (by decide) rfl rfl) ?_)
    rename_i b3 _ _ _ _
    refine s_loop (ι := Nat) (fun k => k ≤ n ∧ (textT F k).length ≤ k * 1000001) (fun k => n - k) (fun k => [(1, .pointer (some ⟨bf, 0, none⟩)), (3, .pointer (some ⟨b3, 0, none⟩)), (5, .string ⟨(textT F k).toArray⟩), (15, .slice (some ⟨b, o, none⟩) n c), (16, .int .i64 (n : Int)), (17, .int .i64 (k : Int))]) (fun _ => [.blk b3 (.cells [.int .i64 0, .int .i64 0].toArray 27 (0, 0)), .blk bf (.cells [.slice (some ⟨b, o, none⟩) n c].toArray 24 (0, 0))]) 0 [1, 2] (by decide) ⟨Nat.zero_le _, by unfold textT; simp⟩ (.cons rfl rfl (.cons rfl rfl (.cons rfl rfl (.cons rfl rfl (.cons rfl rfl (.cons rfl rfl .nil)))))) rfl ?_
    rintro k ⟨hk, htx⟩
    by_cases hkn : k < n
    · obtain ⟨rk, Ab, cb, An, cn, Ap, cp, hrk, hrg, hlk⟩ := HFM.out.rl hkn
      have HLK := Lib.hid hlk
      have HLO := Lib.hid (HP.out.line hrk)
      have HST := Lib.hid (textT_step hrk)
      have hsm := line_small HLO.out (by rw [HLEN.out]; exact hlon)
      have hll : (lineB F rk).length ≤ 1000001 := by unfold lineB; rw [List.length_append]; simp only [List.length_cons, List.length_nil]; omega
      clear hrk hlk
      repeat (first | refine l_op (o_move rfl rfl (by decide) rfl rfl) ?_ | refine l_op (o_assign rfl rfl (by decide) rfl rfl) ?_ | refine l_op (o_loadN rfl rfl (by decide) rfl rfl (by first | exact fun w hw => hw.range_blk 0 rfl | exact fun w hw => hw.range_blk 1 rfl | exact fun w hw => hw.range_blk 2 rfl | exact fun w hw => hw.range_blk 3 rfl | exact fun w hw => hw.range_blk 4 rfl | exact fun w hw => hw.range_blk 5 rfl | exact fun w hw => hw.range_old (by assumption) (by simp)) (by first | rfl | exact setC_len _)) ?_ | refine l_op (o_indexAddr rfl rfl (by decide) rfl rfl rfl hkn) ?_ | refine l_loud (u_alloc (t := 52) rfl rfl) rfl (by decide) (fun b7 _ => ?_) | (refine l_loud0 (u_storeN 0 rfl rfl rfl rfl rfl rfl rfl (by simp)) rfl (fun _ _ => ?_); rw [putL_full (by rfl)]) | refine l_op (o_call (f := 38) rfl rfl (by decide) rfl rfl (fun w hw => (line_calls (HFM.out.on hw.k.below) (HLK.out.on hw.k.below) HLO.out hlon (HG.out.on hw.k.below) hsm).mono (fun _ _ h => h))) ?_ | (refine l_op (o_sadd rfl rfl (by decide) rfl rfl rfl (by rw [ba_size, ba_size]; omega)) ?_; rw [ba_app, HST.out]) | refine l_nil ?_ | refine s_seq ?_ | refine s_region ?_ | refine s_skip ?_ | refine s_cond_true rfl ?_ | refine s_block ?_ | refine l_op (o_lss rfl rfl (by decide) rfl rfl rfl (by first | assumption | exact decide_eq_true (by omega) | exact decide_eq_false (by omega) | rfl)) ?_ | refine l_op (o_add (k := .i64) rfl rfl (by decide) rfl rfl rfl (IntWalk.i64_in _ (by omega))) ?_)
      refine x_round (k + 1) [1, 2] (by decide) ⟨hkn, ?_⟩ (by omega) (.cons rfl rfl (.cons rfl rfl (.cons rfl rfl (.cons rfl rfl (.cons rfl rfl (.cons rfl (by go_num) .nil)))))) rfl
      rw [← HST.out, List.length_append, Nat.add_mul]
      omega
    · have hall : textT F k = textF F := textT_all (by rw [HLEN.out]; omega)
      rw [hall] at htx ⊢
      have hsz := ba_size (textF F)
      by_cases hbig : 2000 < (textF F).length
      · skip
        repeat (first | refine l_op (o_move rfl rfl (by decide) rfl rfl) ?_ | refine l_op (o_assign rfl rfl (by decide) rfl rfl) ?_ | refine l_op (o_call (f := 39) rfl rfl (by decide) rfl rfl (fun w hw => fault_calls _ _ w)) ?_ | (refine l_loud0 (u_storeN 0 rfl rfl rfl rfl rfl rfl rfl (by simp)) rfl (fun _ _ => ?_); rw [putL_full (by rfl)]) | refine l_nil ?_ | refine s_seq ?_ | refine s_region ?_ | refine s_cond_true rfl ?_ | refine s_cond_false rfl ?_ | refine s_exit ?_ | refine s_ret ?_ | refine x_then_ret ?_ | refine l_op (o_slen Tryz.underlying9 rfl rfl (by decide) rfl rfl) ?_ | refine l_op (o_lss rfl rfl (by decide) rfl rfl rfl (by first | assumption | exact decide_eq_true (by omega) | exact decide_eq_false (by omega) | rfl)) ?_ | refine l_op (o_gtr rfl rfl (by decide) rfl rfl rfl (by first | assumption | exact decide_eq_true (by omega) | exact decide_eq_false (by omega) | rfl)) ?_)
        refine x_body2 (by first | exact .inl rfl | exact .inr rfl) rfl (.tmp rfl) (RsV.blk 0 rfl rfl rfl) (fun w hw => ⟨?_, hw.k.below⟩)
        have hff : faultF F = (14, -1) := by
          unfold faultF
          rw [HC.out, if_neg (fun h => h rfl), if_pos hbig]
        unfold printF
        rw [hff, if_neg (by decide)]
      · skip
        repeat (first | refine l_op (o_move rfl rfl (by decide) rfl rfl) ?_ | refine l_op (o_assign rfl rfl (by decide) rfl rfl) ?_ | refine l_op (o_build (xs := []) (vs := []) (v := .agg #[.int .i64 0, .int .i64 0]) rfl rfl (by decide) rfl rfl (fun w => run_build w _ _ _ (by kernel_rfl))) ?_ | (refine l_loud0 (u_storeN 0 rfl rfl rfl rfl rfl rfl rfl (by simp)) rfl (fun _ _ => ?_); rw [putL_full (by rfl)]) | refine l_nil ?_ | refine s_seq ?_ | refine s_region ?_ | refine s_skip ?_ | refine s_cond_false rfl ?_ | refine s_exit ?_ | refine s_ret ?_ | refine l_op (o_slen Tryz.underlying9 rfl rfl (by decide) rfl rfl) ?_ | refine l_op (o_lss rfl rfl (by decide) rfl rfl rfl (by first | assumption | exact decide_eq_true (by omega) | exact decide_eq_false (by omega) | rfl)) ?_ | refine l_op (o_gtr rfl rfl (by decide) rfl rfl rfl (by first | assumption | exact decide_eq_true (by omega) | exact decide_eq_false (by omega) | rfl)) ?_)
        refine x_body2 (by first | exact .inl rfl | exact .inr rfl) rfl (.tmp rfl) (RsV.blk 0 rfl rfl rfl) (fun w hw => ⟨?_, hw.k.below⟩)
        have hff : faultF F = (0, 0) := by
          unfold faultF
          rw [HC.out, if_neg (fun h => h rfl), if_neg hbig]
        unfold printF
        rw [hff, if_pos rfl]
set_option maxRecDepth 100000 in
set_option maxHeartbeats 4000000 in
theorem fvalidate_calls {F : List Rl} {A : Option Addr} {n c : Nat} {W : World} (hf : FmIn W W.heap.size A n F) (hs : FSm F) (hc : n ≤ c) (hg : GV W) :
    Calls Tryz.prog 10 #[.agg #[.slice A n c]] W (FaEnd W (faultF F)) := by
  have HFM := Lib.hid hf
  have HS := Lib.hid hs
  have HG := Lib.hid hg
  clear hf hs hg
  go_enter Tryz.func10, Tryz.ntmps10
  refine s_go (M := []) (W := W) (N := 11) (E := [(0, .agg #[.slice A n c])]) (O := []) ?_ (Ag.cons (Ag.nil rfl rfl) rfl) (Wd.start [] W)
  repeat (first | refine l_op (o_move rfl rfl (by decide) rfl rfl) ?_ | refine l_op (o_assign rfl rfl (by decide) rfl rfl) ?_ | refine l_op (o_loadN rfl rfl (by decide) rfl rfl (by first | exact fun w hw => hw.range_blk 0 rfl | exact fun w hw => hw.range_blk 1 rfl | exact fun w hw => hw.range_blk 2 rfl | exact fun w hw => hw.range_blk 3 rfl | exact fun w hw => hw.range_blk 4 rfl | exact fun w hw => hw.range_blk 5 rfl | exact fun w hw => hw.range_old (by assumption) (by simp)) (by first | rfl | exact setC_len _)) ?_ | refine l_loud (u_box rfl rfl rfl rfl) rfl (by decide) (fun bf _ => ?_) | refine l_loud (u_alloc (t := 27) rfl rfl) rfl (by decide) (fun b2 _ => ?_) | refine l_op (o_call (f := 19) rfl rfl (by decide) rfl rfl (fun w hw => (print_calls (HFM.out.on hw.k.below) HS.out hc (HG.out.on hw.k.below)).mono (fun _ _ h => h))) ?_ | (refine l_loud0 (u_storeN 0 rfl rfl rfl rfl rfl rfl rfl (by simp)) rfl (fun _ _ => ?_); rw [putL_full (by rfl)]) | (refine l_loud0 (u_storeN 1 rfl rfl rfl rfl rfl rfl rfl (by simp)) rfl (fun _ _ => ?_); rw [putL_full (by rfl)]) | refine l_nil ?_ | refine s_seq ?_ | refine s_region ?_ | refine s_ret ?_ | refine l_op (o_extract rfl rfl (by decide) rfl rfl rfl) ?_)
  exact x_body1 (by first | exact .inl rfl | exact .inr rfl) rfl (RsV.blk 1 rfl rfl rfl) (fun w hw => ⟨rfl, hw.k.below⟩)
def chkN (F : List Rl) (k : Int) : Int × Int := if faultF F ≠ (0, 0) then faultF F else if inB k 0 ((F.length : Int) - 1) then (0, 0) else (4, -2)
set_option maxRecDepth 100000 in
set_option maxHeartbeats 4000000 in
theorem checkNumber_calls {F : List Rl} {A : Option Addr} {n c : Nat} {k : Int} {W : World} (hf : FmIn W W.heap.size A n F) (hs : FSm F) (hc : n ≤ c) (hg : GV W) :
    Calls Tryz.prog 31 #[.agg #[.slice A n c], .int .i64 k] W (FaEnd W (chkN F k)) := by
  have hlen : F.length = n := hf.1
  have hsz : n ≤ 1048576 := by rw [← hlen]; exact hs.1
  have HFM := Lib.hid hf
  have HS := Lib.hid hs
  have HG := Lib.hid hg
  have HLEN := Lib.hid hlen
  clear hf hs hg hlen
  obtain ⟨⟨a, b⟩, hab⟩ : ∃ p, faultF F = p := ⟨_, rfl⟩
  have HC := Lib.hid hab
  clear hab
  go_enter Tryz.func31, Tryz.ntmps31
  refine s_go (M := []) (W := W) (N := 21) (E := [(0, .agg #[.slice A n c]), (1, .int .i64 k)]) (O := []) ?_ (Ag.cons (Ag.cons (Ag.nil rfl rfl) rfl) rfl) (Wd.start [] W)
  by_cases hz : a = 0 ∧ b = 0
  case neg =>
    have hne : (!(a == 0 && b == 0)) = true := by
      rw [Bool.not_eq_true', Bool.and_eq_false_iff, beq_eq_false_iff_ne, beq_eq_false_iff_ne]
      omega
    repeat (first | refine l_op (o_loadN rfl rfl (by decide) rfl rfl (by first | exact fun w hw => hw.range_blk 0 rfl | exact fun w hw => hw.range_blk 1 rfl | exact fun w hw => hw.range_blk 2 rfl | exact fun w hw => hw.range_blk 3 rfl | exact fun w hw => hw.range_blk 4 rfl | exact fun w hw => hw.range_blk 5 rfl | exact fun w hw => hw.range_old (by assumption) (by simp)) (by first | rfl | exact setC_len _)) ?_ | refine l_loud (u_box rfl rfl rfl rfl) rfl (by decide) (fun bf _ => ?_) | refine l_loud (u_alloc (t := 27) rfl rfl) rfl (by decide) (fun b2 _ => ?_) | (refine l_op (o_call (f := 10) rfl rfl (by decide) rfl rfl (fun w hw => (fvalidate_calls (HFM.out.on hw.k.below) HS.out hc (HG.out.on hw.k.below)).mono (fun _ _ h => by rw [HC.out] at h; exact h))) ?_) | refine l_op (o_build (xs := []) (vs := []) (v := .agg #[.int .i64 0, .int .i64 0]) rfl rfl (by decide) rfl rfl (fun w => run_build w _ _ _ (by kernel_rfl))) ?_ | refine l_op (o_fneq rfl rfl (by decide) rfl rfl rfl hne) ?_ | (refine l_loud0 (u_storeN 0 rfl rfl rfl rfl rfl rfl rfl (by simp)) rfl (fun _ _ => ?_); rw [putL_full (by rfl)]) | (refine l_loud0 (u_storeN 1 rfl rfl rfl rfl rfl rfl rfl (by simp)) rfl (fun _ _ => ?_); rw [putL_full (by rfl)]) | refine l_nil ?_ | refine s_seq ?_ | refine s_region ?_ | refine s_cond_true rfl ?_ | refine s_ret ?_ | refine x_then_ret ?_)
    refine x_body1 (by first | exact .inl rfl | exact .inr rfl) rfl (RsV.blk 1 rfl rfl rfl) (fun w hw => fa_end ?_ hw)
    unfold chkN
    rw [HC.out, if_pos (fun h => hz (by simpa using h))]
  case pos =>
    obtain ⟨rfl, rfl⟩ := hz
    obtain ⟨u, hu⟩ : ∃ u, inB k 0 ((n : Int) - 1) = u := ⟨_, rfl⟩
    have HU := Lib.hid hu
    clear hu
    cases u with
    | true =>
      repeat (first | refine l_op (o_move rfl rfl (by decide) rfl rfl) ?_ | refine l_op (o_fieldAddr rfl rfl (by decide) rfl rfl) ?_ | refine l_op (o_load rfl rfl (by decide) rfl rfl (by first | exact fun w hw => hw.cell_blkL 0 rfl rfl | exact fun w hw => hw.cell_blkL 1 rfl rfl | exact fun w hw => hw.cell_blkL 2 rfl rfl | exact fun w hw => hw.cell_blkL 3 rfl rfl | exact fun w hw => hw.cell_blkL 4 rfl rfl | exact fun w hw => hw.cell_blkL 5 rfl rfl | exact fun w hw => hw.cell_old (by assumption) (by simp) | exact fun w hw => hw.cell_range (by assumption) rfl (by simp))) ?_ | refine l_op (o_loadN rfl rfl (by decide) rfl rfl (by first | exact fun w hw => hw.range_blk 0 rfl | exact fun w hw => hw.range_blk 1 rfl | exact fun w hw => hw.range_blk 2 rfl | exact fun w hw => hw.range_blk 3 rfl | exact fun w hw => hw.range_blk 4 rfl | exact fun w hw => hw.range_blk 5 rfl | exact fun w hw => hw.range_old (by assumption) (by simp)) (by first | rfl | exact setC_len _)) ?_ | refine l_loud (u_box rfl rfl rfl rfl) rfl (by decide) (fun bf _ => ?_) | refine l_loud (u_alloc (t := 27) rfl rfl) rfl (by decide) (fun b2 _ => ?_) | (refine l_op (o_call (f := 10) rfl rfl (by decide) rfl rfl (fun w hw => (fvalidate_calls (HFM.out.on hw.k.below) HS.out hc (HG.out.on hw.k.below)).mono (fun _ _ h => by rw [HC.out] at h; exact h))) ?_) | (refine l_op (o_call (f := 52) rfl rfl (by decide) rfl rfl (fun w hw => Calls.stay (fin_calls _ _ _ w))) ?_; rw [HU.out]) | refine l_op (o_build (xs := []) (vs := []) (v := .agg #[.int .i64 0, .int .i64 0]) rfl rfl (by decide) rfl rfl (fun w => run_build w _ _ _ (by kernel_rfl))) ?_ | refine l_op (o_fneq rfl rfl (by decide) rfl rfl rfl rfl) ?_ | (refine l_loud0 (u_storeN 0 rfl rfl rfl rfl rfl rfl rfl (by simp)) rfl (fun _ _ => ?_); rw [putL_full (by rfl)]) | (refine l_loud0 (u_storeN 1 rfl rfl rfl rfl rfl rfl rfl (by simp)) rfl (fun _ _ => ?_); rw [putL_full (by rfl)]) | refine l_nil ?_ | refine s_seq ?_ | refine s_region ?_ | refine s_skip ?_ | refine s_cond_false rfl ?_ | refine s_ret ?_ | refine l_op (o_len rfl rfl (by decide) rfl rfl) ?_ | refine l_op (o_not rfl rfl (by decide) rfl rfl rfl) ?_ | refine l_op (o_sub (k := .i64) rfl rfl (by decide) rfl rfl rfl (IntWalk.i64_in _ (by omega))) ?_)
      refine x_body1 (by first | exact .inl rfl | exact .inr rfl) rfl (RsV.blk 1 rfl rfl rfl) (fun w hw => fa_end ?_ hw)
      unfold chkN
      rw [HC.out, if_neg (fun h => h rfl), HLEN.out, HU.out, if_pos rfl]
    | false =>
      repeat (first | refine l_op (o_move rfl rfl (by decide) rfl rfl) ?_ | refine l_op (o_fieldAddr rfl rfl (by decide) rfl rfl) ?_ | refine l_op (o_load rfl rfl (by decide) rfl rfl (by first | exact fun w hw => hw.cell_blkL 0 rfl rfl | exact fun w hw => hw.cell_blkL 1 rfl rfl | exact fun w hw => hw.cell_blkL 2 rfl rfl | exact fun w hw => hw.cell_blkL 3 rfl rfl | exact fun w hw => hw.cell_blkL 4 rfl rfl | exact fun w hw => hw.cell_blkL 5 rfl rfl | exact fun w hw => hw.cell_old (by assumption) (by simp) | exact fun w hw => hw.cell_range (by assumption) rfl (by simp))) ?_ | refine l_op (o_loadN rfl rfl (by decide) rfl rfl (by first | exact fun w hw => hw.range_blk 0 rfl | exact fun w hw => hw.range_blk 1 rfl | exact fun w hw => hw.range_blk 2 rfl | exact fun w hw => hw.range_blk 3 rfl | exact fun w hw => hw.range_blk 4 rfl | exact fun w hw => hw.range_blk 5 rfl | exact fun w hw => hw.range_old (by assumption) (by simp)) (by first | rfl | exact setC_len _)) ?_ | refine l_loud (u_box rfl rfl rfl rfl) rfl (by decide) (fun bf _ => ?_) | refine l_loud (u_alloc (t := 27) rfl rfl) rfl (by decide) (fun b2 _ => ?_) | (refine l_op (o_call (f := 10) rfl rfl (by decide) rfl rfl (fun w hw => (fvalidate_calls (HFM.out.on hw.k.below) HS.out hc (HG.out.on hw.k.below)).mono (fun _ _ h => by rw [HC.out] at h; exact h))) ?_) | (refine l_op (o_call (f := 52) rfl rfl (by decide) rfl rfl (fun w hw => Calls.stay (fin_calls _ _ _ w))) ?_; rw [HU.out]) | refine l_op (o_call (f := 39) rfl rfl (by decide) rfl rfl (fun w hw => fault_calls _ _ w)) ?_ | refine l_op (o_build (xs := []) (vs := []) (v := .agg #[.int .i64 0, .int .i64 0]) rfl rfl (by decide) rfl rfl (fun w => run_build w _ _ _ (by kernel_rfl))) ?_ | refine l_op (o_fneq rfl rfl (by decide) rfl rfl rfl rfl) ?_ | (refine l_loud0 (u_storeN 0 rfl rfl rfl rfl rfl rfl rfl (by simp)) rfl (fun _ _ => ?_); rw [putL_full (by rfl)]) | (refine l_loud0 (u_storeN 1 rfl rfl rfl rfl rfl rfl rfl (by simp)) rfl (fun _ _ => ?_); rw [putL_full (by rfl)]) | refine l_nil ?_ | refine s_seq ?_ | refine s_region ?_ | refine s_skip ?_ | refine s_cond_true rfl ?_ | refine s_cond_false rfl ?_ | refine s_ret ?_ | refine x_then_ret ?_ | refine l_op (o_len rfl rfl (by decide) rfl rfl) ?_ | refine l_op (o_not rfl rfl (by decide) rfl rfl rfl) ?_ | refine l_op (o_sub (k := .i64) rfl rfl (by decide) rfl rfl rfl (IntWalk.i64_in _ (by omega))) ?_)
      refine x_body1 (by first | exact .inl rfl | exact .inr rfl) rfl (RsV.blk 1 rfl rfl rfl) (fun w hw => fa_end ?_ hw)
      unfold chkN
      rw [HC.out, if_neg (fun h => h rfl), HLEN.out, HU.out, if_neg Bool.false_ne_true]
end Go.Proofs.YtgdiadednlajgaaGreatDoor
