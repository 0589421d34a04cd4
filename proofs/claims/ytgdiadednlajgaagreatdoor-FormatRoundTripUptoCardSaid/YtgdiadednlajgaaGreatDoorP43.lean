import Derived.Test.YtgdiadednlajgaaGreatDoorP42
namespace Go.Proofs.YtgdiadednlajgaaGreatDoor
open Go.RowKit
set_option linter.unusedVariables false
set_option linter.unusedSimpArgs false
theorem x_re {Q : Exit → Act → World → Prop} {N : Nat} {M : List Nat} {W : World} {E : Env} {O O' : List Atom} {e : Exit} (f : ∀ w, Wd M W O w → Wd M W O' w) (h : xE Q N M W E O' e) : xE Q N M W E O e := fun a w ha hw => h a w ha (f w hw)
theorem pr_good {W w : World} {O : List Atom} {s : List UInt8} {A : Option Addr} {n c : Nat} {cur : List RlY} {at_ : List Atom} (hn : cur.length = n) (hp : parseF s = (cur.map RlY.x, 0, 0)) (hc : n ≤ c) (hs : FSm (cur.map RlY.x)) (hat : ∀ a ∈ at_, a.w = false) (hf : ∀ w, (∀ a ∈ at_, a.on w) → ∀ z ∈ cur, RlF z w) (h : Wd [] W (.row A n c 52 12 (flatC cur) :: (at_ ++ O)) w) : CallEnd PrY.v (PrI s) [] W (fun y => y.ats ++ O) (.returned (.tuple #[.agg #[.slice A n c], .agg #[.int .i64 0, .int .i64 0]])) w := by
  have hl : (cur.map RlY.x).length = n := by rw [List.length_map]; exact hn
  subst hl
  refine ⟨⟨cur.map RlY.x, A, c, (0, 0), .rd A (cur.map RlY.x).length 12 (flatC cur) :: at_⟩, rfl, ⟨hp, hc, hs, fun a ha => ?_, fun w hw => ?_⟩, h.toRd (i := 0) rfl (by decide)⟩
  · rcases List.mem_cons.1 ha with e | ha
    · rw [e]; rfl
    · exact hat a ha
  · exact fm_rd (hw _ List.mem_cons_self) (by rw [List.length_map]) (hf w fun a ha => hw a (List.mem_cons_of_mem _ ha))
section
variable {W w : World} {O : List Atom}
set_option maxRecDepth 100000 in
set_option maxHeartbeats 64000000 in
theorem parse_wd {s0 : List UInt8} (hg : GV W) (hs0 : s0.length ≤ 1048576) (hw : Wd [] W O w) :
    Calls Tryz.prog 21 #[.string ⟨s0.toArray⟩] w (CallEnd PrY.v (PrI s0) [] W (fun y => y.ats ++ O)) := by
  have HG := Lib.hid hg
  have hsz := ba_size s0
  clear hg
  by_cases hlong : 2000 < s0.length
  · go_enter Tryz.func21, Tryz.ntmps21
    refine s_go (M := []) (W := W) (N := 86) (E := [(0, .string ⟨s0.toArray⟩)]) (O := O) ?_ (Ag.cons (Ag.nil rfl rfl) rfl) hw
    repeat (first | refine l_op (o_move rfl rfl (by decide) rfl rfl) ?_ | refine l_loud (u_alloc rfl rfl) rfl (by decide) (fun gg _ => ?_) | refine l_op (o_build (xs := []) (vs := []) (v := .agg #[.slice none 0 0]) rfl rfl (by decide) rfl rfl (fun w => run_build w _ _ _ (by kernel_rfl))) ?_ | refine l_op (o_call (f := 39) rfl rfl (by decide) rfl rfl (fun w hw => fault_calls _ _ w)) ?_ | (refine l_loud0 (u_storeN 1 rfl rfl rfl rfl rfl rfl rfl (by simp)) rfl (fun _ _ => ?_); rw [putL_full (by rfl)]) | (refine l_loud0 (u_storeN 0 rfl rfl rfl rfl rfl rfl rfl (by simp)) rfl (fun _ _ => ?_); rw [putL_full (by rfl)]) | refine l_nil ?_ | refine s_seq ?_ | refine s_region ?_ | refine s_cond_true rfl ?_ | refine s_ret ?_ | refine x_then_ret ?_ | refine l_op (o_slen Tryz.underlying9 rfl rfl (by decide) rfl rfl) ?_ | refine l_op (o_gtr rfl rfl (by decide) rfl rfl rfl (by first | assumption | exact decide_eq_true (by omega) | exact decide_eq_false (by omega) | rfl)) ?_)
    exact x_body2 (by first | exact .inl rfl | exact .inr rfl) rfl (RsV.blk 1 rfl rfl rfl) (RsV.blk 0 rfl rfl rfl) (fun w hw => pr_bad (parse_long hlong) hw.tail.tail)
  go_enter Tryz.func21, Tryz.ntmps21
  refine s_go (M := []) (W := W) (N := 86) (E := [(0, .string ⟨s0.toArray⟩)]) (O := O) ?_ (Ag.cons (Ag.nil rfl rfl) rfl) hw
  repeat (first | refine l_op (o_move rfl rfl (by decide) rfl rfl) ?_ | refine l_op (o_assign rfl rfl (by decide) rfl rfl) ?_ | refine l_loud (u_alloc rfl rfl) rfl (by decide) (fun gg _ => ?_) | refine l_nil ?_ | refine s_seq ?_ | refine s_region ?_ | refine s_skip ?_ | refine s_cond_false rfl ?_ | refine s_block ?_ | refine l_op (o_slen Tryz.underlying9 rfl rfl (by decide) rfl rfl) ?_ | refine l_op (o_gtr rfl rfl (by decide) rfl rfl rfl (by first | assumption | exact decide_eq_true (by omega) | exact decide_eq_false (by omega) | rfl)) ?_)
  rename_i b2 _ b3 _ _
  refine s_row 50 1 ?_
  refine s_row 52 12 ?_
  refine s_loopT (ι := PsY) (PsI s0) (fun y => y.s.length) (fun y => [(2, .pointer (some ⟨b2, 0, none⟩)), (3, .pointer (some ⟨b3, 0, none⟩)), (4, .pointer (some ⟨gg, 0, none⟩)), (5, .slice y.B y.ls.length y.d), (6, .int .i64 (y.ls.length : Int)), (0, .string ⟨y.s.toArray⟩)]) (fun y => .row y.A y.ls.length y.c 52 12 (flatC y.ls) :: .row y.B y.ls.length y.d 50 1 (refV y.ls) :: .blk gg (.cells ([.slice y.A y.ls.length y.c] : List Value).toArray 24 (0, 0)) :: .blk b3 (.cells ([.int .i64 0, .int .i64 0] : List Value).toArray 27 (0, 0)) :: .blk b2 (.cells ([.slice none 0 0] : List Value).toArray 24 (0, 0)) :: (y.at_ ++ O)) ⟨[], s0, none, 0, none, 0, []⟩ ⟨(preE_nil _).symm, by show 0 + s0.length ≤ 2000; omega, fun z hz => (by cases hz), fun a ha => (by cases ha), fun w _ z hz => (by cases hz)⟩ (.cons rfl rfl (.cons rfl rfl (.cons rfl rfl (.cons rfl rfl (.cons rfl rfl (.cons rfl rfl .nil)))))) (fun w hw => hw) ?_
  rintro ⟨ls, s, A, c, B, d, at_⟩ hinv
  have hsz1 : ls.length + s.length ≤ 2000 := hinv.sz
  have HI := Lib.hid hinv
  clear hinv
  show sE _ _ _ _ _ [(2, .pointer (some ⟨b2, 0, none⟩)), (3, .pointer (some ⟨b3, 0, none⟩)), (4, .pointer (some ⟨gg, 0, none⟩)), (5, .slice B ls.length d), (6, .int .i64 (ls.length : Int)), (0, .string ⟨s.toArray⟩)] (.row A ls.length c 52 12 (flatC ls) :: .row B ls.length d 50 1 (refV ls) :: .blk gg (.cells ([.slice A ls.length c] : List Value).toArray 24 (0, 0)) :: .blk b3 (.cells ([.int .i64 0, .int .i64 0] : List Value).toArray 27 (0, 0)) :: .blk b2 (.cells ([.slice none 0 0] : List Value).toArray 24 (0, 0)) :: (at_ ++ O)) _
  by_cases hse : s = []
  · subst hse
    have hb : ((⟨([] : List UInt8).toArray⟩ : ByteArray).data.toList != (⟨#[]⟩ : ByteArray).data.toList) = false := rfl
    repeat (first | refine l_op (o_move rfl rfl (by decide) rfl rfl) ?_ | refine l_op (o_fieldAddr rfl rfl (by decide) rfl rfl) ?_ | refine l_op (o_load rfl rfl (by decide) rfl rfl (by first | exact fun w hw => hw.cell_blkL 0 rfl rfl | exact fun w hw => hw.cell_blkL 1 rfl rfl | exact fun w hw => hw.cell_blkL 2 rfl rfl | exact fun w hw => hw.cell_blkL 3 rfl rfl | exact fun w hw => hw.cell_blkL 4 rfl rfl | exact fun w hw => hw.cell_blkL 5 rfl rfl | exact fun w hw => hw.cell_old (by assumption) (by simp) | exact fun w hw => hw.cell_range (by assumption) rfl (by simp))) ?_ | refine l_nil ?_ | refine s_seq ?_ | refine s_region ?_ | refine s_cond_false rfl ?_ | refine s_exit ?_ | refine s_block ?_ | refine l_op (o_len rfl rfl (by decide) rfl rfl) ?_ | refine l_op (o_sneq rfl rfl (by decide) rfl rfl rfl (by first | assumption | rfl)) ?_)
    have hlines : linesRd 0 (spl 10 s0) = .ok (ls.map prL) := by
      rw [HI.out.res]
      show Except.ok (ls.map prL ++ []) = _
      rw [List.append_nil]
    have HLN := Lib.hid hlines
    clear hlines
    refine s_fact (φ := 0 < ls.length → ∃ b, A = some ⟨b, 0, none⟩) (fun w hw => row_some (hw.own 0 _ rfl)) (fun hA => ?_)
    refine s_fact (φ := 0 < ls.length → ∃ b, B = some ⟨b, 0, none⟩) (fun w hw => row_some (hw.own 1 _ rfl)) (fun hB => ?_)
    refine s_fact (φ := ls.length ≤ c) (fun w hw => (row_rd (hw.own 0 _ rfl) (by decide)).2) (fun hlc => ?_)
    refine s_loopT (ι := P2Y) (P2I ls) (fun y => ls.length - y.k) (fun y => [(2, .pointer (some ⟨b2, 0, none⟩)), (3, .pointer (some ⟨b3, 0, none⟩)), (4, .pointer (some ⟨gg, 0, none⟩)), (5, .slice B ls.length d), (58, .int .i64 (ls.length : Int)), (59, .int .i64 (y.k : Int))]) (fun y => .row A ls.length c 52 12 (flatC y.cur) :: .row B ls.length d 50 1 (refV ls) :: .blk gg (.cells ([.slice A ls.length c] : List Value).toArray 24 (0, 0)) :: .blk b3 (.cells ([.int .i64 0, .int .i64 0] : List Value).toArray 27 (0, 0)) :: .blk b2 (.cells ([.slice none 0 0] : List Value).toArray 24 (0, 0)) :: (y.at_ ++ O)) ⟨0, ls, at_⟩ (P2I.start HI.out.k HI.out.w HI.out.f) (.cons rfl rfl (.cons rfl rfl (.cons rfl rfl (.cons rfl rfl (.cons rfl rfl (.cons rfl rfl .nil)))))) (fun w hw => hw) ?_
    rintro ⟨k, cur, at2⟩ hinv
    have hkn : k ≤ ls.length := hinv.k
    have hon : ∀ w, Wd [] W (.row A ls.length c 52 12 (flatC cur) :: .row B ls.length d 50 1 (refV ls) :: .blk gg (.cells ([.slice A ls.length c] : List Value).toArray 24 (0, 0)) :: .blk b3 (.cells ([.int .i64 0, .int .i64 0] : List Value).toArray 27 (0, 0)) :: .blk b2 (.cells ([.slice none 0 0] : List Value).toArray 24 (0, 0)) :: (at2 ++ O)) w → FmIn w w.heap.size A ls.length (cur.map RlY.x) ∧ ∀ z ∈ ls, RlF z w := fun w hw => by
      have h5 := hinv.f w (hw.tail.tail.tail.tail.tail.at_)
      exact ⟨fm_of (hw.own 0 _ rfl) hinv.len h5.1, h5.2⟩
    have H2 := Lib.hid hinv
    have HON := Lib.hid hon
    clear hinv hon
    show sE _ _ _ _ _ [(2, .pointer (some ⟨b2, 0, none⟩)), (3, .pointer (some ⟨b3, 0, none⟩)), (4, .pointer (some ⟨gg, 0, none⟩)), (5, .slice B ls.length d), (58, .int .i64 (ls.length : Int)), (59, .int .i64 (k : Int))] (.row A ls.length c 52 12 (flatC cur) :: .row B ls.length d 50 1 (refV ls) :: .blk gg (.cells ([.slice A ls.length c] : List Value).toArray 24 (0, 0)) :: .blk b3 (.cells ([.int .i64 0, .int .i64 0] : List Value).toArray 27 (0, 0)) :: .blk b2 (.cells ([.slice none 0 0] : List Value).toArray 24 (0, 0)) :: (at2 ++ O)) _
    by_cases hk : k < ls.length
    · obtain ⟨y, hy, hy2⟩ := H2.out.at_k hk
      obtain ⟨b, rfl⟩ := hA (by omega)
      obtain ⟨bb, rfl⟩ := hB (by omega)
      have hym : y ∈ ls := List.mem_of_getElem? hy2
      have hks := (HI.out.k y hym).2
      have hrc : (refV ls)[k]? = some (.slice y.Ar y.refs.length y.cr) := by unfold refV; rw [List.getElem?_map, hy2]; rfl
      have hrf := hks.rf
      refine s_fact (φ := y.refs.length ≤ y.cr) (fun w hw => ((HON.out w hw).2 y hym).c) (fun hcr => ?_)
      have HY := Lib.hid hy
      have HY2 := Lib.hid hy2
      have HKS := Lib.hid hks
      clear hy hy2 hks
      repeat (first | refine l_op (o_move rfl rfl (by decide) rfl rfl) ?_ | refine l_op (o_assign rfl rfl (by decide) rfl rfl) ?_ | refine l_nil ?_ | refine s_seq ?_ | refine s_region ?_ | refine s_skip ?_ | refine s_cond_true rfl ?_ | refine s_block ?_ | refine l_op (o_lss rfl rfl (by decide) rfl rfl rfl (by first | assumption | exact decide_eq_true (by omega) | exact decide_eq_false (by omega) | rfl)) ?_)
      refine s_drawn [.row (some ⟨bb, 0, none⟩) ls.length d 50 1 (refV ls), .blk gg (.cells ([.slice (some ⟨b, 0, none⟩) ls.length c] : List Value).toArray 24 (0, 0))] [] (by kernel_rfl) ?_
      first | refine d_op 0 rfl (by kernel_rfl) (Through.sel [1, 2] (by decide) rfl) (o_loadN rfl rfl (by decide) rfl rfl (by first | exact fun w hw => hw.range_blk 0 rfl | exact fun w hw => hw.range_blk 1 rfl | exact fun w hw => hw.range_blk 2 rfl | exact fun w hw => hw.range_blk 3 rfl | exact fun w hw => hw.range_blk 4 rfl | exact fun w hw => hw.range_blk 5 rfl | exact fun w hw => hw.range_old (by assumption) (by simp)) (by first | rfl | exact setC_len _)) ?_
      first | refine d_op 1 rfl (by kernel_rfl) (Through.sel [1, 2] (by decide) rfl) (o_fieldAddr rfl rfl (by decide) rfl rfl) ?_
      first | refine d_op 2 rfl (by kernel_rfl) (Through.sel [1, 2] (by decide) rfl) (o_load rfl rfl (by decide) rfl rfl (by first | exact fun w hw => hw.cell_blkL 0 rfl rfl | exact fun w hw => hw.cell_blkL 1 rfl rfl | exact fun w hw => hw.cell_blkL 2 rfl rfl | exact fun w hw => hw.cell_blkL 3 rfl rfl | exact fun w hw => hw.cell_blkL 4 rfl rfl | exact fun w hw => hw.cell_blkL 5 rfl rfl | exact fun w hw => hw.cell_old (by assumption) (by simp) | exact fun w hw => hw.cell_range (by assumption) rfl (by simp))) ?_
      first | refine d_op 3 rfl (by kernel_rfl) (Through.sel [1, 2] (by decide) rfl) (o_move rfl rfl (by decide) rfl rfl) ?_
      first | refine d_op 4 rfl (by kernel_rfl) (Through.sel [1, 2] (by decide) rfl) (o_indexAddr (j := k) rfl rfl (by decide) rfl rfl rfl hk) ?_
      first | refine d_op 5 rfl (by kernel_rfl) (Through.sel [1, 2] (by decide) rfl) (o_move rfl rfl (by decide) rfl rfl) ?_
      first | refine d_op 6 rfl (by kernel_rfl) (Through.sel [1, 2] (by decide) rfl) (o_move rfl rfl (by decide) rfl rfl) ?_
      first | refine d_op 7 rfl (by kernel_rfl) (Through.sel [1, 2] (by decide) rfl) (o_indexAddr1 (j := k) rfl rfl (by decide) rfl rfl rfl hk) ?_
      first | (refine d_op 8 rfl (by kernel_rfl) (Through.sel [1, 2] (by decide) rfl) (o_load rfl rfl (by decide) rfl rfl (fun w hw => by rw [Nat.zero_add]; exact hw.cell_row 0 rfl hrc)) ?_)
      rw [show 0 + k * 12 = k * 12 from Nat.zero_add _]
      refine d_loud 9 (by kernel_rfl) rfl rfl (u_call _ _ _ (f := 44) rfl rfl rfl (fun w hw => resolve_wd (by omega) H2.out.len HY.out (by omega) hcr HKS.out.use (fun w hw => ⟨(HON.out w hw).1, ((HON.out w hw).2 y hym).s⟩) hw)) (fun z => .inr (fun w hw => (hw.tail.drop (L := z.ats)).sel [0, 1] (by decide))) rfl (by decide) (fun z hz => ?_)
      refine d_op 10 rfl (by kernel_rfl) (fun w hw => (hw.tail.drop (L := z.ats)).sel [0, 1] (by decide)) (o_not rfl rfl (by decide) rfl rfl rfl) ?_
      refine d_end ?_ (by kernel_rfl)
      refine x_re (fun w hw => hw.swap41) ?_
      obtain ⟨zo, hzo⟩ : ∃ zo, z.ok = zo := ⟨_, rfl⟩
      rw [hzo]
      cases zo with
      | false =>
        repeat (first | refine l_op (o_move rfl rfl (by decide) rfl rfl) ?_ | refine l_op (o_build (xs := []) (vs := []) (v := .agg #[.slice none 0 0]) rfl rfl (by decide) rfl rfl (fun w => run_build w _ _ _ (by kernel_rfl))) ?_ | refine l_op (o_call (f := 39) rfl rfl (by decide) rfl rfl (fun w hw => fault_calls _ _ w)) ?_ | (refine l_loud0 (u_storeN 4 rfl rfl rfl rfl rfl rfl rfl (by simp)) rfl (fun _ _ => ?_); rw [putL_full (by rfl)]) | (refine l_loud0 (u_storeN 3 rfl rfl rfl rfl rfl rfl rfl (by simp)) rfl (fun _ _ => ?_); rw [putL_full (by rfl)]) | refine l_nil ?_ | refine s_seq ?_ | refine s_region ?_ | refine s_cond_true rfl ?_ | refine s_ret ?_ | refine x_then_ret ?_ | refine x_block_ret ?_)
        exact x_body2 (by first | exact .inl rfl | exact .inr rfl) rfl (RsV.blk 4 rfl rfl rfl) (RsV.blk 3 rfl rfl rfl) (fun w hw => pr_bad (parse_res hlong HLN.out (by rw [map_prL]; exact H2.out.no HY2.out (hz.no hzo))) hw.tail.tail.tail.tail.tail.drop.drop)
      | true =>
        repeat (first | refine l_op (o_move rfl rfl (by decide) rfl rfl) ?_ | refine l_nil ?_ | refine s_region ?_ | refine s_skip ?_ | refine s_cond_false rfl ?_ | refine l_op (o_add (k := .i64) rfl rfl (by decide) rfl rfl rfl (IntWalk.i64_in _ (by omega))) ?_)
        refine x_roundT ⟨k + 1, z.cur, z.ats ++ at2⟩ (H2.out.next HY.out HY2.out hz hzo HKS.out) (by show ls.length - (k + 1) < ls.length - k; omega) (.cons rfl rfl (.cons rfl rfl (.cons rfl rfl (.cons rfl rfl (.cons rfl rfl (.cons rfl rfl .nil)))))) (fun w hw => ?_)
        show Wd [] W (.row (some ⟨b, 0, none⟩) ls.length c 52 12 (flatC z.cur) :: .row (some ⟨bb, 0, none⟩) ls.length d 50 1 (refV ls) :: .blk gg (.cells ([.slice (some ⟨b, 0, none⟩) ls.length c] : List Value).toArray 24 (0, 0)) :: .blk b3 (.cells ([.int .i64 0, .int .i64 0] : List Value).toArray 27 (0, 0)) :: .blk b2 (.cells ([.slice none 0 0] : List Value).toArray 24 (0, 0)) :: ((z.ats ++ at2) ++ O)) w
        rw [List.append_assoc]
        exact hw
    · obtain rfl : k = ls.length := by omega
      have hfin := H2.out.fin
      have hlen : cur.length = ls.length := H2.out.len
      have hfs : FSm (cur.map RlY.x) := ⟨by rw [List.length_map, hlen]; omega, fun r hr => by
        obtain ⟨z, hz, rfl⟩ := List.mem_map.1 hr
        exact H2.out.sm z hz⟩
      obtain ⟨⟨fa, fb⟩, hff⟩ : ∃ p, faultF (cur.map RlY.x) = p := ⟨_, rfl⟩
      have HFF := Lib.hid hff
      have HFS := Lib.hid hfs
      have HFIN := Lib.hid (show resolveAll ((ls.map prL).map (·.1)) 0 (ls.map prL) = .ok (cur.map RlY.x) by rw [map_prL]; exact hfin)
      clear hff hfs hfin
      by_cases hz : fa = 0 ∧ fb = 0
      · obtain ⟨rfl, rfl⟩ := hz
        repeat (first | refine l_op (o_loadN rfl rfl (by decide) rfl rfl (by first | exact fun w hw => hw.range_blk 0 rfl | exact fun w hw => hw.range_blk 1 rfl | exact fun w hw => hw.range_blk 2 rfl | exact fun w hw => hw.range_blk 3 rfl | exact fun w hw => hw.range_blk 4 rfl | exact fun w hw => hw.range_blk 5 rfl | exact fun w hw => hw.range_old (by assumption) (by simp)) (by first | rfl | exact setC_len _)) ?_ | (refine l_op (o_call (f := 10) rfl rfl (by decide) rfl rfl (fun w hw => (fvalidate_calls (HON.out w hw).1 HFS.out hlc (HG.out.on hw.k.below)).mono (fun _ _ h => by rw [HFF.out] at h; exact h))) ?_) | refine l_loud (u_alloc rfl rfl) rfl (by decide) (fun g14 _ => ?_) | refine l_op (o_build (xs := []) (vs := []) (v := .agg #[.int .i64 0, .int .i64 0]) rfl rfl (by decide) rfl rfl (fun w => run_build w _ _ _ (by kernel_rfl))) ?_ | refine l_op (o_fneq rfl rfl (by decide) rfl rfl rfl rfl) ?_ | (refine l_loud0 (u_storeN 0 rfl rfl rfl rfl rfl rfl rfl (by simp)) rfl (fun _ _ => ?_); rw [putL_full (by rfl)]) | (refine l_loud0 (u_storeN 5 rfl rfl rfl rfl rfl rfl rfl (by simp)) rfl (fun _ _ => ?_); rw [putL_full (by rfl)]) | (refine l_loud0 (u_storeN 4 rfl rfl rfl rfl rfl rfl rfl (by simp)) rfl (fun _ _ => ?_); rw [putL_full (by rfl)]) | refine l_nil ?_ | refine s_seq ?_ | refine s_region ?_ | refine s_skip ?_ | refine s_cond_false rfl ?_ | refine s_exit ?_ | refine s_ret ?_ | refine l_op (o_lss rfl rfl (by decide) rfl rfl rfl (by first | assumption | exact decide_eq_true (by omega) | exact decide_eq_false (by omega) | rfl)) ?_)
        refine x_body2 (by first | exact .inl rfl | exact .inr rfl) rfl (RsV.blk 5 rfl rfl rfl) (RsV.blk 4 rfl rfl rfl) (fun w hw => pr_good hlen (parse_fin hlong HLN.out HFIN.out HFF.out) hlc HFS.out H2.out.w (fun w h => (H2.out.f w h).1) ?_)
        exact hw.tail.ofMap (fun i => if i = 0 then 0 else i + 4) (fun i j h => by (repeat' split at h) <;> omega) (fun i x hx => by
          match i, hx with
          | 0, hx => exact hx
          | n + 1, hx => exact hx)
      · have hzb : (!(fa == 0 && fb == 0)) = true := by
          cases h1 : (fa == 0 && fb == 0) with
          | false => rfl
          | true =>
            exact absurd (by simpa using h1) hz
        repeat (first | refine l_op (o_loadN rfl rfl (by decide) rfl rfl (by first | exact fun w hw => hw.range_blk 0 rfl | exact fun w hw => hw.range_blk 1 rfl | exact fun w hw => hw.range_blk 2 rfl | exact fun w hw => hw.range_blk 3 rfl | exact fun w hw => hw.range_blk 4 rfl | exact fun w hw => hw.range_blk 5 rfl | exact fun w hw => hw.range_old (by assumption) (by simp)) (by first | rfl | exact setC_len _)) ?_ | (refine l_op (o_call (f := 10) rfl rfl (by decide) rfl rfl (fun w hw => (fvalidate_calls (HON.out w hw).1 HFS.out hlc (HG.out.on hw.k.below)).mono (fun _ _ h => by rw [HFF.out] at h; exact h))) ?_) | refine l_loud (u_alloc rfl rfl) rfl (by decide) (fun g14 _ => ?_) | refine l_op (o_build (xs := []) (vs := []) (v := .agg #[.int .i64 0, .int .i64 0]) rfl rfl (by decide) rfl rfl (fun w => run_build w _ _ _ (by kernel_rfl))) ?_ | refine l_op (o_fneq rfl rfl (by decide) rfl rfl rfl hzb) ?_ | (refine l_loud0 (u_storeN 0 rfl rfl rfl rfl rfl rfl rfl (by simp)) rfl (fun _ _ => ?_); rw [putL_full (by rfl)]) | refine l_nil ?_ | refine s_seq ?_ | refine s_region ?_ | refine s_cond_true rfl ?_ | refine s_cond_false rfl ?_ | refine s_exit ?_ | refine l_op (o_lss rfl rfl (by decide) rfl rfl rfl (by first | assumption | exact decide_eq_true (by omega) | exact decide_eq_false (by omega) | rfl)) ?_)
        refine s_drawn [.blk g14 (.cells ([.int .i64 fa, .int .i64 fb] : List Value).toArray 27 (0, 0))] [] (by kernel_rfl) ?_
        first | refine d_op 0 rfl (by kernel_rfl) (Through.sel [0] (by decide) rfl) (o_build (xs := []) (vs := []) (v := .agg #[.slice none 0 0]) rfl rfl (by decide) rfl rfl (fun w => run_build w _ _ _ (by kernel_rfl))) ?_
        first | refine d_op 1 rfl (by kernel_rfl) (Through.sel [0] (by decide) rfl) (o_loadN rfl rfl (by decide) rfl rfl (by first | exact fun w hw => hw.range_blk 0 rfl | exact fun w hw => hw.range_blk 1 rfl | exact fun w hw => hw.range_blk 2 rfl | exact fun w hw => hw.range_blk 3 rfl | exact fun w hw => hw.range_blk 4 rfl | exact fun w hw => hw.range_blk 5 rfl | exact fun w hw => hw.range_old (by assumption) (by simp)) (by first | rfl | exact setC_len _)) ?_
        refine d_loud0 2 (by kernel_rfl) rfl rfl (u_storeN 5 rfl rfl rfl rfl rfl rfl rfl (by simp)) (fun _ => .inr (Through.sel [0] (by decide) rfl)) rfl (fun _ _ => ?_)
        rw [putL_full (by rfl)]
        refine d_loud0 3 (by kernel_rfl) rfl rfl (u_storeN 4 (us := [.int .i64 fa, .int .i64 fb]) rfl rfl rfl rfl rfl rfl rfl (by simp)) (fun _ => .inr (Through.sel [0] (by decide) rfl)) rfl (fun _ _ => ?_)
        rw [putL_full (by rfl)]
        refine d_end ?_ (by kernel_rfl)
        repeat (first | refine s_ret ?_ | refine x_then_ret ?_)
        exact x_body2 (by first | exact .inl rfl | exact .inr rfl) rfl (RsV.blk 5 rfl rfl rfl) (RsV.blk 4 rfl rfl rfl) (fun w hw => pr_bad (by rw [parse_flt hlong HLN.out HFIN.out (by rw [HFF.out]; intro e; cases e; exact hz ⟨rfl, rfl⟩), HFF.out]) hw.drop6.drop)
  · have hb : ((⟨s.toArray⟩ : ByteArray).data.toList != (⟨#[]⟩ : ByteArray).data.toList) = true := bne_iff_ne.2 hse
    obtain ⟨t, ht⟩ : ∃ t, (cutL 10 s).1 = t := ⟨_, rfl⟩
    obtain ⟨r, hr⟩ : ∃ r, (cutL 10 s).2.1 = r := ⟨_, rfl⟩
    obtain ⟨e, he⟩ : ∃ e, (cutL 10 s).2.2 = e := ⟨_, rfl⟩
    have hcut : cutL 10 s = (t, r, e) := by rw [← ht, ← hr, ← he]
    have hcl := cutL_len 10 s
    rw [ht, hr] at hcl
    have htl : t.length ≤ 2000 := by omega
    have HC := Lib.hid hcut
    have HT := Lib.hid ht
    have HR := Lib.hid hr
    have HE := Lib.hid he
    clear ht hr he hcut
    repeat (first | refine l_op (o_move rfl rfl (by decide) rfl rfl) ?_ | refine l_op (o_assign rfl rfl (by decide) rfl rfl) ?_ | (refine l_op (o_call (f := 42) rfl rfl (by decide) rfl rfl (fun w hw => cut_calls (HG.out.on hw.k.below) (by omega))) ?_; rw [HT.out, HR.out, HE.out]) | (refine l_loud (u_call _ _ _ (f := 43) rfl rfl rfl (fun w hw => readLine_wd HG.out htl hw)) rfl (by decide) (fun y hy => ?_); obtain ⟨ok, hok⟩ : ∃ ok, y.ok = ok := ⟨_, rfl⟩; rw [show RlY.v y = .tuple #[.agg y.cells.toArray, .slice y.Ar y.refs.length y.cr, .bool ok] by rw [← hok]]; refine l_re (fun w hw => hw.swap5) ?_) | refine l_nil ?_ | refine s_seq ?_ | refine s_region ?_ | refine s_skip ?_ | refine s_cond_true rfl ?_ | refine s_block ?_ | refine l_op (o_sneq rfl rfl (by decide) rfl rfl rfl (by first | assumption | rfl)) ?_ | refine l_op (o_extract rfl rfl (by decide) rfl rfl rfl) ?_)
    have hrd := hy.ok
    cases ok with
    | false =>
      rw [hok] at hrd
      repeat (first | refine l_op (o_move rfl rfl (by decide) rfl rfl) ?_ | refine l_op (o_assign rfl rfl (by decide) rfl rfl) ?_ | refine l_op (o_skip rfl (by decide) rfl) ?_ | refine l_op (o_build (xs := []) (vs := []) (v := .agg #[.slice none 0 0]) rfl rfl (by decide) rfl rfl (fun w => run_build w _ _ _ (by kernel_rfl))) ?_ | refine l_op (o_call (f := 39) rfl rfl (by decide) rfl rfl (fun w hw => fault_calls _ _ w)) ?_ | refine l_loud (u_alloc rfl rfl) rfl (by decide) (fun g10 _ => ?_) | (refine l_loud0 (u_storeN 0 (us := y.cells) rfl rfl rfl rfl rfl rfl rfl (by first | simp | exact Nat.le_refl 12)) rfl (fun _ _ => ?_); rw [putL_full (by rfl)]) | (refine l_loud0 (u_storeN 5 rfl rfl rfl rfl rfl rfl rfl (by simp)) rfl (fun _ _ => ?_); rw [putL_full (by rfl)]) | (refine l_loud0 (u_storeN 4 rfl rfl rfl rfl rfl rfl rfl (by simp)) rfl (fun _ _ => ?_); rw [putL_full (by rfl)]) | refine l_nil ?_ | refine s_seq ?_ | refine s_region ?_ | refine s_cond_true rfl ?_ | refine s_ret ?_ | refine x_then_ret ?_ | refine x_block_ret ?_ | refine l_op (o_pick_yes rfl rfl (by decide) rfl rfl rfl) ?_ | refine l_op (o_not rfl rfl (by decide) rfl rfl rfl) ?_)
      exact x_body2 (by first | exact .inl rfl | exact .inr rfl) rfl (RsV.blk 5 rfl rfl rfl) (RsV.blk 4 rfl rfl rfl) (fun w hw => pr_bad (parse_line hlong (by rw [HI.out.res, line_bad hse HC.out hrd]; rfl)) hw.drop6.drop.drop)
    | true =>
      rw [hok] at hrd
      have hrl : readL t = some (y.x, y.refs) := hrd
      clear hrd
      cases e with
      | false =>
        repeat (first | refine l_op (o_move rfl rfl (by decide) rfl rfl) ?_ | refine l_op (o_assign rfl rfl (by decide) rfl rfl) ?_ | refine l_op (o_build (xs := []) (vs := []) (v := .agg #[.slice none 0 0]) rfl rfl (by decide) rfl rfl (fun w => run_build w _ _ _ (by kernel_rfl))) ?_ | refine l_op (o_call (f := 39) rfl rfl (by decide) rfl rfl (fun w hw => fault_calls _ _ w)) ?_ | refine l_loud (u_alloc rfl rfl) rfl (by decide) (fun g10 _ => ?_) | (refine l_loud0 (u_storeN 0 (us := y.cells) rfl rfl rfl rfl rfl rfl rfl (by first | simp | exact Nat.le_refl 12)) rfl (fun _ _ => ?_); rw [putL_full (by rfl)]) | (refine l_loud0 (u_storeN 5 rfl rfl rfl rfl rfl rfl rfl (by simp)) rfl (fun _ _ => ?_); rw [putL_full (by rfl)]) | (refine l_loud0 (u_storeN 4 rfl rfl rfl rfl rfl rfl rfl (by simp)) rfl (fun _ _ => ?_); rw [putL_full (by rfl)]) | refine l_nil ?_ | refine s_seq ?_ | refine s_region ?_ | refine s_cond_true rfl ?_ | refine s_ret ?_ | refine x_then_ret ?_ | refine x_block_ret ?_ | refine l_op (o_pick_no rfl rfl (by decide) rfl rfl rfl) ?_ | refine l_op (o_not rfl rfl (by decide) rfl rfl rfl) ?_)
        exact x_body2 (by first | exact .inl rfl | exact .inr rfl) rfl (RsV.blk 5 rfl rfl rfl) (RsV.blk 4 rfl rfl rfl) (fun w hw => pr_bad (parse_line hlong (by rw [HI.out.res, line_no hse HC.out]; rfl)) hw.drop6.drop.drop)
      | true =>
        repeat (first | refine l_op (o_move rfl rfl (by decide) rfl rfl) ?_ | refine l_op (o_assign rfl rfl (by decide) rfl rfl) ?_ | refine l_op (o_fieldAddr rfl rfl (by decide) rfl rfl) ?_ | refine l_op (o_load rfl rfl (by decide) rfl rfl (by first | exact fun w hw => hw.cell_blkL 0 rfl rfl | exact fun w hw => hw.cell_blkL 1 rfl rfl | exact fun w hw => hw.cell_blkL 2 rfl rfl | exact fun w hw => hw.cell_blkL 3 rfl rfl | exact fun w hw => hw.cell_blkL 4 rfl rfl | exact fun w hw => hw.cell_blkL 5 rfl rfl | exact fun w hw => hw.cell_old (by assumption) (by simp) | exact fun w hw => hw.cell_range (by assumption) rfl (by simp))) ?_ | refine l_op (o_loadN rfl rfl (by decide) rfl rfl (by first | exact fun w hw => hw.range_blk 0 rfl | exact fun w hw => hw.range_blk 1 rfl | exact fun w hw => hw.range_blk 2 rfl | exact fun w hw => hw.range_blk 3 rfl | exact fun w hw => hw.range_blk 4 rfl | exact fun w hw => hw.range_blk 5 rfl | exact fun w hw => hw.range_old (by assumption) (by simp)) (by first | rfl | exact setC_len _)) ?_ | refine l_loud (u_alloc rfl rfl) rfl (by decide) (fun g10 _ => ?_) | (refine l_loud0 (u_storeN 0 (us := y.cells) rfl rfl rfl rfl rfl rfl rfl (by first | simp | exact Nat.le_refl 12)) rfl (fun _ _ => ?_); rw [putL_full (by rfl)]) | refine l_loud (u_slice1 (size := 12) (cs := y.cells) rfl rfl rfl rfl rfl (by decide)) rfl (by decide) (fun bn _ => ?_) | refine l_loud (u_append (news := y.cells) 2 rfl rfl rfl rfl rfl (fun w hw => hw.rd_blk 0 rfl rfl) (by first | rfl | simp [Value.oneCell']) (by omega)) rfl (by decide) (fun z1 _ => ?_) | refine l_loud (u_slice1 (size := 1) (cs := [.slice y.Ar y.refs.length y.cr]) rfl rfl rfl rfl rfl (by decide)) rfl (by decide) (fun bn _ => ?_) | refine l_loud (u_append (news := [.slice y.Ar y.refs.length y.cr]) 4 rfl rfl rfl rfl rfl (fun w hw => hw.rd_blk 0 rfl rfl) (by simp [Value.oneCell']) (by omega)) rfl (by decide) (fun z2 _ => ?_) | refine l_loud0 (u_store 5 rfl rfl rfl rfl rfl rfl rfl) rfl (fun _ _ => ?_) | refine l_nil ?_ | refine s_seq ?_ | refine s_region ?_ | refine s_skip ?_ | refine s_cond_false rfl ?_ | refine l_op (o_pick_no rfl rfl (by decide) rfl rfl rfl) ?_ | refine l_op (o_not rfl rfl (by decide) rfl rfl rfl) ?_ | refine l_op (o_add (k := .i64) rfl rfl (by decide) rfl rfl rfl (IntWalk.i64_in _ (by omega))) ?_)
        have hcy := (cutL_yes HC.out).2.1
        refine x_roundT ⟨ls ++ [y], r, z1.1, z1.2, z2.1, z2.2, y.ats ++ at_⟩ (HI.out.next HC.out hy hok hrl) (by show r.length < s.length; rw [hcy]; simp only [List.length_append, List.length_cons]; omega) (.cons rfl rfl (.cons rfl rfl (.cons rfl rfl (.cons rfl (by rw [List.length_append]; rfl) (.cons rfl (by rw [List.length_append]; rfl) (.cons rfl rfl .nil)))))) (fun w hw => ?_)
        show Wd [] W (.row z1.1 (ls ++ [y]).length z1.2 52 12 (flatC (ls ++ [y])) :: .row z2.1 (ls ++ [y]).length z2.2 50 1 (refV (ls ++ [y])) :: .blk gg (.cells ([.slice z1.1 (ls ++ [y]).length z1.2] : List Value).toArray 24 (0, 0)) :: .blk b3 (.cells ([.int .i64 0, .int .i64 0] : List Value).toArray 27 (0, 0)) :: .blk b2 (.cells ([.slice none 0 0] : List Value).toArray 24 (0, 0)) :: ((y.ats ++ at_) ++ O)) w
        rw [flatC_app, refV_app, List.length_append, List.append_assoc]
        exact hw.tail.tail.tail
end
end Go.Proofs.YtgdiadednlajgaaGreatDoor
