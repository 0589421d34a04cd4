import Derived.Test.YtgdiadednlajgaaGreatDoorP42
import Derived.Test.YtgdiadednlajgaaGreatDoorP44
namespace Go.Proofs.YtgdiadednlajgaaGreatDoor
open Go.RowKit
set_option linter.unusedVariables false
set_option linter.unusedSimpArgs false
theorem madeI (n : Nat) : (Go.madeCells #[.int .i64 0] (n * 1)).toList = iv (List.replicate n 0) := by
  refine List.ext_getElem? fun i => ?_
  unfold iv Go.madeCells
  rw [List.getElem?_map]
  by_cases h : i < n
  · simp [h, Nat.mod_one]
  · simp [h]
theorem iv_at' {l : List Int} {j : Nat} (h : j < l.length) : (iv l)[j]? = some (.int .i64 (l.getD j 0)) := by
  unfold iv
  rw [List.getElem?_map, List.getD_eq_getElem?_getD, List.getElem?_eq_getElem h]
  rfl
theorem iv_set (l : List Int) (k : Nat) (v : Int) : (iv l).set k (.int .i64 v) = iv (l.set k v) := by
  unfold iv
  rw [List.map_set]
theorem lev_of {M : List Nat} {W w : World} {O : List Atom} {g bs n c gf : Nat} {A : Option Addr} {out : List Int} (i1 i2 i3 : Nat) (hl : out.length = n)
    (h1 : O[i1]? = some (.blk g (.cells [.slice (some ⟨bs, 0, none⟩) n n].toArray 30 (0, 0))))
    (h2 : O[i2]? = some (.row (some ⟨bs, 0, none⟩) n n 3 1 (iv out)))
    (h3 : O[i3]? = some (.blk gf (.cells [.slice A n c].toArray 24 (0, 0)))) (hw : Wd M W O w) : LeV w g bs n out gf A c :=
  ⟨hw.cell_blkL i1 h1 rfl, fun j hj => by rw [Nat.zero_add]; exact hw.cell_row i2 h2 (iv_at' (by omega)), hw.cell_blkL i3 h3 rfl⟩
def leastF (F : List Rl) (k : Int) : Int := if chkN F k = (0, 0) then (leastL F).getD k.toNat 0 else 0
def LsEnd (W : World) (v : Int) (p : Int × Int) (e : Ending) (w' : World) : Prop := e = .returned (.tuple #[.int .i64 v, .agg #[.int .i64 p.1, .int .i64 p.2]]) ∧ Below W.heap.size W w'
abbrev leO (g bs b3 bf n c : Nat) (A : Option Addr) (out : List Int) : List Atom := [.blk g (.cells [.slice (some ⟨bs, 0, none⟩) n n].toArray 30 (0, 0)), .row (some ⟨bs, 0, none⟩) n n 3 1 (iv out), .blk b3 (.cells [.int .i64 0, .int .i64 0].toArray 27 (0, 0)), .blk bf (.cells [.slice A n c].toArray 24 (0, 0))]
abbrev leE (g bf b3 : Nat) (k : Int) (ch : Bool) : Env := [(1, .int .i64 k), (2, .pointer (some ⟨bf, 0, none⟩)), (5, .pointer (some ⟨b3, 0, none⟩)), (7, .pointer (some ⟨g, 0, none⟩)), (8, .func (.func 33) #[] #[.pointer (some ⟨g, 0, none⟩), .pointer (some ⟨bf, 0, none⟩)]), (9, .bool ch)]
structure LeI (F : List Rl) (n : Nat) (out0 : List Int) (y : Nat × List Int × Bool) : Prop where
  j : y.1 ≤ n
  l : Lst F y.2.1
  s : slk y.2.1 ≤ slk out0
  yes : y.2.2 = true → slk y.2.1 < slk out0
  no : y.2.2 = false → ∀ (i : Nat) (r : Rl), i < y.1 → F[i]? = some r → min (oneT F y.2.1 r) 1001 = y.2.1.getD i 0
theorem LeI.keep {F : List Rl} {n : Nat} {out0 out : List Int} {i : Nat} {ch : Bool} {r : Rl} (h : LeI F n out0 (i, out, ch)) (hi : i < n) (hr : F[i]? = some r) (he : min (oneT F out r) 1001 = out.getD i 0) : LeI F n out0 (i + 1, out, ch) :=
  ⟨hi, h.l, h.s, h.yes, fun hc j q hj hq => by
    rcases Nat.lt_or_ge j i with h1 | h1
    · exact h.no hc j q h1 hq
    · have hj' : j < i + 1 := hj
      obtain rfl : j = i := by omega
      rw [hr] at hq
      cases hq
      exact he⟩
theorem LeI.put {F : List Rl} {n : Nat} {out0 out : List Int} {i : Nat} {ch : Bool} {r : Rl} (hu : Usd F) (h : LeI F n out0 (i, out, ch)) (hi : i < n) (hr : F[i]? = some r) (he : min (oneT F out r) 1001 ≠ out.getD i 0) : LeI F n out0 (i + 1, out.set i (min (oneT F out r) 1001), true) := by
  have hlt : slk (out.set i (min (oneT F out r) 1001)) < slk out := h.l.slk_lt hr he
  have hs : slk out ≤ slk out0 := h.s
  exact ⟨hi, h.l.put hu hr, by show slk (out.set i _) ≤ _; omega, fun _ => by show slk (out.set i _) < _; omega, fun hc => by cases hc⟩
set_option maxRecDepth 100000 in
set_option maxHeartbeats 16000000 in
theorem least_calls' {F : List Rl} {A : Option Addr} {n c : Nat} {k : Int} {W : World} (hf : FmIn W W.heap.size A n F) (hs : FSm F) (hc : n ≤ c) (hg : GV W) :
    Calls Tryz.prog 13 #[.agg #[.slice A n c], .int .i64 k] W (LsEnd W (leastF F k) (chkN F k)) := by
  have hlen : F.length = n := hf.1
  have HFM := Lib.hid hf
  have HS := Lib.hid hs
  have HG := Lib.hid hg
  have HLEN := Lib.hid hlen
  clear hf hs hg hlen
  obtain ⟨⟨a, b⟩, hab⟩ : ∃ p, chkN F k = p := ⟨_, rfl⟩
  have HC := Lib.hid hab
  rw [hab]
  clear hab
  go_enter Tryz.func13, Tryz.ntmps13
  refine s_go (M := []) (W := W) (N := 54) (E := [(0, .agg #[.slice A n c]), (1, .int .i64 k)]) (O := []) ?_ (Ag.cons (Ag.cons (Ag.nil rfl rfl) rfl) rfl) (Wd.start [] W)
  by_cases hz : a = 0 ∧ b = 0
  case neg =>
    have hne : (!(a == 0 && b == 0)) = true := by
      rw [Bool.not_eq_true', Bool.and_eq_false_iff, beq_eq_false_iff_ne, beq_eq_false_iff_ne]
      omega
    repeat (first | refine l_op (o_move rfl rfl (by decide) rfl rfl) ?_ | refine l_op (o_assign rfl rfl (by decide) rfl rfl) ?_ | refine l_op (o_loadN rfl rfl (by decide) rfl rfl (by first | exact fun w hw => hw.range_blk 0 rfl | exact fun w hw => hw.range_blk 1 rfl | exact fun w hw => hw.range_blk 2 rfl | exact fun w hw => hw.range_blk 3 rfl | exact fun w hw => hw.range_blk 4 rfl | exact fun w hw => hw.range_blk 5 rfl | exact fun w hw => hw.range_old (by assumption) (by simp)) (by first | rfl | exact setC_len _)) ?_ | refine l_loud (u_box rfl rfl rfl rfl) rfl (by decide) (fun bf _ => ?_) | refine l_loud (u_alloc (t := 27) rfl rfl) rfl (by decide) (fun b2 _ => ?_) | (refine l_op (o_call (f := 31) rfl rfl (by decide) rfl rfl (fun w hw => (checkNumber_calls (HFM.out.on hw.k.below) HS.out hc (HG.out.on hw.k.below)).mono (fun _ _ h => by rw [HC.out] at h; exact h))) ?_) | (refine l_loud0 (u_storeN 0 rfl rfl rfl rfl rfl rfl rfl (by simp)) rfl (fun _ _ => ?_); rw [putL_full (by rfl)]) | refine l_op (o_build (xs := []) (vs := []) (v := .agg #[.int .i64 0, .int .i64 0]) rfl rfl (by decide) rfl rfl (fun w => run_build w _ _ _ (by kernel_rfl))) ?_ | refine l_op (o_fneq rfl rfl (by decide) rfl rfl rfl hne) ?_ | refine l_nil ?_ | refine s_seq ?_ | refine s_region ?_ | refine s_cond_true rfl ?_)
    refine s_drawnO [2] (by kernel_rfl) ?_
    first | refine d_op 0 rfl (by kernel_rfl) (Through.rfl_) (o_loadN rfl rfl (by decide) rfl rfl (by first | exact fun w hw => hw.range_blk 0 rfl | exact fun w hw => hw.range_blk 1 rfl | exact fun w hw => hw.range_blk 2 rfl | exact fun w hw => hw.range_blk 3 rfl | exact fun w hw => hw.range_blk 4 rfl | exact fun w hw => hw.range_blk 5 rfl | exact fun w hw => hw.range_old (by assumption) (by simp)) (by first | rfl | exact setC_len _)) ?_
    first | refine d_op 1 rfl (by kernel_rfl) (Through.rfl_) (o_assign rfl rfl (by decide) rfl rfl) ?_
    refine d_loud0 2 (by kernel_rfl) rfl rfl (u_storeN 1 rfl rfl rfl rfl rfl rfl rfl (by simp)) (fun _ => .inl (by decide)) rfl (fun _ _ => ?_)
    rw [putL_full (by rfl)]
    refine d_end ?_ (by kernel_rfl)
    repeat (first | refine s_ret ?_ | refine x_then_ret ?_)
    have hff : leastF F k = 0 := by
      unfold leastF
      rw [HC.out, if_neg (fun h => hz (by simpa using h))]
    rw [hff]
    exact x_body2 (by first | exact .inl rfl | exact .inr rfl) rfl (.tmp rfl) (RsV.blk 1 rfl rfl rfl) (fun w hw => ⟨rfl, hw.k.below⟩)
  case pos =>
    obtain ⟨rfl, rfl⟩ := hz
    have hff : leastF F k = (leastL F).getD k.toNat 0 := by
      unfold leastF
      rw [HC.out, if_pos rfl]
    rw [hff]
    clear hff
    obtain ⟨hfa, hk0, hkn⟩ := chk_ok HC.out
    have hch := fault_chk hfa
    have hlo := len_of hch
    have hn0 := hlo.1
    have hn40 := hlo.2
    rw [HLEN.out] at hn0 hn40 hkn
    have HV := Lib.hid (vld_of hch)
    clear hlo hch hfa
    have hk2 : 0 ≤ k ∧ k < (n : Int) := ⟨hk0, hkn⟩
    obtain ⟨b, o, rfl⟩ := HFM.out.addr hn0
    have hst : Lst F (List.replicate n 0) := by
      rw [← HLEN.out]
      refine Lst.start F fun i r hr => oneT_nn HV.out.toUsd (fun j => ?_) hr
      rw [List.getD_eq_getElem?_getD, List.getElem?_replicate]
      split <;> decide
    repeat (first | refine l_op (o_move rfl rfl (by decide) rfl rfl) ?_ | refine l_op (o_assign rfl rfl (by decide) rfl rfl) ?_ | refine l_op (o_fieldAddr rfl rfl (by decide) rfl rfl) ?_ | refine l_op (o_load rfl rfl (by decide) rfl rfl (by first | exact fun w hw => hw.cell_blkL 0 rfl rfl | exact fun w hw => hw.cell_blkL 1 rfl rfl | exact fun w hw => hw.cell_blkL 2 rfl rfl | exact fun w hw => hw.cell_blkL 3 rfl rfl | exact fun w hw => hw.cell_blkL 4 rfl rfl | exact fun w hw => hw.cell_blkL 5 rfl rfl | exact fun w hw => hw.cell_old (by assumption) (by simp) | exact fun w hw => hw.cell_range (by assumption) rfl (by simp))) ?_ | refine l_op (o_loadN rfl rfl (by decide) rfl rfl (by first | exact fun w hw => hw.range_blk 0 rfl | exact fun w hw => hw.range_blk 1 rfl | exact fun w hw => hw.range_blk 2 rfl | exact fun w hw => hw.range_blk 3 rfl | exact fun w hw => hw.range_blk 4 rfl | exact fun w hw => hw.range_blk 5 rfl | exact fun w hw => hw.range_old (by assumption) (by simp)) (by first | rfl | exact setC_len _)) ?_ | refine l_loud (u_box rfl rfl rfl rfl) rfl (by decide) (fun bf _ => ?_) | refine l_loud (u_alloc (t := 27) rfl rfl) rfl (by decide) (fun b2 _ => ?_) | (refine l_op (o_call (f := 31) rfl rfl (by decide) rfl rfl (fun w hw => (checkNumber_calls (HFM.out.on hw.k.below) HS.out hc (HG.out.on hw.k.below)).mono (fun _ _ h => by rw [HC.out] at h; exact h))) ?_) | (refine l_loud0 (u_storeN 0 rfl rfl rfl rfl rfl rfl rfl (by simp)) rfl (fun _ _ => ?_); rw [putL_full (by rfl)]) | refine l_op (o_build (xs := []) (vs := []) (v := .agg #[.int .i64 0, .int .i64 0]) rfl rfl (by decide) rfl rfl (fun w => run_build w _ _ _ (by kernel_rfl))) ?_ | refine l_op (o_fneq rfl rfl (by decide) rfl rfl rfl rfl) ?_ | refine l_loud (u_make rfl rfl rfl rfl (by omega)) rfl (by decide) (fun bs _ => ?_) | refine l_loud (u_alloc (t := 30) rfl rfl) rfl (by decide) (fun g _ => ?_) | refine l_loud0 (u_store 0 rfl rfl rfl rfl rfl rfl rfl) rfl (fun _ _ => ?_) | refine l_nil ?_ | refine s_seq ?_ | refine s_region ?_ | refine s_skip ?_ | refine s_cond_false rfl ?_ | refine s_block ?_ | refine l_op (o_len rfl rfl (by decide) rfl rfl) ?_ | refine l_op (o_func rfl rfl (by decide) rfl rfl) ?_)
    rename_i b3 _ _ _ _ _ _ _ _
    refine s_loop (ι := List Int × Bool) (fun y => Lst F y.1 ∧ (y.2 = false → ∀ (i : Nat) (r : Rl), F[i]? = some r → min (oneT F y.1 r) 1001 = y.1.getD i 0)) (fun y => 2 * slk y.1 + (if y.2 then 1 else 0)) (fun y => leE g bf b3 k y.2) (fun y => leO g bs b3 bf n c (some ⟨b, o, none⟩) y.1) (List.replicate n 0, true) [0, 1, 3, 4] (by decide) ⟨hst, fun h => by cases h⟩ (.cons rfl rfl (.cons rfl rfl (.cons rfl rfl (.cons rfl rfl (.cons rfl rfl (.cons rfl rfl .nil)))))) (by show [_, Atom.row _ _ _ _ _ _, _, _] = _; rw [madeI]; rfl) ?_
    clear hst
    rintro ⟨out, ch⟩ ⟨hl, hfix⟩
    have HLS := Lib.hid hl
    have HFX := Lib.hid hfix
    clear hl hfix
    show sE _ _ _ _ _ (leE g bf b3 k ch) (leO g bs b3 bf n c (some ⟨b, o, none⟩) out) _
    cases ch with
    | true =>
      repeat (first | refine l_op (o_move rfl rfl (by decide) rfl rfl) ?_ | refine l_op (o_assign rfl rfl (by decide) rfl rfl) ?_ | refine l_op (o_fieldAddr rfl rfl (by decide) rfl rfl) ?_ | refine l_op (o_load rfl rfl (by decide) rfl rfl (by first | exact fun w hw => hw.cell_blkL 0 rfl rfl | exact fun w hw => hw.cell_blkL 1 rfl rfl | exact fun w hw => hw.cell_blkL 2 rfl rfl | exact fun w hw => hw.cell_blkL 3 rfl rfl | exact fun w hw => hw.cell_blkL 4 rfl rfl | exact fun w hw => hw.cell_blkL 5 rfl rfl | exact fun w hw => hw.cell_old (by assumption) (by simp) | exact fun w hw => hw.cell_range (by assumption) rfl (by simp))) ?_ | refine l_nil ?_ | refine s_seq ?_ | refine s_region ?_ | refine s_skip ?_ | refine s_cond_true rfl ?_ | refine s_block ?_ | refine l_op (o_len rfl rfl (by decide) rfl rfl) ?_)
      refine s_loop (ι := Nat × List Int × Bool) (LeI F n out) (fun y => n - y.1) (fun y => (27, .slice (some ⟨b, o, none⟩) n c) :: (28, .int .i64 (n : Int)) :: (29, .int .i64 (y.1 : Int)) :: leE g bf b3 k y.2.2) (fun y => leO g bs b3 bf n c (some ⟨b, o, none⟩) y.2.1) (0, out, false) [0, 1, 2, 3] (by decide) ⟨Nat.zero_le _, HLS.out, Nat.le_refl _, (fun h => by cases h), (fun _ i r hi => absurd hi (Nat.not_lt_zero _))⟩ (.cons rfl rfl (.cons rfl rfl (.cons rfl rfl (.cons rfl rfl (.cons rfl rfl (.cons rfl rfl (.cons rfl rfl (.cons rfl rfl (.cons rfl rfl .nil))))))))) rfl ?_
      rintro ⟨i, out', ch'⟩ hinv
      have hi' : i ≤ n := hinv.j
      have HINV := Lib.hid hinv
      clear hinv
      show sE _ _ _ _ _ ((27, .slice (some ⟨b, o, none⟩) n c) :: (28, .int .i64 (n : Int)) :: (29, .int .i64 (i : Int)) :: leE g bf b3 k ch') (leO g bs b3 bf n c (some ⟨b, o, none⟩) out') _
      by_cases hin : i < n
      · obtain ⟨rk, Ab, cb, An, cn, Ap, cp, hrk, hrg, hlk⟩ := HFM.out.rl hin
        have HRK := Lib.hid hrk
        have HLK := Lib.hid hlk
        clear hrk hlk
        have hol : out'.length = n := by rw [HINV.out.l.len]; exact HLEN.out
        have hcell : (iv out')[0 + i]? = some (.int .i64 (out'.getD i 0)) := by rw [Nat.zero_add]; exact iv_at' (by omega)
        by_cases he : min (oneT F out' rk) 1001 = out'.getD i 0
        · have heb : (min (oneT F out' rk) 1001 != out'.getD i 0) = false := bne_eq_false_iff_eq.2 he
          have HE := Lib.hid he
          clear he
          repeat (first | refine l_op (o_move rfl rfl (by decide) rfl rfl) ?_ | refine l_op (o_assign rfl rfl (by decide) rfl rfl) ?_ | refine l_op (o_load rfl rfl (by decide) rfl rfl (by first | exact fun w hw => hw.cell_blkL 0 rfl rfl | exact fun w hw => hw.cell_blkL 1 rfl rfl | exact fun w hw => hw.cell_blkL 2 rfl rfl | exact fun w hw => hw.cell_blkL 3 rfl rfl | exact fun w hw => hw.cell_blkL 4 rfl rfl | exact fun w hw => hw.cell_blkL 5 rfl rfl | exact fun w hw => hw.cell_old (by assumption) (by simp) | exact fun w hw => hw.cell_range (by assumption) rfl (by simp))) ?_ | refine l_op (o_loadN rfl rfl (by decide) rfl rfl (by first | exact fun w hw => hw.range_blk 0 rfl | exact fun w hw => hw.range_blk 1 rfl | exact fun w hw => hw.range_blk 2 rfl | exact fun w hw => hw.range_blk 3 rfl | exact fun w hw => hw.range_blk 4 rfl | exact fun w hw => hw.range_blk 5 rfl | exact fun w hw => hw.range_old (by assumption) (by simp)) (by first | rfl | exact setC_len _)) ?_ | refine l_op (o_indexAddr1 rfl rfl (by decide) rfl rfl rfl hin) ?_ | refine l_op (o_indexAddr rfl rfl (by decide) rfl rfl rfl hin) ?_ | refine l_loud (u_alloc (t := 52) rfl rfl) rfl (by decide) (fun b7 _ => ?_) | (refine l_loud0 (u_storeN 0 rfl rfl rfl rfl rfl rfl rfl (by simp)) rfl (fun _ _ => ?_); rw [putL_full (by rfl)]) | refine l_op (o_callv (f := 33) rfl rfl (by decide) rfl rfl rfl (fun w hw => (leone_calls (lev_of 1 2 4 hol rfl rfl rfl hw) (HFM.out.on hw.k.below) (HLK.out.on hw.k.below) HV.out.toUsd HRK.out (fun j => ⟨HINV.out.l.nn j, HINV.out.l.top j⟩)).mono (fun _ _ h => h))) ?_ | refine l_op (o_min rfl rfl (by decide) rfl rfl rfl) ?_ | refine l_op (o_load rfl rfl (by decide) rfl rfl (fun w hw => hw.cell_row 2 rfl hcell)) ?_ | refine l_nil ?_ | refine s_seq ?_ | refine s_region ?_ | refine s_skip ?_ | refine s_cond_true rfl ?_ | refine s_cond_false rfl ?_ | refine s_block ?_ | refine l_op (o_neq rfl rfl (by decide) rfl rfl rfl (by first | assumption | exact bne_iff_ne.2 (by omega) | exact bne_eq_false_iff_eq.2 (by omega) | rfl)) ?_ | refine l_op (o_lss rfl rfl (by decide) rfl rfl rfl (by first | assumption | exact decide_eq_true (by omega) | exact decide_eq_false (by omega) | rfl)) ?_ | refine l_op (o_add (k := .i64) rfl rfl (by decide) rfl rfl rfl (IntWalk.i64_in _ (by omega))) ?_)
          exact x_round (i + 1, out', ch') [1, 2, 3, 4] (by decide) (HINV.out.keep hin HRK.out HE.out) (by show n - (i + 1) < n - i; omega) (.cons rfl rfl (.cons rfl rfl (.cons rfl (by go_num) (.cons rfl rfl (.cons rfl rfl (.cons rfl rfl (.cons rfl rfl (.cons rfl rfl (.cons rfl rfl .nil))))))))) rfl
        · have heb : (min (oneT F out' rk) 1001 != out'.getD i 0) = true := bne_iff_ne.2 he
          have HE := Lib.hid he
          clear he
          repeat (first | refine l_op (o_move rfl rfl (by decide) rfl rfl) ?_ | refine l_op (o_assign rfl rfl (by decide) rfl rfl) ?_ | refine l_op (o_load rfl rfl (by decide) rfl rfl (by first | exact fun w hw => hw.cell_blkL 0 rfl rfl | exact fun w hw => hw.cell_blkL 1 rfl rfl | exact fun w hw => hw.cell_blkL 2 rfl rfl | exact fun w hw => hw.cell_blkL 3 rfl rfl | exact fun w hw => hw.cell_blkL 4 rfl rfl | exact fun w hw => hw.cell_blkL 5 rfl rfl | exact fun w hw => hw.cell_old (by assumption) (by simp) | exact fun w hw => hw.cell_range (by assumption) rfl (by simp))) ?_ | refine l_op (o_loadN rfl rfl (by decide) rfl rfl (by first | exact fun w hw => hw.range_blk 0 rfl | exact fun w hw => hw.range_blk 1 rfl | exact fun w hw => hw.range_blk 2 rfl | exact fun w hw => hw.range_blk 3 rfl | exact fun w hw => hw.range_blk 4 rfl | exact fun w hw => hw.range_blk 5 rfl | exact fun w hw => hw.range_old (by assumption) (by simp)) (by first | rfl | exact setC_len _)) ?_ | refine l_op (o_indexAddr1 rfl rfl (by decide) rfl rfl rfl hin) ?_ | refine l_op (o_indexAddr rfl rfl (by decide) rfl rfl rfl hin) ?_ | refine l_loud (u_alloc (t := 52) rfl rfl) rfl (by decide) (fun b7 _ => ?_) | (refine l_loud0 (u_storeN 0 rfl rfl rfl rfl rfl rfl rfl (by simp)) rfl (fun _ _ => ?_); rw [putL_full (by rfl)]) | refine l_op (o_callv (f := 33) rfl rfl (by decide) rfl rfl rfl (fun w hw => (leone_calls (lev_of 1 2 4 hol rfl rfl rfl hw) (HFM.out.on hw.k.below) (HLK.out.on hw.k.below) HV.out.toUsd HRK.out (fun j => ⟨HINV.out.l.nn j, HINV.out.l.top j⟩)).mono (fun _ _ h => h))) ?_ | refine l_op (o_min rfl rfl (by decide) rfl rfl rfl) ?_ | refine l_op (o_load rfl rfl (by decide) rfl rfl (fun w hw => hw.cell_row 2 rfl hcell)) ?_ | refine l_loud0 (u_store_row 2 rfl rfl rfl rfl rfl rfl (by omega)) rfl (fun _ _ => ?_) | refine l_nil ?_ | refine s_seq ?_ | refine s_region ?_ | refine s_skip ?_ | refine s_cond_true rfl ?_ | refine s_block ?_ | refine l_op (o_neq rfl rfl (by decide) rfl rfl rfl (by first | assumption | exact bne_iff_ne.2 (by omega) | exact bne_eq_false_iff_eq.2 (by omega) | rfl)) ?_ | refine l_op (o_lss rfl rfl (by decide) rfl rfl rfl (by first | assumption | exact decide_eq_true (by omega) | exact decide_eq_false (by omega) | rfl)) ?_ | refine l_op (o_add (k := .i64) rfl rfl (by decide) rfl rfl rfl (IntWalk.i64_in _ (by omega))) ?_)
          refine x_round (i + 1, out'.set i (min (oneT F out' rk) 1001), true) [1, 2, 3, 4] (by decide) (HINV.out.put HV.out.toUsd hin HRK.out HE.out) (by show n - (i + 1) < n - i; omega) (.cons rfl rfl (.cons rfl rfl (.cons rfl (by go_num) (.cons rfl rfl (.cons rfl rfl (.cons rfl rfl (.cons rfl rfl (.cons rfl rfl (.cons rfl rfl .nil))))))))) ?_
          show [_, Atom.row _ _ _ _ _ ((iv out').set (0 + i) (.int .i64 (min (oneT F out' rk) 1001))), _, _] = _
          rw [Nat.zero_add, iv_set]
          rfl
      · skip
        repeat (first | refine l_nil ?_ | refine s_seq ?_ | refine s_region ?_ | refine s_cond_false rfl ?_ | refine s_exit ?_ | refine x_block_out ?_ | refine x_then_exit ?_ | refine x_block_normal ?_ | refine l_op (o_lss rfl rfl (by decide) rfl rfl rfl (by first | assumption | exact decide_eq_true (by omega) | exact decide_eq_false (by omega) | rfl)) ?_)
        refine x_round (out', ch') [0, 1, 2, 3] (by decide) ⟨HINV.out.l, fun h i r hr => HINV.out.no h i r (by have := (List.getElem?_eq_some_iff.1 hr).1; have := HLEN.out; show i < _; omega) hr⟩ ?_ (.cons rfl rfl (.cons rfl rfl (.cons rfl rfl (.cons rfl rfl (.cons rfl rfl (.cons rfl rfl .nil)))))) rfl
        have h1 : slk out' ≤ slk out := HINV.out.s
        have h2 : ch' = true → slk out' < slk out := HINV.out.yes
        show 2 * slk out' + (if ch' then 1 else 0) < 2 * slk out + 1
        cases ch' with
        | true => have := h2 rfl; simp only [if_true]; omega
        | false => simp; omega
    | false =>
      have hfx := HLS.out.fix (HFX.out rfl)
      have hlv : (leastL F).getD k.toNat 0 = out.getD k.toNat 0 := leastL_fix HV.out hfx (by rw [HLEN.out]; omega)
      rw [hlv]
      have hol : out.length = n := by rw [HLS.out.len]; exact HLEN.out
      have hcell : (iv out)[0 + k.toNat]? = some (.int .i64 (out.getD k.toNat 0)) := by rw [Nat.zero_add]; exact iv_at' (by omega)
      clear hfx hlv
      repeat (first | refine l_op (o_move rfl rfl (by decide) rfl rfl) ?_ | refine l_op (o_assign rfl rfl (by decide) rfl rfl) ?_ | refine l_op (o_load rfl rfl (by decide) rfl rfl (by first | exact fun w hw => hw.cell_blkL 0 rfl rfl | exact fun w hw => hw.cell_blkL 1 rfl rfl | exact fun w hw => hw.cell_blkL 2 rfl rfl | exact fun w hw => hw.cell_blkL 3 rfl rfl | exact fun w hw => hw.cell_blkL 4 rfl rfl | exact fun w hw => hw.cell_blkL 5 rfl rfl | exact fun w hw => hw.cell_old (by assumption) (by simp) | exact fun w hw => hw.cell_range (by assumption) rfl (by simp))) ?_ | refine l_op (o_indexAddrI1 rfl rfl (by decide) rfl rfl rfl hk2) ?_ | refine l_op (o_load rfl rfl (by decide) rfl rfl (fun w hw => hw.cell_row 1 rfl hcell)) ?_ | refine l_op (o_build (xs := []) (vs := []) (v := .agg #[.int .i64 0, .int .i64 0]) rfl rfl (by decide) rfl rfl (fun w => run_build w _ _ _ (by kernel_rfl))) ?_ | (refine l_loud0 (u_storeN 2 rfl rfl rfl rfl rfl rfl rfl (by simp)) rfl (fun _ _ => ?_); rw [putL_full (by rfl)]) | refine l_nil ?_ | refine s_seq ?_ | refine s_region ?_ | refine s_cond_false rfl ?_ | refine s_exit ?_ | refine s_ret ?_)
      exact x_body2 (by first | exact .inl rfl | exact .inr rfl) rfl (.tmp rfl) (RsV.blk 2 rfl rfl rfl) (fun w hw => ⟨rfl, hw.k.below⟩)
end Go.Proofs.YtgdiadednlajgaaGreatDoor
