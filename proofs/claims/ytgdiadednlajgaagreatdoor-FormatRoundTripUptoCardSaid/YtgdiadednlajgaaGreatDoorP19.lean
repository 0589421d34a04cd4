import Derived.Test.YtgdiadednlajgaaGreatDoorP18
namespace Go.Proofs.YtgdiadednlajgaaGreatDoor
open Go.RowKit
set_option linter.unusedVariables false
set_option linter.unusedSimpArgs false
theorem Through.rfl_ {M : List Nat} {W : World} {O : List Atom} : Through M W O O := fun _ h => h
theorem s_drawnO {P : Program} {Q : Exit → Act → World → Prop} {N : Nat} {M : List Nat} {W : World} {E : Env} {O : List Atom} (T : List Nat) {id : Nat} {l : List Oper} (hm : P.follows .mixedOrders = true) (h : dE P l.toArray Q N M W O T l.length (Array.replicate l.length false) E O) : sE P Q N M W E O (.region id l.toArray true) := s_drawn O T hm h
theorem finStep_len (F : List Rl) (out : List Bool) (k : Nat) : (finStep F out k).length = out.length := by unfold finStep; rw [List.length_set]
theorem finFold_len (F : List Rl) : ∀ (l : List Nat) (out : List Bool), (l.foldl (finStep F) out).length = out.length
  | [], _ => rfl
  | k :: l, out => by rw [List.foldl_cons, finFold_len F l, finStep_len]
theorem range_fold (F : List Rl) (out : List Bool) (k : Nat) : (List.range (k + 1)).foldl (finStep F) out = finStep F ((List.range k).foldl (finStep F) out) k := by
  rw [List.range_succ, List.foldl_append]
  rfl
def FnEnd (W : World) (l : List Bool) (e : Ending) (w' : World) : Prop := ∃ b, e = .returned (.slice (some ⟨b, 0, none⟩) l.length l.length) ∧ W.heap.size ≤ b ∧ Rd w' w'.heap.size 1 (some ⟨b, 0, none⟩) l.length (boolC l) ∧ Below W.heap.size W w'
theorem onev_of {M : List Nat} {W w : World} {O : List Atom} {h g bs n c gf : Nat} {A : Option Addr} {out : List Bool} (i1 i2 i3 i4 : Nat) (hl : out.length = n)
    (h1 : O[i1]? = some (.blk h (.cells [.func (.func 94) #[] #[.pointer (some ⟨g, 0, none⟩)]].toArray 112 (0, 0))))
    (h2 : O[i2]? = some (.blk g (.cells [.slice (some ⟨bs, 0, none⟩) n n].toArray 57 (0, 0))))
    (h3 : O[i3]? = some (.row (some ⟨bs, 0, none⟩) n n 4 1 (boolC out)))
    (h4 : O[i4]? = some (.blk gf (.cells [.slice A n c].toArray 24 (0, 0)))) (hw : Wd M W O w) : OneV w h g bs n out gf A c :=
  ⟨⟨hw.cell_blkL i2 h2 rfl, fun j hj => by rw [Nat.zero_add]; exact hw.cell_row i3 h3 (boolC_at (by omega))⟩, hw.cell_blkL i1 h1 rfl, hw.cell_blkL i4 h4 rfl⟩
theorem one_clo {F : List Rl} {r : Rl} {A Ab An Ap : Option Addr} {h g bs n gf c cb cn cp : Nat} {out : List Bool} {W : World} (hv : OneV W h g bs n out gf A c) (hf : FmIn W W.heap.size A n F) (hl : RuL W r Ab cb An cn Ap cp) (hr : ROk n r) :
    Calls Tryz.prog 95 ([Value.agg (ruC r (.slice Ab r.bs.length cb) (.slice An r.names.length cn) (.slice Ap r.parts.length cp)).toArray].toArray ++ #[.pointer (some ⟨h, 0, none⟩), .pointer (some ⟨gf, 0, none⟩)]) W fun e w' => e = .returned (.bool (oneF F out r)) ∧ Below W.heap.size W w' := by
  rw [show ([Value.agg (ruC r (.slice Ab r.bs.length cb) (.slice An r.names.length cn) (.slice Ap r.parts.length cp)).toArray].toArray ++ #[.pointer (some ⟨h, 0, none⟩), .pointer (some ⟨gf, 0, none⟩)] : Array Value) = _ from app12 _ _ _]
  exact one_calls hv hf hl hr
abbrev fnE (bf g h n c : Nat) (A : Option Addr) (t : Nat) : Env := [(1, .pointer (some ⟨bf, 0, none⟩)), (3, .pointer (some ⟨g, 0, none⟩)), (5, .func (.func 95) #[] #[.pointer (some ⟨h, 0, none⟩), .pointer (some ⟨bf, 0, none⟩)]), (16, .int .i64 (n : Int)), (17, .int .i64 (t : Int))]
abbrev fnO (bf g h bs n c : Nat) (A : Option Addr) (out : List Bool) : List Atom := [.blk h (.cells [.func (.func 94) #[] #[.pointer (some ⟨g, 0, none⟩)]].toArray 112 (0, 0)), .blk g (.cells [.slice (some ⟨bs, 0, none⟩) n n].toArray 57 (0, 0)), .row (some ⟨bs, 0, none⟩) n n 4 1 (boolC out), .blk bf (.cells [.slice A n c].toArray 24 (0, 0))]
set_option maxRecDepth 100000 in
set_option maxHeartbeats 8000000 in
theorem finite_calls {F : List Rl} {A : Option Addr} {n c : Nat} {W : World} (hf : FmIn W W.heap.size A n F) (hF : FOk F) (hn : n ≤ 40) (hn0 : 0 < n) :
    Calls Tryz.prog 62 #[.agg #[.slice A n c]] W (FnEnd W (finL F)) := by
  have hlen : F.length = n := hf.1
  obtain ⟨b, o, rfl⟩ := hf.addr hn0
  have HFM := Lib.hid hf
  have HF := Lib.hid hF
  have HLEN := Lib.hid hlen
  clear hf hF hlen
  go_enter Tryz.func62, Tryz.ntmps62
  refine s_go (M := []) (W := W) (N := 42) (E := [(0, .agg #[.slice (some ⟨b, o, none⟩) n c])]) (O := []) ?_ (Ag.cons (Ag.nil rfl rfl) rfl) (Wd.start [] W)
  repeat (first | refine l_op (o_move rfl rfl (by decide) rfl rfl) ?_ | refine l_op (o_assign rfl rfl (by decide) rfl rfl) ?_ | refine l_op (o_fieldAddr rfl rfl (by decide) rfl rfl) ?_ | refine l_op (o_load rfl rfl (by decide) rfl rfl (by first | exact fun w hw => hw.cell_blkL 0 rfl rfl | exact fun w hw => hw.cell_blkL 1 rfl rfl | exact fun w hw => hw.cell_blkL 2 rfl rfl | exact fun w hw => hw.cell_blkL 3 rfl rfl | exact fun w hw => hw.cell_blkL 4 rfl rfl | exact fun w hw => hw.cell_blkL 5 rfl rfl | exact fun w hw => hw.cell_old (by assumption) (by simp) | exact fun w hw => hw.cell_range (by assumption) rfl (by simp))) ?_ | refine l_loud (u_box rfl rfl rfl rfl) rfl (by decide) (fun bf _ => ?_) | refine l_loud (u_make rfl rfl rfl rfl (by omega)) rfl (by decide) (fun bs _ => ?_) | refine l_loud (u_alloc (t := 57) rfl rfl) rfl (by decide) (fun g0 _ => ?_) | refine l_loud (u_alloc (t := 112) rfl rfl) rfl (by decide) (fun g1 _ => ?_) | refine l_loud0 (u_store 0 rfl rfl rfl rfl rfl rfl rfl) rfl (fun _ _ => ?_) | refine l_nil ?_ | refine s_seq ?_ | refine s_region ?_ | refine s_block ?_ | refine l_op (o_len rfl rfl (by decide) rfl rfl) ?_ | refine l_op (o_func rfl rfl (by decide) rfl rfl) ?_)
  refine s_loop (ι := Nat) (fun t => t ≤ n) (fun t => n - t) (fun t => fnE bf g0 g1 n c (some ⟨b, o, none⟩) t) (fun t => fnO bf g0 g1 bs n c (some ⟨b, o, none⟩) (iter (finRound F) t (List.replicate n false))) 0 [0, 1, 2, 3] (by decide) (Nat.zero_le _) (.cons rfl rfl (.cons rfl rfl (.cons rfl rfl (.cons rfl rfl (.cons rfl rfl .nil))))) (by show [_, _, Atom.row _ _ _ _ _ _, _] = _; rw [madeB]; rfl) ?_
  rintro t ht
  have hL0 : (iter (finRound F) t (List.replicate n false)).length = n := by
    have : ∀ t, (iter (finRound F) t (List.replicate n false)).length = n := by
      intro t
      induction t with
      | zero => exact List.length_replicate
      | succ t ih => exact (finFold_len F _ _).trans ih
    exact this t
  have HL0 := Lib.hid hL0
  clear hL0
  by_cases hlt : t < n
  · skip
    repeat (first | refine l_op (o_move rfl rfl (by decide) rfl rfl) ?_ | refine l_op (o_fieldAddr rfl rfl (by decide) rfl rfl) ?_ | refine l_op (o_load rfl rfl (by decide) rfl rfl (by first | exact fun w hw => hw.cell_blkL 0 rfl rfl | exact fun w hw => hw.cell_blkL 1 rfl rfl | exact fun w hw => hw.cell_blkL 2 rfl rfl | exact fun w hw => hw.cell_blkL 3 rfl rfl | exact fun w hw => hw.cell_blkL 4 rfl rfl | exact fun w hw => hw.cell_blkL 5 rfl rfl | exact fun w hw => hw.cell_old (by assumption) (by simp) | exact fun w hw => hw.cell_range (by assumption) rfl (by simp))) ?_ | refine l_nil ?_ | refine s_seq ?_ | refine s_region ?_ | refine s_skip ?_ | refine s_cond_true rfl ?_ | refine s_block ?_ | refine l_op (o_len rfl rfl (by decide) rfl rfl) ?_ | refine l_op (o_lss rfl rfl (by decide) rfl rfl rfl (by first | assumption | exact decide_eq_true (by omega) | exact decide_eq_false (by omega) | rfl)) ?_)
    refine s_loop (ι := Nat) (fun k => k ≤ n) (fun k => n - k) (fun k => (20, .slice (some ⟨b, o, none⟩) n c) :: (21, .int .i64 (n : Int)) :: (22, .int .i64 (k : Int)) :: fnE bf g0 g1 n c (some ⟨b, o, none⟩) t) (fun k => fnO bf g0 g1 bs n c (some ⟨b, o, none⟩) ((List.range k).foldl (finStep F) (iter (finRound F) t (List.replicate n false)))) 0 [0, 1, 2, 3] (by decide) (Nat.zero_le _) (.cons rfl rfl (.cons rfl rfl (.cons rfl rfl (.cons rfl rfl (.cons rfl rfl (.cons rfl rfl (.cons rfl rfl (.cons rfl rfl .nil)))))))) rfl ?_
    rintro k hk
    by_cases hkn : k < n
    · obtain ⟨rk, Ab, cb, An, cn, Ap, cp, hrk, hrg, hlk⟩ := HFM.out.rl hkn
      have HRK := Lib.hid hrk
      have HLK := Lib.hid hlk
      have HOK := Lib.hid (show ROk n rk by have := HF.out k rk hrk; rwa [HLEN.out] at this)
      obtain ⟨out, hout⟩ : ∃ out, (List.range k).foldl (finStep F) (iter (finRound F) t (List.replicate n false)) = out := ⟨_, rfl⟩
      have hol : out.length = n := by rw [← hout, finFold_len, HL0.out]
      have HOUT := Lib.hid hout
      show sE _ _ _ _ _ _ (fnO bf g0 g1 bs n c (some ⟨b, o, none⟩) ((List.range k).foldl (finStep F) (iter (finRound F) t (List.replicate n false)))) _
      rw [hout]
      clear hout hrk hlk
      obtain ⟨ok, hok⟩ : ∃ x, out.getD k false = x := ⟨_, rfl⟩
      have hcell : (boolC out)[0 + k]? = some (.bool ok) := by rw [Nat.zero_add, boolC_at (by omega), hok]
      have HK := Lib.hid hok
      clear hok
      cases ok with
      | true =>
        repeat (first | refine l_op (o_move rfl rfl (by decide) rfl rfl) ?_ | refine l_op (o_assign rfl rfl (by decide) rfl rfl) ?_ | refine l_op (o_loadN rfl rfl (by decide) rfl rfl (by first | exact fun w hw => hw.range_blk 0 rfl | exact fun w hw => hw.range_blk 1 rfl | exact fun w hw => hw.range_blk 2 rfl | exact fun w hw => hw.range_blk 3 rfl | exact fun w hw => hw.range_blk 4 rfl | exact fun w hw => hw.range_blk 5 rfl | exact fun w hw => hw.range_old (by assumption) (by simp)) (by first | rfl | exact setC_len _)) ?_ | refine l_op (o_indexAddr rfl rfl (by decide) rfl rfl rfl hkn) ?_ | refine l_loud (u_alloc (t := 52) rfl rfl) rfl (by decide) (fun b7 _ => ?_) | (refine l_loud0 (u_storeN 0 rfl rfl rfl rfl rfl rfl rfl (by simp)) rfl (fun _ _ => ?_); rw [putL_full (by rfl)]) | refine l_nil ?_ | refine s_seq ?_ | refine s_region ?_ | refine s_skip ?_ | refine s_cond_true rfl ?_ | refine s_block ?_ | refine l_op (o_lss rfl rfl (by decide) rfl rfl rfl (by first | assumption | exact decide_eq_true (by omega) | exact decide_eq_false (by omega) | rfl)) ?_)
        refine s_drawnO [12] (by kernel_rfl) ?_
        first | refine d_op 0 rfl (by kernel_rfl) (Through.rfl_) (o_load rfl rfl (by decide) rfl rfl (by first | exact fun w hw => hw.cell_blkL 0 rfl rfl | exact fun w hw => hw.cell_blkL 1 rfl rfl | exact fun w hw => hw.cell_blkL 2 rfl rfl | exact fun w hw => hw.cell_blkL 3 rfl rfl | exact fun w hw => hw.cell_blkL 4 rfl rfl | exact fun w hw => hw.cell_blkL 5 rfl rfl | exact fun w hw => hw.cell_old (by assumption) (by simp) | exact fun w hw => hw.cell_range (by assumption) rfl (by simp))) ?_
        first | refine d_op 1 rfl (by kernel_rfl) (Through.rfl_) (o_move rfl rfl (by decide) rfl rfl) ?_
        first | refine d_op 2 rfl (by kernel_rfl) (Through.rfl_) (o_load rfl rfl (by decide) rfl rfl (by first | exact fun w hw => hw.cell_blkL 0 rfl rfl | exact fun w hw => hw.cell_blkL 1 rfl rfl | exact fun w hw => hw.cell_blkL 2 rfl rfl | exact fun w hw => hw.cell_blkL 3 rfl rfl | exact fun w hw => hw.cell_blkL 4 rfl rfl | exact fun w hw => hw.cell_blkL 5 rfl rfl | exact fun w hw => hw.cell_old (by assumption) (by simp) | exact fun w hw => hw.cell_range (by assumption) rfl (by simp))) ?_
        first | refine d_op 3 rfl (by kernel_rfl) (Through.rfl_) (o_move rfl rfl (by decide) rfl rfl) ?_
        first | refine d_op 4 rfl (by kernel_rfl) (Through.rfl_) (o_indexAddr1 rfl rfl (by decide) rfl rfl rfl hkn) ?_
        first | refine d_op 5 rfl (by kernel_rfl) (Through.rfl_) (o_load rfl rfl (by decide) rfl rfl (fun w hw => hw.cell_row 3 rfl hcell)) ?_
        first | refine d_op 6 rfl (by kernel_rfl) (Through.rfl_) (o_move rfl rfl (by decide) rfl rfl) ?_
        first | refine d_op 7 rfl (by kernel_rfl) (Through.rfl_) (o_skip rfl (by decide) rfl) ?_
        first | refine d_op 8 rfl (by kernel_rfl) (Through.rfl_) (o_skip rfl (by decide) rfl) ?_
        first | refine d_op 9 rfl (by kernel_rfl) (Through.rfl_) (o_skip rfl (by decide) rfl) ?_
        first | refine d_op 10 rfl (by kernel_rfl) (Through.rfl_) (o_pick_yes rfl rfl (by decide) rfl rfl rfl) ?_
        first | refine d_op 11 rfl (by kernel_rfl) (Through.rfl_) (o_indexAddr1 rfl rfl (by decide) rfl rfl rfl hkn) ?_
        refine d_loud0 12 (by kernel_rfl) rfl rfl (u_store_row 3 rfl rfl rfl rfl rfl rfl (by omega)) (fun _ => .inl (by decide)) rfl (fun _ _ => ?_)
        refine d_end ?_ (by kernel_rfl)
        repeat (first | refine l_op (o_move rfl rfl (by decide) rfl rfl) ?_ | refine l_nil ?_ | refine s_region ?_ | refine l_op (o_add (k := .i64) rfl rfl (by decide) rfl rfl rfl (IntWalk.i64_in _ (by omega))) ?_)
        refine x_round (k + 1) [1, 2, 3, 4] (by decide) hkn (by omega) (.cons rfl rfl (.cons rfl rfl (.cons rfl (by go_num) (.cons rfl rfl (.cons rfl rfl (.cons rfl rfl (.cons rfl rfl (.cons rfl rfl .nil)))))))) ?_
        show [_, _, Atom.row _ _ _ _ _ ((boolC out).set (0 + k) (.bool true)), _] = fnO bf g0 g1 bs n c (some ⟨b, o, none⟩) _
        rw [range_fold, HOUT.out, Nat.zero_add, boolC_set]
        unfold finStep
        rw [HRK.out, HK.out]
        rfl
      | false =>
        repeat (first | refine l_op (o_move rfl rfl (by decide) rfl rfl) ?_ | refine l_op (o_assign rfl rfl (by decide) rfl rfl) ?_ | refine l_op (o_loadN rfl rfl (by decide) rfl rfl (by first | exact fun w hw => hw.range_blk 0 rfl | exact fun w hw => hw.range_blk 1 rfl | exact fun w hw => hw.range_blk 2 rfl | exact fun w hw => hw.range_blk 3 rfl | exact fun w hw => hw.range_blk 4 rfl | exact fun w hw => hw.range_blk 5 rfl | exact fun w hw => hw.range_old (by assumption) (by simp)) (by first | rfl | exact setC_len _)) ?_ | refine l_op (o_indexAddr rfl rfl (by decide) rfl rfl rfl hkn) ?_ | refine l_loud (u_alloc (t := 52) rfl rfl) rfl (by decide) (fun b7 _ => ?_) | (refine l_loud0 (u_storeN 0 rfl rfl rfl rfl rfl rfl rfl (by simp)) rfl (fun _ _ => ?_); rw [putL_full (by rfl)]) | refine l_nil ?_ | refine s_seq ?_ | refine s_region ?_ | refine s_skip ?_ | refine s_cond_true rfl ?_ | refine s_block ?_ | refine l_op (o_lss rfl rfl (by decide) rfl rfl rfl (by first | assumption | exact decide_eq_true (by omega) | exact decide_eq_false (by omega) | rfl)) ?_)
        refine s_drawnO [12] (by kernel_rfl) ?_
        first | refine d_op 0 rfl (by kernel_rfl) (Through.rfl_) (o_load rfl rfl (by decide) rfl rfl (by first | exact fun w hw => hw.cell_blkL 0 rfl rfl | exact fun w hw => hw.cell_blkL 1 rfl rfl | exact fun w hw => hw.cell_blkL 2 rfl rfl | exact fun w hw => hw.cell_blkL 3 rfl rfl | exact fun w hw => hw.cell_blkL 4 rfl rfl | exact fun w hw => hw.cell_blkL 5 rfl rfl | exact fun w hw => hw.cell_old (by assumption) (by simp) | exact fun w hw => hw.cell_range (by assumption) rfl (by simp))) ?_
        first | refine d_op 1 rfl (by kernel_rfl) (Through.rfl_) (o_move rfl rfl (by decide) rfl rfl) ?_
        first | refine d_op 2 rfl (by kernel_rfl) (Through.rfl_) (o_load rfl rfl (by decide) rfl rfl (by first | exact fun w hw => hw.cell_blkL 0 rfl rfl | exact fun w hw => hw.cell_blkL 1 rfl rfl | exact fun w hw => hw.cell_blkL 2 rfl rfl | exact fun w hw => hw.cell_blkL 3 rfl rfl | exact fun w hw => hw.cell_blkL 4 rfl rfl | exact fun w hw => hw.cell_blkL 5 rfl rfl | exact fun w hw => hw.cell_old (by assumption) (by simp) | exact fun w hw => hw.cell_range (by assumption) rfl (by simp))) ?_
        first | refine d_op 3 rfl (by kernel_rfl) (Through.rfl_) (o_move rfl rfl (by decide) rfl rfl) ?_
        first | refine d_op 4 rfl (by kernel_rfl) (Through.rfl_) (o_indexAddr1 rfl rfl (by decide) rfl rfl rfl hkn) ?_
        first | refine d_op 5 rfl (by kernel_rfl) (Through.rfl_) (o_load rfl rfl (by decide) rfl rfl (fun w hw => hw.cell_row 3 rfl hcell)) ?_
        first | refine d_op 6 rfl (by kernel_rfl) (Through.rfl_) (o_move rfl rfl (by decide) rfl rfl) ?_
        first | refine d_op 7 rfl (by kernel_rfl) (Through.rfl_) (o_move rfl rfl (by decide) rfl rfl) ?_
        first | refine d_op 8 rfl (by kernel_rfl) (Through.rfl_) (o_loadN rfl rfl (by decide) rfl rfl (by first | exact fun w hw => hw.range_blk 0 rfl | exact fun w hw => hw.range_blk 1 rfl | exact fun w hw => hw.range_blk 2 rfl | exact fun w hw => hw.range_blk 3 rfl | exact fun w hw => hw.range_blk 4 rfl | exact fun w hw => hw.range_blk 5 rfl | exact fun w hw => hw.range_old (by assumption) (by simp)) (by first | rfl | exact setC_len _)) ?_
        first | refine d_op 9 rfl (by kernel_rfl) (Through.rfl_) (o_callv (f := 95) rfl rfl (by decide) rfl rfl rfl (fun w hw => one_clo (onev_of 1 2 3 4 hol rfl rfl rfl rfl hw) (HFM.out.on hw.k.below) (HLK.out.on hw.k.below) HOK.out)) ?_
        first | refine d_op 10 rfl (by kernel_rfl) (Through.rfl_) (o_pick_no rfl rfl (by decide) rfl rfl rfl) ?_
        first | refine d_op 11 rfl (by kernel_rfl) (Through.rfl_) (o_indexAddr1 rfl rfl (by decide) rfl rfl rfl hkn) ?_
        refine d_loud0 12 (by kernel_rfl) rfl rfl (u_store_row 3 rfl rfl rfl rfl rfl rfl (by omega)) (fun _ => .inl (by decide)) rfl (fun _ _ => ?_)
        refine d_end ?_ (by kernel_rfl)
        repeat (first | refine l_op (o_move rfl rfl (by decide) rfl rfl) ?_ | refine l_nil ?_ | refine s_region ?_ | refine l_op (o_add (k := .i64) rfl rfl (by decide) rfl rfl rfl (IntWalk.i64_in _ (by omega))) ?_)
        refine x_round (k + 1) [1, 2, 3, 4] (by decide) hkn (by omega) (.cons rfl rfl (.cons rfl rfl (.cons rfl (by go_num) (.cons rfl rfl (.cons rfl rfl (.cons rfl rfl (.cons rfl rfl (.cons rfl rfl .nil)))))))) ?_
        show [_, _, Atom.row _ _ _ _ _ ((boolC out).set (0 + k) (.bool (oneF F out rk))), _] = fnO bf g0 g1 bs n c (some ⟨b, o, none⟩) _
        rw [range_fold, HOUT.out, Nat.zero_add, boolC_set]
        unfold finStep
        rw [HRK.out, HK.out]
        rfl
    · skip
      repeat (first | refine l_op (o_move rfl rfl (by decide) rfl rfl) ?_ | refine l_nil ?_ | refine s_seq ?_ | refine s_region ?_ | refine s_cond_false rfl ?_ | refine s_exit ?_ | refine l_op (o_lss rfl rfl (by decide) rfl rfl rfl (by first | assumption | exact decide_eq_true (by omega) | exact decide_eq_false (by omega) | rfl)) ?_ | refine l_op (o_add (k := .i64) rfl rfl (by decide) rfl rfl rfl (IntWalk.i64_in _ (by omega))) ?_)
      refine x_round (t + 1) [0, 1, 2, 3] (by decide) hlt (by omega) (.cons rfl rfl (.cons rfl rfl (.cons rfl rfl (.cons rfl rfl (.cons rfl (by go_num) .nil))))) ?_
      have hkk : k = F.length := by rw [HLEN.out]; omega
      subst hkk
      rfl
  · skip
    repeat (first | refine l_op (o_assign rfl rfl (by decide) rfl rfl) ?_ | refine l_op (o_load rfl rfl (by decide) rfl rfl (by first | exact fun w hw => hw.cell_blkL 0 rfl rfl | exact fun w hw => hw.cell_blkL 1 rfl rfl | exact fun w hw => hw.cell_blkL 2 rfl rfl | exact fun w hw => hw.cell_blkL 3 rfl rfl | exact fun w hw => hw.cell_blkL 4 rfl rfl | exact fun w hw => hw.cell_blkL 5 rfl rfl | exact fun w hw => hw.cell_old (by assumption) (by simp) | exact fun w hw => hw.cell_range (by assumption) rfl (by simp))) ?_ | refine l_nil ?_ | refine s_seq ?_ | refine s_region ?_ | refine s_cond_false rfl ?_ | refine s_exit ?_ | refine s_ret ?_ | refine l_op (o_lss rfl rfl (by decide) rfl rfl rfl (by first | assumption | exact decide_eq_true (by omega) | exact decide_eq_false (by omega) | rfl)) ?_)
    have htn : t = F.length := by rw [HLEN.out]; omega
    refine x_body1 (by first | exact .inl rfl | exact .inr rfl) rfl (.tmp rfl) (fun w hw => ?_)
    have hfl : iter (finRound F) t (List.replicate n false) = finL F := by unfold finL; rw [htn, HLEN.out]
    have hln : (finL F).length = n := by rw [← hfl]; exact HL0.out
    refine ⟨bs, by rw [hln], ?_, ⟨by rw [hln]; simp [boolC, hln], fun _ => ⟨bs, 0, rfl, ?_, fun j u hu => ?_⟩⟩, hw.k.below⟩
    · rcases Nat.lt_or_ge bs W.heap.size with h | h
      · have := hw.new 2 _ bs rfl rfl h
        simp [Atom.w] at this
      · exact h
    · exact (hw.own 2 _ rfl).lt rfl
    · rw [Nat.zero_add]
      refine hw.cell_row 2 rfl ?_
      rw [hfl]
      exact hu
end Go.Proofs.YtgdiadednlajgaaGreatDoor
