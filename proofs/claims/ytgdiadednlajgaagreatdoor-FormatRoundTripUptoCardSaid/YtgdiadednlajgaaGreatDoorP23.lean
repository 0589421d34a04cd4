import Derived.Test.YtgdiadednlajgaaGreatDoorP21
import Derived.Test.YtgdiadednlajgaaGreatDoorP22
namespace Go.Proofs.YtgdiadednlajgaaGreatDoor
open Go.RowKit
set_option linter.unusedVariables false
set_option linter.unusedSimpArgs false
theorem Rd.of_on {w : World} {A : Option Addr} {n s : Nat} {xs : List Value} (h : (Atom.rd A n s xs).on w) (hn : 0 < n) : ∃ b o, A = some ⟨b, o, none⟩ ∧ b < w.heap.size := by
  have h' : Rd w w.heap.size s A n xs := h
  obtain ⟨b, o, e, hb, _⟩ := h'.2 hn
  exact ⟨b, o, e, hb⟩
section
variable {P : Program} {Q : Exit → Act → World → Prop} {N : Nat} {M : List Nat} {W : World} {E : Env} {O : List Atom}
theorem s_row_addr (i : Nat) {A : Option Addr} {n c s : Nat} {e : TypeId} {xs : List Value} {cd : Code} (hO : O[i]? = some (.row A n c e s xs)) (hn : 0 < n) (h : ∀ b, A = some ⟨b, 0, none⟩ → sE P Q N M W E O cd) : sE P Q N M W E O cd := fun a w ha hw => by
  rcases (hw.own i _ hO).2 with ⟨hv, _⟩ | ⟨g, cap, cur, hv, _⟩
  · have : n = 0 := by
      simp only [Value.slice.injEq] at hv
      omega
    omega
  · simp only [Value.slice.injEq] at hv
    exact h g hv.1 a w ha hw
theorem s_meet {x y : Code} {ι : Type} (p : ι → Prop) (F : ι → Env) (G : ι → List Atom) (h1 : sE P (Exit.then (Meet p N M W F G) Q) N M W E O x) (h2 : ∀ i, p i → sE P Q N M W (F i) (G i) y) : sE P (Exit.then (fun a w => y.wp P Q a w) Q) N M W E O x :=
  s_cut p F G h1 fun i hp a w ha hw => h2 i hp a w ha hw
theorem Wd.rd_blk (i : Nat) {w : World} {b n s : Nat} {cs : List Value} {t : TypeId} {fr : Nat × Nat} (hO : O[i]? = some (.blk b (.cells cs.toArray t fr))) (hl : cs.length = n * s) (hw : Wd M W O w) : Rd w w.heap.size s (some ⟨b, 0, none⟩) n cs :=
  ⟨hl, fun _ => ⟨b, 0, rfl, (hw.own i _ hO).lt rfl, fun j u hu => by rw [Nat.zero_add]; exact hw.cell_blkL i hO hu⟩⟩
end
section
variable {P : Program} {Q : Exit → Act → World → Prop} {N : Nat} {M : List Nat} {W : World} {E : Env} {O : List Atom}
theorem s_rd_addr (i : Nat) {A : Option Addr} {n s : Nat} {xs : List Value} {cd : Code} (hO : O[i]? = some (.rd A n s xs)) (hn : 0 < n) (h : ∀ b o, A = some ⟨b, o, none⟩ → sE P Q N M W E O cd) : sE P Q N M W E O cd := fun a w ha hw => by
  obtain ⟨b, o, e, _⟩ := Go.Proofs.YtgdiadednlajgaaGreatDoor.Rd.of_on (hw.own i _ hO) hn
  exact h b o e a w ha hw
end
theorem Wd.range_sets {M : List Nat} {W w : World} {O : List Atom} (i : Nat) {b n c k : Nat} {e : TypeId} {S : List (Nat → Bool)} (hO : O[i]? = some (.row (some ⟨b, 0, none⟩) n c e 256 (setsC S))) (hk : k < S.length) (hw : Wd M W O w) : w.rangeAt b (0 + k * 256) (setC (S.getD k nilS)) := fun j u hu => by
  rw [Nat.zero_add]
  exact hw.cell_row i hO (setsC_drop S k hk j u hu)
def upTo (S : List (Nat → Bool)) (k : Nat) (st : Nat → Bool) (c : Nat) : List (Nat → Bool) := S.set k (fun j => if j < c then (S.getD k nilS) j || st j else (S.getD k nilS) j)
theorem upTo_len (S : List (Nat → Bool)) (k : Nat) (st : Nat → Bool) (c : Nat) : (upTo S k st c).length = S.length := by unfold upTo; rw [List.length_set]
theorem upTo_get (S : List (Nat → Bool)) (k : Nat) (st : Nat → Bool) (c : Nat) (hk : k < S.length) : (upTo S k st c).getD k nilS = fun j => if j < c then (S.getD k nilS) j || st j else (S.getD k nilS) j := by
  unfold upTo
  rw [List.getD_eq_getElem?_getD, List.getElem?_set, if_pos rfl, if_pos hk]
  rfl
theorem upTo_zero (S : List (Nat → Bool)) (k : Nat) (st : Nat → Bool) (hk : k < S.length) : upTo S k st 0 = S := by
  unfold upTo
  have e : (fun j => if j < 0 then (S.getD k nilS) j || st j else (S.getD k nilS) j) = S[k] := by
    funext j
    rw [if_neg (by omega), List.getD_eq_getElem?_getD, List.getElem?_eq_getElem hk]
    rfl
  rw [e, List.set_getElem_self]
theorem setsC_ext {S T : List (Nat → Bool)} (hl : S.length = T.length) (h : ∀ k c, k < S.length → c < 256 → (S.getD k nilS) c = (T.getD k nilS) c) : setsC S = setsC T := by
  induction S generalizing T with
  | nil => cases T with
    | nil => rfl
    | cons => simp at hl
  | cons s S ih => cases T with
    | nil => simp at hl
    | cons t T =>
      have e1 : setC s = setC t := setC_ext (fun j hj => h 0 j (by simp) hj)
      have e2 : setsC S = setsC T := ih (by simpa using hl) (fun k c hk hc => h (k + 1) c (by simpa using hk) hc)
      rw [setsC, setsC, e1, e2]
theorem upTo_step (S : List (Nat → Bool)) (k : Nat) (st : Nat → Bool) (c : Nat) (hk : k < S.length) (hc : c < 256) : (setsC (upTo S k st c)).set (k * 256 + c) (.bool ((S.getD k nilS) c || st c)) = setsC (upTo S k st (c + 1)) := by
  rw [setsC_set _ _ _ _ (by rw [upTo_len]; exact hk) hc, upTo_get S k st c hk]
  unfold upTo
  rw [List.set_set]
  congr 2
  funext j
  by_cases h1 : j = c
  · subst h1; simp
  · by_cases h2 : j < c
    · have : j < c + 1 := by omega
      simp [h1, h2, this]
    · have : ¬ j < c + 1 := by omega
      simp [h1, h2, this]
theorem upTo_all (S : List (Nat → Bool)) (k x : Nat) (hk : k < S.length) : setsC (upTo S k (S.getD x nilS) 256) = setsC (firAdd S k x) := by
  refine setsC_ext (by unfold firAdd; rw [upTo_len, List.length_set]) fun k' c hk' hc => ?_
  rw [upTo_len] at hk'
  unfold upTo firAdd
  by_cases h : k = k'
  · subst h
    simp [List.getD_eq_getElem?_getD, hk, hc, orS]
  · simp [List.getD_eq_getElem?_getD, List.getElem?_set_ne h]
theorem firAdd_len (S : List (Nat → Bool)) (k x : Nat) : (firAdd S k x).length = S.length := by unfold firAdd; rw [List.length_set]
theorem firFold_len (k : Nat) : ∀ (l : List Nat) (S : List (Nat → Bool)), (l.foldl (fun S x => firAdd S k x) S).length = S.length
  | [], _ => rfl
  | x :: l, S => by rw [List.foldl_cons, firFold_len k l, firAdd_len]
theorem firStep_len (F : List Rl) (S : List (Nat → Bool)) (k : Nat) : (firStep F S k).length = S.length := firFold_len k _ S
theorem firSteps_len (F : List Rl) : ∀ (l : List Nat) (S : List (Nat → Bool)), (l.foldl (firStep F) S).length = S.length
  | [], _ => rfl
  | x :: l, S => by rw [List.foldl_cons, firSteps_len F l, firStep_len]
theorem firIter_len (F : List Rl) (S : List (Nat → Bool)) : ∀ t, (iter (firRound F) t S).length = S.length
  | 0 => rfl
  | t + 1 => (firSteps_len F _ _).trans (firIter_len F S t)
theorem setC_each (st : Nat → Bool) : ∀ u ∈ setC st, u.oneCell' = true := by
  intro u hu
  simp only [setC, List.mem_map] at hu
  obtain ⟨j, _, rfl⟩ := hu
  rfl
set_option maxRecDepth 100000 in
set_option maxHeartbeats 8000000 in
theorem firsts_calls {F : List Rl} {A : Option Addr} {n c : Nat} {W : World} (hf : FmIn W W.heap.size A n F) (hF : FOk F) (hn : n ≤ 40) (hn0 : 0 < n) :
    Calls Tryz.prog 32 #[.agg #[.slice A n c]] W (fun e w' => ∃ b c', e = .returned (.slice (some ⟨b, 0, none⟩) n c') ∧ W.heap.size ≤ b ∧ Rd w' w'.heap.size 256 (some ⟨b, 0, none⟩) n (setsC (firL F)) ∧ Below W.heap.size W w') := by
  have hlen : F.length = n := hf.1
  obtain ⟨b, o, rfl⟩ := hf.addr hn0
  have HFM := Lib.hid hf
  have HF := Lib.hid hF
  have HLEN := Lib.hid hlen
  clear hf hF hlen
  go_enter Tryz.func32, Tryz.ntmps32
  refine s_go (M := []) (W := W) (N := 72) (E := [(0, .agg #[.slice (some ⟨b, o, none⟩) n c])]) (O := []) ?_ (Ag.cons (Ag.nil rfl rfl) rfl) (Wd.start [] W)
  repeat (first | refine l_op (o_move rfl rfl (by decide) rfl rfl) ?_ | refine l_op (o_assign rfl rfl (by decide) rfl rfl) ?_ | refine l_op (o_fieldAddr rfl rfl (by decide) rfl rfl) ?_ | refine l_op (o_load rfl rfl (by decide) rfl rfl (by first | exact fun w hw => hw.cell_blkL 0 rfl rfl | exact fun w hw => hw.cell_blkL 1 rfl rfl | exact fun w hw => hw.cell_blkL 2 rfl rfl | exact fun w hw => hw.cell_blkL 3 rfl rfl | exact fun w hw => hw.cell_blkL 4 rfl rfl | exact fun w hw => hw.cell_blkL 5 rfl rfl | exact fun w hw => hw.cell_old (by assumption) (by simp) | exact fun w hw => hw.cell_range (by assumption) rfl (by simp))) ?_ | refine l_loud (u_box rfl rfl rfl rfl) rfl (by decide) (fun bf _ => ?_) | refine l_nil ?_ | refine s_seq ?_ | refine s_region ?_ | refine s_block ?_ | refine l_op (o_len rfl rfl (by decide) rfl rfl) ?_)
  refine s_row 63 256 ?_
  refine s_loop (ι := Nat × Option Addr × Nat) (fun y => y.1 ≤ n) (fun y => n - y.1) (fun y => [(1, .pointer (some ⟨bf, 0, none⟩)), (3, .slice y.2.1 y.1 y.2.2), (13, .slice (some ⟨b, o, none⟩) n c), (14, .int .i64 (n : Int)), (15, .int .i64 (y.1 : Int))]) (fun y => [.row y.2.1 y.1 y.2.2 63 256 (setsC ((F.take y.1).map ownR)), .blk bf (.cells [.slice (some ⟨b, o, none⟩) n c].toArray 24 (0, 0))]) (0, none, 0) [0, 1] (by decide) (Nat.zero_le _) (.cons rfl rfl (.cons rfl rfl (.cons rfl rfl (.cons rfl rfl (.cons rfl rfl .nil))))) rfl ?_
  rintro ⟨i, A', c'⟩ hi
  have hi' : i ≤ n := hi
  clear hi
  show sE _ _ _ _ _ [(1, .pointer (some ⟨bf, 0, none⟩)), (3, .slice A' i c'), (13, .slice (some ⟨b, o, none⟩) n c), (14, .int .i64 (n : Int)), (15, .int .i64 (i : Int))] [.row A' i c' 63 256 (setsC ((F.take i).map ownR)), .blk bf (.cells [.slice (some ⟨b, o, none⟩) n c].toArray 24 (0, 0))] _
  by_cases hin : i < n
  · obtain ⟨rk, Ab, cb, An, cn, Ap, cp, hrk, hrg, hlk⟩ := HFM.out.rl hin
    have HRK := Lib.hid hrk
    have HLK := Lib.hid hlk
    have HOK := Lib.hid (HF.out i rk hrk)
    clear hrk hlk
    repeat (first | refine l_op (o_move rfl rfl (by decide) rfl rfl) ?_ | refine l_op (o_assign rfl rfl (by decide) rfl rfl) ?_ | refine l_op (o_loadN rfl rfl (by decide) rfl rfl (by first | exact fun w hw => hw.range_blk 0 rfl | exact fun w hw => hw.range_blk 1 rfl | exact fun w hw => hw.range_blk 2 rfl | exact fun w hw => hw.range_blk 3 rfl | exact fun w hw => hw.range_blk 4 rfl | exact fun w hw => hw.range_blk 5 rfl | exact fun w hw => hw.range_old (by assumption) (by simp)) (by first | rfl | exact setC_len _)) ?_ | refine l_op (o_indexAddr rfl rfl (by decide) rfl rfl rfl hin) ?_ | refine l_loud (u_alloc (t := 52) rfl rfl) rfl (by decide) (fun b7 _ => ?_) | (refine l_loud0 (u_storeN 0 rfl rfl rfl rfl rfl rfl rfl (by simp)) rfl (fun _ _ => ?_); rw [putL_full (by rfl)]) | refine l_op (o_call (f := 53) rfl rfl (by decide) rfl rfl (fun w hw => (own_calls (HLK.out.on hw.k.below) HOK.out).mono (fun _ _ h => h))) ?_ | refine l_loud (u_slice1 (cs := setC _) rfl rfl rfl rfl (setC_len _) (by decide)) rfl (by decide) (fun bn _ => ?_) | refine l_loud (u_append (news := setC _) 2 rfl rfl rfl rfl rfl (fun w hw => hw.rd_blk 0 rfl (by rw [setC_len])) (setC_each _) (by omega)) rfl (by decide) (fun y _ => ?_) | refine l_nil ?_ | refine s_seq ?_ | refine s_region ?_ | refine s_skip ?_ | refine s_cond_true rfl ?_ | refine s_block ?_ | refine l_op (o_lss rfl rfl (by decide) rfl rfl rfl (by first | assumption | exact decide_eq_true (by omega) | exact decide_eq_false (by omega) | rfl)) ?_ | refine l_op (o_add (k := .i64) rfl rfl (by decide) rfl rfl rfl (IntWalk.i64_in _ (by omega))) ?_)
    obtain ⟨A2, c2⟩ := y
    refine x_round (i + 1, A2, c2) [2, 3] (by decide) hin (by show n - (i + 1) < n - i; omega) (.cons rfl rfl (.cons rfl rfl (.cons rfl rfl (.cons rfl rfl (.cons rfl (by go_num) .nil))))) ?_
    show [Atom.row _ _ _ _ _ (setsC ((F.take i).map ownR) ++ setC (ownR rk)), _] = [Atom.row _ _ _ _ _ (setsC ((F.take (i + 1)).map ownR)), _]
    rw [List.take_add_one, HRK.out, Option.toList_some, List.map_append, setsC_app]
    simp [setsC]
  · obtain rfl : i = n := by omega
    repeat (first | refine l_op (o_move rfl rfl (by decide) rfl rfl) ?_ | refine l_op (o_fieldAddr rfl rfl (by decide) rfl rfl) ?_ | refine l_op (o_load rfl rfl (by decide) rfl rfl (by first | exact fun w hw => hw.cell_blkL 0 rfl rfl | exact fun w hw => hw.cell_blkL 1 rfl rfl | exact fun w hw => hw.cell_blkL 2 rfl rfl | exact fun w hw => hw.cell_blkL 3 rfl rfl | exact fun w hw => hw.cell_blkL 4 rfl rfl | exact fun w hw => hw.cell_blkL 5 rfl rfl | exact fun w hw => hw.cell_old (by assumption) (by simp) | exact fun w hw => hw.cell_range (by assumption) rfl (by simp))) ?_ | refine l_nil ?_ | refine s_seq ?_ | refine s_region ?_ | refine s_cond_false rfl ?_ | refine s_exit ?_ | refine s_block ?_ | refine l_op (o_len rfl rfl (by decide) rfl rfl) ?_ | refine l_op (o_lss rfl rfl (by decide) rfl rfl rfl (by first | assumption | exact decide_eq_true (by omega) | exact decide_eq_false (by omega) | rfl)) ?_)
    refine s_row_addr 0 rfl hn0 (fun br hA => ?_)
    subst hA
    have e0 : setsC ((F.take i).map ownR) = setsC (iter (firRound F) 0 (F.map ownR)) := by
      rw [List.take_of_length_le (by rw [HLEN.out]; exact Nat.le_refl _)]
      rfl
    refine s_loop (ι := Nat) (fun t => t ≤ i) (fun t => i - t) (fun t => [(1, .pointer (some ⟨bf, 0, none⟩)), (3, .slice (some ⟨br, 0, none⟩) i c'), (27, .int .i64 (i : Int)), (28, .int .i64 (t : Int))]) (fun t => [.row (some ⟨br, 0, none⟩) i c' 63 256 (setsC (iter (firRound F) t (F.map ownR))), .blk bf (.cells [.slice (some ⟨b, o, none⟩) i c].toArray 24 (0, 0))]) 0 [0, 1] (by decide) (Nat.zero_le _) (.cons rfl rfl (.cons rfl rfl (.cons rfl rfl (.cons rfl rfl .nil)))) (by rw [← e0]; rfl) ?_
    rintro t ht
    by_cases htn : t < i
    · skip
      repeat (first | refine l_op (o_move rfl rfl (by decide) rfl rfl) ?_ | refine l_op (o_fieldAddr rfl rfl (by decide) rfl rfl) ?_ | refine l_op (o_load rfl rfl (by decide) rfl rfl (by first | exact fun w hw => hw.cell_blkL 0 rfl rfl | exact fun w hw => hw.cell_blkL 1 rfl rfl | exact fun w hw => hw.cell_blkL 2 rfl rfl | exact fun w hw => hw.cell_blkL 3 rfl rfl | exact fun w hw => hw.cell_blkL 4 rfl rfl | exact fun w hw => hw.cell_blkL 5 rfl rfl | exact fun w hw => hw.cell_old (by assumption) (by simp) | exact fun w hw => hw.cell_range (by assumption) rfl (by simp))) ?_ | refine l_nil ?_ | refine s_seq ?_ | refine s_region ?_ | refine s_skip ?_ | refine s_cond_true rfl ?_ | refine s_block ?_ | refine l_op (o_len rfl rfl (by decide) rfl rfl) ?_ | refine l_op (o_lss rfl rfl (by decide) rfl rfl rfl (by first | assumption | exact decide_eq_true (by omega) | exact decide_eq_false (by omega) | rfl)) ?_)
      refine s_loop (ι := Nat) (fun k => k ≤ i) (fun k => i - k) (fun k => [(1, .pointer (some ⟨bf, 0, none⟩)), (3, .slice (some ⟨br, 0, none⟩) i c'), (27, .int .i64 (i : Int)), (28, .int .i64 (t : Int)), (31, .slice (some ⟨b, o, none⟩) i c), (32, .int .i64 (i : Int)), (33, .int .i64 (k : Int))]) (fun k => [.row (some ⟨br, 0, none⟩) i c' 63 256 (setsC ((List.range k).foldl (firStep F) (iter (firRound F) t (F.map ownR)))), .blk bf (.cells [.slice (some ⟨b, o, none⟩) i c].toArray 24 (0, 0))]) 0 [0, 1] (by decide) (Nat.zero_le _) (.cons rfl rfl (.cons rfl rfl (.cons rfl rfl (.cons rfl rfl (.cons rfl rfl (.cons rfl rfl (.cons rfl rfl .nil))))))) rfl ?_
      rintro k hk
      by_cases hkn : k < i
      · obtain ⟨rk, Ab, cb, An, cn, Ap, cp, hrk, hrg, hlk⟩ := HFM.out.rl hkn
        have HRK := Lib.hid hrk
        have HLK := Lib.hid hlk
        have HOK := Lib.hid (HF.out k rk hrk)
        clear hrk hlk
        repeat (first | refine l_op (o_move rfl rfl (by decide) rfl rfl) ?_ | refine l_op (o_assign rfl rfl (by decide) rfl rfl) ?_ | refine l_op (o_loadN rfl rfl (by decide) rfl rfl (by first | exact fun w hw => hw.range_blk 0 rfl | exact fun w hw => hw.range_blk 1 rfl | exact fun w hw => hw.range_blk 2 rfl | exact fun w hw => hw.range_blk 3 rfl | exact fun w hw => hw.range_blk 4 rfl | exact fun w hw => hw.range_blk 5 rfl | exact fun w hw => hw.range_old (by assumption) (by simp)) (by first | rfl | exact setC_len _)) ?_ | refine l_op (o_indexAddr rfl rfl (by decide) rfl rfl rfl hkn) ?_ | refine l_loud (u_alloc (t := 52) rfl rfl) rfl (by decide) (fun b7 _ => ?_) | (refine l_loud0 (u_storeN 0 rfl rfl rfl rfl rfl rfl rfl (by simp)) rfl (fun _ _ => ?_); rw [putL_full (by rfl)]) | refine l_loud (u_call _ _ _ (f := 54) rfl rfl rfl (fun w hw => begins_wd (n := F.length) HLK.out HOK.out hw)) rfl (by decide) (fun z hz => ?_) | refine l_nil ?_ | refine s_seq ?_ | refine s_region ?_ | refine s_skip ?_ | refine s_cond_true rfl ?_ | refine s_block ?_ | refine l_op (o_len rfl rfl (by decide) rfl rfl) ?_ | refine l_op (o_lss rfl rfl (by decide) rfl rfl rfl (by first | assumption | exact decide_eq_true (by omega) | exact decide_eq_false (by omega) | rfl)) ?_)
        obtain ⟨A2, c2⟩ := z
        have hbl := bl_len HOK.out
        refine s_loop (ι := Nat) (fun j => j ≤ (bl rk).length) (fun j => (bl rk).length - j) (fun j => [(1, .pointer (some ⟨bf, 0, none⟩)), (3, .slice (some ⟨br, 0, none⟩) i c'), (6, .int .i64 (k : Int)), (27, .int .i64 (i : Int)), (28, .int .i64 (t : Int)), (31, .slice (some ⟨b, o, none⟩) i c), (32, .int .i64 (i : Int)), (33, .int .i64 (k : Int)), (39, .slice A2 (bl rk).length c2), (40, .int .i64 ((bl rk).length : Int)), (41, .int .i64 (j : Int))]) (fun j => [.rd A2 (bl rk).length 1 (iv (bl rk)), .row (some ⟨br, 0, none⟩) i c' 63 256 (setsC (((bg F k).take j).foldl (fun S x => firAdd S k x) ((List.range k).foldl (firStep F) (iter (firRound F) t (F.map ownR))))), .blk bf (.cells [.slice (some ⟨b, o, none⟩) i c].toArray 24 (0, 0))]) 0 [0, 2, 3] (by decide) (Nat.zero_le _) (.cons rfl rfl (.cons rfl rfl (.cons rfl rfl (.cons rfl rfl (.cons rfl rfl (.cons rfl rfl (.cons rfl rfl (.cons rfl rfl (.cons rfl rfl (.cons rfl rfl (.cons rfl rfl .nil))))))))))) rfl ?_
        rintro j hj
        by_cases hjn : j < (bl rk).length
        · refine s_rd_addr 0 rfl (by omega) (fun b2 o2 hA => ?_)
          subst hA
          obtain ⟨x, hx⟩ : ∃ x, (bl rk)[j]? = some x := ⟨_, List.getElem?_eq_getElem hjn⟩
          have hxb := bl_in HOK.out x (List.mem_of_getElem? hx)
          have hxn : 0 ≤ x ∧ x < (i : Int) := by have := HLEN.out; omega
          clear hxb
          have hxj : (iv (bl rk))[j]? = some (.int .i64 x) := by unfold iv; rw [List.getElem?_map, hx]; rfl
          have hbgj : (bg F k)[j]? = some x.toNat := by rw [bg_eq HRK.out, List.getElem?_map, hx]; rfl
          have HBG := Lib.hid hbgj
          clear hbgj
          obtain ⟨S, hS⟩ : ∃ S, S = ((bg F k).take j).foldl (fun S x => firAdd S k x) ((List.range k).foldl (firStep F) (iter (firRound F) t (F.map ownR))) := ⟨_, rfl⟩
          have hSl : S.length = i := by rw [hS, firFold_len, firSteps_len, firIter_len, List.length_map]; exact HLEN.out
          rw [← hS]
          have HS := Lib.hid hS
          clear hS
          have hxS : x.toNat < S.length := by omega
          have hkS : k < S.length := by omega
          repeat (first | refine l_op (o_move rfl rfl (by decide) rfl rfl) ?_ | refine l_op (o_assign rfl rfl (by decide) rfl rfl) ?_ | refine l_op (o_indexAddr1 rfl rfl (by decide) rfl rfl rfl hjn) ?_ | refine l_op (o_indexAddrI rfl rfl (by decide) rfl rfl rfl hxn) ?_ | refine l_op (o_load rfl rfl (by decide) rfl rfl (fun w hw => hw.cell_rd 0 rfl hxj)) ?_ | refine l_op (o_loadN (cs := setC (S.getD x.toNat nilS)) rfl rfl (by decide) rfl rfl (fun w hw => hw.range_sets 1 rfl hxS) (setC_len _)) ?_ | refine l_nil ?_ | refine s_seq ?_ | refine s_region ?_ | refine s_skip ?_ | refine s_cond_true rfl ?_ | refine s_block ?_ | refine l_op (o_lss rfl rfl (by decide) rfl rfl rfl (by first | assumption | exact decide_eq_true (by omega) | exact decide_eq_false (by omega) | rfl)) ?_)
          obtain ⟨st, hst⟩ : ∃ st, st = S.getD x.toNat nilS := ⟨_, rfl⟩
          rw [← hst]
          have HST := Lib.hid hst
          clear hst
          refine s_loop (ι := Nat) (fun cc => cc ≤ 256) (fun cc => 256 - cc) (fun cc => [(1, .pointer (some ⟨bf, 0, none⟩)), (3, .slice (some ⟨br, 0, none⟩) i c'), (6, .int .i64 (k : Int)), (27, .int .i64 (i : Int)), (28, .int .i64 (t : Int)), (31, .slice (some ⟨b, o, none⟩) i c), (32, .int .i64 (i : Int)), (33, .int .i64 (k : Int)), (39, .slice (some ⟨b2, o2, none⟩) (bl rk).length c2), (40, .int .i64 ((bl rk).length : Int)), (41, .int .i64 (j : Int)), (48, .agg (setC st).toArray), (49, .int .i64 (cc : Int))]) (fun cc => [.rd (some ⟨b2, o2, none⟩) (bl rk).length 1 (iv (bl rk)), .row (some ⟨br, 0, none⟩) i c' 63 256 (setsC (upTo S k st cc)), .blk bf (.cells [.slice (some ⟨b, o, none⟩) i c].toArray 24 (0, 0))]) 0 [0, 1, 2] (by decide) (Nat.zero_le _) (.cons rfl rfl (.cons rfl rfl (.cons rfl rfl (.cons rfl rfl (.cons rfl rfl (.cons rfl rfl (.cons rfl rfl (.cons rfl rfl (.cons rfl rfl (.cons rfl rfl (.cons rfl rfl (.cons rfl rfl (.cons rfl rfl .nil))))))))))))) (by rw [upTo_zero S k st hkS]; rfl) ?_
          rintro cc hcc
          by_cases hcn : cc < 256
          · have hlt : k * 256 + cc < i * 256 := by omega
            have hcell0 := setsC_at (upTo S k st cc) k cc (by rw [upTo_len]; exact hkS) hcn
            rw [upTo_get S k st cc hkS] at hcell0
            have hcell : (setsC (upTo S k st cc))[0 + k * 256 + cc * 1]? = some (.bool ((S.getD k nilS) cc)) := by
              rw [Nat.zero_add, Nat.mul_one, hcell0]
              show some (Value.bool (if cc < cc then _ else _)) = _
              rw [if_neg (Nat.lt_irrefl _)]
            clear hcell0
            obtain ⟨bb, hbb⟩ : ∃ bb, (S.getD k nilS) cc = bb := ⟨_, rfl⟩
            rw [hbb] at hcell
            have HB := Lib.hid hbb
            clear hbb
            cases bb with
            | true =>
              skip
              repeat (first | refine l_op (o_move rfl rfl (by decide) rfl rfl) ?_ | refine l_op (o_assign rfl rfl (by decide) rfl rfl) ?_ | refine l_op (o_index (v := .bool (st cc)) rfl rfl (by decide) rfl rfl rfl hcn (setC_at st hcn)) ?_ | refine l_nil ?_ | refine s_seq ?_ | refine s_region ?_ | refine s_skip ?_ | refine s_cond_true rfl ?_ | refine s_block ?_ | refine l_op (o_lss rfl rfl (by decide) rfl rfl rfl (by first | assumption | exact decide_eq_true (by omega) | exact decide_eq_false (by omega) | rfl)) ?_)
              refine s_drawnO [14] (by kernel_rfl) ?_
              first | refine d_op 0 rfl (by kernel_rfl) (Through.rfl_) (o_move rfl rfl (by decide) rfl rfl) ?_
              first | refine d_op 1 rfl (by kernel_rfl) (Through.rfl_) (o_move rfl rfl (by decide) rfl rfl) ?_
              first | refine d_op 2 rfl (by kernel_rfl) (Through.rfl_) (o_move rfl rfl (by decide) rfl rfl) ?_
              first | refine d_op 3 rfl (by kernel_rfl) (Through.rfl_) (o_move rfl rfl (by decide) rfl rfl) ?_
              first | refine d_op 4 rfl (by kernel_rfl) (Through.rfl_) (o_move rfl rfl (by decide) rfl rfl) ?_
              first | refine d_op 5 rfl (by kernel_rfl) (Through.rfl_) (o_move rfl rfl (by decide) rfl rfl) ?_
              first | refine d_op 6 rfl (by kernel_rfl) (Through.rfl_) (o_indexAddr rfl rfl (by decide) rfl rfl rfl hkn) ?_
              first | refine d_op 7 rfl (by kernel_rfl) (Through.rfl_) (o_indexArr rfl rfl (by decide) rfl rfl rfl hcn) ?_
              first | refine d_op 8 rfl (by kernel_rfl) (Through.rfl_) (o_load rfl rfl (by decide) rfl rfl (fun w hw => hw.cell_row 1 rfl hcell)) ?_
              first | refine d_op 9 rfl (by kernel_rfl) (Through.rfl_) (o_move rfl rfl (by decide) rfl rfl) ?_
              first | refine d_op 10 rfl (by kernel_rfl) (Through.rfl_) (o_skip rfl (by decide) rfl) ?_
              first | refine d_op 11 rfl (by kernel_rfl) (Through.rfl_) (o_pick_yes rfl rfl (by decide) rfl rfl rfl) ?_
              first | refine d_op 12 rfl (by kernel_rfl) (Through.rfl_) (o_indexAddr rfl rfl (by decide) rfl rfl rfl hkn) ?_
              first | refine d_op 13 rfl (by kernel_rfl) (Through.rfl_) (o_indexArr rfl rfl (by decide) rfl rfl rfl hcn) ?_
              refine d_loud0 14 (by kernel_rfl) rfl rfl (u_store_row 1 rfl rfl rfl rfl rfl rfl (by omega)) (fun _ => .inl (by decide)) rfl (fun _ _ => ?_)
              refine d_end ?_ (by kernel_rfl)
              repeat (first | refine l_op (o_move rfl rfl (by decide) rfl rfl) ?_ | refine l_nil ?_ | refine s_region ?_ | refine l_op (o_add (k := .i64) rfl rfl (by decide) rfl rfl rfl (IntWalk.i64_in _ (by omega))) ?_)
              refine x_round (cc + 1) [0, 1, 2] (by decide) (by omega) (by show 256 - (cc + 1) < 256 - cc; omega) (.cons rfl rfl (.cons rfl rfl (.cons rfl rfl (.cons rfl rfl (.cons rfl rfl (.cons rfl rfl (.cons rfl rfl (.cons rfl rfl (.cons rfl rfl (.cons rfl rfl (.cons rfl rfl (.cons rfl rfl (.cons rfl (by go_num) .nil))))))))))))) ?_
              show [_, Atom.row _ _ _ _ _ ((setsC (upTo S k st cc)).set (0 + k * 256 + cc * 1) (.bool true)), _] = [_, Atom.row _ _ _ _ _ (setsC (upTo S k st (cc + 1))), _]
              rw [← upTo_step S k st cc hkS hcn, Nat.zero_add, Nat.mul_one, HB.out]
              rfl
            | false =>
              skip
              repeat (first | refine l_op (o_move rfl rfl (by decide) rfl rfl) ?_ | refine l_op (o_assign rfl rfl (by decide) rfl rfl) ?_ | refine l_op (o_index (v := .bool (st cc)) rfl rfl (by decide) rfl rfl rfl hcn (setC_at st hcn)) ?_ | refine l_nil ?_ | refine s_seq ?_ | refine s_region ?_ | refine s_skip ?_ | refine s_cond_true rfl ?_ | refine s_block ?_ | refine l_op (o_lss rfl rfl (by decide) rfl rfl rfl (by first | assumption | exact decide_eq_true (by omega) | exact decide_eq_false (by omega) | rfl)) ?_)
              refine s_drawnO [14] (by kernel_rfl) ?_
              first | refine d_op 0 rfl (by kernel_rfl) (Through.rfl_) (o_move rfl rfl (by decide) rfl rfl) ?_
              first | refine d_op 1 rfl (by kernel_rfl) (Through.rfl_) (o_move rfl rfl (by decide) rfl rfl) ?_
              first | refine d_op 2 rfl (by kernel_rfl) (Through.rfl_) (o_move rfl rfl (by decide) rfl rfl) ?_
              first | refine d_op 3 rfl (by kernel_rfl) (Through.rfl_) (o_move rfl rfl (by decide) rfl rfl) ?_
              first | refine d_op 4 rfl (by kernel_rfl) (Through.rfl_) (o_move rfl rfl (by decide) rfl rfl) ?_
              first | refine d_op 5 rfl (by kernel_rfl) (Through.rfl_) (o_move rfl rfl (by decide) rfl rfl) ?_
              first | refine d_op 6 rfl (by kernel_rfl) (Through.rfl_) (o_indexAddr rfl rfl (by decide) rfl rfl rfl hkn) ?_
              first | refine d_op 7 rfl (by kernel_rfl) (Through.rfl_) (o_indexArr rfl rfl (by decide) rfl rfl rfl hcn) ?_
              first | refine d_op 8 rfl (by kernel_rfl) (Through.rfl_) (o_load rfl rfl (by decide) rfl rfl (fun w hw => hw.cell_row 1 rfl hcell)) ?_
              first | refine d_op 9 rfl (by kernel_rfl) (Through.rfl_) (o_move rfl rfl (by decide) rfl rfl) ?_
              first | refine d_op 10 rfl (by kernel_rfl) (Through.rfl_) (o_move rfl rfl (by decide) rfl rfl) ?_
              first | refine d_op 11 rfl (by kernel_rfl) (Through.rfl_) (o_pick_no rfl rfl (by decide) rfl rfl rfl) ?_
              first | refine d_op 12 rfl (by kernel_rfl) (Through.rfl_) (o_indexAddr rfl rfl (by decide) rfl rfl rfl hkn) ?_
              first | refine d_op 13 rfl (by kernel_rfl) (Through.rfl_) (o_indexArr rfl rfl (by decide) rfl rfl rfl hcn) ?_
              refine d_loud0 14 (by kernel_rfl) rfl rfl (u_store_row 1 rfl rfl rfl rfl rfl rfl (by omega)) (fun _ => .inl (by decide)) rfl (fun _ _ => ?_)
              refine d_end ?_ (by kernel_rfl)
              repeat (first | refine l_op (o_move rfl rfl (by decide) rfl rfl) ?_ | refine l_nil ?_ | refine s_region ?_ | refine l_op (o_add (k := .i64) rfl rfl (by decide) rfl rfl rfl (IntWalk.i64_in _ (by omega))) ?_)
              refine x_round (cc + 1) [0, 1, 2] (by decide) (by omega) (by show 256 - (cc + 1) < 256 - cc; omega) (.cons rfl rfl (.cons rfl rfl (.cons rfl rfl (.cons rfl rfl (.cons rfl rfl (.cons rfl rfl (.cons rfl rfl (.cons rfl rfl (.cons rfl rfl (.cons rfl rfl (.cons rfl rfl (.cons rfl rfl (.cons rfl (by go_num) .nil))))))))))))) ?_
              show [_, Atom.row _ _ _ _ _ ((setsC (upTo S k st cc)).set (0 + k * 256 + cc * 1) (.bool (st cc))), _] = [_, Atom.row _ _ _ _ _ (setsC (upTo S k st (cc + 1))), _]
              rw [← upTo_step S k st cc hkS hcn, Nat.zero_add, Nat.mul_one, HB.out]
              rfl
          · skip
            repeat (first | refine l_op (o_move rfl rfl (by decide) rfl rfl) ?_ | refine l_nil ?_ | refine s_seq ?_ | refine s_region ?_ | refine s_cond_false rfl ?_ | refine s_exit ?_ | refine l_op (o_lss rfl rfl (by decide) rfl rfl rfl (by first | assumption | exact decide_eq_true (by omega) | exact decide_eq_false (by omega) | rfl)) ?_ | refine l_op (o_add (k := .i64) rfl rfl (by decide) rfl rfl rfl (IntWalk.i64_in _ (by omega))) ?_)
            refine x_round (j + 1) [0, 1, 2] (by decide) (by omega) (by show (bl rk).length - (j + 1) < (bl rk).length - j; omega) (.cons rfl rfl (.cons rfl rfl (.cons rfl rfl (.cons rfl rfl (.cons rfl rfl (.cons rfl rfl (.cons rfl rfl (.cons rfl rfl (.cons rfl rfl (.cons rfl rfl (.cons rfl (by go_num) .nil))))))))))) ?_
            obtain rfl : cc = 256 := by omega
            show [_, Atom.row _ _ _ _ _ (setsC (upTo S k st 256)), _] = [_, Atom.row _ _ _ _ _ (setsC (((bg F k).take (j + 1)).foldl (fun S x => firAdd S k x) _)), _]
            rw [HST.out, upTo_all S k x.toNat hkS, List.take_add_one, HBG.out, Option.toList_some, List.foldl_append, ← HS.out]
            rfl
        · skip
          repeat (first | refine l_op (o_move rfl rfl (by decide) rfl rfl) ?_ | refine l_nil ?_ | refine s_seq ?_ | refine s_region ?_ | refine s_cond_false rfl ?_ | refine s_exit ?_ | refine l_op (o_lss rfl rfl (by decide) rfl rfl rfl (by first | assumption | exact decide_eq_true (by omega) | exact decide_eq_false (by omega) | rfl)) ?_ | refine l_op (o_add (k := .i64) rfl rfl (by decide) rfl rfl rfl (IntWalk.i64_in _ (by omega))) ?_)
          refine x_round (k + 1) [1, 2] (by decide) hkn (by omega) (.cons rfl rfl (.cons rfl rfl (.cons rfl rfl (.cons rfl rfl (.cons rfl rfl (.cons rfl rfl (.cons rfl (by go_num) .nil))))))) ?_
          show [Atom.row _ _ _ _ _ _, _] = [Atom.row _ _ _ _ _ (setsC ((List.range (k + 1)).foldl (firStep F) _)), _]
          rw [List.range_succ, List.foldl_append, List.take_of_length_le (by rw [bg_eq HRK.out, List.length_map]; omega)]
          rfl
      · skip
        repeat (first | refine l_op (o_move rfl rfl (by decide) rfl rfl) ?_ | refine l_nil ?_ | refine s_seq ?_ | refine s_region ?_ | refine s_cond_false rfl ?_ | refine s_exit ?_ | refine l_op (o_lss rfl rfl (by decide) rfl rfl rfl (by first | assumption | exact decide_eq_true (by omega) | exact decide_eq_false (by omega) | rfl)) ?_ | refine l_op (o_add (k := .i64) rfl rfl (by decide) rfl rfl rfl (IntWalk.i64_in _ (by omega))) ?_)
        refine x_round (t + 1) [0, 1] (by decide) htn (by omega) (.cons rfl rfl (.cons rfl rfl (.cons rfl rfl (.cons rfl (by go_num) .nil)))) ?_
        have hkk : k = F.length := by rw [HLEN.out]; omega
        subst hkk
        rfl
    · skip
      repeat (first | refine l_op (o_move rfl rfl (by decide) rfl rfl) ?_ | refine l_op (o_assign rfl rfl (by decide) rfl rfl) ?_ | refine l_nil ?_ | refine s_seq ?_ | refine s_region ?_ | refine s_cond_false rfl ?_ | refine s_exit ?_ | refine s_ret ?_ | refine l_op (o_lss rfl rfl (by decide) rfl rfl rfl (by first | assumption | exact decide_eq_true (by omega) | exact decide_eq_false (by omega) | rfl)) ?_)
      have htt : t = F.length := by rw [HLEN.out]; omega
      refine x_body1 (by first | exact .inl rfl | exact .inr rfl) rfl (.tmp rfl) (fun w hw => ⟨br, c', rfl, ?_, ⟨?_, fun _ => ⟨br, 0, rfl, (hw.own 0 _ rfl).lt rfl, fun j u hu => ?_⟩⟩, hw.k.below⟩)
      · rcases Nat.lt_or_ge br W.heap.size with h | h
        · have := hw.new 0 _ br rfl rfl h
          simp [Atom.w] at this
        · exact h
      · unfold firL; rw [setsC_len, firIter_len, List.length_map, HLEN.out]
      · rw [Nat.zero_add]
        refine hw.cell_row 0 rfl ?_
        rw [htt]
        exact hu
end Go.Proofs.YtgdiadednlajgaaGreatDoor
