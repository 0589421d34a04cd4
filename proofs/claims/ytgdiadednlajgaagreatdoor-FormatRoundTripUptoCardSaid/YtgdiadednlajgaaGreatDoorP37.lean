import Derived.Test.YtgdiadednlajgaaGreatDoorP35
import Derived.Lib.AtoiErrMem
import Derived.Test.YtgdiadednlajgaaGreatDoorP36
namespace Go.Proofs.YtgdiadednlajgaaGreatDoor
open Go.RowKit
set_option linter.unusedVariables false
set_option linter.unusedSimpArgs false
theorem atoi_ok_calls {s : ByteArray} {v : Int} {w : World} (hs : s.size ≤ 1048576) (h : Lib.atoiAll s.data.toList = .ok v) : Calls Tryz.prog 111 #[.string s] w fun e w' => e = .returned (.tuple #[.int .i64 v, .nilIface]) ∧ Below w.heap.size w w' := by
  refine (Tryz.strconv_Atoi_ok s (by omega) v h w).mono ?_
  rintro e w' ⟨rfl, hw⟩
  refine ⟨rfl, ?_⟩
  rcases hw with rfl | ⟨t, rfl⟩
  · exact Below.refl _ _
  · exact Lib.bytesWorld_below _ _ _
theorem atoi_bad_wd {M : List Nat} {W w : World} {O : List Atom} {s : ByteArray} {v : Int} (hg : GV w) (hs : s.size ≤ 1048576) (h : (Lib.atoiAll s.data.toList = .«syntax» ∧ v = 0) ∨ (Lib.atoiAll s.data.toList = .range ∧ v = Lib.atoiSat s.data.toList)) (hw : Wd M W O w) :
    Calls Tryz.prog 111 #[.string s] w (CallEnd (fun n : Nat => .tuple #[.int .i64 v, .iface 176 (.pointer (some ⟨n, 0, none⟩))]) (fun _ => True) M W (fun _ => O)) := by
  rcases h with ⟨h, rfl⟩ | ⟨h, rfl⟩
  · obtain ⟨te, pe, he⟩ := hg.e1
    refine (Tryz.strconv_Atoi_syntax s (by omega) h _ w he (.inr ⟨te, pe, rfl⟩)).mono ?_
    rintro e w' ⟨n, rfl, _, _, hb⟩
    exact ⟨n, rfl, trivial, hw.on hb⟩
  · obtain ⟨te, pe, he⟩ := hg.e2
    refine (Tryz.strconv_Atoi_range s (by omega) h _ w he (.inr ⟨te, pe, rfl⟩)).mono ?_
    rintro e w' ⟨n, rfl, _, _, hb⟩
    exact ⟨n, rfl, trivial, hw.on hb⟩
theorem err_iface : Tryz.prog.underlying 123 = some (.interface (Tryz.prog.methodsAt 123)) := by kernel_rfl
section
variable {W w : World} {O : List Atom} {br bw q N k c : Nat} {bad : Bool} {ws ns : List (List UInt8)} {A : Option Addr}
set_option maxRecDepth 100000 in
set_option maxHeartbeats 16000000 in
theorem number_wd (hg : GV W) (hall : ∀ s ∈ ws, s.length ≤ 1048576) (hN : ws.length = N) (hq : k < N → q = k) (hk : k ≤ N) (hn : N ≤ 1048576) (hw : Wd [] W (rdO br bw q N k bad ws A c ns ++ O) w) :
    Calls Tryz.prog 79 #[.pointer (some ⟨br, 0, none⟩)] w (CallEnd (fun _ : Nat × Nat => .int .i64 (atoiV (wAt ws k))) (fun y => y.1 = min (k + 1) N ∧ (y.1 < N → y.2 = y.1)) [] W (fun y => rdO br bw y.2 N y.1 ((bad || decide (N ≤ k)) || !(numOk (wAt ws k))) ws A c ns ++ O)) := by
  have hxl := wAt_len hall k
  obtain ⟨x, hx⟩ : ∃ x, wAt ws k = x := ⟨_, rfl⟩
  obtain ⟨b1, hb1⟩ : ∃ b1, (bad || decide (N ≤ k)) = b1 := ⟨_, rfl⟩
  have HX := Lib.hid hx
  have HB := Lib.hid hb1
  have HG := Lib.hid hg
  rw [hx] at hxl
  rw [hx, hb1]
  clear hx hb1 hall hg
  have hsz := ba_size x
  have hsm : (⟨x.toArray⟩ : ByteArray).size ≤ 1048576 := by omega
  go_enter Tryz.func79, Tryz.ntmps79
  refine s_go (M := []) (W := W) (N := 40) (E := [(0, .pointer (some ⟨br, 0, none⟩))]) (O := rdO br bw q N k bad ws A c ns ++ O) ?_ (Ag.cons (Ag.nil rfl rfl) rfl) hw
  repeat (first | refine l_op (o_move rfl rfl (by decide) rfl rfl) ?_ | refine l_op (o_assign rfl rfl (by decide) rfl rfl) ?_ | (refine l_loud (u_call _ _ _ (f := 75) rfl rfl rfl (fun w hw => next_wd hN hq hk hn hw)) rfl (by decide) (fun y hy => ?_); rw [HX.out, HB.out]) | refine l_nil ?_ | refine s_seq ?_ | refine s_region ?_)
  obtain ⟨k1, q1⟩ := y
  have HY := Lib.hid hy
  clear hy
  by_cases hok : ∃ v, Lib.atoiAll x = .ok v
  · obtain ⟨v, hv⟩ := hok
    have hvv : atoiV x = v := by unfold atoiV; rw [hv]
    have hnv : numOk x = (!(decide (10 < x.length)) && (!(decide (v < 0)) && Lib.itoa v == x)) := by unfold numOk; rw [hv]
    have hb := Lib.atoiAll_bounds hv
    rw [hvv, hnv]
    have HV := Lib.hid (show Lib.atoiAll (⟨x.toArray⟩ : ByteArray).data.toList = .ok v from hv)
    clear hv hvv hnv
    cases b1 with
    | true =>
      repeat (first | refine l_op (o_move rfl rfl (by decide) rfl rfl) ?_ | refine l_op (o_assign rfl rfl (by decide) rfl rfl) ?_ | refine l_op (o_fieldAddr rfl rfl (by decide) rfl rfl) ?_ | refine l_op (o_skip rfl (by decide) rfl) ?_ | refine l_op (o_load rfl rfl (by decide) rfl rfl (by first | exact fun w hw => hw.cell_blkL 0 rfl rfl | exact fun w hw => hw.cell_blkL 1 rfl rfl | exact fun w hw => hw.cell_blkL 2 rfl rfl | exact fun w hw => hw.cell_blkL 3 rfl rfl | exact fun w hw => hw.cell_blkL 4 rfl rfl | exact fun w hw => hw.cell_blkL 5 rfl rfl | exact fun w hw => hw.cell_old (by assumption) (by simp) | exact fun w hw => hw.cell_range (by assumption) rfl (by simp))) ?_ | refine l_op (o_call (f := 111) rfl rfl (by decide) rfl rfl (fun w hw => atoi_ok_calls hsm HV.out)) ?_ | refine l_op (o_nil rfl rfl (by decide) rfl rfl) ?_ | refine l_loud0 (u_store 0 rfl rfl rfl rfl rfl rfl rfl) rfl (fun _ _ => ?_) | refine l_nil ?_ | refine s_seq ?_ | refine s_region ?_ | refine s_ret ?_ | refine l_op (o_pick_yes rfl rfl (by decide) rfl rfl rfl) ?_ | refine l_op (o_extract rfl rfl (by decide) rfl rfl rfl) ?_)
      exact x_body1 (by first | exact .inl rfl | exact .inr rfl) rfl (.tmp rfl) (fun w hw => ⟨(k1, q1), rfl, HY.out, hw⟩)
    | false =>
      by_cases h10 : 10 < x.length
      · rw [decide_eq_true h10]
        repeat (first | refine l_op (o_move rfl rfl (by decide) rfl rfl) ?_ | refine l_op (o_assign rfl rfl (by decide) rfl rfl) ?_ | refine l_op (o_fieldAddr rfl rfl (by decide) rfl rfl) ?_ | refine l_op (o_skip rfl (by decide) rfl) ?_ | refine l_op (o_load rfl rfl (by decide) rfl rfl (by first | exact fun w hw => hw.cell_blkL 0 rfl rfl | exact fun w hw => hw.cell_blkL 1 rfl rfl | exact fun w hw => hw.cell_blkL 2 rfl rfl | exact fun w hw => hw.cell_blkL 3 rfl rfl | exact fun w hw => hw.cell_blkL 4 rfl rfl | exact fun w hw => hw.cell_blkL 5 rfl rfl | exact fun w hw => hw.cell_old (by assumption) (by simp) | exact fun w hw => hw.cell_range (by assumption) rfl (by simp))) ?_ | refine l_op (o_call (f := 111) rfl rfl (by decide) rfl rfl (fun w hw => atoi_ok_calls hsm HV.out)) ?_ | refine l_op (o_nil rfl rfl (by decide) rfl rfl) ?_ | refine l_op (o_ineq0 err_iface rfl rfl (by decide) rfl rfl) ?_ | refine l_loud0 (u_store 0 rfl rfl rfl rfl rfl rfl rfl) rfl (fun _ _ => ?_) | refine l_nil ?_ | refine s_seq ?_ | refine s_region ?_ | refine s_ret ?_ | refine l_op (o_slen Tryz.underlying9 rfl rfl (by decide) rfl rfl) ?_ | refine l_op (o_gtr rfl rfl (by decide) rfl rfl rfl (by first | assumption | exact decide_eq_true (by omega) | exact decide_eq_false (by omega) | rfl)) ?_ | refine l_op (o_pick_yes rfl rfl (by decide) rfl rfl rfl) ?_ | refine l_op (o_pick_no rfl rfl (by decide) rfl rfl rfl) ?_ | refine l_op (o_extract rfl rfl (by decide) rfl rfl rfl) ?_)
        exact x_body1 (by first | exact .inl rfl | exact .inr rfl) rfl (.tmp rfl) (fun w hw => ⟨(k1, q1), rfl, HY.out, hw⟩)
      rw [decide_eq_false h10]
      by_cases h0 : v < 0
      · rw [decide_eq_true h0]
        repeat (first | refine l_op (o_move rfl rfl (by decide) rfl rfl) ?_ | refine l_op (o_assign rfl rfl (by decide) rfl rfl) ?_ | refine l_op (o_fieldAddr rfl rfl (by decide) rfl rfl) ?_ | refine l_op (o_skip rfl (by decide) rfl) ?_ | refine l_op (o_load rfl rfl (by decide) rfl rfl (by first | exact fun w hw => hw.cell_blkL 0 rfl rfl | exact fun w hw => hw.cell_blkL 1 rfl rfl | exact fun w hw => hw.cell_blkL 2 rfl rfl | exact fun w hw => hw.cell_blkL 3 rfl rfl | exact fun w hw => hw.cell_blkL 4 rfl rfl | exact fun w hw => hw.cell_blkL 5 rfl rfl | exact fun w hw => hw.cell_old (by assumption) (by simp) | exact fun w hw => hw.cell_range (by assumption) rfl (by simp))) ?_ | refine l_op (o_call (f := 111) rfl rfl (by decide) rfl rfl (fun w hw => atoi_ok_calls hsm HV.out)) ?_ | refine l_op (o_nil rfl rfl (by decide) rfl rfl) ?_ | refine l_op (o_ineq0 err_iface rfl rfl (by decide) rfl rfl) ?_ | refine l_loud0 (u_store 0 rfl rfl rfl rfl rfl rfl rfl) rfl (fun _ _ => ?_) | refine l_nil ?_ | refine s_seq ?_ | refine s_region ?_ | refine s_ret ?_ | refine l_op (o_slen Tryz.underlying9 rfl rfl (by decide) rfl rfl) ?_ | refine l_op (o_lss rfl rfl (by decide) rfl rfl rfl (by first | assumption | exact decide_eq_true (by omega) | exact decide_eq_false (by omega) | rfl)) ?_ | refine l_op (o_gtr rfl rfl (by decide) rfl rfl rfl (by first | assumption | exact decide_eq_true (by omega) | exact decide_eq_false (by omega) | rfl)) ?_ | refine l_op (o_pick_yes rfl rfl (by decide) rfl rfl rfl) ?_ | refine l_op (o_pick_no rfl rfl (by decide) rfl rfl rfl) ?_ | refine l_op (o_extract rfl rfl (by decide) rfl rfl rfl) ?_)
        exact x_body1 (by first | exact .inl rfl | exact .inr rfl) rfl (.tmp rfl) (fun w hw => ⟨(k1, q1), rfl, HY.out, hw⟩)
      rw [decide_eq_false h0]
      obtain ⟨u, hu⟩ : ∃ u, (Lib.itoa v == x) = u := ⟨_, rfl⟩
      have hne : ((⟨(Lib.itoa v).toArray⟩ : ByteArray).data.toList != (⟨x.toArray⟩ : ByteArray).data.toList) = !u := by rw [← hu]; rfl
      rw [hu]
      clear hu
      repeat (first | refine l_op (o_move rfl rfl (by decide) rfl rfl) ?_ | refine l_op (o_assign rfl rfl (by decide) rfl rfl) ?_ | refine l_op (o_fieldAddr rfl rfl (by decide) rfl rfl) ?_ | refine l_op (o_load rfl rfl (by decide) rfl rfl (by first | exact fun w hw => hw.cell_blkL 0 rfl rfl | exact fun w hw => hw.cell_blkL 1 rfl rfl | exact fun w hw => hw.cell_blkL 2 rfl rfl | exact fun w hw => hw.cell_blkL 3 rfl rfl | exact fun w hw => hw.cell_blkL 4 rfl rfl | exact fun w hw => hw.cell_blkL 5 rfl rfl | exact fun w hw => hw.cell_old (by assumption) (by simp) | exact fun w hw => hw.cell_range (by assumption) rfl (by simp))) ?_ | refine l_op (o_call (f := 111) rfl rfl (by decide) rfl rfl (fun w hw => atoi_ok_calls hsm HV.out)) ?_ | refine l_op (o_call (f := 67) rfl rfl (by decide) rfl rfl (fun w hw => itoa_calls (HG.out.on hw.k.below) (by omega) (by omega))) ?_ | refine l_op (o_nil rfl rfl (by decide) rfl rfl) ?_ | refine l_op (o_ineq0 err_iface rfl rfl (by decide) rfl rfl) ?_ | refine l_loud0 (u_store 0 rfl rfl rfl rfl rfl rfl rfl) rfl (fun _ _ => ?_) | refine l_nil ?_ | refine s_seq ?_ | refine s_region ?_ | refine s_ret ?_ | refine l_op (o_slen Tryz.underlying9 rfl rfl (by decide) rfl rfl) ?_ | refine l_op (o_lss rfl rfl (by decide) rfl rfl rfl (by first | assumption | exact decide_eq_true (by omega) | exact decide_eq_false (by omega) | rfl)) ?_ | refine l_op (o_gtr rfl rfl (by decide) rfl rfl rfl (by first | assumption | exact decide_eq_true (by omega) | exact decide_eq_false (by omega) | rfl)) ?_ | refine l_op (o_pick_no rfl rfl (by decide) rfl rfl rfl) ?_ | refine l_op (o_sneq rfl rfl (by decide) rfl rfl rfl (by first | assumption | rfl)) ?_ | refine l_op (o_extract rfl rfl (by decide) rfl rfl rfl) ?_)
      exact x_body1 (by first | exact .inl rfl | exact .inr rfl) rfl (.tmp rfl) (fun w hw => ⟨(k1, q1), rfl, HY.out, by cases u <;> exact hw⟩)
  · have hbad : (Lib.atoiAll x = .«syntax» ∧ atoiV x = 0) ∨ (Lib.atoiAll x = .range ∧ atoiV x = Lib.atoiSat x) := by
      unfold atoiV
      cases ha : Lib.atoiAll x with
      | ok v => exact absurd ⟨v, ha⟩ hok
      | range => exact .inr ⟨rfl, rfl⟩
      | _ => exact .inl ⟨rfl, rfl⟩
    have hnv : numOk x = false := by
      unfold numOk
      rcases hbad with ⟨h, _⟩ | ⟨h, _⟩ <;> rw [h]
    rw [hnv]
    obtain ⟨v, hv⟩ : ∃ v, atoiV x = v := ⟨_, rfl⟩
    rw [hv] at hbad ⊢
    have HV := Lib.hid (show (Lib.atoiAll (⟨x.toArray⟩ : ByteArray).data.toList = .«syntax» ∧ v = 0) ∨ (Lib.atoiAll (⟨x.toArray⟩ : ByteArray).data.toList = .range ∧ v = Lib.atoiSat (⟨x.toArray⟩ : ByteArray).data.toList) from hbad)
    clear hok hbad hnv hv
    cases b1 with
    | true =>
      repeat (first | refine l_op (o_move rfl rfl (by decide) rfl rfl) ?_ | refine l_op (o_assign rfl rfl (by decide) rfl rfl) ?_ | refine l_op (o_fieldAddr rfl rfl (by decide) rfl rfl) ?_ | refine l_op (o_skip rfl (by decide) rfl) ?_ | refine l_op (o_load rfl rfl (by decide) rfl rfl (by first | exact fun w hw => hw.cell_blkL 0 rfl rfl | exact fun w hw => hw.cell_blkL 1 rfl rfl | exact fun w hw => hw.cell_blkL 2 rfl rfl | exact fun w hw => hw.cell_blkL 3 rfl rfl | exact fun w hw => hw.cell_blkL 4 rfl rfl | exact fun w hw => hw.cell_blkL 5 rfl rfl | exact fun w hw => hw.cell_old (by assumption) (by simp) | exact fun w hw => hw.cell_range (by assumption) rfl (by simp))) ?_ | refine l_loud (u_call _ _ _ (f := 111) rfl rfl rfl (fun w hw => atoi_bad_wd (HG.out.on hw.k.below) hsm HV.out hw)) rfl (by decide) (fun ne _ => ?_) | refine l_op (o_nil rfl rfl (by decide) rfl rfl) ?_ | refine l_loud0 (u_store 0 rfl rfl rfl rfl rfl rfl rfl) rfl (fun _ _ => ?_) | refine l_nil ?_ | refine s_seq ?_ | refine s_region ?_ | refine s_ret ?_ | refine l_op (o_pick_yes rfl rfl (by decide) rfl rfl rfl) ?_ | refine l_op (o_extract rfl rfl (by decide) rfl rfl rfl) ?_)
      exact x_body1 (by first | exact .inl rfl | exact .inr rfl) rfl (.tmp rfl) (fun w hw => ⟨(k1, q1), rfl, HY.out, hw⟩)
    | false =>
      repeat (first | refine l_op (o_move rfl rfl (by decide) rfl rfl) ?_ | refine l_op (o_assign rfl rfl (by decide) rfl rfl) ?_ | refine l_op (o_fieldAddr rfl rfl (by decide) rfl rfl) ?_ | refine l_op (o_skip rfl (by decide) rfl) ?_ | refine l_op (o_load rfl rfl (by decide) rfl rfl (by first | exact fun w hw => hw.cell_blkL 0 rfl rfl | exact fun w hw => hw.cell_blkL 1 rfl rfl | exact fun w hw => hw.cell_blkL 2 rfl rfl | exact fun w hw => hw.cell_blkL 3 rfl rfl | exact fun w hw => hw.cell_blkL 4 rfl rfl | exact fun w hw => hw.cell_blkL 5 rfl rfl | exact fun w hw => hw.cell_old (by assumption) (by simp) | exact fun w hw => hw.cell_range (by assumption) rfl (by simp))) ?_ | refine l_loud (u_call _ _ _ (f := 111) rfl rfl rfl (fun w hw => atoi_bad_wd (HG.out.on hw.k.below) hsm HV.out hw)) rfl (by decide) (fun ne _ => ?_) | refine l_op (o_nil rfl rfl (by decide) rfl rfl) ?_ | refine l_op (o_ineq1 err_iface rfl rfl (by decide) rfl rfl) ?_ | refine l_loud0 (u_store 0 rfl rfl rfl rfl rfl rfl rfl) rfl (fun _ _ => ?_) | refine l_nil ?_ | refine s_seq ?_ | refine s_region ?_ | refine s_ret ?_ | refine l_op (o_pick_yes rfl rfl (by decide) rfl rfl rfl) ?_ | refine l_op (o_pick_no rfl rfl (by decide) rfl rfl rfl) ?_ | refine l_op (o_extract rfl rfl (by decide) rfl rfl rfl) ?_)
      exact x_body1 (by first | exact .inl rfl | exact .inr rfl) rfl (.tmp rfl) (fun w hw => ⟨(k1, q1), rfl, HY.out, hw⟩)
end
end Go.Proofs.YtgdiadednlajgaaGreatDoor
namespace Go.Proofs.YtgdiadednlajgaaGreatDoor
open Go.RowKit
set_option linter.unusedVariables false
set_option linter.unusedSimpArgs false
theorem idx_find (x : List UInt8) : ∀ (zs : List (List UInt8)) (i : Nat), Lib.idxFromS (zs.map fun l => (⟨l.toArray⟩ : ByteArray)) ⟨x.toArray⟩ i = match zs.findIdx? (· == x) with | some j => ((i + j : Nat) : Int) | none => -1
  | [], i => rfl
  | z :: zs, i => by
    rw [List.map_cons, Lib.idxFromS, List.findIdx?_cons]
    by_cases h : z = x
    · subst h
      simp
    · have h1 : ¬ (⟨z.toArray⟩ : ByteArray) = ⟨x.toArray⟩ := by
        intro e
        apply h
        have := congrArg (fun s : ByteArray => s.data.toList) e
        simpa using this
      have h2 : (z == x) = false := beq_eq_false_iff_ne.2 h
      rw [h2, if_neg h1, if_neg Bool.false_ne_true, idx_find x zs (i + 1)]
      cases zs.findIdx? (· == x) with
      | none => rfl
      | some j =>
        show ((i + 1 + j : Nat) : Int) = ((i + (j + 1) : Nat) : Int)
        congr 1
        omega
theorem kidx_calls {w : World} {b : Nat} {x : List UInt8} (hr : Rd w w.heap.size 1 (some ⟨b, 0, none⟩) 10 (sv kindWs)) : Calls Tryz.prog 76 #[.slice (some ⟨b, 0, none⟩) 10 10, .string ⟨x.toArray⟩] w fun e w' => e = .returned (.int .i64 (kwK x - 1)) ∧ Below w.heap.size w w' := by
  refine (Tryz.slices_Index_string b 0 10 10 (kindWs.map fun l => (⟨l.toArray⟩ : ByteArray)) ⟨x.toArray⟩ w (by decide) (by decide) (fun j hj => ?_)).mono ?_
  · obtain ⟨b', o, e, _, hc⟩ := hr.2 (by decide)
    cases e
    refine hc j _ ?_
    rw [List.length_map] at hj
    unfold sv
    rw [List.getElem?_map, List.getD_eq_getElem?_getD, List.getElem?_map, List.getElem?_eq_getElem hj]
    rfl
  · rintro e w' ⟨rfl, rfl⟩
    refine ⟨?_, Below.refl _ _⟩
    have h : Lib.idxOfS ((kindWs.map fun l => (⟨l.toArray⟩ : ByteArray)).take 10) ⟨x.toArray⟩ = kwK x - 1 := by
      rw [show (kindWs.map fun l => (⟨l.toArray⟩ : ByteArray)).take 10 = kindWs.map fun l => (⟨l.toArray⟩ : ByteArray) from rfl]
      unfold Lib.idxOfS
      rw [idx_find]
      unfold kwK
      cases kindWs.findIdx? (· == x) with
      | none => rfl
      | some j => simp only; omega
    rw [h]
theorem split_wd {M : List Nat} {W w : World} {O : List Atom} {l : List UInt8} (hg : GV w) (hl : l.length ≤ 1048576) (hw : Wd M W O w) :
    Calls Tryz.prog 74 #[.string ⟨l.toArray⟩, .string ⟨#[32]⟩] w (CallEnd (fun b : Nat => .slice (some ⟨b, 0, none⟩) (spl 32 l).length (spl 32 l).length) (fun _ => True) M W (fun b => .rd (some ⟨b, 0, none⟩) (spl 32 l).length 1 (sv (spl 32 l)) :: O)) := by
  obtain ⟨m, hm⟩ := hg.ml
  refine (Tryz.strings_Split ⟨l.toArray⟩ ⟨#[32]⟩ m w (by rw [ba_size]; omega) hm (by decide)).mono ?_
  rintro e w' ⟨rfl, rfl⟩
  have hd : (Lib.splitB ⟨#[32]⟩ 0 (Lib.countB ⟨l.toArray⟩ ⟨#[32]⟩) ⟨l.toArray⟩).map (fun s => s.data.toList) = spl 32 l := (Lib.splitB_data _ _ _ _).trans (split_eq 32 l)
  have hlen : (spl 32 l).length = Lib.countB ⟨l.toArray⟩ ⟨#[32]⟩ + 1 := by
    rw [← hd, List.length_map]
    exact Lib.splitB_all ⟨#[32]⟩ (by decide) 0 _ _ rfl
  have hcs : (Lib.splitB ⟨#[32]⟩ 0 (Lib.countB ⟨l.toArray⟩ ⟨#[32]⟩) ⟨l.toArray⟩).map Value.string = sv (spl 32 l) := by
    rw [← hd]
    unfold sv
    rw [List.map_map]
    refine List.map_congr_left fun s _ => ?_
    show Value.string s = Value.string ⟨s.data.toList.toArray⟩
    rw [show (⟨s.data.toList.toArray⟩ : ByteArray) = s from Lib.mk_data s]
  rw [hcs, ← hlen]
  refine ⟨w.heap.size, rfl, trivial, hw.push ((Below.refl _ _).alloc (Nat.le_refl _) _) ⟨by rw [sv_len, Nat.mul_one], fun _ => ⟨w.heap.size, 0, rfl, by simp, fun j u hu => ?_⟩⟩ (fun b' hb' => ?_)⟩
  · rw [Nat.zero_add]
    exact (cell_of_row _ w.heap.size j _ _ (0, 0) (heap_alloc_new _ _)).trans (by rw [List.getElem?_toArray]; exact hu)
  · simp only [Atom.foot] at hb'
    split at hb'
    · cases hb'
    · cases hb'; exact Nat.le_refl _
end Go.Proofs.YtgdiadednlajgaaGreatDoor
