import Derived.Test.YtgdiadednlajgaaGreatDoorP36
import Derived.Test.YtgdiadednlajgaaGreatDoorP37
namespace Go.Proofs.YtgdiadednlajgaaGreatDoor
open Go.RowKit
set_option linter.unusedVariables false
set_option linter.unusedSimpArgs false
theorem Wd.ofMap {M : List Nat} {W w : World} {O O' : List Atom} (f : Nat → Nat) (hf : ∀ i j, f i = f j → i = j) (hm : ∀ (i : Nat) (x : Atom), O'[i]? = some x → O[f i]? = some x) (h : Wd M W O w) : Wd M W O' w :=
  ⟨h.k, fun i x hx => h.own (f i) x (hm i x hx), fun i x b hx hb hl => h.new (f i) x b (hm i x hx) hb hl, fun i j x y b hx hy hb hb' hw => hf i j (h.nd (f i) (f j) x y b (hm i x hx) (hm j y hy) hb hb' hw)⟩
theorem Wd.rot3 {M : List Nat} {W w : World} {x a b c : Atom} {O : List Atom} (h : Wd M W (x :: a :: b :: c :: O) w) : Wd M W (a :: b :: c :: x :: O) w :=
  h.ofMap (fun i => if i < 3 then i + 1 else if i = 3 then 0 else i) (fun i j h => by (repeat' split at h) <;> omega) (fun i y hy => by
    match i, hy with
    | 0, hy => exact hy
    | 1, hy => exact hy
    | 2, hy => exact hy
    | 3, hy => exact hy
    | n + 4, hy =>
      rw [if_neg (by omega), if_neg (by omega)]
      exact hy)
section
variable {P : Program} {Q : Exit → Act → World → Prop} {ops : Array Oper} {N : Nat} {M : List Nat} {W : World} {E : Env} {O : List Atom} {x : Atom}
theorem l_tail {l : List Oper} (h : lE P ops Q N M W E O l) : lE P ops Q N M W E (x :: O) l := fun a w ha hw => h a w ha hw.tail
end
theorem cut_calls {w : World} (hg : GV w) {s : List UInt8} {c : UInt8} (hs : s.length ≤ 1048576) : Calls Tryz.prog 42 #[.string ⟨s.toArray⟩, .string ⟨#[c]⟩] w fun e w' => e = .returned (.tuple #[.string ⟨(cutL c s).1.toArray⟩, .string ⟨(cutL c s).2.1.toArray⟩, .bool (cutL c s).2.2]) ∧ Below w.heap.size w w' := by
  obtain ⟨m, hm⟩ := hg.ml
  refine (Tryz.strings_Cut ⟨s.toArray⟩ ⟨#[c]⟩ m w (by rw [ba_size]; omega) hm).mono ?_
  rintro e w' ⟨he, n, rfl⟩
  have h : Lib.cut (⟨s.toArray⟩ : ByteArray).data.toList (⟨#[c]⟩ : ByteArray).data.toList = cutL c s := cut_eq c s
  rw [h] at he
  exact ⟨he, below_drewN w n⟩
def pName (w : List UInt8) : List UInt8 := if (cutL 58 w).1 == [45] then [] else (cutL 58 w).1
def pRef (named : Bool) (w : List UInt8) : List UInt8 := if named then (cutL 58 w).2.1 else w
def pBad (named : Bool) (w : List UInt8) : Bool := if named then (!(cutL 58 w).2.2 || (!((cutL 58 w).1 == [45]) && !(isName (cutL 58 w).1))) || !(isName (cutL 58 w).2.1) else !(isName w)
theorem cutL_len (c : UInt8) : ∀ s : List UInt8, (cutL c s).1.length ≤ s.length ∧ (cutL c s).2.1.length ≤ s.length
  | [] => ⟨Nat.le_refl _, Nat.le_refl _⟩
  | b :: l => by
    have h := cutL_len c l
    unfold cutL
    split
    · simp
    · simp only [List.length_cons]
      omega
def wIn (ws : List (List UInt8)) (k j : Nat) : List (List UInt8) := (ws.drop k).take (j - k)
theorem wIn_zero (ws : List (List UInt8)) (k : Nat) : wIn ws k k = [] := by unfold wIn; rw [Nat.sub_self, List.take_zero]
theorem wIn_step {ws : List (List UInt8)} {k j : Nat} {x : List UInt8} (hk : k ≤ j) (h : ws[j]? = some x) : wIn ws k (j + 1) = wIn ws k j ++ [x] := by
  unfold wIn
  rw [show j + 1 - k = (j - k) + 1 by omega, List.take_add_one, List.getElem?_drop, show k + (j - k) = j by omega, h]
  rfl
theorem wIn_all {ws : List (List UInt8)} {k : Nat} : wIn ws k ws.length = ws.drop k := by
  unfold wIn
  rw [List.take_of_length_le (by rw [List.length_drop]; omega)]
theorem wIn_len (ws : List (List UInt8)) (k j : Nat) : (wIn ws k j).length ≤ j - k := by
  unfold wIn
  rw [List.length_take]
  omega
structure PaY where
  j : Nat
  q : Nat
  b : Bool
  ns : List (List UInt8)
  nm : List (List UInt8)
  A : Option Addr
  c : Nat
  A' : Option Addr
  c' : Nat
structure PaI (named : Bool) (ws : List (List UInt8)) (N k : Nat) (bad : Bool) (ns : List (List UInt8)) (y : PaY) : Prop where
  j : k ≤ y.j ∧ y.j ≤ N
  q : y.j < N → y.q = y.j
  b : y.b = (bad || (wIn ws k y.j).any (pBad named))
  ns : y.ns = ns ++ (wIn ws k y.j).map (pRef named)
  nm : y.nm = if named then (wIn ws k y.j).map pName else []
theorem PaI.step {named : Bool} {ws : List (List UInt8)} {N k : Nat} {bad : Bool} {ns : List (List UInt8)} {y : PaY} (h : PaI named ws N k bad ns y) (hj : y.j < N) {x : List UInt8} (hx : ws[y.j]? = some x) {q : Nat} (hq : y.j + 1 < N → q = y.j + 1) {A A' : Option Addr} {c c' : Nat} {b : Bool} {n1 n2 : List (List UInt8)} (hb : b = (y.b || pBad named x)) (h1 : n1 = y.ns ++ [pRef named x]) (h2 : n2 = if named then y.nm ++ [pName x] else []) : PaI named ws N k bad ns ⟨y.j + 1, q, b, n1, n2, A, c, A', c'⟩ := by
  have hs := wIn_step h.j.1 hx
  refine ⟨⟨by show k ≤ y.j + 1; have := h.j.1; omega, hj⟩, hq, ?_, ?_, ?_⟩
  · show b = (bad || (wIn ws k (y.j + 1)).any (pBad named))
    rw [hs, List.any_append, hb, h.b]
    simp [Bool.or_assoc]
  · show n1 = ns ++ (wIn ws k (y.j + 1)).map (pRef named)
    rw [hs, List.map_append, h1, h.ns]
    simp
  · show n2 = if named then (wIn ws k (y.j + 1)).map pName else []
    rw [hs, List.map_append, h2]
    cases named with
    | true =>
      have := h.nm
      simp only [if_true] at this ⊢
      rw [this]
      rfl
    | false => rfl
section
variable {W w : World} {O : List Atom} {br bw q N k c : Nat} {bad : Bool} {ws ns : List (List UInt8)} {A : Option Addr}
set_option maxRecDepth 100000 in
set_option maxHeartbeats 32000000 in
theorem parts_wd (named : Bool) (hg : GV W) (hall : ∀ s ∈ ws, s.length ≤ 1048576) (hN : ws.length = N) (hq : k < N → q = k) (hk : k ≤ N) (hn : N ≤ 100000) (hns : ns.length ≤ 10) (hw : Wd [] W (rdO br bw q N k bad ws A c ns ++ O) w) :
    Calls Tryz.prog 83 #[.pointer (some ⟨br, 0, none⟩), .bool named] w (CallEnd (fun y : PaY => .slice y.A' y.nm.length y.c') (fun y => y.j = N ∧ PaI named ws N k bad ns y) [] W (fun y => rdO br bw y.q N y.j y.b ws y.A y.c y.ns ++ (.row y.A' y.nm.length y.c' 9 1 (sv y.nm) :: O))) := by
  have HALL := Lib.hid hall
  have HG := Lib.hid hg
  have HN := Lib.hid hN
  clear hall hg
  go_enter Tryz.func83, Tryz.ntmps83
  refine s_go (M := []) (W := W) (N := 56) (E := [(0, .pointer (some ⟨br, 0, none⟩)), (1, .bool named)]) (O := rdO br bw q N k bad ws A c ns ++ O) ?_ (Ag.cons (Ag.cons (Ag.nil rfl rfl) rfl) rfl) hw
  repeat (first | refine l_op (o_assign rfl rfl (by decide) rfl rfl) ?_ | refine l_nil ?_ | refine s_seq ?_ | refine s_region ?_ | refine s_block ?_)
  refine s_row 9 1 ?_
  refine s_loopT (ι := PaY) (PaI named ws N k bad ns) (fun y => N - y.j) (fun y => [(0, .pointer (some ⟨br, 0, none⟩)), (1, .bool named), (5, .slice y.A' y.nm.length y.c')]) (fun y => rdO br bw y.q N y.j y.b ws y.A y.c y.ns ++ (.row y.A' y.nm.length y.c' 9 1 (sv y.nm) :: O)) ⟨k, q, bad, ns, [], A, c, none, 0⟩ ⟨⟨Nat.le_refl _, hk⟩, hq, by show bad = _; rw [wIn_zero]; simp, by show ns = _; rw [wIn_zero]; simp, by show [] = _; rw [wIn_zero]; cases named <;> rfl⟩ (.cons rfl rfl (.cons rfl rfl (.cons rfl rfl .nil))) (fun w hw => hw.rot3) ?_
  rintro ⟨j, q', b, ns', nm, A1, c1, A2, c2⟩ hinv
  have hj1 : k ≤ j := hinv.j.1
  have hj2 : j ≤ N := hinv.j.2
  have hq' : j < N → q' = j := hinv.q
  have hl1 : ns'.length ≤ 100010 := by
    have h1 : ns' = ns ++ (wIn ws k j).map (pRef named) := hinv.ns
    have h2 := wIn_len ws k j
    rw [h1, List.length_append, List.length_map]
    omega
  have hl2 : nm.length ≤ 100000 := by
    have h1 : nm = if named then (wIn ws k j).map pName else [] := hinv.nm
    have h2 := wIn_len ws k j
    rw [h1]
    split
    · rw [List.length_map]; omega
    · simp
  have HI := Lib.hid hinv
  clear hinv hq
  show sE _ _ _ _ _ [(0, .pointer (some ⟨br, 0, none⟩)), (1, .bool named), (5, .slice A2 nm.length c2)] (rdO br bw q' N j b ws A1 c1 ns' ++ (.row A2 nm.length c2 9 1 (sv nm) :: O)) _
  by_cases hjn : j < N
  · obtain ⟨x, hx⟩ : ∃ x, ws[j]? = some x := ⟨_, List.getElem?_eq_getElem (by omega)⟩
    have hwx : wAt ws j = x := by unfold wAt; rw [List.getD_eq_getElem?_getD, hx]; rfl
    have hxl := HALL.out x (List.mem_of_getElem? hx)
    have hdec : decide (N ≤ j) = false := decide_eq_false (by omega)
    have HX := Lib.hid hx
    have HWX := Lib.hid hwx
    have HSTEP := Lib.hid (fun (q2 : Nat) (hq2 : j + 1 < N → q2 = j + 1) (B1 B2 : Option Addr) (d1 d2 : Nat) (bb : Bool) (n1 n2 : List (List UInt8)) (h0 : bb = (b || pBad named x)) (h1 : n1 = ns' ++ [pRef named x]) (h2 : n2 = if named then nm ++ [pName x] else []) => HI.out.step (A := B1) (c := d1) (A' := B2) (c' := d2) hjn hx hq2 h0 h1 h2)
    clear hx hwx
    cases named with
    | false =>
      repeat (first | refine l_op (o_move rfl rfl (by decide) rfl rfl) ?_ | refine l_op (o_assign rfl rfl (by decide) rfl rfl) ?_ | refine l_op (o_fieldAddr rfl rfl (by decide) rfl rfl) ?_ | refine l_op (o_load rfl rfl (by decide) rfl rfl (by first | exact fun w hw => hw.cell_blkL 0 rfl rfl | exact fun w hw => hw.cell_blkL 1 rfl rfl | exact fun w hw => hw.cell_blkL 2 rfl rfl | exact fun w hw => hw.cell_blkL 3 rfl rfl | exact fun w hw => hw.cell_blkL 4 rfl rfl | exact fun w hw => hw.cell_blkL 5 rfl rfl | exact fun w hw => hw.cell_old (by assumption) (by simp) | exact fun w hw => hw.cell_range (by assumption) rfl (by simp))) ?_ | (refine l_loud (u_call _ _ _ (f := 75) rfl rfl rfl (fun w hw => next_wd HN.out hq' hj2 (by omega) hw)) rfl (by decide) (fun y hy => ?_); rw [HWX.out, hdec, Bool.or_false]) | refine l_op (o_nil rfl rfl (by decide) rfl rfl) ?_ | refine l_loud (u_call _ _ _ (f := 81) rfl rfl rfl (fun w hw => rule_wd (x := x) hxl (by omega) hw)) rfl (by decide) (fun yz _ => ?_) | refine l_nil ?_ | refine s_seq ?_ | refine s_region ?_ | refine s_skip ?_ | refine s_cond_true rfl ?_ | refine s_cond_false rfl ?_ | refine s_block ?_ | refine x_block_normal ?_ | refine l_op (o_len rfl rfl (by decide) rfl rfl) ?_ | refine l_op (o_gtr rfl rfl (by decide) rfl rfl rfl (by first | assumption | exact decide_eq_true (by omega) | exact decide_eq_false (by omega) | rfl)) ?_)
      have hy1 : y.1 = j + 1 := by rw [hy.1]; omega
      refine x_roundT ⟨j + 1, y.2, b || !(isName x), ns' ++ [x], nm, yz.1, yz.2, A2, c2⟩ (HSTEP.out y.2 (fun h => (hy.2 (by rw [hy1]; exact h)).trans hy1) yz.1 A2 yz.2 c2 _ _ _ rfl rfl ?_) (by show N - (j + 1) < N - j; omega) (.cons rfl rfl (.cons rfl rfl (.cons rfl rfl .nil))) (fun w hw => ?_)
      · have h : nm = if false then (wIn ws k j).map pName else [] := HI.out.nm
        exact h
      · rw [hy1] at hw
        exact hw
    | true =>
      have hcl := cutL_len 58 x
      have hpb : pBad true x = ((!(cutL 58 x).2.2 || (!((cutL 58 x).1 == [45]) && !(isName (cutL 58 x).1))) || !(isName (cutL 58 x).2.1)) := rfl
      have hpr : pRef true x = (cutL 58 x).2.1 := rfl
      have hpn : pName x = if (cutL 58 x).1 == [45] then [] else (cutL 58 x).1 := rfl
      obtain ⟨n1, hn1⟩ : ∃ z, (cutL 58 x).1 = z := ⟨_, rfl⟩
      obtain ⟨r1, hr1⟩ : ∃ z, (cutL 58 x).2.1 = z := ⟨_, rfl⟩
      obtain ⟨o1, ho1⟩ : ∃ z, (cutL 58 x).2.2 = z := ⟨_, rfl⟩
      rw [hn1, hr1] at hcl
      rw [hn1, hr1, ho1] at hpb
      rw [hr1] at hpr
      rw [hn1] at hpn
      obtain ⟨e45, he45⟩ : ∃ z, (n1 == ([45] : List UInt8)) = z := ⟨_, rfl⟩
      rw [he45] at hpb hpn
      have hnb : ((⟨n1.toArray⟩ : ByteArray).data.toList != (⟨#[45]⟩ : ByteArray).data.toList) = !e45 := by rw [← he45]; rfl
      have heb : ((⟨n1.toArray⟩ : ByteArray).data.toList == (⟨#[45]⟩ : ByteArray).data.toList) = e45 := by rw [← he45]
      have hsz1 := ba_size n1
      have hs1 : (⟨n1.toArray⟩ : ByteArray).size ≤ 9223372036854775807 := by omega
      obtain ⟨u, hu⟩ : ∃ u, isName n1 = u := ⟨_, rfl⟩
      have HU := Lib.hid (show isName (⟨n1.toArray⟩ : ByteArray).data.toList = u from hu)
      rw [hu] at hpb
      have HN1 := Lib.hid hn1
      have HR1 := Lib.hid hr1
      have HO1 := Lib.hid ho1
      have HPB := Lib.hid hpb
      have HPR := Lib.hid hpr
      have HPN := Lib.hid hpn
      have hr1l : r1.length ≤ 1048576 := by omega
      clear hn1 hr1 ho1 hpb hpr hpn he45 hu hcl
      cases b with
      | true =>
        cases e45 with
        | true =>
          skip
          repeat (first | refine l_op (o_move rfl rfl (by decide) rfl rfl) ?_ | refine l_op (o_assign rfl rfl (by decide) rfl rfl) ?_ | refine l_op (o_fieldAddr rfl rfl (by decide) rfl rfl) ?_ | refine l_op (o_skip rfl (by decide) rfl) ?_ | refine l_op (o_load rfl rfl (by decide) rfl rfl (by first | exact fun w hw => hw.cell_blkL 0 rfl rfl | exact fun w hw => hw.cell_blkL 1 rfl rfl | exact fun w hw => hw.cell_blkL 2 rfl rfl | exact fun w hw => hw.cell_blkL 3 rfl rfl | exact fun w hw => hw.cell_blkL 4 rfl rfl | exact fun w hw => hw.cell_blkL 5 rfl rfl | exact fun w hw => hw.cell_old (by assumption) (by simp) | exact fun w hw => hw.cell_range (by assumption) rfl (by simp))) ?_ | (refine l_loud (u_call _ _ _ (f := 75) rfl rfl rfl (fun w hw => next_wd HN.out hq' hj2 (by omega) hw)) rfl (by decide) (fun y hy => ?_); rw [HWX.out, hdec, Bool.or_false]) | refine l_op (o_nil rfl rfl (by decide) rfl rfl) ?_ | (refine l_op (o_call (f := 42) rfl rfl (by decide) rfl rfl (fun w hw => cut_calls (HG.out.on hw.k.below) hxl)) ?_; rw [HN1.out, HR1.out, HO1.out]) | refine l_loud0 (u_store 0 rfl rfl rfl rfl rfl rfl rfl) rfl (fun _ _ => ?_) | refine l_loud (u_slice1 (size := 1) (cs := [.string ⟨([] : List UInt8).toArray⟩]) rfl rfl rfl rfl rfl (by decide)) rfl (by decide) (fun bn _ => ?_) | refine l_loud (u_append (news := [.string ⟨([] : List UInt8).toArray⟩]) 4 rfl rfl rfl rfl rfl (fun w hw => hw.rd_blk 0 rfl rfl) (by simp [Value.oneCell']) (by omega)) rfl (by decide) (fun ym _ => ?_) | refine l_nil ?_ | refine s_seq ?_ | refine s_region ?_ | refine s_skip ?_ | refine s_cond_true rfl ?_ | refine s_block ?_ | refine l_op (o_len rfl rfl (by decide) rfl rfl) ?_ | refine l_op (o_gtr rfl rfl (by decide) rfl rfl rfl (by first | assumption | exact decide_eq_true (by omega) | exact decide_eq_false (by omega) | rfl)) ?_ | refine l_op (o_pick_yes rfl rfl (by decide) rfl rfl rfl) ?_ | refine l_op (o_seql rfl rfl (by decide) rfl rfl rfl (by first | assumption | rfl)) ?_ | refine l_op (o_extract rfl rfl (by decide) rfl rfl rfl) ?_)
          refine l_tail ?_
          repeat (first | refine l_loud (u_call _ _ _ (f := 81) rfl rfl rfl (fun w hw => rule_wd (x := r1) hr1l (by omega) hw)) rfl (by decide) (fun yz _ => ?_) | refine l_nil ?_ | refine x_block_normal ?_)
          have hy1 : y.1 = j + 1 := by rw [hy.1]; omega
          refine x_roundT ⟨j + 1, y.2, true || !(isName r1), ns' ++ [r1], nm ++ [[]], yz.1, yz.2, ym.1, ym.2⟩ (HSTEP.out y.2 (fun h => (hy.2 (by rw [hy1]; exact h)).trans hy1) yz.1 ym.1 yz.2 ym.2 _ _ _ ?_ ?_ ?_) (by show N - (j + 1) < N - j; omega) (.cons rfl rfl (.cons rfl rfl (.cons rfl (by rw [List.length_append]; rfl) .nil))) (fun w hw => ?_)
          · rw [HPB.out]; simp
          · rw [HPR.out]
          · rw [HPN.out]; rfl
          · rw [hy1] at hw
            show Wd [] W (rdO br bw y.2 N (j + 1) (true || !(isName r1)) ws yz.1 yz.2 (ns' ++ [r1]) ++ (.row ym.1 (nm ++ [[]]).length ym.2 9 1 (sv (nm ++ [[]])) :: O)) w
            have e1 : (nm ++ [([] : List UInt8)]).length = nm.length + 1 := by simp
            have e2 : sv (nm ++ [([] : List UInt8)]) = sv nm ++ [.string ⟨([] : List UInt8).toArray⟩] := sv_app _ _
            rw [e1, e2]
            exact hw
        | false =>
          skip
          repeat (first | refine l_op (o_move rfl rfl (by decide) rfl rfl) ?_ | refine l_op (o_assign rfl rfl (by decide) rfl rfl) ?_ | refine l_op (o_fieldAddr rfl rfl (by decide) rfl rfl) ?_ | refine l_op (o_skip rfl (by decide) rfl) ?_ | refine l_op (o_load rfl rfl (by decide) rfl rfl (by first | exact fun w hw => hw.cell_blkL 0 rfl rfl | exact fun w hw => hw.cell_blkL 1 rfl rfl | exact fun w hw => hw.cell_blkL 2 rfl rfl | exact fun w hw => hw.cell_blkL 3 rfl rfl | exact fun w hw => hw.cell_blkL 4 rfl rfl | exact fun w hw => hw.cell_blkL 5 rfl rfl | exact fun w hw => hw.cell_old (by assumption) (by simp) | exact fun w hw => hw.cell_range (by assumption) rfl (by simp))) ?_ | (refine l_loud (u_call _ _ _ (f := 75) rfl rfl rfl (fun w hw => next_wd HN.out hq' hj2 (by omega) hw)) rfl (by decide) (fun y hy => ?_); rw [HWX.out, hdec, Bool.or_false]) | refine l_op (o_nil rfl rfl (by decide) rfl rfl) ?_ | (refine l_op (o_call (f := 42) rfl rfl (by decide) rfl rfl (fun w hw => cut_calls (HG.out.on hw.k.below) hxl)) ?_; rw [HN1.out, HR1.out, HO1.out]) | refine l_loud0 (u_store 0 rfl rfl rfl rfl rfl rfl rfl) rfl (fun _ _ => ?_) | refine l_loud (u_slice1 (size := 1) (cs := [.string ⟨(n1 : List UInt8).toArray⟩]) rfl rfl rfl rfl rfl (by decide)) rfl (by decide) (fun bn _ => ?_) | refine l_loud (u_append (news := [.string ⟨(n1 : List UInt8).toArray⟩]) 4 rfl rfl rfl rfl rfl (fun w hw => hw.rd_blk 0 rfl rfl) (by simp [Value.oneCell']) (by omega)) rfl (by decide) (fun ym _ => ?_) | refine l_nil ?_ | refine s_seq ?_ | refine s_region ?_ | refine s_skip ?_ | refine s_cond_true rfl ?_ | refine s_cond_false rfl ?_ | refine s_block ?_ | refine l_op (o_len rfl rfl (by decide) rfl rfl) ?_ | refine l_op (o_gtr rfl rfl (by decide) rfl rfl rfl (by first | assumption | exact decide_eq_true (by omega) | exact decide_eq_false (by omega) | rfl)) ?_ | refine l_op (o_pick_yes rfl rfl (by decide) rfl rfl rfl) ?_ | refine l_op (o_seql rfl rfl (by decide) rfl rfl rfl (by first | assumption | rfl)) ?_ | refine l_op (o_extract rfl rfl (by decide) rfl rfl rfl) ?_)
          refine l_tail ?_
          repeat (first | refine l_loud (u_call _ _ _ (f := 81) rfl rfl rfl (fun w hw => rule_wd (x := r1) hr1l (by omega) hw)) rfl (by decide) (fun yz _ => ?_) | refine l_nil ?_ | refine x_block_normal ?_)
          have hy1 : y.1 = j + 1 := by rw [hy.1]; omega
          refine x_roundT ⟨j + 1, y.2, true || !(isName r1), ns' ++ [r1], nm ++ [n1], yz.1, yz.2, ym.1, ym.2⟩ (HSTEP.out y.2 (fun h => (hy.2 (by rw [hy1]; exact h)).trans hy1) yz.1 ym.1 yz.2 ym.2 _ _ _ ?_ ?_ ?_) (by show N - (j + 1) < N - j; omega) (.cons rfl rfl (.cons rfl rfl (.cons rfl (by rw [List.length_append]; rfl) .nil))) (fun w hw => ?_)
          · rw [HPB.out]; simp
          · rw [HPR.out]
          · rw [HPN.out]; rfl
          · rw [hy1] at hw
            show Wd [] W (rdO br bw y.2 N (j + 1) (true || !(isName r1)) ws yz.1 yz.2 (ns' ++ [r1]) ++ (.row ym.1 (nm ++ [n1]).length ym.2 9 1 (sv (nm ++ [n1])) :: O)) w
            have e1 : (nm ++ [(n1 : List UInt8)]).length = nm.length + 1 := by simp
            have e2 : sv (nm ++ [(n1 : List UInt8)]) = sv nm ++ [.string ⟨(n1 : List UInt8).toArray⟩] := sv_app _ _
            rw [e1, e2]
            exact hw
      | false =>
        cases o1 with
        | false =>
          cases e45 with
          | true =>
            skip
            repeat (first | refine l_op (o_move rfl rfl (by decide) rfl rfl) ?_ | refine l_op (o_assign rfl rfl (by decide) rfl rfl) ?_ | refine l_op (o_fieldAddr rfl rfl (by decide) rfl rfl) ?_ | refine l_op (o_skip rfl (by decide) rfl) ?_ | refine l_op (o_load rfl rfl (by decide) rfl rfl (by first | exact fun w hw => hw.cell_blkL 0 rfl rfl | exact fun w hw => hw.cell_blkL 1 rfl rfl | exact fun w hw => hw.cell_blkL 2 rfl rfl | exact fun w hw => hw.cell_blkL 3 rfl rfl | exact fun w hw => hw.cell_blkL 4 rfl rfl | exact fun w hw => hw.cell_blkL 5 rfl rfl | exact fun w hw => hw.cell_old (by assumption) (by simp) | exact fun w hw => hw.cell_range (by assumption) rfl (by simp))) ?_ | (refine l_loud (u_call _ _ _ (f := 75) rfl rfl rfl (fun w hw => next_wd HN.out hq' hj2 (by omega) hw)) rfl (by decide) (fun y hy => ?_); rw [HWX.out, hdec, Bool.or_false]) | refine l_op (o_nil rfl rfl (by decide) rfl rfl) ?_ | (refine l_op (o_call (f := 42) rfl rfl (by decide) rfl rfl (fun w hw => cut_calls (HG.out.on hw.k.below) hxl)) ?_; rw [HN1.out, HR1.out, HO1.out]) | refine l_loud0 (u_store 0 rfl rfl rfl rfl rfl rfl rfl) rfl (fun _ _ => ?_) | refine l_loud (u_slice1 (size := 1) (cs := [.string ⟨([] : List UInt8).toArray⟩]) rfl rfl rfl rfl rfl (by decide)) rfl (by decide) (fun bn _ => ?_) | refine l_loud (u_append (news := [.string ⟨([] : List UInt8).toArray⟩]) 4 rfl rfl rfl rfl rfl (fun w hw => hw.rd_blk 0 rfl rfl) (by simp [Value.oneCell']) (by omega)) rfl (by decide) (fun ym _ => ?_) | refine l_nil ?_ | refine s_seq ?_ | refine s_region ?_ | refine s_skip ?_ | refine s_cond_true rfl ?_ | refine s_block ?_ | refine l_op (o_len rfl rfl (by decide) rfl rfl) ?_ | refine l_op (o_gtr rfl rfl (by decide) rfl rfl rfl (by first | assumption | exact decide_eq_true (by omega) | exact decide_eq_false (by omega) | rfl)) ?_ | refine l_op (o_pick_yes rfl rfl (by decide) rfl rfl rfl) ?_ | refine l_op (o_pick_no rfl rfl (by decide) rfl rfl rfl) ?_ | refine l_op (o_not rfl rfl (by decide) rfl rfl rfl) ?_ | refine l_op (o_seql rfl rfl (by decide) rfl rfl rfl (by first | assumption | rfl)) ?_ | refine l_op (o_extract rfl rfl (by decide) rfl rfl rfl) ?_)
            refine l_tail ?_
            repeat (first | refine l_loud (u_call _ _ _ (f := 81) rfl rfl rfl (fun w hw => rule_wd (x := r1) hr1l (by omega) hw)) rfl (by decide) (fun yz _ => ?_) | refine l_nil ?_ | refine x_block_normal ?_)
            have hy1 : y.1 = j + 1 := by rw [hy.1]; omega
            refine x_roundT ⟨j + 1, y.2, true || !(isName r1), ns' ++ [r1], nm ++ [[]], yz.1, yz.2, ym.1, ym.2⟩ (HSTEP.out y.2 (fun h => (hy.2 (by rw [hy1]; exact h)).trans hy1) yz.1 ym.1 yz.2 ym.2 _ _ _ ?_ ?_ ?_) (by show N - (j + 1) < N - j; omega) (.cons rfl rfl (.cons rfl rfl (.cons rfl (by rw [List.length_append]; rfl) .nil))) (fun w hw => ?_)
            · rw [HPB.out]; simp
            · rw [HPR.out]
            · rw [HPN.out]; rfl
            · rw [hy1] at hw
              show Wd [] W (rdO br bw y.2 N (j + 1) (true || !(isName r1)) ws yz.1 yz.2 (ns' ++ [r1]) ++ (.row ym.1 (nm ++ [[]]).length ym.2 9 1 (sv (nm ++ [[]])) :: O)) w
              have e1 : (nm ++ [([] : List UInt8)]).length = nm.length + 1 := by simp
              have e2 : sv (nm ++ [([] : List UInt8)]) = sv nm ++ [.string ⟨([] : List UInt8).toArray⟩] := sv_app _ _
              rw [e1, e2]
              exact hw
          | false =>
            skip
            repeat (first | refine l_op (o_move rfl rfl (by decide) rfl rfl) ?_ | refine l_op (o_assign rfl rfl (by decide) rfl rfl) ?_ | refine l_op (o_fieldAddr rfl rfl (by decide) rfl rfl) ?_ | refine l_op (o_skip rfl (by decide) rfl) ?_ | refine l_op (o_load rfl rfl (by decide) rfl rfl (by first | exact fun w hw => hw.cell_blkL 0 rfl rfl | exact fun w hw => hw.cell_blkL 1 rfl rfl | exact fun w hw => hw.cell_blkL 2 rfl rfl | exact fun w hw => hw.cell_blkL 3 rfl rfl | exact fun w hw => hw.cell_blkL 4 rfl rfl | exact fun w hw => hw.cell_blkL 5 rfl rfl | exact fun w hw => hw.cell_old (by assumption) (by simp) | exact fun w hw => hw.cell_range (by assumption) rfl (by simp))) ?_ | (refine l_loud (u_call _ _ _ (f := 75) rfl rfl rfl (fun w hw => next_wd HN.out hq' hj2 (by omega) hw)) rfl (by decide) (fun y hy => ?_); rw [HWX.out, hdec, Bool.or_false]) | refine l_op (o_nil rfl rfl (by decide) rfl rfl) ?_ | (refine l_op (o_call (f := 42) rfl rfl (by decide) rfl rfl (fun w hw => cut_calls (HG.out.on hw.k.below) hxl)) ?_; rw [HN1.out, HR1.out, HO1.out]) | refine l_loud0 (u_store 0 rfl rfl rfl rfl rfl rfl rfl) rfl (fun _ _ => ?_) | refine l_loud (u_slice1 (size := 1) (cs := [.string ⟨(n1 : List UInt8).toArray⟩]) rfl rfl rfl rfl rfl (by decide)) rfl (by decide) (fun bn _ => ?_) | refine l_loud (u_append (news := [.string ⟨(n1 : List UInt8).toArray⟩]) 4 rfl rfl rfl rfl rfl (fun w hw => hw.rd_blk 0 rfl rfl) (by simp [Value.oneCell']) (by omega)) rfl (by decide) (fun ym _ => ?_) | refine l_nil ?_ | refine s_seq ?_ | refine s_region ?_ | refine s_skip ?_ | refine s_cond_true rfl ?_ | refine s_cond_false rfl ?_ | refine s_block ?_ | refine l_op (o_len rfl rfl (by decide) rfl rfl) ?_ | refine l_op (o_gtr rfl rfl (by decide) rfl rfl rfl (by first | assumption | exact decide_eq_true (by omega) | exact decide_eq_false (by omega) | rfl)) ?_ | refine l_op (o_pick_yes rfl rfl (by decide) rfl rfl rfl) ?_ | refine l_op (o_pick_no rfl rfl (by decide) rfl rfl rfl) ?_ | refine l_op (o_not rfl rfl (by decide) rfl rfl rfl) ?_ | refine l_op (o_seql rfl rfl (by decide) rfl rfl rfl (by first | assumption | rfl)) ?_ | refine l_op (o_extract rfl rfl (by decide) rfl rfl rfl) ?_)
            refine l_tail ?_
            repeat (first | refine l_loud (u_call _ _ _ (f := 81) rfl rfl rfl (fun w hw => rule_wd (x := r1) hr1l (by omega) hw)) rfl (by decide) (fun yz _ => ?_) | refine l_nil ?_ | refine x_block_normal ?_)
            have hy1 : y.1 = j + 1 := by rw [hy.1]; omega
            refine x_roundT ⟨j + 1, y.2, true || !(isName r1), ns' ++ [r1], nm ++ [n1], yz.1, yz.2, ym.1, ym.2⟩ (HSTEP.out y.2 (fun h => (hy.2 (by rw [hy1]; exact h)).trans hy1) yz.1 ym.1 yz.2 ym.2 _ _ _ ?_ ?_ ?_) (by show N - (j + 1) < N - j; omega) (.cons rfl rfl (.cons rfl rfl (.cons rfl (by rw [List.length_append]; rfl) .nil))) (fun w hw => ?_)
            · rw [HPB.out]; simp
            · rw [HPR.out]
            · rw [HPN.out]; rfl
            · rw [hy1] at hw
              show Wd [] W (rdO br bw y.2 N (j + 1) (true || !(isName r1)) ws yz.1 yz.2 (ns' ++ [r1]) ++ (.row ym.1 (nm ++ [n1]).length ym.2 9 1 (sv (nm ++ [n1])) :: O)) w
              have e1 : (nm ++ [(n1 : List UInt8)]).length = nm.length + 1 := by simp
              have e2 : sv (nm ++ [(n1 : List UInt8)]) = sv nm ++ [.string ⟨(n1 : List UInt8).toArray⟩] := sv_app _ _
              rw [e1, e2]
              exact hw
        | true =>
          cases e45 with
          | true =>
            skip
            repeat (first | refine l_op (o_move rfl rfl (by decide) rfl rfl) ?_ | refine l_op (o_assign rfl rfl (by decide) rfl rfl) ?_ | refine l_op (o_fieldAddr rfl rfl (by decide) rfl rfl) ?_ | refine l_op (o_skip rfl (by decide) rfl) ?_ | refine l_op (o_load rfl rfl (by decide) rfl rfl (by first | exact fun w hw => hw.cell_blkL 0 rfl rfl | exact fun w hw => hw.cell_blkL 1 rfl rfl | exact fun w hw => hw.cell_blkL 2 rfl rfl | exact fun w hw => hw.cell_blkL 3 rfl rfl | exact fun w hw => hw.cell_blkL 4 rfl rfl | exact fun w hw => hw.cell_blkL 5 rfl rfl | exact fun w hw => hw.cell_old (by assumption) (by simp) | exact fun w hw => hw.cell_range (by assumption) rfl (by simp))) ?_ | (refine l_loud (u_call _ _ _ (f := 75) rfl rfl rfl (fun w hw => next_wd HN.out hq' hj2 (by omega) hw)) rfl (by decide) (fun y hy => ?_); rw [HWX.out, hdec, Bool.or_false]) | refine l_op (o_nil rfl rfl (by decide) rfl rfl) ?_ | (refine l_op (o_call (f := 42) rfl rfl (by decide) rfl rfl (fun w hw => cut_calls (HG.out.on hw.k.below) hxl)) ?_; rw [HN1.out, HR1.out, HO1.out]) | refine l_loud0 (u_store 0 rfl rfl rfl rfl rfl rfl rfl) rfl (fun _ _ => ?_) | refine l_loud (u_slice1 (size := 1) (cs := [.string ⟨([] : List UInt8).toArray⟩]) rfl rfl rfl rfl rfl (by decide)) rfl (by decide) (fun bn _ => ?_) | refine l_loud (u_append (news := [.string ⟨([] : List UInt8).toArray⟩]) 4 rfl rfl rfl rfl rfl (fun w hw => hw.rd_blk 0 rfl rfl) (by simp [Value.oneCell']) (by omega)) rfl (by decide) (fun ym _ => ?_) | refine l_nil ?_ | refine s_seq ?_ | refine s_region ?_ | refine s_skip ?_ | refine s_cond_true rfl ?_ | refine s_block ?_ | refine l_op (o_len rfl rfl (by decide) rfl rfl) ?_ | refine l_op (o_gtr rfl rfl (by decide) rfl rfl rfl (by first | assumption | exact decide_eq_true (by omega) | exact decide_eq_false (by omega) | rfl)) ?_ | refine l_op (o_pick_no rfl rfl (by decide) rfl rfl rfl) ?_ | refine l_op (o_not rfl rfl (by decide) rfl rfl rfl) ?_ | refine l_op (o_seql rfl rfl (by decide) rfl rfl rfl (by first | assumption | rfl)) ?_ | refine l_op (o_sneq rfl rfl (by decide) rfl rfl rfl (by first | assumption | rfl)) ?_ | refine l_op (o_extract rfl rfl (by decide) rfl rfl rfl) ?_)
            refine l_tail ?_
            repeat (first | refine l_loud (u_call _ _ _ (f := 81) rfl rfl rfl (fun w hw => rule_wd (x := r1) hr1l (by omega) hw)) rfl (by decide) (fun yz _ => ?_) | refine l_nil ?_ | refine x_block_normal ?_)
            have hy1 : y.1 = j + 1 := by rw [hy.1]; omega
            refine x_roundT ⟨j + 1, y.2, false || !(isName r1), ns' ++ [r1], nm ++ [[]], yz.1, yz.2, ym.1, ym.2⟩ (HSTEP.out y.2 (fun h => (hy.2 (by rw [hy1]; exact h)).trans hy1) yz.1 ym.1 yz.2 ym.2 _ _ _ ?_ ?_ ?_) (by show N - (j + 1) < N - j; omega) (.cons rfl rfl (.cons rfl rfl (.cons rfl (by rw [List.length_append]; rfl) .nil))) (fun w hw => ?_)
            · rw [HPB.out]; simp
            · rw [HPR.out]
            · rw [HPN.out]; rfl
            · rw [hy1] at hw
              show Wd [] W (rdO br bw y.2 N (j + 1) (false || !(isName r1)) ws yz.1 yz.2 (ns' ++ [r1]) ++ (.row ym.1 (nm ++ [[]]).length ym.2 9 1 (sv (nm ++ [[]])) :: O)) w
              have e1 : (nm ++ [([] : List UInt8)]).length = nm.length + 1 := by simp
              have e2 : sv (nm ++ [([] : List UInt8)]) = sv nm ++ [.string ⟨([] : List UInt8).toArray⟩] := sv_app _ _
              rw [e1, e2]
              exact hw
          | false =>
            skip
            repeat (first | refine l_op (o_move rfl rfl (by decide) rfl rfl) ?_ | refine l_op (o_assign rfl rfl (by decide) rfl rfl) ?_ | refine l_op (o_fieldAddr rfl rfl (by decide) rfl rfl) ?_ | refine l_op (o_load rfl rfl (by decide) rfl rfl (by first | exact fun w hw => hw.cell_blkL 0 rfl rfl | exact fun w hw => hw.cell_blkL 1 rfl rfl | exact fun w hw => hw.cell_blkL 2 rfl rfl | exact fun w hw => hw.cell_blkL 3 rfl rfl | exact fun w hw => hw.cell_blkL 4 rfl rfl | exact fun w hw => hw.cell_blkL 5 rfl rfl | exact fun w hw => hw.cell_old (by assumption) (by simp) | exact fun w hw => hw.cell_range (by assumption) rfl (by simp))) ?_ | (refine l_loud (u_call _ _ _ (f := 75) rfl rfl rfl (fun w hw => next_wd HN.out hq' hj2 (by omega) hw)) rfl (by decide) (fun y hy => ?_); rw [HWX.out, hdec, Bool.or_false]) | refine l_op (o_nil rfl rfl (by decide) rfl rfl) ?_ | (refine l_op (o_call (f := 42) rfl rfl (by decide) rfl rfl (fun w hw => cut_calls (HG.out.on hw.k.below) hxl)) ?_; rw [HN1.out, HR1.out, HO1.out]) | (refine l_op (o_call (f := 77) rfl rfl (by decide) rfl rfl (fun w hw => name_calls _ w hs1)) ?_; rw [HU.out]) | refine l_loud0 (u_store 0 rfl rfl rfl rfl rfl rfl rfl) rfl (fun _ _ => ?_) | refine l_loud (u_slice1 (size := 1) (cs := [.string ⟨(n1 : List UInt8).toArray⟩]) rfl rfl rfl rfl rfl (by decide)) rfl (by decide) (fun bn _ => ?_) | refine l_loud (u_append (news := [.string ⟨(n1 : List UInt8).toArray⟩]) 4 rfl rfl rfl rfl rfl (fun w hw => hw.rd_blk 0 rfl rfl) (by simp [Value.oneCell']) (by omega)) rfl (by decide) (fun ym _ => ?_) | refine l_nil ?_ | refine s_seq ?_ | refine s_region ?_ | refine s_skip ?_ | refine s_cond_true rfl ?_ | refine s_cond_false rfl ?_ | refine s_block ?_ | refine l_op (o_len rfl rfl (by decide) rfl rfl) ?_ | refine l_op (o_gtr rfl rfl (by decide) rfl rfl rfl (by first | assumption | exact decide_eq_true (by omega) | exact decide_eq_false (by omega) | rfl)) ?_ | refine l_op (o_pick_yes rfl rfl (by decide) rfl rfl rfl) ?_ | refine l_op (o_pick_no rfl rfl (by decide) rfl rfl rfl) ?_ | refine l_op (o_not rfl rfl (by decide) rfl rfl rfl) ?_ | refine l_op (o_seql rfl rfl (by decide) rfl rfl rfl (by first | assumption | rfl)) ?_ | refine l_op (o_sneq rfl rfl (by decide) rfl rfl rfl (by first | assumption | rfl)) ?_ | refine l_op (o_extract rfl rfl (by decide) rfl rfl rfl) ?_)
            refine l_tail ?_
            repeat (first | refine l_loud (u_call _ _ _ (f := 81) rfl rfl rfl (fun w hw => rule_wd (x := r1) hr1l (by omega) hw)) rfl (by decide) (fun yz _ => ?_) | refine l_nil ?_ | refine x_block_normal ?_)
            have hy1 : y.1 = j + 1 := by rw [hy.1]; omega
            refine x_roundT ⟨j + 1, y.2, (!u) || !(isName r1), ns' ++ [r1], nm ++ [n1], yz.1, yz.2, ym.1, ym.2⟩ (HSTEP.out y.2 (fun h => (hy.2 (by rw [hy1]; exact h)).trans hy1) yz.1 ym.1 yz.2 ym.2 _ _ _ ?_ ?_ ?_) (by show N - (j + 1) < N - j; omega) (.cons rfl rfl (.cons rfl rfl (.cons rfl (by rw [List.length_append]; rfl) .nil))) (fun w hw => ?_)
            · rw [HPB.out]; simp
            · rw [HPR.out]
            · rw [HPN.out]; rfl
            · rw [hy1] at hw
              show Wd [] W (rdO br bw y.2 N (j + 1) ((!u) || !(isName r1)) ws yz.1 yz.2 (ns' ++ [r1]) ++ (.row ym.1 (nm ++ [n1]).length ym.2 9 1 (sv (nm ++ [n1])) :: O)) w
              have e1 : (nm ++ [(n1 : List UInt8)]).length = nm.length + 1 := by simp
              have e2 : sv (nm ++ [(n1 : List UInt8)]) = sv nm ++ [.string ⟨(n1 : List UInt8).toArray⟩] := sv_app _ _
              rw [e1, e2]
              exact hw
  · obtain rfl : j = N := by omega
    repeat (first | refine l_op (o_move rfl rfl (by decide) rfl rfl) ?_ | refine l_op (o_assign rfl rfl (by decide) rfl rfl) ?_ | refine l_op (o_fieldAddr rfl rfl (by decide) rfl rfl) ?_ | refine l_op (o_load rfl rfl (by decide) rfl rfl (by first | exact fun w hw => hw.cell_blkL 0 rfl rfl | exact fun w hw => hw.cell_blkL 1 rfl rfl | exact fun w hw => hw.cell_blkL 2 rfl rfl | exact fun w hw => hw.cell_blkL 3 rfl rfl | exact fun w hw => hw.cell_blkL 4 rfl rfl | exact fun w hw => hw.cell_blkL 5 rfl rfl | exact fun w hw => hw.cell_old (by assumption) (by simp) | exact fun w hw => hw.cell_range (by assumption) rfl (by simp))) ?_ | refine l_op (o_nil rfl rfl (by decide) rfl rfl) ?_ | refine l_nil ?_ | refine s_seq ?_ | refine s_region ?_ | refine s_cond_false rfl ?_ | refine s_exit ?_ | refine s_ret ?_ | refine l_op (o_len rfl rfl (by decide) rfl rfl) ?_ | refine l_op (o_gtr rfl rfl (by decide) rfl rfl rfl (by first | assumption | exact decide_eq_true (by omega) | exact decide_eq_false (by omega) | rfl)) ?_)
    exact x_body1 (by first | exact .inl rfl | exact .inr rfl) rfl (.tmp rfl) (fun w hw => ⟨⟨j, q', b, ns', nm, A1, c1, A2, c2⟩, rfl, ⟨rfl, HI.out⟩, hw⟩)
end
end Go.Proofs.YtgdiadednlajgaaGreatDoor
