import Derived.Test.YtgdiadednlajgaaGreatDoorP39
import Derived.Test.YtgdiadednlajgaaGreatDoorP37
import Derived.Test.YtgdiadednlajgaaGreatDoorP11
namespace Go.Proofs.YtgdiadednlajgaaGreatDoor
open Go.RowKit
set_option linter.unusedVariables false
set_option linter.unusedSimpArgs false
theorem Wd.rot2 {M : List Nat} {W w : World} {x a b : Atom} {O : List Atom} (h : Wd M W (x :: a :: b :: O) w) : Wd M W (a :: b :: x :: O) w :=
  h.ofMap (fun i => if i < 2 then i + 1 else if i = 2 then 0 else i) (fun i j h => by (repeat' split at h) <;> omega) (fun i y hy => by
    match i, hy with
    | 0, hy => exact hy
    | 1, hy => exact hy
    | 2, hy => exact hy
    | n + 3, hy =>
      rw [if_neg (by omega), if_neg (by omega)]
      exact hy)
section
variable {P : Program} {Q : Exit → Act → World → Prop} {ops : Array Oper} {N : Nat} {M : List Nat} {W : World} {E E' : Env} {O O' : List Atom}
theorem l_re {l : List Oper} (f : ∀ w, Wd M W O w → Wd M W O' w) (h : lE P ops Q N M W E O' l) : lE P ops Q N M W E O l := fun a w ha hw => h a w ha (f w hw)
theorem use_key {α β : Type} {T : α → β → Prop} {G : Prop} (a : α) (b : β) (main : T a b → G) (tail : T a b) : G := main tail
theorem s_re {c : Code} (f : ∀ w, Wd M W O w → Wd M W O' w) (h : sE P Q N M W E O' c) : sE P Q N M W E O c := fun a w ha hw => h a w ha (f w hw)
theorem s_fact {c : Code} {φ : Prop} (f : ∀ w, Wd M W O w → φ) (h : φ → sE P Q N M W E O c) : sE P Q N M W E O c := fun a w ha hw => h (f w hw) a w ha hw
end
theorem Wd.toRd {W w : World} {O : List Atom} {i n c s : Nat} {A : Option Addr} {e : TypeId} {xs : List Value} (h : Wd [] W O w) (hO : O[i]? = some (.row A n c e s xs)) (hs : 0 < s) : Wd [] W (O.set i (.rd A n s xs)) w := by
  have hi : i < O.length := (List.getElem?_eq_some_iff.1 hO).1
  have hft : ∀ b, (Atom.rd A n s xs).foot = some b → (Atom.row A n c e s xs).foot = some b := by
    intro b hb
    have hrow := h.own i _ hO
    have h' : w.ownsRow 0 e s (.slice A n c) n xs := hrow
    simp only [Atom.foot] at hb ⊢
    split at hb
    · cases hb
    · rename_i hn
      rcases h'.2 with ⟨hv, _⟩ | ⟨g, cap, cur, hv, _⟩
      · simp only [Value.slice.injEq] at hv
        exact absurd hv.2.1 hn
      · rw [hv]
        simp only [Value.slice.injEq] at hv
        rw [hv.1] at hb
        exact hb
  have hset : ∀ (j : Nat) (z : Atom), (O.set i (.rd A n s xs))[j]? = some z → (j = i ∧ z = .rd A n s xs) ∨ (j ≠ i ∧ O[j]? = some z) := by
    intro j z hz
    rw [List.getElem?_set] at hz
    by_cases hij : i = j
    · subst hij
      rw [if_pos rfl, if_pos hi] at hz
      cases hz
      exact .inl ⟨rfl, rfl⟩
    · rw [if_neg hij] at hz
      exact .inr ⟨fun e => hij e.symm, hz⟩
  refine ⟨h.k, fun j z hz => ?_, fun j z b hz hb hl => ?_, fun j k y z b hy hz hby hbz hw => ?_⟩
  · rcases hset j z hz with ⟨rfl, rfl⟩ | ⟨_, hz⟩
    · exact (row_rd (h.own _ _ hO) hs).1
    · exact h.own j z hz
  · rcases hset j z hz with ⟨rfl, rfl⟩ | ⟨_, hz⟩
    · have := h.new _ _ b hO (hft b hb) hl
      cases this
    · exact h.new j z b hz hb hl
  · rcases hset j y hy with ⟨rfl, rfl⟩ | ⟨hj, hy'⟩
    · rcases hset k z hz with ⟨rfl, rfl⟩ | ⟨hk, hz'⟩
      · rfl
      · exact h.nd _ _ _ _ b hO hz' (hft b hby) hbz rfl
    · rcases hset k z hz with ⟨rfl, rfl⟩ | ⟨hk, hz'⟩
      · exact h.nd _ _ _ _ b hy' hO hby (hft b hbz) (by rw [Bool.or_comm]; rfl)
      · exact h.nd _ _ _ _ b hy' hz' hby hbz hw
theorem Wd.drop6 {M : List Nat} {W w : World} {a b c d e f : Atom} {O : List Atom} (h : Wd M W (a :: b :: c :: d :: e :: f :: O) w) : Wd M W O w := h.tail.tail.tail.tail.tail.tail
theorem Wd.to6 {M : List Nat} {W w : World} {a b c d e f : Atom} {O : List Atom} (h : Wd M W (a :: b :: c :: d :: e :: f :: O) w) : Wd M W (a :: e :: f :: c :: O) w :=
  h.ofMap (fun i => if i = 0 then 0 else if i = 1 then 4 else if i = 2 then 5 else if i = 3 then 2 else i + 2) (fun i j h => by (repeat' split at h) <;> omega) (fun i y hy => by
    match i, hy with
    | 0, hy => exact hy
    | 1, hy => exact hy
    | 2, hy => exact hy
    | 3, hy => exact hy
    | n + 4, hy =>
      rw [if_neg (by omega), if_neg (by omega), if_neg (by omega), if_neg (by omega)]
      exact hy)
theorem Wd.to7 {M : List Nat} {W w : World} {a b c k d e f : Atom} {O : List Atom} (h : Wd M W (a :: b :: c :: k :: d :: e :: f :: O) w) : Wd M W (a :: e :: f :: c :: k :: O) w :=
  h.ofMap (fun i => if i = 0 then 0 else if i = 1 then 5 else if i = 2 then 6 else if i = 3 then 2 else if i = 4 then 3 else i + 2) (fun i j h => by (repeat' split at h) <;> omega) (fun i y hy => by
    match i, hy with
    | 0, hy => exact hy
    | 1, hy => exact hy
    | 2, hy => exact hy
    | 3, hy => exact hy
    | 4, hy => exact hy
    | n + 5, hy =>
      rw [if_neg (by omega), if_neg (by omega), if_neg (by omega), if_neg (by omega), if_neg (by omega)]
      exact hy)
theorem Wd.drop {M : List Nat} {W w : World} {L O : List Atom} (h : Wd M W (L ++ O) w) : Wd M W O w :=
  h.ofMap (fun i => L.length + i) (fun i j h => by omega) (fun i x hx => by rw [List.getElem?_append_right (by omega), Nat.add_sub_cancel_left]; exact hx)
theorem Wd.at_ {M : List Nat} {W w : World} {L O : List Atom} (h : Wd M W (L ++ O) w) : ∀ a ∈ L, a.on w := fun a ha => by
  obtain ⟨i, hi⟩ := List.mem_iff_getElem?.1 ha
  exact h.own i a (by rw [List.getElem?_append_left (List.getElem?_eq_some_iff.1 hi).1]; exact hi)
theorem spl_size (c : UInt8) : ∀ s : List UInt8, (spl c s).length ≤ s.length + 1 ∧ ∀ x ∈ spl c s, x.length ≤ s.length := by
  intro s
  have h := join_spl c s
  constructor
  · have e : ∀ (x : List UInt8) (r : List (List UInt8)), r.length ≤ (Lib.join (x :: r) [c]).length := by
      intro x r
      induction r generalizing x with
      | nil => simp
      | cons y r ih =>
        have h2 : Lib.join (x :: y :: r) [c] = x ++ ([c] ++ Lib.join (y :: r) [c]) := by
          rw [Lib.join_cons, joinTail_cons, Lib.join_cons]
        rw [h2]
        have := ih y
        simp only [List.length_append, List.length_cons, List.length_nil]
        omega
    cases hs : spl c s with
    | nil => simp
    | cons x r =>
      have h1 := e x r
      rw [← hs, h] at h1
      simp only [List.length_cons]
      omega
  · have e : ∀ (r : List (List UInt8)) (x : List UInt8), ∀ y ∈ x :: r, y.length ≤ (Lib.join (x :: r) [c]).length := by
      intro r
      induction r with
      | nil =>
        intro x y hy
        rw [List.mem_singleton.1 hy]
        rw [Lib.join_one]
        exact Nat.le_refl _
      | cons z r ih =>
        intro x y hy
        have h2 : Lib.join (x :: z :: r) [c] = x ++ ([c] ++ Lib.join (z :: r) [c]) := by
          rw [Lib.join_cons, joinTail_cons, Lib.join_cons]
        rw [h2]
        simp only [List.length_append, List.length_cons, List.length_nil]
        rcases List.mem_cons.1 hy with rfl | hy
        · omega
        · have := ih z y hy
          omega
    cases hs : spl c s with
    | nil => simp
    | cons x r =>
      intro y hy
      have h1 := e r x y hy
      rw [← hs, h] at h1
      exact h1
theorem kwK_le (x : List UInt8) : 0 ≤ kwK x ∧ kwK x ≤ 10 := by
  unfold kwK
  cases h : kindWs.findIdx? (· == x) with
  | none => exact ⟨Int.le_refl 0, by decide⟩
  | some i =>
    have := (List.findIdx?_eq_some_iff_getElem.1 h).1
    have h10 : kindWs.length = 10 := rfl
    simp only
    omega
structure RlY where
  x : Rl
  Ab : Option Addr
  cb : Nat
  An : Option Addr
  cn : Nat
  Ap : Option Addr
  cp : Nat
  refs : List (List UInt8)
  Ar : Option Addr
  cr : Nat
  ok : Bool
  ats : List Atom
abbrev RlY.cells (y : RlY) : List Value := ruC y.x (.slice y.Ab y.x.bs.length y.cb) (.slice y.An y.x.names.length y.cn) (.slice y.Ap y.x.parts.length y.cp)
abbrev RlY.v (y : RlY) : Value := .tuple #[.agg y.cells.toArray, .slice y.Ar y.refs.length y.cr, .bool y.ok]
structure RlF (y : RlY) (w : World) : Prop where
  r : RuL w y.x y.Ab y.cb y.An y.cn y.Ap y.cp
  s : Rd w w.heap.size 1 y.Ar y.refs.length (sv y.refs)
  c : y.refs.length ≤ y.cr
structure RlI (l : List UInt8) (y : RlY) : Prop where
  ok : if y.ok then readL l = some (y.x, y.refs) else readL l = none
  w : ∀ a ∈ y.ats, a.w = false
  f : y.ok = true → ∀ w, (∀ a ∈ y.ats, a.on w) → RlF y w
theorem rdw1 {A : Option Addr} {n s : Nat} {xs : List Value} : ∀ a ∈ [Atom.rd A n s xs], a.w = false := fun a ha => by
  cases List.mem_singleton.1 ha
  rfl
theorem rdw2 {A A2 : Option Addr} {n s n2 s2 : Nat} {xs xs2 : List Value} : ∀ a ∈ [Atom.rd A n s xs, Atom.rd A2 n2 s2 xs2], a.w = false := fun a ha => by
  rcases List.mem_cons.1 ha with h | h
  · cases h; rfl
  · exact rdw1 a h
theorem rd_none (w : World) (B : Nat) : Rd w B 1 none 0 [] := ⟨rfl, fun h => absurd h (by omega)⟩
theorem rl_end {W w : World} {O : List Atom} {l : List UInt8} (y : RlY) (hi : if y.ok then readL l = some (y.x, y.refs) else readL l = none) (hw : ∀ a ∈ y.ats, a.w = false) (hf : ∀ w, (∀ a ∈ y.ats, a.on w) → RlF y w) (h : Wd [] W (y.ats ++ O) w) : CallEnd RlY.v (RlI l) [] W (fun y => y.ats ++ O) (.returned y.v) w :=
  ⟨y, rfl, ⟨hi, hw, fun _ => hf⟩, h⟩
def zeroR : RlY := ⟨bare [] 0, none, 0, none, 0, none, 0, [], none, 0, false, []⟩
section
variable {W w : World} {O : List Atom}
set_option maxRecDepth 100000 in
set_option maxHeartbeats 64000000 in
theorem readLine_wd {l : List UInt8} (hg : GV W) (hl : l.length ≤ 2000) (hw : Wd [] W O w) :
    Calls Tryz.prog 43 #[.string ⟨l.toArray⟩] w (CallEnd RlY.v (RlI l) [] W (fun y => y.ats ++ O)) := by
  have HG := Lib.hid hg
  obtain ⟨hlen, hall⟩ := spl_size 32 l
  obtain ⟨ws, hws⟩ : ∃ ws, spl 32 l = ws := ⟨_, rfl⟩
  rw [hws] at hlen hall
  have hne : 0 < ws.length := by
    rw [← hws]
    exact List.length_pos_iff.2 (spl_ne 32 l)
  have hrl : readL l = readW ws := by unfold readL; rw [hws]
  obtain ⟨N, hN⟩ : ∃ N, ws.length = N := ⟨_, rfl⟩
  rw [hN] at hlen hne
  have HALL := Lib.hid (show ∀ s ∈ ws, s.length ≤ 1048576 from fun s hs => by have := hall s hs; omega)
  have HN := Lib.hid hN
  have HWS := Lib.hid hws
  have HRL := Lib.hid hrl
  have hNle : N ≤ 2001 := by omega
  have hlsm : l.length ≤ 1048576 := by omega
  clear hg hall hws hrl hN hlen
  go_enter Tryz.func43, Tryz.ntmps43
  refine s_go (M := []) (W := W) (N := 104) (E := [(0, .string ⟨l.toArray⟩)]) (O := O) ?_ (Ag.cons (Ag.nil rfl rfl) rfl) hw
  repeat (first | refine l_op (o_move rfl rfl (by decide) rfl rfl) ?_ | refine l_op (o_assign rfl rfl (by decide) rfl rfl) ?_ | refine l_loud (u_alloc rfl rfl) rfl (by decide) (fun g2 _ => ?_) | (refine l_loud (u_call _ _ _ (f := 74) rfl rfl rfl (fun w hw => split_wd (HG.out.on hw.k.below) hlsm hw)) rfl (by decide) (fun bw _ => ?_); rw [HWS.out, HN.out]) | refine l_op (o_build (xs := [(0, .tmp 8)]) (vs := [(0, .slice (some ⟨bw, 0, none⟩) N N)]) (v := .agg #[.slice (some ⟨bw, 0, none⟩) N N, .bool false, .slice none 0 0]) rfl rfl (by decide) rfl rfl (fun w => run_build w _ _ _ (by kernel_rfl))) ?_ | refine l_loud (u_box (cs := [.slice (some ⟨bw, 0, none⟩) N N, .bool false, .slice none 0 0]) rfl rfl rfl rfl) rfl (by decide) (fun br _ => ?_) | refine l_nil ?_ | refine s_seq ?_ | refine s_region ?_)
  refine l_row 9 1 ?_
  refine l_re (O' := rdO br bw 0 N 0 false ws none 0 [] ++ (.blk g2 (.cells [.string ⟨#[]⟩, .int .i64 0, .slice none 0 0, .int .i64 0, .bool false, .int .i64 0, .int .i64 0, .int .i64 0, .int .i64 0, .int .i64 0, .slice none 0 0, .slice none 0 0].toArray 52 (0, 0)) :: O)) (fun w hw => hw.rot2) ?_
  repeat (first | (refine l_loud (u_call _ _ _ (f := 75) rfl rfl rfl (fun w hw => next_wd HN.out (fun _ => rfl) (Nat.zero_le _) (by omega) hw)) rfl (by decide) (fun y hy => ?_); obtain ⟨k1, q1⟩ := y) | refine l_op (o_build (xs := [(0, .tmp 12)]) (vs := [(0, .string ⟨(wAt ws 0).toArray⟩)]) (v := .agg #[.string ⟨(wAt ws 0).toArray⟩, .int .i64 0, .slice none 0 0, .int .i64 0, .bool false, .int .i64 0, .int .i64 0, .int .i64 0, .int .i64 0, .int .i64 0, .slice none 0 0, .slice none 0 0]) rfl rfl (by decide) rfl rfl (fun w => run_build w _ _ _ (by kernel_rfl))) ?_ | refine l_loud (u_alloc rfl rfl) rfl (by decide) (fun g6 _ => ?_) | refine l_loud0 (u_storeN 0 rfl rfl rfl rfl rfl rfl rfl (by simp)) rfl (fun _ _ => ?_) | refine l_nil ?_ | refine s_seq ?_ | refine s_region ?_)
  obtain ⟨hk1, hq1⟩ := hy
  obtain rfl : k1 = 1 := by
    have : k1 = min (0 + 1) N := hk1
    omega
  have hq1' : 1 < N → q1 = 1 := hq1
  have hd0 : (false || decide (N ≤ 0)) = false := by rw [decide_eq_false (by omega)]; rfl
  refine l_re (O' := rdO br bw q1 N 1 false ws none 0 [] ++ (.blk g6 (.cells [.string ⟨(wAt ws 0).toArray⟩, .int .i64 0, .slice none 0 0, .int .i64 0, .bool false, .int .i64 0, .int .i64 0, .int .i64 0, .int .i64 0, .int .i64 0, .slice none 0 0, .slice none 0 0].toArray 52 (0, 0)) :: .blk g2 (.cells [.string ⟨#[]⟩, .int .i64 0, .slice none 0 0, .int .i64 0, .bool false, .int .i64 0, .int .i64 0, .int .i64 0, .int .i64 0, .int .i64 0, .slice none 0 0, .slice none 0 0].toArray 52 (0, 0)) :: O)) (fun w hw => by rw [hd0] at hw; exact hw.rot3) ?_
  clear hd0 hk1 hq1
  obtain ⟨K, hK⟩ : ∃ K, kwK (wAt ws 1) = K := ⟨_, rfl⟩
  have hKb := kwK_le (wAt ws 1)
  rw [hK] at hKb
  have HK := Lib.hid hK
  clear hK
  repeat (first | refine l_op (o_move rfl rfl (by decide) rfl rfl) ?_ | refine l_loud (u_call _ _ _ (f := 64) rfl rfl rfl (fun w hw => fields_wd HG.out hw (HG.out.on hw.k.below))) rfl (by decide) (fun bf _ => ?_))
  refine l_re (fun w hw => hw.rot3) ?_
  repeat (first | refine l_op (o_move rfl rfl (by decide) rfl rfl) ?_ | refine l_op (o_fieldAddr rfl rfl (by decide) rfl rfl) ?_ | (refine l_loud (u_call _ _ _ (f := 75) rfl rfl rfl (fun w hw => next_wd HN.out hq1' (by omega) (by omega) hw)) rfl (by decide) (fun y hy => ?_); obtain ⟨k2, q2⟩ := y; rw [Bool.false_or]) | (refine l_op (o_call (f := 76) rfl rfl (by decide) rfl rfl (fun w hw => kidx_calls (hw.own 3 _ rfl))) ?_; rw [HK.out]) | refine l_loud0 (u_store 4 rfl rfl rfl rfl rfl rfl rfl) rfl (fun _ _ => ?_) | refine l_nil ?_ | refine s_seq ?_ | refine s_region ?_ | refine l_op (o_add (k := .i64) rfl rfl (by decide) rfl rfl rfl (IntWalk.i64_in _ (by omega))) ?_)
  have hsz : (⟨(wAt ws 0).toArray⟩ : ByteArray).size ≤ 9223372036854775807 := by
    have := wAt_len HALL.out 0
    rw [ba_size]
    omega
  obtain ⟨hk2, hq2⟩ := hy
  have hk2' : k2 = min 2 N := hk2
  have hq2' : k2 < N → q2 = k2 := hq2
  rw [show K - 1 + 1 = K by omega]
  obtain ⟨u, hu⟩ : ∃ u, isName (wAt ws 0) = u := ⟨_, rfl⟩
  have HU := Lib.hid (show isName (⟨(wAt ws 0).toArray⟩ : ByteArray).data.toList = u from hu)
  clear hk2 hq2 hu
  by_cases hN2 : N ≤ 1
  · rw [decide_eq_true hN2]
    repeat (first | refine l_op (o_move rfl rfl (by decide) rfl rfl) ?_ | refine l_op (o_assign rfl rfl (by decide) rfl rfl) ?_ | refine l_op (o_fieldAddr rfl rfl (by decide) rfl rfl) ?_ | refine l_op (o_skip rfl (by decide) rfl) ?_ | refine l_op (o_load rfl rfl (by decide) rfl rfl (by first | exact fun w hw => hw.cell_blkL 0 rfl rfl | exact fun w hw => hw.cell_blkL 1 rfl rfl | exact fun w hw => hw.cell_blkL 2 rfl rfl | exact fun w hw => hw.cell_blkL 3 rfl rfl | exact fun w hw => hw.cell_blkL 4 rfl rfl | exact fun w hw => hw.cell_blkL 5 rfl rfl | exact fun w hw => hw.cell_old (by assumption) (by simp) | exact fun w hw => hw.cell_range (by assumption) rfl (by simp))) ?_ | refine l_op (o_nil rfl rfl (by decide) rfl rfl) ?_ | refine l_op (o_build (xs := []) (vs := []) (v := .agg #[.string ⟨#[]⟩, .int .i64 0, .slice none 0 0, .int .i64 0, .bool false, .int .i64 0, .int .i64 0, .int .i64 0, .int .i64 0, .int .i64 0, .slice none 0 0, .slice none 0 0]) rfl rfl (by decide) rfl rfl (fun w => run_build w _ _ _ (by kernel_rfl))) ?_ | (refine l_loud0 (u_storeN 5 rfl rfl rfl rfl rfl rfl rfl (by simp)) rfl (fun _ _ => ?_); rw [putL_full (by rfl)]) | refine l_nil ?_ | refine s_seq ?_ | refine s_region ?_ | refine s_cond_true rfl ?_ | refine s_ret ?_ | refine x_then_ret ?_ | refine l_op (o_pick_yes rfl rfl (by decide) rfl rfl rfl) ?_)
    refine x_body3 (by first | exact .inl rfl | exact .inr rfl) rfl (RsV.blk 5 rfl rfl rfl) (.tmp rfl) (.tmp rfl) (fun w hw => rl_end zeroR (if_okF rfl ?_) (by intro a ha; cases ha) (fun w _ => ⟨⟨Nat.le_refl _, Nat.le_refl _, Nat.le_refl _, rd_none _ _, rd_none _ _, rd_none _ _⟩, rd_none _ _, Nat.le_refl _⟩) hw.drop6)
    rw [HRL.out]
    have hN1 : ws.length = 1 := by have := HN.out; omega
    obtain ⟨a, rfl⟩ := List.length_eq_one_iff.1 hN1
    rfl
  obtain rfl : k2 = 2 := by omega
  rw [decide_eq_false hN2]
  have hsp : ∃ name w1 rest, ws = name :: w1 :: rest ∧ wAt ws 0 = name ∧ N = rest.length + 2 ∧ readL l = if isName (wAt ws 0) then readK (wAt ws 0) K rest else none := by
    have h1 := HN.out
    have h2 := HRL.out
    have h3 := HK.out
    match ws, h1, h2, h3 with
    | [], h1, _, _ => exact absurd (show 0 = N from h1) (by omega)
    | [_], h1, _, _ => exact absurd (show 1 = N from h1) (by omega)
    | name :: w1 :: rest, h1, h2, h3 =>
      refine ⟨name, w1, rest, rfl, rfl, (show rest.length + 2 = N from h1).symm, ?_⟩
      rw [h2, ← h3]
      rfl
  have HSP := Lib.hid hsp
  clear hsp
  cases u with
  | false =>
    repeat (first | refine l_op (o_move rfl rfl (by decide) rfl rfl) ?_ | refine l_op (o_assign rfl rfl (by decide) rfl rfl) ?_ | refine l_op (o_fieldAddr rfl rfl (by decide) rfl rfl) ?_ | refine l_op (o_skip rfl (by decide) rfl) ?_ | refine l_op (o_load rfl rfl (by decide) rfl rfl (by first | exact fun w hw => hw.cell_blkL 0 rfl rfl | exact fun w hw => hw.cell_blkL 1 rfl rfl | exact fun w hw => hw.cell_blkL 2 rfl rfl | exact fun w hw => hw.cell_blkL 3 rfl rfl | exact fun w hw => hw.cell_blkL 4 rfl rfl | exact fun w hw => hw.cell_blkL 5 rfl rfl | exact fun w hw => hw.cell_old (by assumption) (by simp) | exact fun w hw => hw.cell_range (by assumption) rfl (by simp))) ?_ | refine l_op (o_nil rfl rfl (by decide) rfl rfl) ?_ | (refine l_op (o_call (f := 77) rfl rfl (by decide) rfl rfl (fun w hw => name_calls _ w hsz)) ?_; rw [show isName (⟨(wAt ws 0).toArray⟩ : ByteArray).data.toList = _ from HU.out]) | refine l_op (o_build (xs := []) (vs := []) (v := .agg #[.string ⟨#[]⟩, .int .i64 0, .slice none 0 0, .int .i64 0, .bool false, .int .i64 0, .int .i64 0, .int .i64 0, .int .i64 0, .int .i64 0, .slice none 0 0, .slice none 0 0]) rfl rfl (by decide) rfl rfl (fun w => run_build w _ _ _ (by kernel_rfl))) ?_ | (refine l_loud0 (u_storeN 5 rfl rfl rfl rfl rfl rfl rfl (by simp)) rfl (fun _ _ => ?_); rw [putL_full (by rfl)]) | refine l_nil ?_ | refine s_seq ?_ | refine s_region ?_ | refine s_cond_true rfl ?_ | refine s_ret ?_ | refine x_then_ret ?_ | refine l_op (o_pick_yes rfl rfl (by decide) rfl rfl rfl) ?_ | refine l_op (o_pick_no rfl rfl (by decide) rfl rfl rfl) ?_ | refine l_op (o_not rfl rfl (by decide) rfl rfl rfl) ?_)
    refine x_body3 (by first | exact .inl rfl | exact .inr rfl) rfl (RsV.blk 5 rfl rfl rfl) (.tmp rfl) (.tmp rfl) (fun w hw => rl_end zeroR (if_okF rfl ?_) (by intro a ha; cases ha) (fun w _ => ⟨⟨Nat.le_refl _, Nat.le_refl _, Nat.le_refl _, rd_none _ _, rd_none _ _, rd_none _ _⟩, rd_none _ _, Nat.le_refl _⟩) hw.drop6)
    obtain ⟨name, w1, rest, e1, e2, e3, e4⟩ := HSP.out
    rw [e4, show isName (wAt ws 0) = false from HU.out]
    rfl
  | true =>
    by_cases hK1 : K < 1
    · skip
      repeat (first | refine l_op (o_move rfl rfl (by decide) rfl rfl) ?_ | refine l_op (o_assign rfl rfl (by decide) rfl rfl) ?_ | refine l_op (o_fieldAddr rfl rfl (by decide) rfl rfl) ?_ | refine l_op (o_load rfl rfl (by decide) rfl rfl (by first | exact fun w hw => hw.cell_blkL 0 rfl rfl | exact fun w hw => hw.cell_blkL 1 rfl rfl | exact fun w hw => hw.cell_blkL 2 rfl rfl | exact fun w hw => hw.cell_blkL 3 rfl rfl | exact fun w hw => hw.cell_blkL 4 rfl rfl | exact fun w hw => hw.cell_blkL 5 rfl rfl | exact fun w hw => hw.cell_old (by assumption) (by simp) | exact fun w hw => hw.cell_range (by assumption) rfl (by simp))) ?_ | refine l_op (o_nil rfl rfl (by decide) rfl rfl) ?_ | (refine l_op (o_call (f := 77) rfl rfl (by decide) rfl rfl (fun w hw => name_calls _ w hsz)) ?_; rw [show isName (⟨(wAt ws 0).toArray⟩ : ByteArray).data.toList = _ from HU.out]) | refine l_op (o_build (xs := []) (vs := []) (v := .agg #[.string ⟨#[]⟩, .int .i64 0, .slice none 0 0, .int .i64 0, .bool false, .int .i64 0, .int .i64 0, .int .i64 0, .int .i64 0, .int .i64 0, .slice none 0 0, .slice none 0 0]) rfl rfl (by decide) rfl rfl (fun w => run_build w _ _ _ (by kernel_rfl))) ?_ | (refine l_loud0 (u_storeN 5 rfl rfl rfl rfl rfl rfl rfl (by simp)) rfl (fun _ _ => ?_); rw [putL_full (by rfl)]) | refine l_nil ?_ | refine s_seq ?_ | refine s_region ?_ | refine s_cond_true rfl ?_ | refine s_ret ?_ | refine x_then_ret ?_ | refine l_op (o_lss rfl rfl (by decide) rfl rfl rfl (by first | assumption | exact decide_eq_true (by omega) | exact decide_eq_false (by omega) | rfl)) ?_ | refine l_op (o_pick_no rfl rfl (by decide) rfl rfl rfl) ?_ | refine l_op (o_not rfl rfl (by decide) rfl rfl rfl) ?_)
      refine x_body3 (by first | exact .inl rfl | exact .inr rfl) rfl (RsV.blk 5 rfl rfl rfl) (.tmp rfl) (.tmp rfl) (fun w hw => rl_end zeroR (if_okF rfl ?_) (by intro a ha; cases ha) (fun w _ => ⟨⟨Nat.le_refl _, Nat.le_refl _, Nat.le_refl _, rd_none _ _, rd_none _ _, rd_none _ _⟩, rd_none _ _, Nat.le_refl _⟩) hw.drop6)
      obtain ⟨name, w1, rest, e1, e2, e3, e4⟩ := HSP.out
      obtain rfl : K = 0 := by omega
      rw [e4, show isName (wAt ws 0) = true from HU.out]
      rfl
    repeat (first | refine l_op (o_move rfl rfl (by decide) rfl rfl) ?_ | refine l_op (o_fieldAddr rfl rfl (by decide) rfl rfl) ?_ | refine l_op (o_load rfl rfl (by decide) rfl rfl (by first | exact fun w hw => hw.cell_blkL 0 rfl rfl | exact fun w hw => hw.cell_blkL 1 rfl rfl | exact fun w hw => hw.cell_blkL 2 rfl rfl | exact fun w hw => hw.cell_blkL 3 rfl rfl | exact fun w hw => hw.cell_blkL 4 rfl rfl | exact fun w hw => hw.cell_blkL 5 rfl rfl | exact fun w hw => hw.cell_old (by assumption) (by simp) | exact fun w hw => hw.cell_range (by assumption) rfl (by simp))) ?_ | refine l_op (o_nil rfl rfl (by decide) rfl rfl) ?_ | (refine l_op (o_call (f := 77) rfl rfl (by decide) rfl rfl (fun w hw => name_calls _ w hsz)) ?_; rw [show isName (⟨(wAt ws 0).toArray⟩ : ByteArray).data.toList = _ from HU.out]) | refine l_nil ?_ | refine s_seq ?_ | refine s_region ?_ | refine s_skip ?_ | refine s_cond_false rfl ?_ | refine l_op (o_eql rfl rfl (by decide) rfl rfl rfl (by first | assumption | exact beq_iff_eq.2 (by omega) | exact beq_eq_false_iff_ne.2 (by omega) | rfl)) ?_ | refine l_op (o_lss rfl rfl (by decide) rfl rfl rfl (by first | assumption | exact decide_eq_true (by omega) | exact decide_eq_false (by omega) | rfl)) ?_ | refine l_op (o_pick_no rfl rfl (by decide) rfl rfl rfl) ?_ | refine l_op (o_not rfl rfl (by decide) rfl rfl rfl) ?_)
    apply use_key (T := fun kQ kC => ∀ (x : Rl) (A1 A2 A3 : Option Addr) (n1 n2 n3 c1 c2 c3 : Nat) (B : Bool) (k q c : Nat) (A : Option Addr) (ns : List (List UInt8)) (ats : List Atom), k ≤ N → (∀ z w, z = okB B N k → Wd [] W (ats ++ O) w → CallEnd RlY.v (RlI l) [] W (fun y => y.ats ++ O) (.returned (.tuple #[.agg (ruC x (.slice A1 n1 c1) (.slice A2 n2 c2) (.slice A3 n3 c3)).toArray, .slice A ns.length c, .bool z])) w) → sE Tryz.prog kQ 104 [] W [(2, .pointer (some ⟨g2, 0, none⟩)), (5, .pointer (some ⟨br, 0, none⟩)), (6, .pointer (some ⟨g6, 0, none⟩))] (.blk br (.cells [.slice (some ⟨bw, q, none⟩) (N - k) (N - k), .bool B, .slice A ns.length c].toArray 95 (0, 0)) :: .blk g6 (.cells (ruC x (.slice A1 n1 c1) (.slice A2 n2 c2) (.slice A3 n3 c3)).toArray 52 (0, 0)) :: .blk g2 (.cells [.string ⟨#[]⟩, .int .i64 0, .slice none 0 0, .int .i64 0, .bool false, .int .i64 0, .int .i64 0, .int .i64 0, .int .i64 0, .int .i64 0, .slice none 0 0, .slice none 0 0].toArray 52 (0, 0)) :: (ats ++ O)) kC)
    case main =>
      intro key
      obtain rfl | rfl | rfl | rfl | rfl | rfl | rfl | rfl | rfl | rfl : K = 1 ∨ K = 2 ∨ K = 3 ∨ K = 4 ∨ K = 5 ∨ K = 6 ∨ K = 7 ∨ K = 8 ∨ K = 9 ∨ K = 10 := by omega
      · skip
        repeat (first | refine l_op (o_move rfl rfl (by decide) rfl rfl) ?_ | refine l_op (o_fieldAddr rfl rfl (by decide) rfl rfl) ?_ | refine l_op (o_load rfl rfl (by decide) rfl rfl (by first | exact fun w hw => hw.cell_blkL 0 rfl rfl | exact fun w hw => hw.cell_blkL 1 rfl rfl | exact fun w hw => hw.cell_blkL 2 rfl rfl | exact fun w hw => hw.cell_blkL 3 rfl rfl | exact fun w hw => hw.cell_blkL 4 rfl rfl | exact fun w hw => hw.cell_blkL 5 rfl rfl | exact fun w hw => hw.cell_old (by assumption) (by simp) | exact fun w hw => hw.cell_range (by assumption) rfl (by simp))) ?_ | refine l_op (o_loadN rfl rfl (by decide) rfl rfl (by first | exact fun w hw => hw.range_blk 0 rfl | exact fun w hw => hw.range_blk 1 rfl | exact fun w hw => hw.range_blk 2 rfl | exact fun w hw => hw.range_blk 3 rfl | exact fun w hw => hw.range_blk 4 rfl | exact fun w hw => hw.range_blk 5 rfl | exact fun w hw => hw.range_old (by assumption) (by simp)) (by first | rfl | exact setC_len _)) ?_ | refine l_op (o_call (f := 66) rfl rfl (by decide) rfl rfl (fun w hw => usesStop_calls w)) ?_ | refine l_op (o_call (f := 68) rfl rfl (by decide) rfl rfl (fun w hw => usesSize_calls w)) ?_ | refine l_op (o_call (f := 69) rfl rfl (by decide) rfl rfl (fun w hw => usesMax_calls w)) ?_ | refine l_op (o_call (f := 70) rfl rfl (by decide) rfl rfl (fun w hw => usesCount_calls w)) ?_ | refine l_op (o_call (f := 71) rfl rfl (by decide) rfl rfl (fun w hw => usesOf_calls w)) ?_ | refine l_op (o_call (f := 82) rfl rfl (by decide) rfl rfl (fun w hw => usesParts_calls w)) ?_ | (refine l_loud (u_call _ _ _ (f := 78) rfl rfl rfl (fun w hw => hex_wd HALL.out HN.out (by assumption) (by omega) (by omega) hw)) rfl (by decide) (fun y hy => ?_); obtain ⟨⟨hk, hq⟩, hbad, hout⟩ := hy; refine l_re (fun w hw => hw.rot3) ?_) | refine l_loud0 (u_store 5 rfl rfl rfl rfl rfl rfl rfl) rfl (fun _ _ => ?_) | refine l_nil ?_ | refine s_seq ?_ | refine s_region ?_ | refine s_skip ?_ | refine s_cond_true rfl ?_ | refine s_cond_false rfl ?_ | refine l_op (o_eql rfl rfl (by decide) rfl rfl rfl (by first | assumption | exact beq_iff_eq.2 (by omega) | exact beq_eq_false_iff_ne.2 (by omega) | rfl)) ?_)
        refine s_weak (E' := [(2, .pointer (some ⟨g2, 0, none⟩)), (5, .pointer (some ⟨br, 0, none⟩)), (6, .pointer (some ⟨g6, 0, none⟩))]) (.cons rfl rfl (.cons rfl rfl (.cons rfl rfl .nil))) ?_
        refine s_fact (fun w hw => (row_rd (hw.own 2 _ rfl) (by decide)).2) (fun hc => ?_)
        refine s_fact (fun w hw => (row_rd (hw.own 3 _ rfl) (by decide)).2) (fun hc3 => ?_)
        refine s_re (fun w hw => ((hw.toRd (i := 2) rfl (by decide)).toRd (i := 3) rfl (by decide)).to7) ?_
        refine key ({ bare (wAt ws 0) 1 with bs := y.2.2.2.1 }) _ _ _ _ _ _ _ _ _ _ _ _ _ _ ([]) ([.rd _ _ 1 (sv ([])), .rd _ _ 1 (bv y.2.2.2.1)]) (by omega) (fun zz w hz hw => ?_)
        obtain ⟨name, w1, rest, e1, e2, e3, e4⟩ := HSP.out
        rw [show isName (wAt ws 0) = true from HU.out, if_pos rfl] at e4
        subst e1
        refine rl_end ⟨{ bare (wAt (name :: w1 :: rest) 0) 1 with bs := y.2.2.2.1 }, y.2.1, y.2.2.1, none, 0, none, 0, [], _, _, zz, [.rd _ _ 1 (sv ([])), .rd _ _ 1 (bv y.2.2.2.1)]⟩ ?_ rdw2 (fun w ha => ?_) hw
        · rw [hz, e4]
          exact pl_1 e3 hk hbad hout
        · exact ⟨⟨hc3, Nat.le_refl _, Nat.le_refl _, ha _ (List.mem_cons_of_mem _ List.mem_cons_self), rd_none _ _, rd_none _ _⟩, ha _ List.mem_cons_self, hc⟩
      · skip
        repeat (first | refine l_op (o_move rfl rfl (by decide) rfl rfl) ?_ | refine l_op (o_fieldAddr rfl rfl (by decide) rfl rfl) ?_ | refine l_op (o_load rfl rfl (by decide) rfl rfl (by first | exact fun w hw => hw.cell_blkL 0 rfl rfl | exact fun w hw => hw.cell_blkL 1 rfl rfl | exact fun w hw => hw.cell_blkL 2 rfl rfl | exact fun w hw => hw.cell_blkL 3 rfl rfl | exact fun w hw => hw.cell_blkL 4 rfl rfl | exact fun w hw => hw.cell_blkL 5 rfl rfl | exact fun w hw => hw.cell_old (by assumption) (by simp) | exact fun w hw => hw.cell_range (by assumption) rfl (by simp))) ?_ | refine l_op (o_loadN rfl rfl (by decide) rfl rfl (by first | exact fun w hw => hw.range_blk 0 rfl | exact fun w hw => hw.range_blk 1 rfl | exact fun w hw => hw.range_blk 2 rfl | exact fun w hw => hw.range_blk 3 rfl | exact fun w hw => hw.range_blk 4 rfl | exact fun w hw => hw.range_blk 5 rfl | exact fun w hw => hw.range_old (by assumption) (by simp)) (by first | rfl | exact setC_len _)) ?_ | refine l_op (o_call (f := 66) rfl rfl (by decide) rfl rfl (fun w hw => usesStop_calls w)) ?_ | refine l_op (o_call (f := 68) rfl rfl (by decide) rfl rfl (fun w hw => usesSize_calls w)) ?_ | refine l_op (o_call (f := 69) rfl rfl (by decide) rfl rfl (fun w hw => usesMax_calls w)) ?_ | refine l_op (o_call (f := 70) rfl rfl (by decide) rfl rfl (fun w hw => usesCount_calls w)) ?_ | refine l_op (o_call (f := 71) rfl rfl (by decide) rfl rfl (fun w hw => usesOf_calls w)) ?_ | refine l_op (o_call (f := 82) rfl rfl (by decide) rfl rfl (fun w hw => usesParts_calls w)) ?_ | refine l_loud0 (u_store 4 rfl rfl rfl rfl rfl rfl rfl) rfl (fun _ _ => ?_) | (refine l_loud (u_call _ _ _ (f := 79) rfl rfl rfl (fun w hw => number_wd HG.out HALL.out HN.out (by assumption) (by omega) (by omega) hw)) rfl (by decide) (fun y hy => ?_); obtain ⟨hk, hq⟩ := hy) | (refine l_loud (u_call _ _ _ (f := 80) rfl rfl rfl (fun w hw => order_wd HN.out (by assumption) (by omega) (by omega) hw)) rfl (by decide) (fun y hy => ?_); obtain ⟨hk, hq⟩ := hy) | refine l_nil ?_ | refine s_seq ?_ | refine s_region ?_ | refine s_skip ?_ | refine s_cond_true rfl ?_ | refine s_cond_false rfl ?_ | refine l_op (o_eql rfl rfl (by decide) rfl rfl rfl (by first | assumption | exact beq_iff_eq.2 (by omega) | exact beq_eq_false_iff_ne.2 (by omega) | rfl)) ?_)
        refine s_weak (E' := [(2, .pointer (some ⟨g2, 0, none⟩)), (5, .pointer (some ⟨br, 0, none⟩)), (6, .pointer (some ⟨g6, 0, none⟩))]) (.cons rfl rfl (.cons rfl rfl (.cons rfl rfl .nil))) ?_
        refine s_fact (fun w hw => (row_rd (hw.own 2 _ rfl) (by decide)).2) (fun hc => ?_)
        refine s_re (fun w hw => (hw.toRd (i := 2) rfl (by decide)).to6) ?_
        refine key ({ bare (wAt ws 0) 2 with size := atoiV (wAt ws 2), big := wAt ws _ == bigW, mn := atoiV (wAt ws _), mx := atoiV (wAt ws _) }) _ _ _ _ _ _ _ _ _ _ _ _ _ _ ([]) ([.rd _ _ 1 (sv ([]))]) (by omega) (fun zz w hz hw => ?_)
        obtain ⟨name, w1, rest, e1, e2, e3, e4⟩ := HSP.out
        rw [show isName (wAt ws 0) = true from HU.out, if_pos rfl] at e4
        subst e1
        refine rl_end ⟨{ bare (wAt (name :: w1 :: rest) 0) 2 with size := atoiV (wAt (name :: w1 :: rest) 2), big := wAt (name :: w1 :: rest) _ == bigW, mn := atoiV (wAt (name :: w1 :: rest) _), mx := atoiV (wAt (name :: w1 :: rest) _) }, none, 0, none, 0, none, 0, [], _, _, zz, [.rd _ _ 1 (sv ([]))]⟩ ?_ rdw1 (fun w ha => ?_) hw
        · rw [hz, e4]
          exact pl_2 e3 (by assumption) (by assumption) (by assumption) (by assumption) rfl
        · exact ⟨⟨Nat.le_refl _, Nat.le_refl _, Nat.le_refl _, rd_none _ _, rd_none _ _, rd_none _ _⟩, ha _ List.mem_cons_self, hc⟩
      · skip
        repeat (first | refine l_op (o_move rfl rfl (by decide) rfl rfl) ?_ | refine l_op (o_fieldAddr rfl rfl (by decide) rfl rfl) ?_ | refine l_op (o_load rfl rfl (by decide) rfl rfl (by first | exact fun w hw => hw.cell_blkL 0 rfl rfl | exact fun w hw => hw.cell_blkL 1 rfl rfl | exact fun w hw => hw.cell_blkL 2 rfl rfl | exact fun w hw => hw.cell_blkL 3 rfl rfl | exact fun w hw => hw.cell_blkL 4 rfl rfl | exact fun w hw => hw.cell_blkL 5 rfl rfl | exact fun w hw => hw.cell_old (by assumption) (by simp) | exact fun w hw => hw.cell_range (by assumption) rfl (by simp))) ?_ | refine l_op (o_loadN rfl rfl (by decide) rfl rfl (by first | exact fun w hw => hw.range_blk 0 rfl | exact fun w hw => hw.range_blk 1 rfl | exact fun w hw => hw.range_blk 2 rfl | exact fun w hw => hw.range_blk 3 rfl | exact fun w hw => hw.range_blk 4 rfl | exact fun w hw => hw.range_blk 5 rfl | exact fun w hw => hw.range_old (by assumption) (by simp)) (by first | rfl | exact setC_len _)) ?_ | refine l_op (o_call (f := 66) rfl rfl (by decide) rfl rfl (fun w hw => usesStop_calls w)) ?_ | refine l_op (o_call (f := 68) rfl rfl (by decide) rfl rfl (fun w hw => usesSize_calls w)) ?_ | refine l_op (o_call (f := 69) rfl rfl (by decide) rfl rfl (fun w hw => usesMax_calls w)) ?_ | refine l_op (o_call (f := 70) rfl rfl (by decide) rfl rfl (fun w hw => usesCount_calls w)) ?_ | refine l_op (o_call (f := 71) rfl rfl (by decide) rfl rfl (fun w hw => usesOf_calls w)) ?_ | refine l_op (o_call (f := 82) rfl rfl (by decide) rfl rfl (fun w hw => usesParts_calls w)) ?_ | refine l_loud0 (u_store 4 rfl rfl rfl rfl rfl rfl rfl) rfl (fun _ _ => ?_) | (refine l_loud (u_call _ _ _ (f := 79) rfl rfl rfl (fun w hw => number_wd HG.out HALL.out HN.out (by assumption) (by omega) (by omega) hw)) rfl (by decide) (fun y hy => ?_); obtain ⟨hk, hq⟩ := hy) | refine l_nil ?_ | refine s_seq ?_ | refine s_region ?_ | refine s_skip ?_ | refine s_cond_true rfl ?_ | refine s_cond_false rfl ?_ | refine l_op (o_eql rfl rfl (by decide) rfl rfl rfl (by first | assumption | exact beq_iff_eq.2 (by omega) | exact beq_eq_false_iff_ne.2 (by omega) | rfl)) ?_)
        refine s_weak (E' := [(2, .pointer (some ⟨g2, 0, none⟩)), (5, .pointer (some ⟨br, 0, none⟩)), (6, .pointer (some ⟨g6, 0, none⟩))]) (.cons rfl rfl (.cons rfl rfl (.cons rfl rfl .nil))) ?_
        refine s_fact (fun w hw => (row_rd (hw.own 2 _ rfl) (by decide)).2) (fun hc => ?_)
        refine s_re (fun w hw => (hw.toRd (i := 2) rfl (by decide)).to6) ?_
        refine key ({ bare (wAt ws 0) 3 with stop := atoiV (wAt ws 2), mx := atoiV (wAt ws _) }) _ _ _ _ _ _ _ _ _ _ _ _ _ _ ([]) ([.rd _ _ 1 (sv ([]))]) (by omega) (fun zz w hz hw => ?_)
        obtain ⟨name, w1, rest, e1, e2, e3, e4⟩ := HSP.out
        rw [show isName (wAt ws 0) = true from HU.out, if_pos rfl] at e4
        subst e1
        refine rl_end ⟨{ bare (wAt (name :: w1 :: rest) 0) 3 with stop := atoiV (wAt (name :: w1 :: rest) 2), mx := atoiV (wAt (name :: w1 :: rest) _) }, none, 0, none, 0, none, 0, [], _, _, zz, [.rd _ _ 1 (sv ([]))]⟩ ?_ rdw1 (fun w ha => ?_) hw
        · rw [hz, e4]
          exact pl_3 e3 (by assumption) (by assumption) rfl
        · exact ⟨⟨Nat.le_refl _, Nat.le_refl _, Nat.le_refl _, rd_none _ _, rd_none _ _, rd_none _ _⟩, ha _ List.mem_cons_self, hc⟩
      · skip
        repeat (first | refine l_op (o_move rfl rfl (by decide) rfl rfl) ?_ | refine l_op (o_fieldAddr rfl rfl (by decide) rfl rfl) ?_ | refine l_op (o_load rfl rfl (by decide) rfl rfl (by first | exact fun w hw => hw.cell_blkL 0 rfl rfl | exact fun w hw => hw.cell_blkL 1 rfl rfl | exact fun w hw => hw.cell_blkL 2 rfl rfl | exact fun w hw => hw.cell_blkL 3 rfl rfl | exact fun w hw => hw.cell_blkL 4 rfl rfl | exact fun w hw => hw.cell_blkL 5 rfl rfl | exact fun w hw => hw.cell_old (by assumption) (by simp) | exact fun w hw => hw.cell_range (by assumption) rfl (by simp))) ?_ | refine l_op (o_loadN rfl rfl (by decide) rfl rfl (by first | exact fun w hw => hw.range_blk 0 rfl | exact fun w hw => hw.range_blk 1 rfl | exact fun w hw => hw.range_blk 2 rfl | exact fun w hw => hw.range_blk 3 rfl | exact fun w hw => hw.range_blk 4 rfl | exact fun w hw => hw.range_blk 5 rfl | exact fun w hw => hw.range_old (by assumption) (by simp)) (by first | rfl | exact setC_len _)) ?_ | refine l_op (o_call (f := 66) rfl rfl (by decide) rfl rfl (fun w hw => usesStop_calls w)) ?_ | refine l_op (o_call (f := 68) rfl rfl (by decide) rfl rfl (fun w hw => usesSize_calls w)) ?_ | refine l_op (o_call (f := 69) rfl rfl (by decide) rfl rfl (fun w hw => usesMax_calls w)) ?_ | refine l_op (o_call (f := 70) rfl rfl (by decide) rfl rfl (fun w hw => usesCount_calls w)) ?_ | refine l_op (o_call (f := 71) rfl rfl (by decide) rfl rfl (fun w hw => usesOf_calls w)) ?_ | refine l_op (o_call (f := 82) rfl rfl (by decide) rfl rfl (fun w hw => usesParts_calls w)) ?_ | refine l_loud0 (u_store 4 rfl rfl rfl rfl rfl rfl rfl) rfl (fun _ _ => ?_) | (refine l_loud (u_call _ _ _ (f := 79) rfl rfl rfl (fun w hw => number_wd HG.out HALL.out HN.out (by assumption) (by omega) (by omega) hw)) rfl (by decide) (fun y hy => ?_); obtain ⟨hk, hq⟩ := hy) | refine l_nil ?_ | refine s_seq ?_ | refine s_region ?_ | refine s_skip ?_ | refine s_cond_true rfl ?_ | refine s_cond_false rfl ?_ | refine l_op (o_eql rfl rfl (by decide) rfl rfl rfl (by first | assumption | exact beq_iff_eq.2 (by omega) | exact beq_eq_false_iff_ne.2 (by omega) | rfl)) ?_)
        refine s_weak (E' := [(2, .pointer (some ⟨g2, 0, none⟩)), (5, .pointer (some ⟨br, 0, none⟩)), (6, .pointer (some ⟨g6, 0, none⟩))]) (.cons rfl rfl (.cons rfl rfl (.cons rfl rfl .nil))) ?_
        refine s_fact (fun w hw => (row_rd (hw.own 2 _ rfl) (by decide)).2) (fun hc => ?_)
        refine s_re (fun w hw => (hw.toRd (i := 2) rfl (by decide)).to6) ?_
        refine key ({ bare (wAt ws 0) 4 with size := atoiV (wAt ws 2) }) _ _ _ _ _ _ _ _ _ _ _ _ _ _ ([]) ([.rd _ _ 1 (sv ([]))]) (by omega) (fun zz w hz hw => ?_)
        obtain ⟨name, w1, rest, e1, e2, e3, e4⟩ := HSP.out
        rw [show isName (wAt ws 0) = true from HU.out, if_pos rfl] at e4
        subst e1
        refine rl_end ⟨{ bare (wAt (name :: w1 :: rest) 0) 4 with size := atoiV (wAt (name :: w1 :: rest) 2) }, none, 0, none, 0, none, 0, [], _, _, zz, [.rd _ _ 1 (sv ([]))]⟩ ?_ rdw1 (fun w ha => ?_) hw
        · rw [hz, e4]
          exact pl_4 e3 (by assumption) rfl
        · exact ⟨⟨Nat.le_refl _, Nat.le_refl _, Nat.le_refl _, rd_none _ _, rd_none _ _, rd_none _ _⟩, ha _ List.mem_cons_self, hc⟩
      · skip
        repeat (first | refine l_op (o_move rfl rfl (by decide) rfl rfl) ?_ | refine l_op (o_fieldAddr rfl rfl (by decide) rfl rfl) ?_ | refine l_op (o_load rfl rfl (by decide) rfl rfl (by first | exact fun w hw => hw.cell_blkL 0 rfl rfl | exact fun w hw => hw.cell_blkL 1 rfl rfl | exact fun w hw => hw.cell_blkL 2 rfl rfl | exact fun w hw => hw.cell_blkL 3 rfl rfl | exact fun w hw => hw.cell_blkL 4 rfl rfl | exact fun w hw => hw.cell_blkL 5 rfl rfl | exact fun w hw => hw.cell_old (by assumption) (by simp) | exact fun w hw => hw.cell_range (by assumption) rfl (by simp))) ?_ | refine l_op (o_loadN rfl rfl (by decide) rfl rfl (by first | exact fun w hw => hw.range_blk 0 rfl | exact fun w hw => hw.range_blk 1 rfl | exact fun w hw => hw.range_blk 2 rfl | exact fun w hw => hw.range_blk 3 rfl | exact fun w hw => hw.range_blk 4 rfl | exact fun w hw => hw.range_blk 5 rfl | exact fun w hw => hw.range_old (by assumption) (by simp)) (by first | rfl | exact setC_len _)) ?_ | refine l_op (o_call (f := 66) rfl rfl (by decide) rfl rfl (fun w hw => usesStop_calls w)) ?_ | refine l_op (o_call (f := 68) rfl rfl (by decide) rfl rfl (fun w hw => usesSize_calls w)) ?_ | refine l_op (o_call (f := 69) rfl rfl (by decide) rfl rfl (fun w hw => usesMax_calls w)) ?_ | refine l_op (o_call (f := 70) rfl rfl (by decide) rfl rfl (fun w hw => usesCount_calls w)) ?_ | refine l_op (o_call (f := 71) rfl rfl (by decide) rfl rfl (fun w hw => usesOf_calls w)) ?_ | refine l_op (o_call (f := 82) rfl rfl (by decide) rfl rfl (fun w hw => usesParts_calls w)) ?_ | refine l_loud0 (u_store 4 rfl rfl rfl rfl rfl rfl rfl) rfl (fun _ _ => ?_) | (refine l_loud (u_call _ _ _ (f := 79) rfl rfl rfl (fun w hw => number_wd HG.out HALL.out HN.out (by assumption) (by omega) (by omega) hw)) rfl (by decide) (fun y hy => ?_); obtain ⟨hk, hq⟩ := hy) | refine l_nil ?_ | refine s_seq ?_ | refine s_region ?_ | refine s_skip ?_ | refine s_cond_true rfl ?_ | refine s_cond_false rfl ?_ | refine l_op (o_eql rfl rfl (by decide) rfl rfl rfl (by first | assumption | exact beq_iff_eq.2 (by omega) | exact beq_eq_false_iff_ne.2 (by omega) | rfl)) ?_)
        refine s_weak (E' := [(2, .pointer (some ⟨g2, 0, none⟩)), (5, .pointer (some ⟨br, 0, none⟩)), (6, .pointer (some ⟨g6, 0, none⟩))]) (.cons rfl rfl (.cons rfl rfl (.cons rfl rfl .nil))) ?_
        refine s_fact (fun w hw => (row_rd (hw.own 2 _ rfl) (by decide)).2) (fun hc => ?_)
        refine s_re (fun w hw => (hw.toRd (i := 2) rfl (by decide)).to6) ?_
        refine key ({ bare (wAt ws 0) 5 with stop := atoiV (wAt ws 2), size := atoiV (wAt ws _) }) _ _ _ _ _ _ _ _ _ _ _ _ _ _ ([]) ([.rd _ _ 1 (sv ([]))]) (by omega) (fun zz w hz hw => ?_)
        obtain ⟨name, w1, rest, e1, e2, e3, e4⟩ := HSP.out
        rw [show isName (wAt ws 0) = true from HU.out, if_pos rfl] at e4
        subst e1
        refine rl_end ⟨{ bare (wAt (name :: w1 :: rest) 0) 5 with stop := atoiV (wAt (name :: w1 :: rest) 2), size := atoiV (wAt (name :: w1 :: rest) _) }, none, 0, none, 0, none, 0, [], _, _, zz, [.rd _ _ 1 (sv ([]))]⟩ ?_ rdw1 (fun w ha => ?_) hw
        · rw [hz, e4]
          exact pl_5 e3 (by assumption) (by assumption) rfl
        · exact ⟨⟨Nat.le_refl _, Nat.le_refl _, Nat.le_refl _, rd_none _ _, rd_none _ _, rd_none _ _⟩, ha _ List.mem_cons_self, hc⟩
      · skip
        repeat (first | refine l_op (o_move rfl rfl (by decide) rfl rfl) ?_ | refine l_op (o_fieldAddr rfl rfl (by decide) rfl rfl) ?_ | refine l_op (o_load rfl rfl (by decide) rfl rfl (by first | exact fun w hw => hw.cell_blkL 0 rfl rfl | exact fun w hw => hw.cell_blkL 1 rfl rfl | exact fun w hw => hw.cell_blkL 2 rfl rfl | exact fun w hw => hw.cell_blkL 3 rfl rfl | exact fun w hw => hw.cell_blkL 4 rfl rfl | exact fun w hw => hw.cell_blkL 5 rfl rfl | exact fun w hw => hw.cell_old (by assumption) (by simp) | exact fun w hw => hw.cell_range (by assumption) rfl (by simp))) ?_ | refine l_op (o_loadN rfl rfl (by decide) rfl rfl (by first | exact fun w hw => hw.range_blk 0 rfl | exact fun w hw => hw.range_blk 1 rfl | exact fun w hw => hw.range_blk 2 rfl | exact fun w hw => hw.range_blk 3 rfl | exact fun w hw => hw.range_blk 4 rfl | exact fun w hw => hw.range_blk 5 rfl | exact fun w hw => hw.range_old (by assumption) (by simp)) (by first | rfl | exact setC_len _)) ?_ | refine l_op (o_call (f := 66) rfl rfl (by decide) rfl rfl (fun w hw => usesStop_calls w)) ?_ | refine l_op (o_call (f := 68) rfl rfl (by decide) rfl rfl (fun w hw => usesSize_calls w)) ?_ | refine l_op (o_call (f := 69) rfl rfl (by decide) rfl rfl (fun w hw => usesMax_calls w)) ?_ | refine l_op (o_call (f := 70) rfl rfl (by decide) rfl rfl (fun w hw => usesCount_calls w)) ?_ | refine l_op (o_call (f := 71) rfl rfl (by decide) rfl rfl (fun w hw => usesOf_calls w)) ?_ | refine l_op (o_call (f := 82) rfl rfl (by decide) rfl rfl (fun w hw => usesParts_calls w)) ?_ | (refine l_loud (u_call _ _ _ (f := 75) rfl rfl rfl (fun w hw => next_wd HN.out (by assumption) (by omega) (by omega) hw)) rfl (by decide) (fun y hy => ?_); obtain ⟨hk, hq⟩ := hy) | refine l_loud (u_call _ _ _ (f := 81) rfl rfl rfl (fun w hw => rule_wd (wAt_len HALL.out _) (by simp) hw)) rfl (by decide) (fun z _ => ?_) | refine l_nil ?_ | refine s_seq ?_ | refine s_region ?_ | refine s_skip ?_ | refine s_cond_true rfl ?_ | refine s_cond_false rfl ?_ | refine l_op (o_eql rfl rfl (by decide) rfl rfl rfl (by first | assumption | exact beq_iff_eq.2 (by omega) | exact beq_eq_false_iff_ne.2 (by omega) | rfl)) ?_)
        refine s_weak (E' := [(2, .pointer (some ⟨g2, 0, none⟩)), (5, .pointer (some ⟨br, 0, none⟩)), (6, .pointer (some ⟨g6, 0, none⟩))]) (.cons rfl rfl (.cons rfl rfl (.cons rfl rfl .nil))) ?_
        refine s_fact (fun w hw => (row_rd (hw.own 2 _ rfl) (by decide)).2) (fun hc => ?_)
        refine s_re (fun w hw => (hw.toRd (i := 2) rfl (by decide)).to6) ?_
        refine key (bare (wAt ws 0) 6) _ _ _ _ _ _ _ _ _ _ _ _ _ _ (([] ++ [wAt ws 2]) ++ [wAt ws _]) ([.rd _ _ 1 (sv (([] ++ [wAt ws 2]) ++ [wAt ws _]))]) (by omega) (fun zz w hz hw => ?_)
        obtain ⟨name, w1, rest, e1, e2, e3, e4⟩ := HSP.out
        rw [show isName (wAt ws 0) = true from HU.out, if_pos rfl] at e4
        subst e1
        refine rl_end ⟨bare (wAt (name :: w1 :: rest) 0) 6, none, 0, none, 0, none, 0, ([] ++ [wAt (name :: w1 :: rest) 2]) ++ [wAt (name :: w1 :: rest) _], _, _, zz, [.rd _ _ 1 (sv (([] ++ [wAt (name :: w1 :: rest) 2]) ++ [wAt (name :: w1 :: rest) _]))]⟩ ?_ rdw1 (fun w ha => ?_) hw
        · rw [hz, e4]
          exact pl_6 e3 (by assumption) (by assumption) rfl
        · exact ⟨⟨Nat.le_refl _, Nat.le_refl _, Nat.le_refl _, rd_none _ _, rd_none _ _, rd_none _ _⟩, ha _ List.mem_cons_self, hc⟩
      · skip
        repeat (first | refine l_op (o_move rfl rfl (by decide) rfl rfl) ?_ | refine l_op (o_fieldAddr rfl rfl (by decide) rfl rfl) ?_ | refine l_op (o_load rfl rfl (by decide) rfl rfl (by first | exact fun w hw => hw.cell_blkL 0 rfl rfl | exact fun w hw => hw.cell_blkL 1 rfl rfl | exact fun w hw => hw.cell_blkL 2 rfl rfl | exact fun w hw => hw.cell_blkL 3 rfl rfl | exact fun w hw => hw.cell_blkL 4 rfl rfl | exact fun w hw => hw.cell_blkL 5 rfl rfl | exact fun w hw => hw.cell_old (by assumption) (by simp) | exact fun w hw => hw.cell_range (by assumption) rfl (by simp))) ?_ | refine l_op (o_loadN rfl rfl (by decide) rfl rfl (by first | exact fun w hw => hw.range_blk 0 rfl | exact fun w hw => hw.range_blk 1 rfl | exact fun w hw => hw.range_blk 2 rfl | exact fun w hw => hw.range_blk 3 rfl | exact fun w hw => hw.range_blk 4 rfl | exact fun w hw => hw.range_blk 5 rfl | exact fun w hw => hw.range_old (by assumption) (by simp)) (by first | rfl | exact setC_len _)) ?_ | refine l_op (o_call (f := 66) rfl rfl (by decide) rfl rfl (fun w hw => usesStop_calls w)) ?_ | refine l_op (o_call (f := 68) rfl rfl (by decide) rfl rfl (fun w hw => usesSize_calls w)) ?_ | refine l_op (o_call (f := 69) rfl rfl (by decide) rfl rfl (fun w hw => usesMax_calls w)) ?_ | refine l_op (o_call (f := 70) rfl rfl (by decide) rfl rfl (fun w hw => usesCount_calls w)) ?_ | refine l_op (o_call (f := 71) rfl rfl (by decide) rfl rfl (fun w hw => usesOf_calls w)) ?_ | refine l_op (o_call (f := 82) rfl rfl (by decide) rfl rfl (fun w hw => usesParts_calls w)) ?_ | (refine l_loud (u_call _ _ _ (f := 83) rfl rfl rfl (fun w hw => parts_wd true HG.out HALL.out HN.out (by assumption) (by omega) (by omega) (by decide) hw)) rfl (by decide) (fun y hy => ?_); obtain ⟨hj, hpi⟩ := hy) | refine l_loud0 (u_store 5 rfl rfl rfl rfl rfl rfl rfl) rfl (fun _ _ => ?_) | refine l_nil ?_ | refine s_seq ?_ | refine s_region ?_ | refine s_skip ?_ | refine s_cond_true rfl ?_ | refine s_cond_false rfl ?_ | refine l_op (o_eql rfl rfl (by decide) rfl rfl rfl (by first | assumption | exact beq_iff_eq.2 (by omega) | exact beq_eq_false_iff_ne.2 (by omega) | rfl)) ?_)
        refine s_weak (E' := [(2, .pointer (some ⟨g2, 0, none⟩)), (5, .pointer (some ⟨br, 0, none⟩)), (6, .pointer (some ⟨g6, 0, none⟩))]) (.cons rfl rfl (.cons rfl rfl (.cons rfl rfl .nil))) ?_
        refine s_fact (fun w hw => (row_rd (hw.own 2 _ rfl) (by decide)).2) (fun hc => ?_)
        refine s_fact (fun w hw => (row_rd (hw.own 3 _ rfl) (by decide)).2) (fun hc3 => ?_)
        refine s_re (fun w hw => ((hw.toRd (i := 2) rfl (by decide)).toRd (i := 3) rfl (by decide)).to7) ?_
        refine key ({ bare (wAt ws 0) 7 with names := y.nm }) _ _ _ _ _ _ _ _ _ _ _ _ _ _ (y.ns) ([.rd _ _ 1 (sv (y.ns)), .rd _ _ 1 (sv y.nm)]) (by omega) (fun zz w hz hw => ?_)
        obtain ⟨name, w1, rest, e1, e2, e3, e4⟩ := HSP.out
        rw [show isName (wAt ws 0) = true from HU.out, if_pos rfl] at e4
        subst e1
        refine rl_end ⟨{ bare (wAt (name :: w1 :: rest) 0) 7 with names := y.nm }, none, 0, y.A', y.c', none, 0, y.ns, _, _, zz, [.rd _ _ 1 (sv (y.ns)), .rd _ _ 1 (sv y.nm)]⟩ ?_ rdw2 (fun w ha => ?_) hw
        · rw [hz, e4]
          exact pl_7 e3 hj hpi
        · exact ⟨⟨Nat.le_refl _, hc3, Nat.le_refl _, rd_none _ _, ha _ (List.mem_cons_of_mem _ List.mem_cons_self), rd_none _ _⟩, ha _ List.mem_cons_self, hc⟩
      · skip
        repeat (first | refine l_op (o_move rfl rfl (by decide) rfl rfl) ?_ | refine l_op (o_fieldAddr rfl rfl (by decide) rfl rfl) ?_ | refine l_op (o_load rfl rfl (by decide) rfl rfl (by first | exact fun w hw => hw.cell_blkL 0 rfl rfl | exact fun w hw => hw.cell_blkL 1 rfl rfl | exact fun w hw => hw.cell_blkL 2 rfl rfl | exact fun w hw => hw.cell_blkL 3 rfl rfl | exact fun w hw => hw.cell_blkL 4 rfl rfl | exact fun w hw => hw.cell_blkL 5 rfl rfl | exact fun w hw => hw.cell_old (by assumption) (by simp) | exact fun w hw => hw.cell_range (by assumption) rfl (by simp))) ?_ | refine l_op (o_loadN rfl rfl (by decide) rfl rfl (by first | exact fun w hw => hw.range_blk 0 rfl | exact fun w hw => hw.range_blk 1 rfl | exact fun w hw => hw.range_blk 2 rfl | exact fun w hw => hw.range_blk 3 rfl | exact fun w hw => hw.range_blk 4 rfl | exact fun w hw => hw.range_blk 5 rfl | exact fun w hw => hw.range_old (by assumption) (by simp)) (by first | rfl | exact setC_len _)) ?_ | refine l_op (o_call (f := 66) rfl rfl (by decide) rfl rfl (fun w hw => usesStop_calls w)) ?_ | refine l_op (o_call (f := 68) rfl rfl (by decide) rfl rfl (fun w hw => usesSize_calls w)) ?_ | refine l_op (o_call (f := 69) rfl rfl (by decide) rfl rfl (fun w hw => usesMax_calls w)) ?_ | refine l_op (o_call (f := 70) rfl rfl (by decide) rfl rfl (fun w hw => usesCount_calls w)) ?_ | refine l_op (o_call (f := 71) rfl rfl (by decide) rfl rfl (fun w hw => usesOf_calls w)) ?_ | refine l_op (o_call (f := 82) rfl rfl (by decide) rfl rfl (fun w hw => usesParts_calls w)) ?_ | (refine l_loud (u_call _ _ _ (f := 83) rfl rfl rfl (fun w hw => parts_wd false HG.out HALL.out HN.out (by assumption) (by omega) (by omega) (by decide) hw)) rfl (by decide) (fun y hy => ?_); obtain ⟨hj, hpi⟩ := hy) | refine l_loud0 (u_store 5 rfl rfl rfl rfl rfl rfl rfl) rfl (fun _ _ => ?_) | refine l_nil ?_ | refine s_seq ?_ | refine s_region ?_ | refine s_skip ?_ | refine s_cond_true rfl ?_ | refine s_cond_false rfl ?_ | refine l_op (o_eql rfl rfl (by decide) rfl rfl rfl (by first | assumption | exact beq_iff_eq.2 (by omega) | exact beq_eq_false_iff_ne.2 (by omega) | rfl)) ?_)
        refine s_weak (E' := [(2, .pointer (some ⟨g2, 0, none⟩)), (5, .pointer (some ⟨br, 0, none⟩)), (6, .pointer (some ⟨g6, 0, none⟩))]) (.cons rfl rfl (.cons rfl rfl (.cons rfl rfl .nil))) ?_
        refine s_fact (fun w hw => (row_rd (hw.own 2 _ rfl) (by decide)).2) (fun hc => ?_)
        refine s_fact (fun w hw => (row_rd (hw.own 3 _ rfl) (by decide)).2) (fun hc3 => ?_)
        refine s_re (fun w hw => ((hw.toRd (i := 2) rfl (by decide)).toRd (i := 3) rfl (by decide)).to7) ?_
        refine key ({ bare (wAt ws 0) 8 with names := y.nm }) _ _ _ _ _ _ _ _ _ _ _ _ _ _ (y.ns) ([.rd _ _ 1 (sv (y.ns)), .rd _ _ 1 (sv y.nm)]) (by omega) (fun zz w hz hw => ?_)
        obtain ⟨name, w1, rest, e1, e2, e3, e4⟩ := HSP.out
        rw [show isName (wAt ws 0) = true from HU.out, if_pos rfl] at e4
        subst e1
        refine rl_end ⟨{ bare (wAt (name :: w1 :: rest) 0) 8 with names := y.nm }, none, 0, y.A', y.c', none, 0, y.ns, _, _, zz, [.rd _ _ 1 (sv (y.ns)), .rd _ _ 1 (sv y.nm)]⟩ ?_ rdw2 (fun w ha => ?_) hw
        · rw [hz, e4]
          exact (by have h := pl_8 e3 hj hpi; rw [h.2]; exact h.1)
        · exact ⟨⟨Nat.le_refl _, hc3, Nat.le_refl _, rd_none _ _, ha _ (List.mem_cons_of_mem _ List.mem_cons_self), rd_none _ _⟩, ha _ List.mem_cons_self, hc⟩
      · skip
        repeat (first | refine l_op (o_move rfl rfl (by decide) rfl rfl) ?_ | refine l_op (o_fieldAddr rfl rfl (by decide) rfl rfl) ?_ | refine l_op (o_load rfl rfl (by decide) rfl rfl (by first | exact fun w hw => hw.cell_blkL 0 rfl rfl | exact fun w hw => hw.cell_blkL 1 rfl rfl | exact fun w hw => hw.cell_blkL 2 rfl rfl | exact fun w hw => hw.cell_blkL 3 rfl rfl | exact fun w hw => hw.cell_blkL 4 rfl rfl | exact fun w hw => hw.cell_blkL 5 rfl rfl | exact fun w hw => hw.cell_old (by assumption) (by simp) | exact fun w hw => hw.cell_range (by assumption) rfl (by simp))) ?_ | refine l_op (o_loadN rfl rfl (by decide) rfl rfl (by first | exact fun w hw => hw.range_blk 0 rfl | exact fun w hw => hw.range_blk 1 rfl | exact fun w hw => hw.range_blk 2 rfl | exact fun w hw => hw.range_blk 3 rfl | exact fun w hw => hw.range_blk 4 rfl | exact fun w hw => hw.range_blk 5 rfl | exact fun w hw => hw.range_old (by assumption) (by simp)) (by first | rfl | exact setC_len _)) ?_ | refine l_op (o_call (f := 66) rfl rfl (by decide) rfl rfl (fun w hw => usesStop_calls w)) ?_ | refine l_op (o_call (f := 68) rfl rfl (by decide) rfl rfl (fun w hw => usesSize_calls w)) ?_ | refine l_op (o_call (f := 69) rfl rfl (by decide) rfl rfl (fun w hw => usesMax_calls w)) ?_ | refine l_op (o_call (f := 70) rfl rfl (by decide) rfl rfl (fun w hw => usesCount_calls w)) ?_ | refine l_op (o_call (f := 71) rfl rfl (by decide) rfl rfl (fun w hw => usesOf_calls w)) ?_ | refine l_op (o_call (f := 82) rfl rfl (by decide) rfl rfl (fun w hw => usesParts_calls w)) ?_ | refine l_loud0 (u_store 4 rfl rfl rfl rfl rfl rfl rfl) rfl (fun _ _ => ?_) | (refine l_loud (u_call _ _ _ (f := 79) rfl rfl rfl (fun w hw => number_wd HG.out HALL.out HN.out (by assumption) (by omega) (by omega) hw)) rfl (by decide) (fun y hy => ?_); obtain ⟨hk, hq⟩ := hy) | (refine l_loud (u_call _ _ _ (f := 75) rfl rfl rfl (fun w hw => next_wd HN.out (by assumption) (by omega) (by omega) hw)) rfl (by decide) (fun y hy => ?_); obtain ⟨hk, hq⟩ := hy) | refine l_loud (u_call _ _ _ (f := 81) rfl rfl rfl (fun w hw => rule_wd (wAt_len HALL.out _) (by simp) hw)) rfl (by decide) (fun z _ => ?_) | refine l_nil ?_ | refine s_seq ?_ | refine s_region ?_ | refine s_skip ?_ | refine s_cond_true rfl ?_ | refine s_cond_false rfl ?_ | refine l_op (o_eql rfl rfl (by decide) rfl rfl rfl (by first | assumption | exact beq_iff_eq.2 (by omega) | exact beq_eq_false_iff_ne.2 (by omega) | rfl)) ?_)
        refine s_weak (E' := [(2, .pointer (some ⟨g2, 0, none⟩)), (5, .pointer (some ⟨br, 0, none⟩)), (6, .pointer (some ⟨g6, 0, none⟩))]) (.cons rfl rfl (.cons rfl rfl (.cons rfl rfl .nil))) ?_
        refine s_fact (fun w hw => (row_rd (hw.own 2 _ rfl) (by decide)).2) (fun hc => ?_)
        refine s_re (fun w hw => (hw.toRd (i := 2) rfl (by decide)).to6) ?_
        refine key ({ bare (wAt ws 0) 9 with stop := atoiV (wAt ws 2) }) _ _ _ _ _ _ _ _ _ _ _ _ _ _ ([] ++ [wAt ws _]) ([.rd _ _ 1 (sv ([] ++ [wAt ws _]))]) (by omega) (fun zz w hz hw => ?_)
        obtain ⟨name, w1, rest, e1, e2, e3, e4⟩ := HSP.out
        rw [show isName (wAt ws 0) = true from HU.out, if_pos rfl] at e4
        subst e1
        refine rl_end ⟨{ bare (wAt (name :: w1 :: rest) 0) 9 with stop := atoiV (wAt (name :: w1 :: rest) 2) }, none, 0, none, 0, none, 0, [] ++ [wAt (name :: w1 :: rest) _], _, _, zz, [.rd _ _ 1 (sv ([] ++ [wAt (name :: w1 :: rest) _]))]⟩ ?_ rdw1 (fun w ha => ?_) hw
        · rw [hz, e4]
          exact pl_9 e3 (by assumption) (by assumption) rfl
        · exact ⟨⟨Nat.le_refl _, Nat.le_refl _, Nat.le_refl _, rd_none _ _, rd_none _ _, rd_none _ _⟩, ha _ List.mem_cons_self, hc⟩
      · skip
        repeat (first | refine l_op (o_move rfl rfl (by decide) rfl rfl) ?_ | refine l_op (o_fieldAddr rfl rfl (by decide) rfl rfl) ?_ | refine l_op (o_load rfl rfl (by decide) rfl rfl (by first | exact fun w hw => hw.cell_blkL 0 rfl rfl | exact fun w hw => hw.cell_blkL 1 rfl rfl | exact fun w hw => hw.cell_blkL 2 rfl rfl | exact fun w hw => hw.cell_blkL 3 rfl rfl | exact fun w hw => hw.cell_blkL 4 rfl rfl | exact fun w hw => hw.cell_blkL 5 rfl rfl | exact fun w hw => hw.cell_old (by assumption) (by simp) | exact fun w hw => hw.cell_range (by assumption) rfl (by simp))) ?_ | refine l_op (o_loadN rfl rfl (by decide) rfl rfl (by first | exact fun w hw => hw.range_blk 0 rfl | exact fun w hw => hw.range_blk 1 rfl | exact fun w hw => hw.range_blk 2 rfl | exact fun w hw => hw.range_blk 3 rfl | exact fun w hw => hw.range_blk 4 rfl | exact fun w hw => hw.range_blk 5 rfl | exact fun w hw => hw.range_old (by assumption) (by simp)) (by first | rfl | exact setC_len _)) ?_ | refine l_op (o_call (f := 66) rfl rfl (by decide) rfl rfl (fun w hw => usesStop_calls w)) ?_ | refine l_op (o_call (f := 68) rfl rfl (by decide) rfl rfl (fun w hw => usesSize_calls w)) ?_ | refine l_op (o_call (f := 69) rfl rfl (by decide) rfl rfl (fun w hw => usesMax_calls w)) ?_ | refine l_op (o_call (f := 70) rfl rfl (by decide) rfl rfl (fun w hw => usesCount_calls w)) ?_ | refine l_op (o_call (f := 71) rfl rfl (by decide) rfl rfl (fun w hw => usesOf_calls w)) ?_ | refine l_op (o_call (f := 82) rfl rfl (by decide) rfl rfl (fun w hw => usesParts_calls w)) ?_ | (refine l_loud (u_call _ _ _ (f := 75) rfl rfl rfl (fun w hw => next_wd HN.out (by assumption) (by omega) (by omega) hw)) rfl (by decide) (fun y hy => ?_); obtain ⟨hk, hq⟩ := hy) | refine l_loud (u_call _ _ _ (f := 81) rfl rfl rfl (fun w hw => rule_wd (wAt_len HALL.out _) (by simp) hw)) rfl (by decide) (fun z _ => ?_) | refine l_nil ?_ | refine s_seq ?_ | refine s_region ?_ | refine s_skip ?_ | refine s_cond_true rfl ?_ | refine s_cond_false rfl ?_ | refine l_op (o_eql rfl rfl (by decide) rfl rfl rfl (by first | assumption | exact beq_iff_eq.2 (by omega) | exact beq_eq_false_iff_ne.2 (by omega) | rfl)) ?_)
        refine s_weak (E' := [(2, .pointer (some ⟨g2, 0, none⟩)), (5, .pointer (some ⟨br, 0, none⟩)), (6, .pointer (some ⟨g6, 0, none⟩))]) (.cons rfl rfl (.cons rfl rfl (.cons rfl rfl .nil))) ?_
        refine s_fact (fun w hw => (row_rd (hw.own 2 _ rfl) (by decide)).2) (fun hc => ?_)
        refine s_re (fun w hw => (hw.toRd (i := 2) rfl (by decide)).to6) ?_
        refine key (bare (wAt ws 0) 10) _ _ _ _ _ _ _ _ _ _ _ _ _ _ ([] ++ [wAt ws 2]) ([.rd _ _ 1 (sv ([] ++ [wAt ws 2]))]) (by omega) (fun zz w hz hw => ?_)
        obtain ⟨name, w1, rest, e1, e2, e3, e4⟩ := HSP.out
        rw [show isName (wAt ws 0) = true from HU.out, if_pos rfl] at e4
        subst e1
        refine rl_end ⟨bare (wAt (name :: w1 :: rest) 0) 10, none, 0, none, 0, none, 0, [] ++ [wAt (name :: w1 :: rest) 2], _, _, zz, [.rd _ _ 1 (sv ([] ++ [wAt (name :: w1 :: rest) 2]))]⟩ ?_ rdw1 (fun w ha => ?_) hw
        · rw [hz, e4]
          exact pl_10 e3 (by assumption) rfl
        · exact ⟨⟨Nat.le_refl _, Nat.le_refl _, Nat.le_refl _, rd_none _ _, rd_none _ _, rd_none _ _⟩, ha _ List.mem_cons_self, hc⟩
    case tail =>
      intro x A1 A2 A3 n1 n2 n3 c1 c2 c3 B k q c A ns ats hkN hfin
      cases B with
      | true =>
        refine s_drawn [.blk br (.cells [.slice (some ⟨bw, q, none⟩) (N - k) (N - k), .bool true, .slice A ns.length c].toArray 95 (0, 0)), .blk g6 (.cells (ruC x (.slice A1 n1 c1) (.slice A2 n2 c2) (.slice A3 n3 c3)).toArray 52 (0, 0))] [] (by kernel_rfl) ?_
        first | refine d_op 0 rfl (by kernel_rfl) (Through.sel [0, 1] (by decide) rfl) (o_loadN rfl rfl (by decide) rfl rfl (by first | exact fun w hw => hw.range_blk 0 rfl | exact fun w hw => hw.range_blk 1 rfl | exact fun w hw => hw.range_blk 2 rfl | exact fun w hw => hw.range_blk 3 rfl | exact fun w hw => hw.range_blk 4 rfl | exact fun w hw => hw.range_blk 5 rfl | exact fun w hw => hw.range_old (by assumption) (by simp)) (by first | rfl | exact setC_len _)) ?_
        first | refine d_op 1 rfl (by kernel_rfl) (Through.sel [0, 1] (by decide) rfl) (o_move rfl rfl (by decide) rfl rfl) ?_
        first | refine d_op 2 rfl (by kernel_rfl) (Through.sel [0, 1] (by decide) rfl) (o_nil rfl rfl (by decide) rfl rfl) ?_
        first | refine d_op 3 rfl (by kernel_rfl) (Through.sel [0, 1] (by decide) rfl) (o_fieldAddr rfl rfl (by decide) rfl rfl) ?_
        first | refine d_op 4 rfl (by kernel_rfl) (Through.sel [0, 1] (by decide) rfl) (o_load rfl rfl (by decide) rfl rfl (by first | exact fun w hw => hw.cell_blkL 0 rfl rfl | exact fun w hw => hw.cell_blkL 1 rfl rfl | exact fun w hw => hw.cell_blkL 2 rfl rfl | exact fun w hw => hw.cell_blkL 3 rfl rfl | exact fun w hw => hw.cell_blkL 4 rfl rfl | exact fun w hw => hw.cell_blkL 5 rfl rfl | exact fun w hw => hw.cell_old (by assumption) (by simp) | exact fun w hw => hw.cell_range (by assumption) rfl (by simp))) ?_
        first | refine d_op 5 rfl (by kernel_rfl) (Through.sel [0, 1] (by decide) rfl) (o_move rfl rfl (by decide) rfl rfl) ?_
        first | refine d_op 6 rfl (by kernel_rfl) (Through.sel [0, 1] (by decide) rfl) (o_nil rfl rfl (by decide) rfl rfl) ?_
        first | refine d_op 7 rfl (by kernel_rfl) (Through.sel [0, 1] (by decide) rfl) (o_fieldAddr rfl rfl (by decide) rfl rfl) ?_
        first | refine d_op 8 rfl (by kernel_rfl) (Through.sel [0, 1] (by decide) rfl) (o_load rfl rfl (by decide) rfl rfl (by first | exact fun w hw => hw.cell_blkL 0 rfl rfl | exact fun w hw => hw.cell_blkL 1 rfl rfl | exact fun w hw => hw.cell_blkL 2 rfl rfl | exact fun w hw => hw.cell_blkL 3 rfl rfl | exact fun w hw => hw.cell_blkL 4 rfl rfl | exact fun w hw => hw.cell_blkL 5 rfl rfl | exact fun w hw => hw.cell_old (by assumption) (by simp) | exact fun w hw => hw.cell_range (by assumption) rfl (by simp))) ?_
        first | refine d_op 9 rfl (by kernel_rfl) (Through.sel [0, 1] (by decide) rfl) (o_not rfl rfl (by decide) rfl rfl rfl) ?_
        first | refine d_op 10 rfl (by kernel_rfl) (Through.sel [0, 1] (by decide) rfl) (o_move rfl rfl (by decide) rfl rfl) ?_
        first | refine d_op 11 rfl (by kernel_rfl) (Through.sel [0, 1] (by decide) rfl) (o_skip rfl (by decide) rfl) ?_
        first | refine d_op 12 rfl (by kernel_rfl) (Through.sel [0, 1] (by decide) rfl) (o_skip rfl (by decide) rfl) ?_
        first | refine d_op 13 rfl (by kernel_rfl) (Through.sel [0, 1] (by decide) rfl) (o_skip rfl (by decide) rfl) ?_
        first | refine d_op 14 rfl (by kernel_rfl) (Through.sel [0, 1] (by decide) rfl) (o_skip rfl (by decide) rfl) ?_
        first | refine d_op 15 rfl (by kernel_rfl) (Through.sel [0, 1] (by decide) rfl) (o_skip rfl (by decide) rfl) ?_
        first | refine d_op 16 rfl (by kernel_rfl) (Through.sel [0, 1] (by decide) rfl) (o_skip rfl (by decide) rfl) ?_
        first | refine d_op 17 rfl (by kernel_rfl) (Through.sel [0, 1] (by decide) rfl) (o_pick_no rfl rfl (by decide) rfl rfl rfl) ?_
        refine d_loud0 18 (by kernel_rfl) rfl rfl (u_storeN 2 rfl rfl rfl rfl rfl rfl rfl (by simp)) (fun _ => .inr (Through.sel [0, 1] (by decide) rfl)) rfl (fun _ _ => ?_)
        rw [putL_full (by rfl)]
        first | refine d_op 19 rfl (by kernel_rfl) (Through.sel [0, 1] (by decide) rfl) (o_assign rfl rfl (by decide) rfl rfl) ?_
        first | refine d_op 20 rfl (by kernel_rfl) (Through.sel [0, 1] (by decide) rfl) (o_assign rfl rfl (by decide) rfl rfl) ?_
        refine d_end ?_ (by kernel_rfl)
        repeat (first | refine s_ret ?_)
        refine x_body3 (by first | exact .inl rfl | exact .inr rfl) rfl (RsV.blk 2 rfl rfl rfl) (.tmp rfl) (.tmp rfl) (fun w hw => hfin _ w rfl hw.tail.tail.tail)
      | false =>
        obtain ⟨zz, hzz⟩ : ∃ zz, (((N - k : Nat) : Int) == 0) = zz := ⟨_, rfl⟩
        refine s_drawn [.blk br (.cells [.slice (some ⟨bw, q, none⟩) (N - k) (N - k), .bool false, .slice A ns.length c].toArray 95 (0, 0)), .blk g6 (.cells (ruC x (.slice A1 n1 c1) (.slice A2 n2 c2) (.slice A3 n3 c3)).toArray 52 (0, 0))] [] (by kernel_rfl) ?_
        first | refine d_op 0 rfl (by kernel_rfl) (Through.sel [0, 1] (by decide) rfl) (o_loadN rfl rfl (by decide) rfl rfl (by first | exact fun w hw => hw.range_blk 0 rfl | exact fun w hw => hw.range_blk 1 rfl | exact fun w hw => hw.range_blk 2 rfl | exact fun w hw => hw.range_blk 3 rfl | exact fun w hw => hw.range_blk 4 rfl | exact fun w hw => hw.range_blk 5 rfl | exact fun w hw => hw.range_old (by assumption) (by simp)) (by first | rfl | exact setC_len _)) ?_
        first | refine d_op 1 rfl (by kernel_rfl) (Through.sel [0, 1] (by decide) rfl) (o_move rfl rfl (by decide) rfl rfl) ?_
        first | refine d_op 2 rfl (by kernel_rfl) (Through.sel [0, 1] (by decide) rfl) (o_nil rfl rfl (by decide) rfl rfl) ?_
        first | refine d_op 3 rfl (by kernel_rfl) (Through.sel [0, 1] (by decide) rfl) (o_fieldAddr rfl rfl (by decide) rfl rfl) ?_
        first | refine d_op 4 rfl (by kernel_rfl) (Through.sel [0, 1] (by decide) rfl) (o_load rfl rfl (by decide) rfl rfl (by first | exact fun w hw => hw.cell_blkL 0 rfl rfl | exact fun w hw => hw.cell_blkL 1 rfl rfl | exact fun w hw => hw.cell_blkL 2 rfl rfl | exact fun w hw => hw.cell_blkL 3 rfl rfl | exact fun w hw => hw.cell_blkL 4 rfl rfl | exact fun w hw => hw.cell_blkL 5 rfl rfl | exact fun w hw => hw.cell_old (by assumption) (by simp) | exact fun w hw => hw.cell_range (by assumption) rfl (by simp))) ?_
        first | refine d_op 5 rfl (by kernel_rfl) (Through.sel [0, 1] (by decide) rfl) (o_move rfl rfl (by decide) rfl rfl) ?_
        first | refine d_op 6 rfl (by kernel_rfl) (Through.sel [0, 1] (by decide) rfl) (o_nil rfl rfl (by decide) rfl rfl) ?_
        first | refine d_op 7 rfl (by kernel_rfl) (Through.sel [0, 1] (by decide) rfl) (o_fieldAddr rfl rfl (by decide) rfl rfl) ?_
        first | refine d_op 8 rfl (by kernel_rfl) (Through.sel [0, 1] (by decide) rfl) (o_load rfl rfl (by decide) rfl rfl (by first | exact fun w hw => hw.cell_blkL 0 rfl rfl | exact fun w hw => hw.cell_blkL 1 rfl rfl | exact fun w hw => hw.cell_blkL 2 rfl rfl | exact fun w hw => hw.cell_blkL 3 rfl rfl | exact fun w hw => hw.cell_blkL 4 rfl rfl | exact fun w hw => hw.cell_blkL 5 rfl rfl | exact fun w hw => hw.cell_old (by assumption) (by simp) | exact fun w hw => hw.cell_range (by assumption) rfl (by simp))) ?_
        first | refine d_op 9 rfl (by kernel_rfl) (Through.sel [0, 1] (by decide) rfl) (o_not rfl rfl (by decide) rfl rfl rfl) ?_
        first | refine d_op 10 rfl (by kernel_rfl) (Through.sel [0, 1] (by decide) rfl) (o_move rfl rfl (by decide) rfl rfl) ?_
        first | refine d_op 11 rfl (by kernel_rfl) (Through.sel [0, 1] (by decide) rfl) (o_move rfl rfl (by decide) rfl rfl) ?_
        first | refine d_op 12 rfl (by kernel_rfl) (Through.sel [0, 1] (by decide) rfl) (o_nil rfl rfl (by decide) rfl rfl) ?_
        first | refine d_op 13 rfl (by kernel_rfl) (Through.sel [0, 1] (by decide) rfl) (o_fieldAddr rfl rfl (by decide) rfl rfl) ?_
        first | refine d_op 14 rfl (by kernel_rfl) (Through.sel [0, 1] (by decide) rfl) (o_load rfl rfl (by decide) rfl rfl (by first | exact fun w hw => hw.cell_blkL 0 rfl rfl | exact fun w hw => hw.cell_blkL 1 rfl rfl | exact fun w hw => hw.cell_blkL 2 rfl rfl | exact fun w hw => hw.cell_blkL 3 rfl rfl | exact fun w hw => hw.cell_blkL 4 rfl rfl | exact fun w hw => hw.cell_blkL 5 rfl rfl | exact fun w hw => hw.cell_old (by assumption) (by simp) | exact fun w hw => hw.cell_range (by assumption) rfl (by simp))) ?_
        first | refine d_op 15 rfl (by kernel_rfl) (Through.sel [0, 1] (by decide) rfl) (o_len rfl rfl (by decide) rfl rfl) ?_
        first | refine d_op 16 rfl (by kernel_rfl) (Through.sel [0, 1] (by decide) rfl) (o_eql rfl rfl (by decide) rfl rfl rfl (by first | assumption | exact beq_iff_eq.2 (by omega) | exact beq_eq_false_iff_ne.2 (by omega) | rfl)) ?_
        first | refine d_op 17 rfl (by kernel_rfl) (Through.sel [0, 1] (by decide) rfl) (o_pick_yes rfl rfl (by decide) rfl rfl rfl) ?_
        refine d_loud0 18 (by kernel_rfl) rfl rfl (u_storeN 2 rfl rfl rfl rfl rfl rfl rfl (by simp)) (fun _ => .inr (Through.sel [0, 1] (by decide) rfl)) rfl (fun _ _ => ?_)
        rw [putL_full (by rfl)]
        first | refine d_op 19 rfl (by kernel_rfl) (Through.sel [0, 1] (by decide) rfl) (o_assign rfl rfl (by decide) rfl rfl) ?_
        first | refine d_op 20 rfl (by kernel_rfl) (Through.sel [0, 1] (by decide) rfl) (o_assign rfl rfl (by decide) rfl rfl) ?_
        refine d_end ?_ (by kernel_rfl)
        repeat (first | refine s_ret ?_)
        refine x_body3 (by first | exact .inl rfl | exact .inr rfl) rfl (RsV.blk 2 rfl rfl rfl) (.tmp rfl) (.tmp rfl) (fun w hw => hfin _ w (by rw [← hzz]; rfl) hw.tail.tail.tail)
end
end Go.Proofs.YtgdiadednlajgaaGreatDoor
