import Derived.Test.YtgdiadednlajgaaGreatDoorP34
import Derived.Test.YtgdiadednlajgaaGreatDoorP25
namespace Go.Proofs.YtgdiadednlajgaaGreatDoor
open Go.RowKit
set_option linter.unusedVariables false
set_option linter.unusedSimpArgs false
instance : TN Tryz.prog 95 3 := ⟨_, Tryz.underlying95, rfl, by kernel_rfl⟩
instance : Fld Tryz.prog 95 0 0 := ⟨_, _, 1, Tryz.underlying95, rfl, rfl, by kernel_rfl, by decide⟩
instance : Fld Tryz.prog 95 1 1 := ⟨_, _, 1, Tryz.underlying95, rfl, rfl, by kernel_rfl, by decide⟩
instance : Fld Tryz.prog 95 2 2 := ⟨_, _, 1, Tryz.underlying95, rfl, rfl, by kernel_rfl, by decide⟩
section
variable {P : Program} {ops : Array Oper} {C : World → Prop} {N : Nat} {E : Env} {o : Oper} {d : Nat}
theorem o_nil {x : Operand} {p : Addr} (ho : o.op = .nilCheck x) (hd : o.dst = some d) (hN : d < N) (hw : wantE ops E o = some true) (hx : ev E x = some (.pointer (some p))) : oE P ops C N E ((d, .pointer (some p)) :: E) o :=
  o_val hd hN hw fun ρ w ha _ => by simp [execOp, ho, ha.eval hx, go_sem]
theorem o_ineq0 {x : Operand} {t t' : TypeId} (hT : P.underlying t = some (.interface (P.methodsAt t))) (ho : o.op = .binOp .neq t x (.const .nilIface) t') (hd : o.dst = some d) (hN : d < N) (hw : wantE ops E o = some true) (hx : ev E x = some .nilIface) : oE P ops C N E ((d, .bool false) :: E) o :=
  o_val hd hN hw fun ρ w ha _ => by
    have hc : ρ (.const .nilIface) = .nilIface := ha.eval rfl
    simp [execOp, ho, ha.eval hx, hc, eqGuard, run_neq_nil_nil _ _ hT, go_sem]
theorem o_ineq1 {x : Operand} {t t' te : TypeId} {p : Value} (hT : P.underlying t = some (.interface (P.methodsAt t))) (ho : o.op = .binOp .neq t x (.const .nilIface) t') (hd : o.dst = some d) (hN : d < N) (hw : wantE ops E o = some true) (hx : ev E x = some (.iface te p)) : oE P ops C N E ((d, .bool true) :: E) o :=
  o_val hd hN hw fun ρ w ha _ => by
    have hc : ρ (.const .nilIface) = .nilIface := ha.eval rfl
    simp [execOp, ho, ha.eval hx, hc, eqGuard, run_neq_held_nil _ _ _ _ hT, go_sem]
end
abbrev rdO (br bw q N k : Nat) (bad : Bool) (ws : List (List UInt8)) (A : Option Addr) (c : Nat) (ns : List (List UInt8)) : List Atom :=
  [.blk br (.cells [.slice (some ⟨bw, q, none⟩) (N - k) (N - k), .bool bad, .slice A ns.length c].toArray 95 (0, 0)), .rd (some ⟨bw, 0, none⟩) N 1 (sv ws), .row A ns.length c 9 1 (sv ns)]
def wAt (ws : List (List UInt8)) (k : Nat) : List UInt8 := ws.getD k []
section
variable {M : List Nat} {W w : World} {O : List Atom} {br bw q N k c : Nat} {bad : Bool} {ws ns : List (List UInt8)} {A : Option Addr}
set_option maxRecDepth 100000 in
set_option maxHeartbeats 4000000 in
theorem next_wd (hN : ws.length = N) (hq : k < N → q = k) (hk : k ≤ N) (hn : N ≤ 1048576) (hw : Wd M W (rdO br bw q N k bad ws A c ns ++ O) w) :
    Calls Tryz.prog 75 #[.pointer (some ⟨br, 0, none⟩)] w (CallEnd (fun _ : Nat × Nat => .string ⟨(wAt ws k).toArray⟩) (fun y => y.1 = min (k + 1) N ∧ (y.1 < N → y.2 = y.1)) M W (fun y => rdO br bw y.2 N y.1 (bad || decide (N ≤ k)) ws A c ns ++ O)) := by
  by_cases hkn : k < N
  · obtain rfl := hq hkn
    obtain ⟨x, hx⟩ : ∃ x, ws[q]? = some x := ⟨_, List.getElem?_eq_getElem (by omega)⟩
    have hwa : wAt ws q = x := by unfold wAt; rw [List.getD_eq_getElem?_getD, hx]; rfl
    have hc : (sv ws)[q]? = some (.string ⟨x.toArray⟩) := by unfold sv; rw [List.getElem?_map, hx]; rfl
    have hc0 : (sv ws)[q + 0]? = some (.string ⟨x.toArray⟩) := hc
    rw [hwa, decide_eq_false (by omega), Bool.or_false]
    have hlt : 0 < N - q := by omega
    clear hx hwa
    go_enter Tryz.func75, Tryz.ntmps75
    refine s_go (M := M) (W := W) (N := 28) (E := [(0, .pointer (some ⟨br, 0, none⟩))]) (O := rdO br bw q N q bad ws A c ns ++ O) ?_ (Ag.cons (Ag.nil rfl rfl) rfl) hw
    repeat (first | refine l_op (o_move rfl rfl (by decide) rfl rfl) ?_ | refine l_op (o_assign rfl rfl (by decide) rfl rfl) ?_ | refine l_op (o_fieldAddr rfl rfl (by decide) rfl rfl) ?_ | refine l_op (o_load rfl rfl (by decide) rfl rfl (by first | exact fun w hw => hw.cell_blkL 0 rfl rfl | exact fun w hw => hw.cell_blkL 1 rfl rfl | exact fun w hw => hw.cell_blkL 2 rfl rfl | exact fun w hw => hw.cell_blkL 3 rfl rfl | exact fun w hw => hw.cell_blkL 4 rfl rfl | exact fun w hw => hw.cell_blkL 5 rfl rfl | exact fun w hw => hw.cell_old (by assumption) (by simp) | exact fun w hw => hw.cell_range (by assumption) rfl (by simp))) ?_ | refine l_op (o_nil rfl rfl (by decide) rfl rfl) ?_ | refine l_op (o_indexAddr1 (j := 0) rfl rfl (by decide) rfl rfl rfl hlt) ?_ | (refine l_op (o_load rfl rfl (by decide) rfl rfl (fun w hw => by have := hw.cell_rd 1 rfl hc; rwa [Nat.zero_add] at this)) ?_) | refine l_op (o_slice_l (l := 1) rfl rfl (by decide) rfl rfl rfl hlt) ?_ | refine l_loud0 (u_store 0 rfl rfl rfl rfl rfl rfl rfl) rfl (fun _ _ => ?_) | refine l_nil ?_ | refine s_seq ?_ | refine s_region ?_ | refine s_skip ?_ | refine s_cond_false rfl ?_ | refine s_ret ?_ | refine l_op (o_len rfl rfl (by decide) rfl rfl) ?_ | refine l_op (o_eql rfl rfl (by decide) rfl rfl rfl (by first | assumption | exact beq_iff_eq.2 (by omega) | exact beq_eq_false_iff_ne.2 (by omega) | rfl)) ?_)
    refine x_body1 (by first | exact .inl rfl | exact .inr rfl) rfl (.tmp rfl) (fun w hw => ?_)
    have e : N - q - 1 = N - (q + 1) := by omega
    by_cases h1 : N - q = 1
    · refine ⟨(q + 1, q), rfl, ⟨by show q + 1 = min (q + 1) N; omega, fun h => absurd (show q + 1 < N from h) (by omega)⟩, ?_⟩
      have h := hw
      rw [cutA, if_pos h1, e] at h
      exact h
    · refine ⟨(q + 1, q + 1), rfl, ⟨by show q + 1 = min (q + 1) N; omega, fun _ => rfl⟩, ?_⟩
      have h := hw
      rw [cutA, if_neg h1, Option.map_some, Addr.add_mid, e] at h
      exact h
  · obtain rfl : k = N := by omega
    have hwa : wAt ws k = [] := by unfold wAt; rw [List.getD_eq_getElem?_getD, List.getElem?_eq_none (by omega)]; rfl
    rw [hwa, decide_eq_true (Nat.le_refl k), Bool.or_true]
    go_enter Tryz.func75, Tryz.ntmps75
    refine s_go (M := M) (W := W) (N := 28) (E := [(0, .pointer (some ⟨br, 0, none⟩))]) (O := rdO br bw q k k bad ws A c ns ++ O) ?_ (Ag.cons (Ag.nil rfl rfl) rfl) hw
    repeat (first | refine l_op (o_move rfl rfl (by decide) rfl rfl) ?_ | refine l_op (o_assign rfl rfl (by decide) rfl rfl) ?_ | refine l_op (o_fieldAddr rfl rfl (by decide) rfl rfl) ?_ | refine l_op (o_load rfl rfl (by decide) rfl rfl (by first | exact fun w hw => hw.cell_blkL 0 rfl rfl | exact fun w hw => hw.cell_blkL 1 rfl rfl | exact fun w hw => hw.cell_blkL 2 rfl rfl | exact fun w hw => hw.cell_blkL 3 rfl rfl | exact fun w hw => hw.cell_blkL 4 rfl rfl | exact fun w hw => hw.cell_blkL 5 rfl rfl | exact fun w hw => hw.cell_old (by assumption) (by simp) | exact fun w hw => hw.cell_range (by assumption) rfl (by simp))) ?_ | refine l_op (o_nil rfl rfl (by decide) rfl rfl) ?_ | refine l_loud0 (u_store 0 rfl rfl rfl rfl rfl rfl rfl) rfl (fun _ _ => ?_) | refine l_nil ?_ | refine s_seq ?_ | refine s_region ?_ | refine s_cond_true rfl ?_ | refine s_ret ?_ | refine x_then_ret ?_ | refine l_op (o_len rfl rfl (by decide) rfl rfl) ?_ | refine l_op (o_eql rfl rfl (by decide) rfl rfl rfl (by first | assumption | exact beq_iff_eq.2 (by omega) | exact beq_eq_false_iff_ne.2 (by omega) | rfl)) ?_)
    exact x_body1 (by first | exact .inl rfl | exact .inr rfl) rfl (.tmp rfl) (fun w hw => ⟨(k, q), rfl, ⟨by show k = min (k + 1) k; omega, fun h => absurd (show k < k from h) (Nat.lt_irrefl k)⟩, hw⟩)
set_option maxRecDepth 100000 in
set_option maxHeartbeats 4000000 in
theorem rule_wd {x : List UInt8} (hx : x.length ≤ 1048576) (hn : ns.length ≤ 1048576) (hw : Wd M W (rdO br bw q N k bad ws A c ns ++ O) w) :
    Calls Tryz.prog 81 #[.pointer (some ⟨br, 0, none⟩), .string ⟨x.toArray⟩] w (CallEnd (fun _ : Option Addr × Nat => .tuple #[]) (fun _ => True) M W (fun y => rdO br bw q N k (bad || !(isName x)) ws y.1 y.2 (ns ++ [x]) ++ O)) := by
  have hsz : (⟨x.toArray⟩ : ByteArray).size ≤ 9223372036854775807 := by rw [ba_size]; omega
  cases bad with
  | true =>
    rw [Bool.true_or]
    go_enter Tryz.func81, Tryz.ntmps81
    refine s_go (M := M) (W := W) (N := 26) (E := [(0, .pointer (some ⟨br, 0, none⟩)), (1, .string ⟨x.toArray⟩)]) (O := rdO br bw q N k true ws A c ns ++ O) ?_ (Ag.cons (Ag.cons (Ag.nil rfl rfl) rfl) rfl) hw
    repeat (first | refine l_op (o_move rfl rfl (by decide) rfl rfl) ?_ | refine l_op (o_fieldAddr rfl rfl (by decide) rfl rfl) ?_ | refine l_op (o_skip rfl (by decide) rfl) ?_ | refine l_op (o_load rfl rfl (by decide) rfl rfl (by first | exact fun w hw => hw.cell_blkL 0 rfl rfl | exact fun w hw => hw.cell_blkL 1 rfl rfl | exact fun w hw => hw.cell_blkL 2 rfl rfl | exact fun w hw => hw.cell_blkL 3 rfl rfl | exact fun w hw => hw.cell_blkL 4 rfl rfl | exact fun w hw => hw.cell_blkL 5 rfl rfl | exact fun w hw => hw.cell_old (by assumption) (by simp) | exact fun w hw => hw.cell_range (by assumption) rfl (by simp))) ?_ | refine l_op (o_nil rfl rfl (by decide) rfl rfl) ?_ | refine l_loud (u_slice1 (size := 1) (cs := [.string ⟨x.toArray⟩]) rfl rfl rfl rfl rfl (by decide)) rfl (by decide) (fun bn _ => ?_) | refine l_loud (u_append (news := [.string ⟨x.toArray⟩]) 3 rfl rfl rfl rfl rfl (fun w hw => hw.rd_blk 0 rfl rfl) (by simp [Value.oneCell']) (by omega)) rfl (by decide) (fun y _ => ?_) | refine l_loud0 (u_store 0 rfl rfl rfl rfl rfl rfl rfl) rfl (fun _ _ => ?_) | refine l_loud0 (u_store 1 rfl rfl rfl rfl rfl rfl rfl) rfl (fun _ _ => ?_) | refine l_nil ?_ | refine s_seq ?_ | refine s_region ?_ | refine l_op (o_pick_yes rfl rfl (by decide) rfl rfl rfl) ?_)
    refine x_body0 (by first | exact .inl rfl | exact .inr rfl) rfl (fun w hw => ⟨y, rfl, trivial, ?_⟩)
    have h := hw.tail
    rw [show (ns ++ [x]).length = ns.length + 1 by simp, sv_app]
    exact h
  | false =>
    rw [Bool.false_or]
    obtain ⟨u, hu⟩ : ∃ u, isName x = u := ⟨_, rfl⟩
    have HU := Lib.hid hu
    rw [hu]
    clear hu
    go_enter Tryz.func81, Tryz.ntmps81
    refine s_go (M := M) (W := W) (N := 26) (E := [(0, .pointer (some ⟨br, 0, none⟩)), (1, .string ⟨x.toArray⟩)]) (O := rdO br bw q N k false ws A c ns ++ O) ?_ (Ag.cons (Ag.cons (Ag.nil rfl rfl) rfl) rfl) hw
    repeat (first | refine l_op (o_move rfl rfl (by decide) rfl rfl) ?_ | refine l_op (o_fieldAddr rfl rfl (by decide) rfl rfl) ?_ | refine l_op (o_load rfl rfl (by decide) rfl rfl (by first | exact fun w hw => hw.cell_blkL 0 rfl rfl | exact fun w hw => hw.cell_blkL 1 rfl rfl | exact fun w hw => hw.cell_blkL 2 rfl rfl | exact fun w hw => hw.cell_blkL 3 rfl rfl | exact fun w hw => hw.cell_blkL 4 rfl rfl | exact fun w hw => hw.cell_blkL 5 rfl rfl | exact fun w hw => hw.cell_old (by assumption) (by simp) | exact fun w hw => hw.cell_range (by assumption) rfl (by simp))) ?_ | refine l_op (o_nil rfl rfl (by decide) rfl rfl) ?_ | (refine l_op (o_call (f := 77) rfl rfl (by decide) rfl rfl (fun w hw => name_calls _ w hsz)) ?_; rw [show isName (⟨x.toArray⟩ : ByteArray).data.toList = u from HU.out]) | refine l_loud (u_slice1 (size := 1) (cs := [.string ⟨x.toArray⟩]) rfl rfl rfl rfl rfl (by decide)) rfl (by decide) (fun bn _ => ?_) | refine l_loud (u_append (news := [.string ⟨x.toArray⟩]) 3 rfl rfl rfl rfl rfl (fun w hw => hw.rd_blk 0 rfl rfl) (by simp [Value.oneCell']) (by omega)) rfl (by decide) (fun y _ => ?_) | refine l_loud0 (u_store 0 rfl rfl rfl rfl rfl rfl rfl) rfl (fun _ _ => ?_) | refine l_loud0 (u_store 1 rfl rfl rfl rfl rfl rfl rfl) rfl (fun _ _ => ?_) | refine l_nil ?_ | refine s_seq ?_ | refine s_region ?_ | refine l_op (o_pick_no rfl rfl (by decide) rfl rfl rfl) ?_ | refine l_op (o_not rfl rfl (by decide) rfl rfl rfl) ?_)
    refine x_body0 (by first | exact .inl rfl | exact .inr rfl) rfl (fun w hw => ⟨y, rfl, trivial, ?_⟩)
    have h := hw.tail
    rw [show (ns ++ [x]).length = ns.length + 1 by simp, sv_app]
    exact h
theorem wAt_len (hall : ∀ s ∈ ws, s.length ≤ 1048576) (k : Nat) : (wAt ws k).length ≤ 1048576 := by
  unfold wAt
  rw [List.getD_eq_getElem?_getD]
  cases h : ws[k]? with
  | none => decide
  | some s => exact hall s (List.mem_of_getElem? h)
def orderOk (x : List UInt8) : Bool := x == bigW || x == littleW
set_option maxRecDepth 100000 in
set_option maxHeartbeats 4000000 in
theorem order_wd (hN : ws.length = N) (hq : k < N → q = k) (hk : k ≤ N) (hn : N ≤ 1048576) (hw : Wd M W (rdO br bw q N k bad ws A c ns ++ O) w) :
    Calls Tryz.prog 80 #[.pointer (some ⟨br, 0, none⟩)] w (CallEnd (fun _ : Nat × Nat => .bool (wAt ws k == bigW)) (fun y => y.1 = min (k + 1) N ∧ (y.1 < N → y.2 = y.1)) M W (fun y => rdO br bw y.2 N y.1 ((bad || decide (N ≤ k)) || !(orderOk (wAt ws k))) ws A c ns ++ O)) := by
  obtain ⟨x, hx⟩ : ∃ x, wAt ws k = x := ⟨_, rfl⟩
  obtain ⟨b1, hb1⟩ : ∃ b1, (bad || decide (N ≤ k)) = b1 := ⟨_, rfl⟩
  have HX := Lib.hid hx
  have HB := Lib.hid hb1
  rw [hx, hb1]
  clear hx hb1
  go_enter Tryz.func80, Tryz.ntmps80
  refine s_go (M := M) (W := W) (N := 23) (E := [(0, .pointer (some ⟨br, 0, none⟩))]) (O := rdO br bw q N k bad ws A c ns ++ O) ?_ (Ag.cons (Ag.nil rfl rfl) rfl) hw
  repeat (first | refine l_op (o_move rfl rfl (by decide) rfl rfl) ?_ | refine l_op (o_assign rfl rfl (by decide) rfl rfl) ?_ | (refine l_loud (u_call _ _ _ (f := 75) rfl rfl rfl (fun w hw => next_wd hN hq hk hn hw)) rfl (by decide) (fun y hy => ?_); rw [HX.out, HB.out]) | refine l_nil ?_ | refine s_seq ?_ | refine s_region ?_)
  obtain ⟨k1, q1⟩ := y
  have HY := Lib.hid hy
  clear hy
  cases b1 with
  | true =>
    repeat (first | refine l_op (o_move rfl rfl (by decide) rfl rfl) ?_ | refine l_op (o_assign rfl rfl (by decide) rfl rfl) ?_ | refine l_op (o_fieldAddr rfl rfl (by decide) rfl rfl) ?_ | refine l_op (o_skip rfl (by decide) rfl) ?_ | refine l_op (o_load rfl rfl (by decide) rfl rfl (by first | exact fun w hw => hw.cell_blkL 0 rfl rfl | exact fun w hw => hw.cell_blkL 1 rfl rfl | exact fun w hw => hw.cell_blkL 2 rfl rfl | exact fun w hw => hw.cell_blkL 3 rfl rfl | exact fun w hw => hw.cell_blkL 4 rfl rfl | exact fun w hw => hw.cell_blkL 5 rfl rfl | exact fun w hw => hw.cell_old (by assumption) (by simp) | exact fun w hw => hw.cell_range (by assumption) rfl (by simp))) ?_ | refine l_op (o_nil rfl rfl (by decide) rfl rfl) ?_ | refine l_loud0 (u_store 0 rfl rfl rfl rfl rfl rfl rfl) rfl (fun _ _ => ?_) | refine l_nil ?_ | refine s_seq ?_ | refine s_region ?_ | refine s_ret ?_ | refine l_op (o_pick_yes rfl rfl (by decide) rfl rfl rfl) ?_ | refine l_op (o_seql rfl rfl (by decide) rfl rfl rfl (by first | assumption | rfl)) ?_)
    exact x_body1 (by first | exact .inl rfl | exact .inr rfl) rfl (.tmp rfl) (fun w hw => ⟨(k1, q1), rfl, HY.out, hw⟩)
  | false =>
    obtain ⟨u, hu⟩ : ∃ u, ((⟨x.toArray⟩ : ByteArray).data.toList != (⟨#[98, 105, 103]⟩ : ByteArray).data.toList) = u := ⟨_, rfl⟩
    obtain ⟨v, hv⟩ : ∃ v, ((⟨x.toArray⟩ : ByteArray).data.toList != (⟨#[108, 105, 116, 116, 108, 101]⟩ : ByteArray).data.toList) = v := ⟨_, rfl⟩
    have hok : orderOk x = (!u || !v) := by
      rw [← hu, ← hv]
      show (x == bigW || x == littleW) = (!(!(x == bigW)) || !(!(x == littleW)))
      simp
    have heq : ((⟨x.toArray⟩ : ByteArray).data.toList == (⟨#[98, 105, 103]⟩ : ByteArray).data.toList) = (x == bigW) := rfl
    rw [hok]
    clear hok
    cases u with
    | true =>
      repeat (first | refine l_op (o_move rfl rfl (by decide) rfl rfl) ?_ | refine l_op (o_assign rfl rfl (by decide) rfl rfl) ?_ | refine l_op (o_fieldAddr rfl rfl (by decide) rfl rfl) ?_ | refine l_op (o_load rfl rfl (by decide) rfl rfl (by first | exact fun w hw => hw.cell_blkL 0 rfl rfl | exact fun w hw => hw.cell_blkL 1 rfl rfl | exact fun w hw => hw.cell_blkL 2 rfl rfl | exact fun w hw => hw.cell_blkL 3 rfl rfl | exact fun w hw => hw.cell_blkL 4 rfl rfl | exact fun w hw => hw.cell_blkL 5 rfl rfl | exact fun w hw => hw.cell_old (by assumption) (by simp) | exact fun w hw => hw.cell_range (by assumption) rfl (by simp))) ?_ | refine l_op (o_nil rfl rfl (by decide) rfl rfl) ?_ | refine l_loud0 (u_store 0 rfl rfl rfl rfl rfl rfl rfl) rfl (fun _ _ => ?_) | refine l_nil ?_ | refine s_seq ?_ | refine s_region ?_ | refine s_ret ?_ | refine l_op (o_pick_yes rfl rfl (by decide) rfl rfl rfl) ?_ | refine l_op (o_pick_no rfl rfl (by decide) rfl rfl rfl) ?_ | refine l_op (o_seql rfl rfl (by decide) rfl rfl rfl (by first | assumption | rfl)) ?_ | refine l_op (o_sneq rfl rfl (by decide) rfl rfl rfl (by first | assumption | rfl)) ?_)
      refine x_body1 (by first | exact .inl rfl | exact .inr rfl) rfl (.tmp rfl) (fun w hw => ⟨(k1, q1), rfl, HY.out, ?_⟩)
      cases v <;> exact hw
    | false =>
      repeat (first | refine l_op (o_move rfl rfl (by decide) rfl rfl) ?_ | refine l_op (o_assign rfl rfl (by decide) rfl rfl) ?_ | refine l_op (o_fieldAddr rfl rfl (by decide) rfl rfl) ?_ | refine l_op (o_skip rfl (by decide) rfl) ?_ | refine l_op (o_load rfl rfl (by decide) rfl rfl (by first | exact fun w hw => hw.cell_blkL 0 rfl rfl | exact fun w hw => hw.cell_blkL 1 rfl rfl | exact fun w hw => hw.cell_blkL 2 rfl rfl | exact fun w hw => hw.cell_blkL 3 rfl rfl | exact fun w hw => hw.cell_blkL 4 rfl rfl | exact fun w hw => hw.cell_blkL 5 rfl rfl | exact fun w hw => hw.cell_old (by assumption) (by simp) | exact fun w hw => hw.cell_range (by assumption) rfl (by simp))) ?_ | refine l_op (o_nil rfl rfl (by decide) rfl rfl) ?_ | refine l_loud0 (u_store 0 rfl rfl rfl rfl rfl rfl rfl) rfl (fun _ _ => ?_) | refine l_nil ?_ | refine s_seq ?_ | refine s_region ?_ | refine s_ret ?_ | refine l_op (o_pick_no rfl rfl (by decide) rfl rfl rfl) ?_ | refine l_op (o_seql rfl rfl (by decide) rfl rfl rfl (by first | assumption | rfl)) ?_ | refine l_op (o_sneq rfl rfl (by decide) rfl rfl rfl (by first | assumption | rfl)) ?_)
      exact x_body1 (by first | exact .inl rfl | exact .inr rfl) rfl (.tmp rfl) (fun w hw => ⟨(k1, q1), rfl, HY.out, hw⟩)
end
end Go.Proofs.YtgdiadednlajgaaGreatDoor
