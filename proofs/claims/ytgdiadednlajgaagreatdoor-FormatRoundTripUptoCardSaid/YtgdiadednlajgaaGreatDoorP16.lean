import Derived.Test.YtgdiadednlajgaaGreatDoorP15
import Derived.Test.YtgdiadednlajgaaGreatDoorP14
import Derived.WalkSpells
namespace Go.Proofs.YtgdiadednlajgaaGreatDoor
open Go.RowKit
set_option linter.unusedVariables false
set_option linter.unusedSimpArgs false
theorem run_append_in {P : Program} {t ty e : TypeId} {bytes : Nat} (hT : SlT P t e 1 bytes) (w : World) {g q n c m c2 : Nat} {cur news : List Value} (hg : w.heap[g]? = some (.cells cur.toArray e (0, 0))) (a : Addr) (hl : news.length = m) (hnews : ∀ j u, news[j]? = some u → w.cell? (a.add j) = some u) (h1 : ∀ u ∈ news, u.oneCell' = true) (hroom : n + m ≤ c) (hfit : q + c ≤ cur.length) :
    (Builtin.append_ #[t, t] ty #[.slice (some ⟨g, q, none⟩) n c, .slice (some a) m c2]).run P w = .ok (.slice (some ⟨g, q, none⟩) (n + m) c) (w.setCells g (q + n) news) := by
  obtain ⟨i, z, hi, hz, hs, hby, hzs⟩ := hT.info
  have hf := run_firstCells_some (P := P) w i.size m a m c2 news (by rw [hs, hl, Nat.mul_one]) hnews
  have hst := run_storeCells_cells (P := P) g (q + n) news 0 w (fun j hj => by
      rw [cell_of_row w g (q + n + 0 + j) cur.toArray e (0, 0) hg]
      simp
      omega) (fun j hj => by simp [World.frozen?, hg]) h1
  simp only [Nat.add_zero] at hst
  rw [hs] at hf
  simp [Builtin.append_, run_underlying hT.und, sizeOf, typeInfo, hi, hs, Builtin.lenOf, hroom, hf, Addr.add_mid, hst]
section
variable {P : Program} {ops : Array Oper} {N : Nat} {E : Env} {o : Oper} {M : List Nat} {W : World} {O : List Atom}
def WinP (q n c : Nat) (cur xs : List Value) : Prop := n ≤ c ∧ c ≤ maxLen ∧ q + c ≤ cur.length ∧ xs.length = n ∧ ∀ j u, xs[j]? = some u → cur[q + j]? = some u
theorem u_append_win (i : Nat) {t e : TypeId} {s x : Operand} {A2 : Option Addr} {b q n c m c2 bytes : Nat} {cur xs news : List Value} [hT : Sl P t e 1 bytes] (ho : o.op = .call { callee := .builtin .append, args := #[s, x], argTypes := #[t, t] }) (hw : wantE ops E o = some true) (hs : ev E s = some (.slice (some ⟨b, q, none⟩) n c)) (hx : ev E x = some (.slice A2 m c2))
    (hO : O[i]? = some (.blk b (.cells cur.toArray e (0, 0)))) (hwin : WinP q n c cur xs) (hr : ∀ w, Wd M W O w → Rd w w.heap.size 1 A2 m news) (h1 : ∀ u ∈ news, u.oneCell' = true) (hbytes : (n + m) * bytes ≤ 140737488355328) :
    uE P ops N M W E O o (Nat × Nat × Nat × List Value) (fun y => .slice (some ⟨y.1, y.2.1, none⟩) (n + m) y.2.2.1) (fun y => O.set i (.blk y.1 (.cells y.2.2.2.toArray e (0, 0)))) (fun y => WinP y.2.1 (n + m) y.2.2.1 y.2.2.2 (xs ++ news)) :=
  u_val hw fun ρ w ha hW => by
    obtain ⟨w1, w2, w3, w4, w5⟩ := hwin
    have hb : w.heap[b]? = some (.cells cur.toArray e (0, 0)) := hW.own i _ hO
    have hrr := hr w hW
    have hlen := hrr.len
    obtain ⟨ti, z, hi, hz, hss, hby, hzs⟩ := hT.h.info
    have hex : ∀ v w', (Builtin.append_ #[t, t] o.type #[.slice (some ⟨b, q, none⟩) n c, .slice A2 m c2]).run P w = .ok v w' → (execOp ρ o).run P w = .ok (.value v) w' := fun v w' hrun => by
      unfold execOp
      simp only [ho, resolve, invoke, builtin, Sem.run_bind, Sem.run_pure, Result.andThen_ok, List.map_toArray, List.map_cons, List.map_nil, ha.eval hs, ha.eval hx, hrun]
    rcases A2 with _ | ad
    · have hm : m = 0 := by
        rcases Nat.eq_zero_or_pos m with h0 | h0
        · exact h0
        · obtain ⟨b', o', h, _⟩ := hrr.2 h0
          cases h
      subst hm
      have hn := hrr.empty
      subst hn
      refine ⟨(b, q, c, cur), w, hex _ _ (by simp [Builtin.append_, run_underlying hT.h.und, sizeOf, typeInfo, hi, Builtin.lenOf, Builtin.firstCells, w1, storeCells]), ⟨w1, w2, w3, by rw [List.append_nil]; exact w4, by rw [List.append_nil]; exact w5⟩, ?_⟩
      exact hW.upd hO rfl rfl ⟨rfl, rfl, rfl, Nat.le_refl _, fun _ _ _ => rfl⟩ hb (fun b' hb' => .inl hb')
    · have hcells : ∀ j u, news[j]? = some u → w.cell? (ad.add j) = some u := by
        intro j u hu
        rcases Nat.eq_zero_or_pos m with h0 | h0
        · subst h0
          rw [hrr.empty] at hu
          cases hu
        · obtain ⟨b', o', h, _, hc⟩ := hrr.2 h0
          injection h with h
          subst h
          rw [Addr.add_mid]
          exact hc j u hu
      by_cases hroom : n + m ≤ c
      · refine ⟨(b, q, c, putL cur (q + n) news), _, hex _ _ (run_append_in hT.h w hb ad hlen hcells h1 hroom w3), ⟨hroom, w2, by rw [putL_len]; exact w3, by rw [List.length_append, w4, hlen], ?_⟩, hW.upd hO rfl rfl (grown_setCells b news w (q + n)) (heap_setCells_same news w (q + n) cur hb) (fun b' hb' => .inl hb')⟩
        intro j u hu
        show (putL cur (q + n) news)[q + j]? = some u
        rw [putL_get]
        rw [List.getElem?_append] at hu
        split at hu
        · next hj => rw [if_neg (by omega)]; exact w5 j u hu
        · next hj =>
          have hj2 : j - xs.length < news.length := by
            rcases Nat.lt_or_ge (j - xs.length) news.length with h | h
            · exact h
            · rw [List.getElem?_eq_none h] at hu; cases hu
          rw [if_pos (by omega)]
          rw [show q + j - (q + n) = j - xs.length by omega]
          exact hu
      · have h63 : n + m ≤ maxLen := by
          have h := Nat.le_trans (Nat.le_mul_of_pos_right (n + m) hT.h.bpos) hbytes
          simp only [maxLen]
          omega
        have hsmall : n + m ≤ 9223372036854775807 := by simp only [maxLen] at h63; omega
        have hre := run_append_grow (P := P) w t o.type e ti z hT.h.und hi hz ⟨b, q, none⟩ n c xs (by rw [hss, w4, Nat.mul_one]) (fun j v hv => by
          rw [Addr.add_mid, cell_of_row w b (q + j) cur.toArray e (0, 0) hb]
          simpa using w5 j v hv) ad m c2 news (by rw [hss, hlen, Nat.mul_one]) hcells (by omega) (by omega) (growslice_fits (by omega) (by rw [hby]; exact hbytes))
        have hge := grownCap_ge w (n + m) c e
        have hcm : grownCap w (n + m) c e ≤ maxLen := grownCap_le_maxLen w (n + m) c e h63
        refine ⟨(w.heap.size, 0, grownCap w (n + m) c e, (xs.toArray ++ news.toArray ++ Builtin.zeroCells z.cells (grownCap w (n + m) c e - (n + m))).toList), _, hex _ _ hre, ⟨hge, hcm, ?_, by rw [List.length_append, w4, hlen], ?_⟩, ?_⟩
        · simp only [Array.length_toList, Array.size_append, List.size_toArray, size_zeroCells, hzs, w4, hlen]
          omega
        · intro j u hu
          simp only [Nat.zero_add, Array.toList_append, List.append_assoc]
          rw [← List.append_assoc]
          have hj : j < (xs ++ news).length := by
            rcases Nat.lt_or_ge j (xs ++ news).length with h | h
            · exact h
            · rw [List.getElem?_eq_none h] at hu; cases hu
          rw [List.getElem?_append_left hj]
          exact hu
        · refine hW.upd hO rfl rfl ⟨rfl, rfl, rfl, by simp, fun k hk _ => heap_alloc_old w.drew _ hk⟩ ?_ (fun b' hb' => by cases hb'; exact .inr (Nat.le_refl _))
          show (w.drew.alloc _).heap[w.heap.size]? = _
          rw [Array.toArray_toList]
          exact heap_alloc_new w.drew _
end
theorem Wd.rd_far {W w : World} {O : List Atom} {A : Option Addr} {n s : Nat} {xs : List Value} (hW : Wd [] W O w) {w0 : World} (hw0 : Wd [] W O w0) (hr : Rd w w.heap.size s A n xs) (hf : ∀ b o, A = some ⟨b, o, none⟩ → 0 < n → w0.heap.size ≤ b ∨ b < W.heap.size) : Wd [] W (.rd A n s xs :: O) w := by
  have hfoot : ∀ b, (Atom.rd A n s xs).foot = some b → w0.heap.size ≤ b ∨ b < W.heap.size := by
    intro b hb
    simp only [Atom.foot] at hb
    split at hb
    · cases hb
    · next hn =>
      obtain ⟨b', o, rfl, _, _⟩ := hr.2 (by omega)
      cases hb
      exact hf b' o rfl (by omega)
  refine hW.add hr (fun b hb hlt => by simp [Atom.w]) (fun i x b hx hfx hfy => ?_)
  cases hxw : x.w with
  | false => rfl
  | true =>
    exfalso
    rcases hfoot b hfy with h | h
    · have := (hw0.own i x hx).lt hfx
      omega
    · have := hW.new i x b hx hfx h
      rw [hxw] at this
      simp at this
theorem eqlI_nil (w : World) (a : Option Addr) (n c : Nat) : (binOp .eql 30 (.slice a n c) (.slice none 0 0)).run Tryz.prog w = .ok (.bool a.isNone) w := by
  simp only [binOp]
  simp [Op.equal, Op.maxDepth, Lib.run_equalIn_slice_nil w 9999 30 3 a n c 0 0 Tryz.underlying30]
theorem o_snil {P : Program} {ops : Array Oper} {C : World → Prop} {N : Nat} {E : Env} {o : Oper} {d : Nat} {x y : Operand} {t t' : TypeId} {A : Option Addr} {n c : Nat} {v : Value} (ho : o.op = .binOp .eql t x y t') (hd : o.dst = some d) (hN : d < N) (hw : wantE ops E o = some true) (hx : ev E x = some (.slice A n c)) (hy : ev E y = some (.slice none 0 0)) (hb : ∀ w, (binOp .eql t (.slice A n c) (.slice none 0 0)).run P w = .ok v w) : oE P ops C N E ((d, v) :: E) o :=
  o_val hd hN hw fun ρ w ha _ => by
    simp only [execOp, ho, ha.eval hx, ha.eval hy, eqGuard_at_slice, Sem.run_bind, Sem.run_pure, Result.andThen_ok, hb w]
def ClEnd (W : World) (n : Nat) (xs : List Int) (e : Ending) (w' : World) : Prop := ∃ b q c cur, e = .returned (.slice (some ⟨b, q, none⟩) n c) ∧ W.heap.size ≤ b ∧ w'.heap[b]? = some (.cells (List.toArray cur) 3 (0, 0)) ∧ WinP q n c cur (iv xs) ∧ Below W.heap.size W w'
set_option maxRecDepth 100000 in
set_option maxHeartbeats 1000000 in
theorem cloneI_calls {W : World} {A : Option Addr} {n c : Nat} {xs : List Int} (h : Rd W W.heap.size 1 A n (iv xs)) (hn : 0 < n) (hn' : n ≤ 1048576) : Calls Tryz.prog 93 #[.slice A n c] W (ClEnd W n xs) := by
  obtain ⟨b0, o0, hA, _⟩ := h.2 hn
  subst hA
  have HR := Lib.hid h
  clear h
  go_enter Tryz.func93, Tryz.ntmps93
  refine s_go (M := []) (W := W) (N := 8) (E := [(0, .slice (some ⟨b0, o0, none⟩) n c)]) (O := []) ?_ (Ag.cons (Ag.nil rfl rfl) rfl) (Wd.start [] W)
  repeat (first | refine l_op (o_move rfl rfl (by decide) rfl rfl) ?_ | refine l_op (o_assign rfl rfl (by decide) rfl rfl) ?_ | refine l_op (o_snil (v := .bool false) rfl rfl (by decide) rfl rfl rfl (fun w => eqlI_nil w _ _ _)) ?_ | refine l_loud (u_slice (cells := []) (vs := []) rfl rfl rfl (fun w => by simp [Instr.buildSlice, go_sem])) rfl (by decide) (fun bn _ => ?_) | refine l_nil ?_ | refine s_seq ?_ | refine s_region ?_ | refine s_skip ?_ | refine s_cond_false rfl ?_)
  refine l_loud (u_append_win (xs := []) 0 rfl rfl rfl rfl rfl ⟨Nat.le_refl _, Nat.zero_le _, Nat.le_refl _, rfl, fun j u hu => by cases hu⟩ (fun w hw => (HR.out.below hw.k.below).more hw.k.size) (iv_one xs) (by omega)) rfl (by decide) (fun y hy => ?_)
  repeat (first | refine l_op (o_assign rfl rfl (by decide) rfl rfl) ?_ | refine l_nil ?_ | refine s_ret ?_)
  refine x_body1 (by first | exact .inl rfl | exact .inr rfl) rfl (.tmp rfl) (fun w hw => ?_)
  obtain ⟨b', q, c', cur⟩ := y
  rw [Nat.zero_add] at hy ⊢
  refine ⟨b', q, c', cur, rfl, ?_, hw.own 0 _ rfl, hy, hw.k.below⟩
  rcases Nat.lt_or_ge b' W.heap.size with h | h
  · have := hw.new 0 _ b' rfl rfl h
    simp [Atom.w] at this
  · exact h
set_option maxRecDepth 100000 in
set_option maxHeartbeats 1000000 in
theorem cloneI_nil (W : World) : Calls Tryz.prog 93 #[.slice none 0 0] W fun e w' => e = .returned (.slice none 0 0) ∧ Below W.heap.size W w' := by
  go_enter Tryz.func93, Tryz.ntmps93
  refine s_go (M := []) (W := W) (N := 8) (E := [(0, .slice none 0 0)]) (O := []) ?_ (Ag.cons (Ag.nil rfl rfl) rfl) (Wd.start [] W)
  repeat (first | refine l_op (o_move rfl rfl (by decide) rfl rfl) ?_ | refine l_op (o_assign rfl rfl (by decide) rfl rfl) ?_ | refine l_op (o_snil (v := .bool true) rfl rfl (by decide) rfl rfl rfl (fun w => eqlI_nil w _ _ _)) ?_ | refine l_nil ?_ | refine s_seq ?_ | refine s_region ?_ | refine s_cond_true rfl ?_ | refine s_ret ?_ | refine x_then_ret ?_)
  exact x_body1 (by first | exact .inl rfl | exact .inr rfl) rfl (.tmp rfl) (fun w hw => ⟨rfl, hw.k.below⟩)
def BgX (W : World) (Ap : Option Addr) (np : Nat) (l : List Int) (e : Ending) (w' : World) : Prop := ∃ A n c, e = .returned (.slice A n c) ∧ Rd w' w'.heap.size 1 A n (iv l) ∧ n ≤ c ∧ Below W.heap.size W w' ∧ (∀ b o, A = some ⟨b, o, none⟩ → 0 < n → W.heap.size ≤ b ∨ ((∃ o', Ap = some ⟨b, o', none⟩) ∧ 0 < np)) ∧ (n = 0 → A = none ∧ c = 0)
theorem bgx_new {W w : World} {Ap : Option Addr} {np : Nat} {x : Int} {b : Nat} {O : List Atom} (hw : Wd [] W (.blk b (.cells [.int .i64 x].toArray 3 (0, 0)) :: O) w) : BgX W Ap np [x] (.returned (.slice (some ⟨b, 0, none⟩) 1 1)) w := by
  refine ⟨_, 1, 1, rfl, ⟨rfl, fun _ => ⟨b, 0, rfl, ?_, fun j u hu => hw.cell_blkL 0 rfl (by rw [Nat.zero_add]; exact hu)⟩⟩, Nat.le_refl _, hw.k.below, fun b' o' e _ => ?_, fun h => absurd h (by decide)⟩
  · exact (hw.own 0 _ rfl).lt rfl
  · cases e
    rcases Nat.lt_or_ge b W.heap.size with h | h
    · have := hw.new 0 _ b rfl rfl h
      simp [Atom.w] at this
    · exact .inl h
theorem bgx_nil {W w : World} {Ap : Option Addr} {np : Nat} {O : List Atom} (hw : Wd [] W O w) : BgX W Ap np [] (.returned (.slice none 0 0)) w :=
  ⟨_, 0, 0, rfl, rd_nil _ _, Nat.le_refl _, hw.k.below, fun b o e h => absurd h (by omega), fun _ => ⟨rfl, rfl⟩⟩
theorem bgx_all {W w : World} {Ap : Option Addr} {n c : Nat} {l : List Int} {O : List Atom} (hr : Rd W W.heap.size 1 Ap n (iv l)) (h1 : 1 ≤ n) (hc : n ≤ c) (hw : Wd [] W O w) : BgX W Ap n l (.returned (.slice Ap n c)) w :=
  ⟨_, n, c, rfl, (hr.below hw.k.below).more hw.k.size, hc, hw.k.below, fun b o e _ => .inr ⟨⟨o, e⟩, h1⟩, fun h => by omega⟩
theorem cut_zero {A : Option Addr} {c : Nat} (h : ∀ a, A = some a → a.spot = none) : cutA A c 0 1 = A := by
  unfold cutA
  split
  · rfl
  · cases A with
    | none => rfl
    | some a =>
      have := h a rfl
      obtain ⟨b, o, s⟩ := a
      simp at this
      subst this
      simp [Addr.add_mid]
theorem bgx_one {W w : World} {Ap : Option Addr} {n c : Nat} {l : List Int} {O : List Atom} (hr : Rd W W.heap.size 1 Ap n (iv l)) (h1 : 1 ≤ n) (hc : n ≤ c) (hw : Wd [] W O w) : BgX W Ap n (l.take 1) (.returned (.slice (cutA Ap c 0 1) 1 c)) w := by
  have hz : cutA Ap c 0 1 = Ap := cut_zero fun a ha => by
    obtain ⟨b, o, e, _⟩ := hr.2 (by omega)
    rw [e] at ha
    cases ha
    rfl
  rw [hz]
  have ht := hr.take (m := 1) h1
  have e : (iv l).take (1 * 1) = iv (l.take 1) := by unfold iv; rw [List.map_take]
  rw [e] at ht
  exact ⟨_, 1, c, rfl, (ht.below hw.k.below).more hw.k.size, by omega, hw.k.below, fun b o e _ => .inr ⟨⟨o, e⟩, h1⟩, fun h => absurd h (by decide)⟩
set_option maxRecDepth 100000 in
set_option maxHeartbeats 1000000 in
theorem bgx_1 {nm : ByteArray} {sb sn : Value} {size mn mx stop count elem : Int} {big : Bool} {Ap : Option Addr} {np cp : Nat} {parts : List Int} {W : World} (hp : Rd W W.heap.size 1 Ap np (iv parts)) (hc : np ≤ cp)  :
    Calls Tryz.prog 54 #[.agg #[.string nm, .int .i64 1, sb, .int .i64 size, .bool big, .int .i64 mn, .int .i64 mx, .int .i64 stop, .int .i64 count, .int .i64 elem, sn, .slice Ap np cp]] W (BgX W Ap np (beginsL 1 count elem parts)) := by
  have HP := Lib.hid hp
  clear hp
  go_enter Tryz.func54, Tryz.ntmps54
  refine s_go (M := []) (W := W) (N := 29) (E := [(0, .agg #[.string nm, .int .i64 1, sb, .int .i64 size, .bool big, .int .i64 mn, .int .i64 mx, .int .i64 stop, .int .i64 count, .int .i64 elem, sn, .slice Ap np cp])]) (O := []) ?_ (Ag.cons (Ag.nil rfl rfl) rfl) (Wd.start [] W)
  repeat (first | refine l_op (o_assign rfl rfl (by decide) rfl rfl) ?_ | refine l_op (o_fieldAddr rfl rfl (by decide) rfl rfl) ?_ | refine l_op (o_load rfl rfl (by decide) rfl rfl (by first | exact fun w hw => hw.cell_blkL 0 rfl rfl | exact fun w hw => hw.cell_blkL 1 rfl rfl | exact fun w hw => hw.cell_blkL 2 rfl rfl | exact fun w hw => hw.cell_blkL 3 rfl rfl | exact fun w hw => hw.cell_blkL 4 rfl rfl | exact fun w hw => hw.cell_blkL 5 rfl rfl | exact fun w hw => hw.cell_old (by assumption) (by simp) | exact fun w hw => hw.cell_range (by assumption) rfl (by simp))) ?_ | refine l_op (o_loadN rfl rfl (by decide) rfl rfl (by first | exact fun w hw => hw.range_blk 0 rfl | exact fun w hw => hw.range_blk 1 rfl | exact fun w hw => hw.range_blk 2 rfl | exact fun w hw => hw.range_blk 3 rfl | exact fun w hw => hw.range_blk 4 rfl | exact fun w hw => hw.range_blk 5 rfl | exact fun w hw => hw.range_old (by assumption) (by simp)) (by first | rfl | exact setC_len _)) ?_ | refine l_loud (u_box rfl rfl rfl rfl) rfl (by decide) (fun br _ => ?_) | (refine l_op (o_call (f := 70) rfl rfl (by decide) rfl rfl (fun w hw => usesCount_calls w)) ?_; rw [(by decide : useCount 1 = false)]) | refine l_nil ?_ | refine s_seq ?_ | refine s_region ?_ | refine s_skip ?_ | refine s_cond_false rfl ?_ | refine s_ret ?_ | refine s_block ?_ | refine l_op (o_eql rfl rfl (by decide) rfl rfl rfl (by first | assumption | exact beq_iff_eq.2 (by omega) | exact beq_eq_false_iff_ne.2 (by omega) | rfl)) ?_)
  refine x_body1 (by first | exact .inl rfl | exact .inr rfl) rfl (.tmp rfl) (fun w hw => ?_)
  exact bgx_nil hw
set_option maxRecDepth 100000 in
set_option maxHeartbeats 1000000 in
theorem bgx_2 {nm : ByteArray} {sb sn : Value} {size mn mx stop count elem : Int} {big : Bool} {Ap : Option Addr} {np cp : Nat} {parts : List Int} {W : World} (hp : Rd W W.heap.size 1 Ap np (iv parts)) (hc : np ≤ cp)  :
    Calls Tryz.prog 54 #[.agg #[.string nm, .int .i64 2, sb, .int .i64 size, .bool big, .int .i64 mn, .int .i64 mx, .int .i64 stop, .int .i64 count, .int .i64 elem, sn, .slice Ap np cp]] W (BgX W Ap np (beginsL 2 count elem parts)) := by
  have HP := Lib.hid hp
  clear hp
  go_enter Tryz.func54, Tryz.ntmps54
  refine s_go (M := []) (W := W) (N := 29) (E := [(0, .agg #[.string nm, .int .i64 2, sb, .int .i64 size, .bool big, .int .i64 mn, .int .i64 mx, .int .i64 stop, .int .i64 count, .int .i64 elem, sn, .slice Ap np cp])]) (O := []) ?_ (Ag.cons (Ag.nil rfl rfl) rfl) (Wd.start [] W)
  repeat (first | refine l_op (o_assign rfl rfl (by decide) rfl rfl) ?_ | refine l_op (o_fieldAddr rfl rfl (by decide) rfl rfl) ?_ | refine l_op (o_load rfl rfl (by decide) rfl rfl (by first | exact fun w hw => hw.cell_blkL 0 rfl rfl | exact fun w hw => hw.cell_blkL 1 rfl rfl | exact fun w hw => hw.cell_blkL 2 rfl rfl | exact fun w hw => hw.cell_blkL 3 rfl rfl | exact fun w hw => hw.cell_blkL 4 rfl rfl | exact fun w hw => hw.cell_blkL 5 rfl rfl | exact fun w hw => hw.cell_old (by assumption) (by simp) | exact fun w hw => hw.cell_range (by assumption) rfl (by simp))) ?_ | refine l_op (o_loadN rfl rfl (by decide) rfl rfl (by first | exact fun w hw => hw.range_blk 0 rfl | exact fun w hw => hw.range_blk 1 rfl | exact fun w hw => hw.range_blk 2 rfl | exact fun w hw => hw.range_blk 3 rfl | exact fun w hw => hw.range_blk 4 rfl | exact fun w hw => hw.range_blk 5 rfl | exact fun w hw => hw.range_old (by assumption) (by simp)) (by first | rfl | exact setC_len _)) ?_ | refine l_loud (u_box rfl rfl rfl rfl) rfl (by decide) (fun br _ => ?_) | (refine l_op (o_call (f := 70) rfl rfl (by decide) rfl rfl (fun w hw => usesCount_calls w)) ?_; rw [(by decide : useCount 2 = false)]) | refine l_nil ?_ | refine s_seq ?_ | refine s_region ?_ | refine s_skip ?_ | refine s_cond_false rfl ?_ | refine s_ret ?_ | refine s_block ?_ | refine l_op (o_eql rfl rfl (by decide) rfl rfl rfl (by first | assumption | exact beq_iff_eq.2 (by omega) | exact beq_eq_false_iff_ne.2 (by omega) | rfl)) ?_)
  refine x_body1 (by first | exact .inl rfl | exact .inr rfl) rfl (.tmp rfl) (fun w hw => ?_)
  exact bgx_nil hw
set_option maxRecDepth 100000 in
set_option maxHeartbeats 1000000 in
theorem bgx_3 {nm : ByteArray} {sb sn : Value} {size mn mx stop count elem : Int} {big : Bool} {Ap : Option Addr} {np cp : Nat} {parts : List Int} {W : World} (hp : Rd W W.heap.size 1 Ap np (iv parts)) (hc : np ≤ cp)  :
    Calls Tryz.prog 54 #[.agg #[.string nm, .int .i64 3, sb, .int .i64 size, .bool big, .int .i64 mn, .int .i64 mx, .int .i64 stop, .int .i64 count, .int .i64 elem, sn, .slice Ap np cp]] W (BgX W Ap np (beginsL 3 count elem parts)) := by
  have HP := Lib.hid hp
  clear hp
  go_enter Tryz.func54, Tryz.ntmps54
  refine s_go (M := []) (W := W) (N := 29) (E := [(0, .agg #[.string nm, .int .i64 3, sb, .int .i64 size, .bool big, .int .i64 mn, .int .i64 mx, .int .i64 stop, .int .i64 count, .int .i64 elem, sn, .slice Ap np cp])]) (O := []) ?_ (Ag.cons (Ag.nil rfl rfl) rfl) (Wd.start [] W)
  repeat (first | refine l_op (o_assign rfl rfl (by decide) rfl rfl) ?_ | refine l_op (o_fieldAddr rfl rfl (by decide) rfl rfl) ?_ | refine l_op (o_load rfl rfl (by decide) rfl rfl (by first | exact fun w hw => hw.cell_blkL 0 rfl rfl | exact fun w hw => hw.cell_blkL 1 rfl rfl | exact fun w hw => hw.cell_blkL 2 rfl rfl | exact fun w hw => hw.cell_blkL 3 rfl rfl | exact fun w hw => hw.cell_blkL 4 rfl rfl | exact fun w hw => hw.cell_blkL 5 rfl rfl | exact fun w hw => hw.cell_old (by assumption) (by simp) | exact fun w hw => hw.cell_range (by assumption) rfl (by simp))) ?_ | refine l_op (o_loadN rfl rfl (by decide) rfl rfl (by first | exact fun w hw => hw.range_blk 0 rfl | exact fun w hw => hw.range_blk 1 rfl | exact fun w hw => hw.range_blk 2 rfl | exact fun w hw => hw.range_blk 3 rfl | exact fun w hw => hw.range_blk 4 rfl | exact fun w hw => hw.range_blk 5 rfl | exact fun w hw => hw.range_old (by assumption) (by simp)) (by first | rfl | exact setC_len _)) ?_ | refine l_loud (u_box rfl rfl rfl rfl) rfl (by decide) (fun br _ => ?_) | (refine l_op (o_call (f := 70) rfl rfl (by decide) rfl rfl (fun w hw => usesCount_calls w)) ?_; rw [(by decide : useCount 3 = false)]) | refine l_nil ?_ | refine s_seq ?_ | refine s_region ?_ | refine s_skip ?_ | refine s_cond_false rfl ?_ | refine s_ret ?_ | refine s_block ?_ | refine l_op (o_eql rfl rfl (by decide) rfl rfl rfl (by first | assumption | exact beq_iff_eq.2 (by omega) | exact beq_eq_false_iff_ne.2 (by omega) | rfl)) ?_)
  refine x_body1 (by first | exact .inl rfl | exact .inr rfl) rfl (.tmp rfl) (fun w hw => ?_)
  exact bgx_nil hw
set_option maxRecDepth 100000 in
set_option maxHeartbeats 1000000 in
theorem bgx_4 {nm : ByteArray} {sb sn : Value} {size mn mx stop count elem : Int} {big : Bool} {Ap : Option Addr} {np cp : Nat} {parts : List Int} {W : World} (hp : Rd W W.heap.size 1 Ap np (iv parts)) (hc : np ≤ cp)  :
    Calls Tryz.prog 54 #[.agg #[.string nm, .int .i64 4, sb, .int .i64 size, .bool big, .int .i64 mn, .int .i64 mx, .int .i64 stop, .int .i64 count, .int .i64 elem, sn, .slice Ap np cp]] W (BgX W Ap np (beginsL 4 count elem parts)) := by
  have HP := Lib.hid hp
  clear hp
  go_enter Tryz.func54, Tryz.ntmps54
  refine s_go (M := []) (W := W) (N := 29) (E := [(0, .agg #[.string nm, .int .i64 4, sb, .int .i64 size, .bool big, .int .i64 mn, .int .i64 mx, .int .i64 stop, .int .i64 count, .int .i64 elem, sn, .slice Ap np cp])]) (O := []) ?_ (Ag.cons (Ag.nil rfl rfl) rfl) (Wd.start [] W)
  repeat (first | refine l_op (o_assign rfl rfl (by decide) rfl rfl) ?_ | refine l_op (o_fieldAddr rfl rfl (by decide) rfl rfl) ?_ | refine l_op (o_load rfl rfl (by decide) rfl rfl (by first | exact fun w hw => hw.cell_blkL 0 rfl rfl | exact fun w hw => hw.cell_blkL 1 rfl rfl | exact fun w hw => hw.cell_blkL 2 rfl rfl | exact fun w hw => hw.cell_blkL 3 rfl rfl | exact fun w hw => hw.cell_blkL 4 rfl rfl | exact fun w hw => hw.cell_blkL 5 rfl rfl | exact fun w hw => hw.cell_old (by assumption) (by simp) | exact fun w hw => hw.cell_range (by assumption) rfl (by simp))) ?_ | refine l_op (o_loadN rfl rfl (by decide) rfl rfl (by first | exact fun w hw => hw.range_blk 0 rfl | exact fun w hw => hw.range_blk 1 rfl | exact fun w hw => hw.range_blk 2 rfl | exact fun w hw => hw.range_blk 3 rfl | exact fun w hw => hw.range_blk 4 rfl | exact fun w hw => hw.range_blk 5 rfl | exact fun w hw => hw.range_old (by assumption) (by simp)) (by first | rfl | exact setC_len _)) ?_ | refine l_loud (u_box rfl rfl rfl rfl) rfl (by decide) (fun br _ => ?_) | (refine l_op (o_call (f := 70) rfl rfl (by decide) rfl rfl (fun w hw => usesCount_calls w)) ?_; rw [(by decide : useCount 4 = false)]) | refine l_nil ?_ | refine s_seq ?_ | refine s_region ?_ | refine s_skip ?_ | refine s_cond_false rfl ?_ | refine s_ret ?_ | refine s_block ?_ | refine l_op (o_eql rfl rfl (by decide) rfl rfl rfl (by first | assumption | exact beq_iff_eq.2 (by omega) | exact beq_eq_false_iff_ne.2 (by omega) | rfl)) ?_)
  refine x_body1 (by first | exact .inl rfl | exact .inr rfl) rfl (.tmp rfl) (fun w hw => ?_)
  exact bgx_nil hw
set_option maxRecDepth 100000 in
set_option maxHeartbeats 1000000 in
theorem bgx_5 {nm : ByteArray} {sb sn : Value} {size mn mx stop count elem : Int} {big : Bool} {Ap : Option Addr} {np cp : Nat} {parts : List Int} {W : World} (hp : Rd W W.heap.size 1 Ap np (iv parts)) (hc : np ≤ cp)  :
    Calls Tryz.prog 54 #[.agg #[.string nm, .int .i64 5, sb, .int .i64 size, .bool big, .int .i64 mn, .int .i64 mx, .int .i64 stop, .int .i64 count, .int .i64 elem, sn, .slice Ap np cp]] W (BgX W Ap np (beginsL 5 count elem parts)) := by
  have HP := Lib.hid hp
  clear hp
  go_enter Tryz.func54, Tryz.ntmps54
  refine s_go (M := []) (W := W) (N := 29) (E := [(0, .agg #[.string nm, .int .i64 5, sb, .int .i64 size, .bool big, .int .i64 mn, .int .i64 mx, .int .i64 stop, .int .i64 count, .int .i64 elem, sn, .slice Ap np cp])]) (O := []) ?_ (Ag.cons (Ag.nil rfl rfl) rfl) (Wd.start [] W)
  repeat (first | refine l_op (o_assign rfl rfl (by decide) rfl rfl) ?_ | refine l_op (o_fieldAddr rfl rfl (by decide) rfl rfl) ?_ | refine l_op (o_load rfl rfl (by decide) rfl rfl (by first | exact fun w hw => hw.cell_blkL 0 rfl rfl | exact fun w hw => hw.cell_blkL 1 rfl rfl | exact fun w hw => hw.cell_blkL 2 rfl rfl | exact fun w hw => hw.cell_blkL 3 rfl rfl | exact fun w hw => hw.cell_blkL 4 rfl rfl | exact fun w hw => hw.cell_blkL 5 rfl rfl | exact fun w hw => hw.cell_old (by assumption) (by simp) | exact fun w hw => hw.cell_range (by assumption) rfl (by simp))) ?_ | refine l_op (o_loadN rfl rfl (by decide) rfl rfl (by first | exact fun w hw => hw.range_blk 0 rfl | exact fun w hw => hw.range_blk 1 rfl | exact fun w hw => hw.range_blk 2 rfl | exact fun w hw => hw.range_blk 3 rfl | exact fun w hw => hw.range_blk 4 rfl | exact fun w hw => hw.range_blk 5 rfl | exact fun w hw => hw.range_old (by assumption) (by simp)) (by first | rfl | exact setC_len _)) ?_ | refine l_loud (u_box rfl rfl rfl rfl) rfl (by decide) (fun br _ => ?_) | (refine l_op (o_call (f := 70) rfl rfl (by decide) rfl rfl (fun w hw => usesCount_calls w)) ?_; rw [(by decide : useCount 5 = false)]) | refine l_nil ?_ | refine s_seq ?_ | refine s_region ?_ | refine s_skip ?_ | refine s_cond_false rfl ?_ | refine s_ret ?_ | refine s_block ?_ | refine l_op (o_eql rfl rfl (by decide) rfl rfl rfl (by first | assumption | exact beq_iff_eq.2 (by omega) | exact beq_eq_false_iff_ne.2 (by omega) | rfl)) ?_)
  refine x_body1 (by first | exact .inl rfl | exact .inr rfl) rfl (.tmp rfl) (fun w hw => ?_)
  exact bgx_nil hw
set_option maxRecDepth 100000 in
set_option maxHeartbeats 1000000 in
theorem bgx_6 {nm : ByteArray} {sb sn : Value} {size mn mx stop count elem : Int} {big : Bool} {Ap : Option Addr} {np cp : Nat} {parts : List Int} {W : World} (hp : Rd W W.heap.size 1 Ap np (iv parts)) (hc : np ≤ cp)  :
    Calls Tryz.prog 54 #[.agg #[.string nm, .int .i64 6, sb, .int .i64 size, .bool big, .int .i64 mn, .int .i64 mx, .int .i64 stop, .int .i64 count, .int .i64 elem, sn, .slice Ap np cp]] W (BgX W Ap np (beginsL 6 count elem parts)) := by
  have HP := Lib.hid hp
  clear hp
  go_enter Tryz.func54, Tryz.ntmps54
  refine s_go (M := []) (W := W) (N := 29) (E := [(0, .agg #[.string nm, .int .i64 6, sb, .int .i64 size, .bool big, .int .i64 mn, .int .i64 mx, .int .i64 stop, .int .i64 count, .int .i64 elem, sn, .slice Ap np cp])]) (O := []) ?_ (Ag.cons (Ag.nil rfl rfl) rfl) (Wd.start [] W)
  repeat (first | refine l_op (o_assign rfl rfl (by decide) rfl rfl) ?_ | refine l_op (o_fieldAddr rfl rfl (by decide) rfl rfl) ?_ | refine l_op (o_load rfl rfl (by decide) rfl rfl (by first | exact fun w hw => hw.cell_blkL 0 rfl rfl | exact fun w hw => hw.cell_blkL 1 rfl rfl | exact fun w hw => hw.cell_blkL 2 rfl rfl | exact fun w hw => hw.cell_blkL 3 rfl rfl | exact fun w hw => hw.cell_blkL 4 rfl rfl | exact fun w hw => hw.cell_blkL 5 rfl rfl | exact fun w hw => hw.cell_old (by assumption) (by simp) | exact fun w hw => hw.cell_range (by assumption) rfl (by simp))) ?_ | refine l_op (o_loadN rfl rfl (by decide) rfl rfl (by first | exact fun w hw => hw.range_blk 0 rfl | exact fun w hw => hw.range_blk 1 rfl | exact fun w hw => hw.range_blk 2 rfl | exact fun w hw => hw.range_blk 3 rfl | exact fun w hw => hw.range_blk 4 rfl | exact fun w hw => hw.range_blk 5 rfl | exact fun w hw => hw.range_old (by assumption) (by simp)) (by first | rfl | exact setC_len _)) ?_ | refine l_loud (u_box rfl rfl rfl rfl) rfl (by decide) (fun br _ => ?_) | (refine l_op (o_call (f := 70) rfl rfl (by decide) rfl rfl (fun w hw => usesCount_calls w)) ?_; rw [(by decide : useCount 6 = true)]) | refine l_loud (u_slice1 rfl rfl rfl rfl rfl (by simp)) rfl (by decide) (fun bn _ => ?_) | refine l_nil ?_ | refine s_seq ?_ | refine s_region ?_ | refine s_cond_true rfl ?_ | refine s_ret ?_ | refine s_block ?_ | refine x_then_ret ?_ | refine x_block_ret ?_)
  refine x_body1 (by first | exact .inl rfl | exact .inr rfl) rfl (.tmp rfl) (fun w hw => ?_)
  exact bgx_new hw
set_option maxRecDepth 100000 in
set_option maxHeartbeats 1000000 in
theorem bgx_10 {nm : ByteArray} {sb sn : Value} {size mn mx stop count elem : Int} {big : Bool} {Ap : Option Addr} {np cp : Nat} {parts : List Int} {W : World} (hp : Rd W W.heap.size 1 Ap np (iv parts)) (hc : np ≤ cp)  :
    Calls Tryz.prog 54 #[.agg #[.string nm, .int .i64 10, sb, .int .i64 size, .bool big, .int .i64 mn, .int .i64 mx, .int .i64 stop, .int .i64 count, .int .i64 elem, sn, .slice Ap np cp]] W (BgX W Ap np (beginsL 10 count elem parts)) := by
  have HP := Lib.hid hp
  clear hp
  go_enter Tryz.func54, Tryz.ntmps54
  refine s_go (M := []) (W := W) (N := 29) (E := [(0, .agg #[.string nm, .int .i64 10, sb, .int .i64 size, .bool big, .int .i64 mn, .int .i64 mx, .int .i64 stop, .int .i64 count, .int .i64 elem, sn, .slice Ap np cp])]) (O := []) ?_ (Ag.cons (Ag.nil rfl rfl) rfl) (Wd.start [] W)
  repeat (first | refine l_op (o_assign rfl rfl (by decide) rfl rfl) ?_ | refine l_op (o_fieldAddr rfl rfl (by decide) rfl rfl) ?_ | refine l_op (o_load rfl rfl (by decide) rfl rfl (by first | exact fun w hw => hw.cell_blkL 0 rfl rfl | exact fun w hw => hw.cell_blkL 1 rfl rfl | exact fun w hw => hw.cell_blkL 2 rfl rfl | exact fun w hw => hw.cell_blkL 3 rfl rfl | exact fun w hw => hw.cell_blkL 4 rfl rfl | exact fun w hw => hw.cell_blkL 5 rfl rfl | exact fun w hw => hw.cell_old (by assumption) (by simp) | exact fun w hw => hw.cell_range (by assumption) rfl (by simp))) ?_ | refine l_op (o_loadN rfl rfl (by decide) rfl rfl (by first | exact fun w hw => hw.range_blk 0 rfl | exact fun w hw => hw.range_blk 1 rfl | exact fun w hw => hw.range_blk 2 rfl | exact fun w hw => hw.range_blk 3 rfl | exact fun w hw => hw.range_blk 4 rfl | exact fun w hw => hw.range_blk 5 rfl | exact fun w hw => hw.range_old (by assumption) (by simp)) (by first | rfl | exact setC_len _)) ?_ | refine l_loud (u_box rfl rfl rfl rfl) rfl (by decide) (fun br _ => ?_) | (refine l_op (o_call (f := 70) rfl rfl (by decide) rfl rfl (fun w hw => usesCount_calls w)) ?_; rw [(by decide : useCount 10 = true)]) | refine l_loud (u_slice1 rfl rfl rfl rfl rfl (by simp)) rfl (by decide) (fun bn _ => ?_) | refine l_nil ?_ | refine s_seq ?_ | refine s_region ?_ | refine s_cond_true rfl ?_ | refine s_ret ?_ | refine s_block ?_ | refine x_then_ret ?_ | refine x_block_ret ?_)
  refine x_body1 (by first | exact .inl rfl | exact .inr rfl) rfl (.tmp rfl) (fun w hw => ?_)
  exact bgx_new hw
set_option maxRecDepth 100000 in
set_option maxHeartbeats 1000000 in
theorem bgx_7 {nm : ByteArray} {sb sn : Value} {size mn mx stop count elem : Int} {big : Bool} {Ap : Option Addr} {np cp : Nat} {parts : List Int} {W : World} (hp : Rd W W.heap.size 1 Ap np (iv parts)) (hc : np ≤ cp) (h7 : 1 ≤ np) :
    Calls Tryz.prog 54 #[.agg #[.string nm, .int .i64 7, sb, .int .i64 size, .bool big, .int .i64 mn, .int .i64 mx, .int .i64 stop, .int .i64 count, .int .i64 elem, sn, .slice Ap np cp]] W (BgX W Ap np (beginsL 7 count elem parts)) := by
  have HP := Lib.hid hp
  clear hp
  go_enter Tryz.func54, Tryz.ntmps54
  refine s_go (M := []) (W := W) (N := 29) (E := [(0, .agg #[.string nm, .int .i64 7, sb, .int .i64 size, .bool big, .int .i64 mn, .int .i64 mx, .int .i64 stop, .int .i64 count, .int .i64 elem, sn, .slice Ap np cp])]) (O := []) ?_ (Ag.cons (Ag.nil rfl rfl) rfl) (Wd.start [] W)
  repeat (first | refine l_op (o_assign rfl rfl (by decide) rfl rfl) ?_ | refine l_op (o_fieldAddr rfl rfl (by decide) rfl rfl) ?_ | refine l_op (o_load rfl rfl (by decide) rfl rfl (by first | exact fun w hw => hw.cell_blkL 0 rfl rfl | exact fun w hw => hw.cell_blkL 1 rfl rfl | exact fun w hw => hw.cell_blkL 2 rfl rfl | exact fun w hw => hw.cell_blkL 3 rfl rfl | exact fun w hw => hw.cell_blkL 4 rfl rfl | exact fun w hw => hw.cell_blkL 5 rfl rfl | exact fun w hw => hw.cell_old (by assumption) (by simp) | exact fun w hw => hw.cell_range (by assumption) rfl (by simp))) ?_ | refine l_op (o_loadN rfl rfl (by decide) rfl rfl (by first | exact fun w hw => hw.range_blk 0 rfl | exact fun w hw => hw.range_blk 1 rfl | exact fun w hw => hw.range_blk 2 rfl | exact fun w hw => hw.range_blk 3 rfl | exact fun w hw => hw.range_blk 4 rfl | exact fun w hw => hw.range_blk 5 rfl | exact fun w hw => hw.range_old (by assumption) (by simp)) (by first | rfl | exact setC_len _)) ?_ | refine l_loud (u_box rfl rfl rfl rfl) rfl (by decide) (fun br _ => ?_) | (refine l_op (o_call (f := 70) rfl rfl (by decide) rfl rfl (fun w hw => usesCount_calls w)) ?_; rw [(by decide : useCount 7 = false)]) | refine l_op (o_slice_h (h := 1) rfl rfl (by decide) rfl rfl rfl (by omega)) ?_ | refine l_nil ?_ | refine s_seq ?_ | refine s_region ?_ | refine s_cond_true rfl ?_ | refine s_cond_false rfl ?_ | refine s_ret ?_ | refine s_block ?_ | refine x_then_ret ?_ | refine x_block_ret ?_ | refine l_op (o_eql rfl rfl (by decide) rfl rfl rfl (by first | assumption | exact beq_iff_eq.2 (by omega) | exact beq_eq_false_iff_ne.2 (by omega) | rfl)) ?_)
  refine x_body1 (by first | exact .inl rfl | exact .inr rfl) rfl (.tmp rfl) (fun w hw => ?_)
  exact bgx_one HP.out h7 hc hw
set_option maxRecDepth 100000 in
set_option maxHeartbeats 1000000 in
theorem bgx_8 {nm : ByteArray} {sb sn : Value} {size mn mx stop count elem : Int} {big : Bool} {Ap : Option Addr} {np cp : Nat} {parts : List Int} {W : World} (hp : Rd W W.heap.size 1 Ap np (iv parts)) (hc : np ≤ cp) (h8 : 1 ≤ np)  :
    Calls Tryz.prog 54 #[.agg #[.string nm, .int .i64 8, sb, .int .i64 size, .bool big, .int .i64 mn, .int .i64 mx, .int .i64 stop, .int .i64 count, .int .i64 elem, sn, .slice Ap np cp]] W (BgX W Ap np (beginsL 8 count elem parts)) := by
  have HP := Lib.hid hp
  clear hp
  go_enter Tryz.func54, Tryz.ntmps54
  refine s_go (M := []) (W := W) (N := 29) (E := [(0, .agg #[.string nm, .int .i64 8, sb, .int .i64 size, .bool big, .int .i64 mn, .int .i64 mx, .int .i64 stop, .int .i64 count, .int .i64 elem, sn, .slice Ap np cp])]) (O := []) ?_ (Ag.cons (Ag.nil rfl rfl) rfl) (Wd.start [] W)
  repeat (first | refine l_op (o_assign rfl rfl (by decide) rfl rfl) ?_ | refine l_op (o_fieldAddr rfl rfl (by decide) rfl rfl) ?_ | refine l_op (o_load rfl rfl (by decide) rfl rfl (by first | exact fun w hw => hw.cell_blkL 0 rfl rfl | exact fun w hw => hw.cell_blkL 1 rfl rfl | exact fun w hw => hw.cell_blkL 2 rfl rfl | exact fun w hw => hw.cell_blkL 3 rfl rfl | exact fun w hw => hw.cell_blkL 4 rfl rfl | exact fun w hw => hw.cell_blkL 5 rfl rfl | exact fun w hw => hw.cell_old (by assumption) (by simp) | exact fun w hw => hw.cell_range (by assumption) rfl (by simp))) ?_ | refine l_op (o_loadN rfl rfl (by decide) rfl rfl (by first | exact fun w hw => hw.range_blk 0 rfl | exact fun w hw => hw.range_blk 1 rfl | exact fun w hw => hw.range_blk 2 rfl | exact fun w hw => hw.range_blk 3 rfl | exact fun w hw => hw.range_blk 4 rfl | exact fun w hw => hw.range_blk 5 rfl | exact fun w hw => hw.range_old (by assumption) (by simp)) (by first | rfl | exact setC_len _)) ?_ | refine l_loud (u_box rfl rfl rfl rfl) rfl (by decide) (fun br _ => ?_) | (refine l_op (o_call (f := 70) rfl rfl (by decide) rfl rfl (fun w hw => usesCount_calls w)) ?_; rw [(by decide : useCount 8 = false)]) | refine l_nil ?_ | refine s_seq ?_ | refine s_region ?_ | refine s_cond_true rfl ?_ | refine s_cond_false rfl ?_ | refine s_ret ?_ | refine s_block ?_ | refine x_then_ret ?_ | refine x_block_ret ?_ | refine l_op (o_eql rfl rfl (by decide) rfl rfl rfl (by first | assumption | exact beq_iff_eq.2 (by omega) | exact beq_eq_false_iff_ne.2 (by omega) | rfl)) ?_)
  refine x_body1 (by first | exact .inl rfl | exact .inr rfl) rfl (.tmp rfl) (fun w hw => ?_)
  exact bgx_all HP.out h8 hc hw
set_option maxRecDepth 100000 in
set_option maxHeartbeats 1000000 in
theorem bgx_9 {nm : ByteArray} {sb sn : Value} {size mn mx stop count elem : Int} {big : Bool} {Ap : Option Addr} {np cp : Nat} {parts : List Int} {W : World} (hp : Rd W W.heap.size 1 Ap np (iv parts)) (hc : np ≤ cp)  :
    Calls Tryz.prog 54 #[.agg #[.string nm, .int .i64 9, sb, .int .i64 size, .bool big, .int .i64 mn, .int .i64 mx, .int .i64 stop, .int .i64 count, .int .i64 elem, sn, .slice Ap np cp]] W (BgX W Ap np (beginsL 9 count elem parts)) := by
  have HP := Lib.hid hp
  clear hp
  go_enter Tryz.func54, Tryz.ntmps54
  refine s_go (M := []) (W := W) (N := 29) (E := [(0, .agg #[.string nm, .int .i64 9, sb, .int .i64 size, .bool big, .int .i64 mn, .int .i64 mx, .int .i64 stop, .int .i64 count, .int .i64 elem, sn, .slice Ap np cp])]) (O := []) ?_ (Ag.cons (Ag.nil rfl rfl) rfl) (Wd.start [] W)
  repeat (first | refine l_op (o_assign rfl rfl (by decide) rfl rfl) ?_ | refine l_op (o_fieldAddr rfl rfl (by decide) rfl rfl) ?_ | refine l_op (o_load rfl rfl (by decide) rfl rfl (by first | exact fun w hw => hw.cell_blkL 0 rfl rfl | exact fun w hw => hw.cell_blkL 1 rfl rfl | exact fun w hw => hw.cell_blkL 2 rfl rfl | exact fun w hw => hw.cell_blkL 3 rfl rfl | exact fun w hw => hw.cell_blkL 4 rfl rfl | exact fun w hw => hw.cell_blkL 5 rfl rfl | exact fun w hw => hw.cell_old (by assumption) (by simp) | exact fun w hw => hw.cell_range (by assumption) rfl (by simp))) ?_ | refine l_op (o_loadN rfl rfl (by decide) rfl rfl (by first | exact fun w hw => hw.range_blk 0 rfl | exact fun w hw => hw.range_blk 1 rfl | exact fun w hw => hw.range_blk 2 rfl | exact fun w hw => hw.range_blk 3 rfl | exact fun w hw => hw.range_blk 4 rfl | exact fun w hw => hw.range_blk 5 rfl | exact fun w hw => hw.range_old (by assumption) (by simp)) (by first | rfl | exact setC_len _)) ?_ | refine l_loud (u_box rfl rfl rfl rfl) rfl (by decide) (fun br _ => ?_) | (refine l_op (o_call (f := 70) rfl rfl (by decide) rfl rfl (fun w hw => usesCount_calls w)) ?_; rw [(by decide : useCount 9 = false)]) | refine l_loud (u_slice1 rfl rfl rfl rfl rfl (by simp)) rfl (by decide) (fun bn _ => ?_) | refine l_nil ?_ | refine s_seq ?_ | refine s_region ?_ | refine s_cond_true rfl ?_ | refine s_cond_false rfl ?_ | refine s_ret ?_ | refine s_block ?_ | refine x_then_ret ?_ | refine x_block_ret ?_ | refine l_op (o_eql rfl rfl (by decide) rfl rfl rfl (by first | assumption | exact beq_iff_eq.2 (by omega) | exact beq_eq_false_iff_ne.2 (by omega) | rfl)) ?_)
  refine x_body1 (by first | exact .inl rfl | exact .inr rfl) rfl (.tmp rfl) (fun w hw => ?_)
  exact bgx_new hw
theorem begins_calls {r : Rl} {Ab An Ap : Option Addr} {cb cn cp : Nat} {W : World} (hl : RuL W r Ab cb An cn Ap cp) (hk : 1 ≤ r.kind ∧ r.kind ≤ 10) (h7 : r.kind = 7 → 1 ≤ r.parts.length) (h8 : r.kind = 8 → 1 ≤ r.parts.length) :
    Calls Tryz.prog 54 #[.agg (ruC r (.slice Ab r.bs.length cb) (.slice An r.names.length cn) (.slice Ap r.parts.length cp)).toArray] W (BgX W Ap r.parts.length (beginsL r.kind r.count r.elem r.parts)) := by
  obtain ⟨name, kind, bs, size, big, mn, mx, stop, count, elem, names, parts⟩ := r
  have hp := hl.p
  have hc := hl.cp
  simp only at hk h7 h8 hp hc ⊢
  rcases (show kind = 1 ∨ kind = 2 ∨ kind = 3 ∨ kind = 4 ∨ kind = 5 ∨ kind = 6 ∨ kind = 7 ∨ kind = 8 ∨ kind = 9 ∨ kind = 10 by omega) with rfl | rfl | rfl | rfl | rfl | rfl | rfl | rfl | rfl | rfl
  · exact bgx_1 hp hc
  · exact bgx_2 hp hc
  · exact bgx_3 hp hc
  · exact bgx_4 hp hc
  · exact bgx_5 hp hc
  · exact bgx_6 hp hc
  · exact bgx_7 hp hc (h7 rfl)
  · exact bgx_8 hp hc (h8 rfl)
  · exact bgx_9 hp hc
  · exact bgx_10 hp hc
end Go.Proofs.YtgdiadednlajgaaGreatDoor
