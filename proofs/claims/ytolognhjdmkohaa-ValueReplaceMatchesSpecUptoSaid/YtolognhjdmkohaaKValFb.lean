/-
  value.Find: the contract.
-/
import Derived.Test.YtolognhjdmkohaaJ14
namespace Go.Proofs.Ytolognhjdmkohaa
open Go.RowKit Go.Shelf
set_option linter.unusedVariables false
set_option linter.unusedSimpArgs false
attribute [local go_sem] Oper.semAt_some

/-- what Find answers -/
def FindEnd (w : World) (d : Nd) (p : VF) (name : List UInt8) (e : Ending) (w' : World) : Prop :=
  Below w.heap.size w w' ∧ ((∃ c i, c ≠ 0 ∧ valF d p = (c, i) ∧ e = .returned (.tuple #[.slice none 0 0, .agg #[.int .i64 c, .int .i64 i]])) ∨
    (valF d p = (0, 0) ∧ isName name = false ∧ e = .returned (.tuple #[.slice none 0 0, .agg #[.int .i64 7, .int .i64 (-2)]])) ∨
    (∃ A c, valF d p = (0, 0) ∧ isName name = true ∧ e = .returned (.tuple #[.slice A (findV d p name).length c, .agg #[.int .i64 0, .int .i64 0]]) ∧ OwnI w' w.heap.size A c (findV d p name)))
/-- the loop's own cells -/
def FM (g7 B1 : Nat) (k : Nat) (t : TypeId) : Prop := k = g7 ∨ (t = 46 ∧ B1 ≤ k)
/-- some paths have come -/
def FI (w w5 : World) (g7 : Nat) (d : Nd) (p : VF) (name : List UInt8) (pre : List Wk) (W : World) : Prop :=
  ∃ A c, One W g7 52 (.slice A (selP d p name (pre.map Wk.ghost)).length c) ∧ OwnI W w5.heap.size A c (selP d p name (pre.map Wk.ghost)) ∧ Below w.heap.size w W ∧ KpM (FM g7 w5.heap.size) w5 W
theorem FI.own {w w5 : World} {g7 : Nat} {d : Nd} {p : VF} {name : List UInt8} (hw : w.heap.size ≤ w5.heap.size) : OwnFrom w5.heap.size (FI w w5 g7 d p name) := fun s W W' row h hg hr => by
  have k := kp0_grown hg (fun r e => (hr r e).2)
  obtain ⟨A, c, h1, h2, h3, h4⟩ := h
  exact ⟨A, c, h1.kp k id, h2.kp0 k, h3.grown hg (Nat.le_trans (Nat.le_refl _) h3.size) (fun r e => Nat.le_trans hw (hr r e).1), h4.trans (KpM.of0 k)⟩
theorem FC.kp {M : Nat → TypeId → Prop} {w w' : World} {g : Nat} {a b : Int} (h : FC w g a b) (k : KpM M w w') (hm : ∀ t, ¬ M g t) : FC w' g a b := by
  obtain ⟨cs, t, fr, h1, _⟩ := sm_of_cell (q := ⟨g, 0, none⟩) h.2.1
  have h2 := k.2 g cs t fr h1 (hm t)
  have e : ∀ o, w'.cell? ⟨g, o, none⟩ = w.cell? ⟨g, o, none⟩ := fun o => by unfold World.cell?; rw [show w'.heap[(⟨g, o, none⟩ : Addr).block]? = _ from h2, show w.heap[(⟨g, o, none⟩ : Addr).block]? = _ from h1]
  have f : ∀ o, w'.frozen? ⟨g, o, none⟩ = w.frozen? ⟨g, o, none⟩ := fun o => by unfold World.frozen?; rw [show w'.heap[(⟨g, o, none⟩ : Addr).block]? = _ from h2, show w.heap[(⟨g, o, none⟩ : Addr).block]? = _ from h1]
  exact ⟨Nat.lt_of_lt_of_le h.1 k.1, (e 0).trans h.2.1, (e 1).trans h.2.2.1, (f 0).trans h.2.2.2.1, (f 1).trans h.2.2.2.2⟩
theorem wpListIn_app1 {F : Fence} {nF : Nat} {P : Program} (w : World) {ops : Array Oper} {rest : List Oper} {o : Oper} {a : Act} {Q : Exit → Act → World → Prop} {t e : TypeId} {bytes : Nat} (hT : SlT P t e 1 bytes) (hgd : o.guard = none) (s x : Operand)
    (ho : o.op = .call { callee := .builtin .append, args := #[s, x], argTypes := #[t, t] })
    (base : Nat) (A : Option Addr) (n c : Nat) (xs : List Value) (hs : a.eval s = .slice A n c) (hown : w.ownsRow base e 1 (.slice A n c) n xs)
    (gx : Nat) (u : Value) (hx : a.eval x = .slice (some ⟨gx, 0, none⟩) 1 1) (hu : w.cell? ⟨gx, 0, none⟩ = some u) (h1 : u.oneCell' = true)
    (hbytes : (n + 1) * bytes ≤ 140737488355328) (hbase : base ≤ w.heap.size)
    (h : ∀ A' cap w', w'.ownsRow base e 1 (.slice A' (n + 1) cap) (n + 1) (xs ++ [u]) → w.grownBy w' (Value.slice A n c).ownBlock → wpListIn F nF P ops Q rest (a.put o.dst (.slice A' (n + 1) cap)) w') : wpListIn F nF P ops Q (o :: rest) a w := by
  obtain ⟨i, z, hi, hz, hsz, hby, hzs⟩ := hT.info
  have h63 : n + 1 ≤ maxLen := by
    have h := Nat.le_trans (Nat.le_mul_of_pos_right (n + 1) hT.bpos) hbytes
    simp only [maxLen]
    omega
  refine wpListIn_append_own w hgd s x t ho base e i z 1 bytes hT.und hi hz hsz hby hzs hT.pos _ n xs hs hown ⟨gx, 0, none⟩ 1 1 [u] hx rfl (fun j v hv => ?_) (by simpa using h1) h63 hbytes hbase fun v' w' h2 h3 _ => ?_
  · cases j with
    | zero => simp at hv; subst hv; exact hu
    | succ j => simp at hv
  · obtain ⟨A', c', rfl⟩ := own_shape h2
    exact h A' c' w' h2 h3
theorem slII : SlT Try.prog 52 46 1 24 := SlT.mk' Try.underlying52 (z := .slice none 0 0) (by kernel_rfl) rfl (by decide) (by decide)
/-- a path has been collected -/
theorem find_next {w w5 W W8 w9 : World} {g7 : Nat} {L : List (List Int)} {A A' Ax : Option Addr} {c c' cx nx : Nat} {vs : List Value} {xp : List Int} (hg7 : g7 < w5.heap.size) (hwg : w.heap.size ≤ g7) (h1 : One W g7 52 (.slice A L.length c))
    (hrow : W.ownsRow w5.heap.size 46 1 (.slice A L.length c) L.length vs) (hvl : vs.length = L.length) (hels : ∀ (j : Nat) (b : List Int), L[j]? = some b → ∃ A' c', vs[j]? = some (.slice A' b.length c') ∧ W.ownsRow w5.heap.size 3 1 (.slice A' b.length c') b.length (iv b))
    (h3 : Below w.heap.size w W) (h4 : KpM (FM g7 w5.heap.size) w5 W) (hx : W.ownsRow w5.heap.size 3 1 (.slice Ax nx cx) nx (iv xp)) (hnx : xp.length = nx) (hb8 : Below W.heap.size W W8)
    (hg9 : (W8.alloc (.cells #[.slice Ax nx cx] 46)).grownBy w9 (Value.slice A L.length c).ownBlock) (hown9 : w9.ownsRow w5.heap.size 46 1 (.slice A' (L.length + 1) c') (L.length + 1) (vs ++ [.slice Ax nx cx])) :
    KeepsFrom w5.heap.size W (w9.setCell ⟨g7, 0, none⟩ (.slice A' (L.length + 1) c')) ∧ KpM (FM g7 w5.heap.size) W (w9.setCell ⟨g7, 0, none⟩ (.slice A' (L.length + 1) c')) ∧ Below w.heap.size w (w9.setCell ⟨g7, 0, none⟩ (.slice A' (L.length + 1) c')) ∧
      One (w9.setCell ⟨g7, 0, none⟩ (.slice A' (L.length + 1) c')) g7 52 (.slice A' (L ++ [xp]).length c') ∧ OwnI (w9.setCell ⟨g7, 0, none⟩ (.slice A' (L.length + 1) c')) w5.heap.size A' c' (L ++ [xp]) := by
  subst hnx
  have hr : ∀ r, (Value.slice A L.length c).ownBlock = some r → w5.heap.size ≤ r ∧ r < W.heap.size ∧ ∃ cur, W.heap[r]? = some (.cells cur 46 (0, 0)) := fun r e => by
    refine ⟨(hrow.lt r e).1, (hrow.lt r e).2, ?_⟩
    rcases hrow.2 with ⟨hv, _⟩ | ⟨g, cap, cur, hv, hg, hh, _⟩
    · rw [hv] at e; cases e
    · rw [hv] at e; cases e; exact ⟨cur, hh⟩
  have hz8 := hb8.size
  have hz9 := hg9.size
  simp only [alloc_size] at hz9
  have k9 : ∀ k, k < W.heap.size → (Value.slice A L.length c).ownBlock ≠ some k → w9.heap[k]? = W.heap[k]? := fun k hk hne =>
    (hg9.block k (by simp only [alloc_size]; omega) (fun e => hne e.symm)).trans ((Below.heap_alloc W8 _ k (by omega)).trans (hb8.block k hk))
  have hg7W := h1.lt
  have hset : ∀ k, k ≠ g7 → (w9.setCell ⟨g7, 0, none⟩ (.slice A' (L.length + 1) c')).heap[k]? = w9.heap[k]? := fun k hk => Below.heap_setCell _ _ _ _ (by exact hk)
  have h19 : One w9 g7 52 (.slice A L.length c) := (k9 g7 hg7W (fun e => by have := (hr g7 e).1; omega)).trans h1
  refine ⟨⟨by simp; omega, fun k o hB hk ho => ?_⟩, ⟨by simp; omega, fun k cs t fr hk hm => ?_⟩, ?_, ?_, ?_⟩
  · have hlt := (Array.getElem?_eq_some_iff.1 hk).1
    rw [hset k (by omega), k9 k hlt (fun e => by obtain ⟨_, _, cur, hc⟩ := hr k e; rw [hk] at hc; cases hc; cases ho)]
    exact hk
  · have hlt := (Array.getElem?_eq_some_iff.1 hk).1
    rw [hset k (fun e => hm (.inl e)), k9 k hlt (fun e => by obtain ⟨h5, _, cur, hc⟩ := hr k e; rw [hk] at hc; cases hc; exact hm (.inr ⟨rfl, h5⟩))]
    exact hk
  · have h8 : Below w.heap.size w (W8.alloc (.cells #[.slice Ax xp.length cx] 46)) := (h3.trans (hb8.mono h3.size)).alloc (by have := h3.size; omega) _
    exact (h8.grown hg9 (by have := h3.size; simp only [alloc_size]; omega) (fun k hk => by have := (hr k hk).1; omega)).setCell (p := ⟨g7, 0, none⟩) hwg _
  · have := h19.set (.slice A' (L.length + 1) c')
    rw [List.length_append]
    exact this
  · have old : ∀ (b : List Int) (A2 : Option Addr) (c2 : Nat), W.ownsRow w5.heap.size 3 1 (.slice A2 b.length c2) b.length (iv b) → (w9.setCell ⟨g7, 0, none⟩ (.slice A' (L.length + 1) c')).ownsRow w5.heap.size 3 1 (.slice A2 b.length c2) b.length (iv b) := fun b A2 c2 ho =>
      own_set (own_grown (own_below (own_below ho hb8 (Nat.le_refl _)) (bel1 _ _) (Nat.le_refl _)) hg9 (own_ne ho hrow (by decide))) hg7
    refine ⟨vs ++ [.slice Ax xp.length cx], ?_, by simp [hvl], fun j b hj => ?_⟩
    · rw [List.length_append]
      exact own_set hown9 hg7
    · rcases Nat.lt_or_ge j L.length with hlt | hge
      · rw [List.getElem?_append_left hlt] at hj
        obtain ⟨A2, c2, hv, ho⟩ := hels j b hj
        exact ⟨A2, c2, by rw [List.getElem?_append_left (by omega)]; exact hv, old b A2 c2 ho⟩
      · rw [List.getElem?_append_right hge] at hj
        obtain rfl : j = L.length := by
          rcases Nat.eq_zero_or_pos (j - L.length) with h0 | h0
          · omega
          · rw [List.getElem?_eq_none (by simp; omega)] at hj; cases hj
        simp at hj
        subst hj
        exact ⟨Ax, cx, by rw [List.getElem?_append_right (by omega), hvl]; simp, old xp Ax cx hx⟩
theorem find_box {w5 W W8 w9 : World} {g7 n : Nat} {A : Option Addr} {c : Nat} {o : Obj} {v : Value} {t e : TypeId} {vs : List Value} (hg7 : g7 < w5.heap.size) (h1 : One W g7 t v) (hrow : W.ownsRow w5.heap.size e 1 (.slice A n c) n vs) (hb8 : Below W.heap.size W W8)
    (hg9 : (W8.alloc o).grownBy w9 (Value.slice A n c).ownBlock) : One w9 g7 t v := by
  have hz8 := hb8.size
  have h := h1.lt
  exact (hg9.block g7 (by simp only [alloc_size]; omega) (fun e => by have := (hrow.lt g7 e.symm).1; omega)).trans ((Below.heap_alloc W8 _ g7 (by omega)).trans ((hb8.block g7 h).trans h1))
/-- nothing has been collected -/
theorem find_same {w w5 W W8 : World} {g7 : Nat} {L : List (List Int)} {A : Option Addr} {c : Nat} (h1 : One W g7 52 (.slice A L.length c)) (h2 : OwnI W w5.heap.size A c L) (h3 : Below w.heap.size w W) (h4 : KpM (FM g7 w5.heap.size) w5 W) (hb8 : Below W.heap.size W W8) :
    KeepsFrom w5.heap.size W W8 ∧ KpM (FM g7 w5.heap.size) W W8 ∧ One W8 g7 52 (.slice A L.length c) ∧ OwnI W8 w5.heap.size A c L ∧ Below w.heap.size w W8 ∧ KpM (FM g7 w5.heap.size) w5 W8 :=
  ⟨⟨hb8.size, fun k o _ hk _ => (hb8.block k (Array.getElem?_eq_some_iff.1 hk).1).trans hk⟩, KpM.below hb8, h1.on hb8, h2.kp0 (KpM.below hb8), chain h3 hb8, h4.trans (KpM.below hb8)⟩
theorem find_ok {w : World} {b o : Nat} {d d' : Nd} {p p' : VF} {A : Option Addr} {n c : Nat} {path : List Int} (hv : NAt w w.heap.size b o d p) (hr : Rd w w.heap.size 1 A n (iv path)) (hn : n ≤ 1048576) (hpl : p.len ≤ 9223372036854775807) (hp : pathV d p path 0 = .inr (d', p')) :
    Calls Try.prog 54 #[.pointer (some ⟨b, o, none⟩), .slice A n c] w fun e w' => ∃ b' o', e = .returned (.tuple #[.pointer (some ⟨b', o', none⟩), .agg #[.int .i64 0, .int .i64 0]]) ∧ NAt w w.heap.size b' o' d' p' ∧ Below w.heap.size w w' := by
  refine (find_calls hv hr hn hpl).mono ?_
  rintro e w' ⟨hb, ⟨i, h, _⟩ | ⟨d1, p1, b1, o1, h, he, hat⟩⟩
  · rw [hp] at h; cases h
  · rw [hp] at h
    injection h with h
    injection h with h1 h2
    subst h1 h2
    exact ⟨b1, o1, he, hat, hb⟩
set_option maxRecDepth 100000 in
set_option maxHeartbeats 2000000 in
theorem findF_calls {d : Nd} {p : VF} {w : World} {v : Value} {s : ByteArray} (hm : Mod d p) (hv : VIn w w.heap.size v d p) (hs : s.size ≤ 9223372036854775807) :
    Calls Try.prog 27 #[v, .string s] w (FindEnd w d p s.data.toList) := by
  have HV := Lib.hid hv
  have HM := Lib.hid hm
  obtain ⟨sb, sn, sp, rfl, hd⟩ := hv
  have HHD := Lib.hid hd
  obtain ⟨Ab, nb, cb, An, nn, cn, Ap, cp, rfl, rfl, rfl, _⟩ := hd
  clear hm
  refine (callsIn_wide (n := 9)).1 ?_
  refine callsIn_of_wp_marks Try.func27 rfl trivial ?_ rfl
  refine wpIn_wide.2 ?_
  simp only [Try.ntmps27, List.size_toArray, List.length_cons, List.length_nil, Nat.reduceAdd, Nat.reduceSub, Array.replicate_succ, Array.replicate_zero, List.push_toArray, List.append_toArray, List.nil_append, List.cons_append]
  go_wp2_with fail
  refine (validate_calls HM.out (HV.out.on (bel3 _ _ _ _))).mono ?_
  rintro e w2 ⟨rfl, hb2⟩
  have hbx : Bx w2 w.heap.size (.int .i64 d.k) (.int .i64 d.n) (.slice Ab nb cb) (.slice An nn cn) (.slice Ap p.len cp) := ((Bx.new _ _ _ _ _ _).on (bel2 _ _ _)).on hb2
  have hnm : One w2 (w.heap.size + 1) 9 (.string s) := by
    have h := ((One.new (w.alloc (.cells #[.int .i64 d.k, .int .i64 d.n, .slice Ab nb cb, .slice An nn cn, .slice Ap p.len cp] 26)) 9 (.string s)).on (bel1 _ (.cells #[.int .i64 0, .int .i64 0] 29))).on hb2
    rw [alloc_size] at h
    exact h
  have hrf := (FC.new ((w.alloc (.cells #[.int .i64 d.k, .int .i64 d.n, .slice Ab nb cb, .slice An nn cn, .slice Ap p.len cp] 26)).alloc (.cells #[.string s] 9)) 0 0).on hb2
  simp only [alloc_size] at hrf
  have HB2 := Lib.hid (show Below w.heap.size w w2 from chain (bel3 _ _ _ _) hb2)
  have hz2 : w.heap.size + 1 + 1 < w2.heap.size := hrf.1
  clear hb2
  rcases valF_cases d p with ⟨cd, ix, hcd, hvf⟩ | hvf
  · have HF := Lib.hid hvf
    have HC := Lib.hid hcd
    rw [HF.out]
    have hc0 : (cd == 0) = false := by simpa using hcd
    have hneq := flt_neq cd ix 0 0
    have P2 := hrf.alloc (.cells #[.int .i64 cd, .int .i64 ix] 29)
    have P1 := FC.new w2 cd ix
    have PB := bel_up HB2.out (.cells #[.int .i64 cd, .int .i64 ix] 29)
    clear hvf hcd hrf hbx hnm
    go_wp2_with fail
    obtain ⟨W4, hW4⟩ : ∃ W4, w2.alloc (.cells #[.int .i64 cd, .int .i64 ix] 29) = W4 := ⟨_, rfl⟩
    rw [hW4] at P1 P2 PB ⊢
    have HPB := Lib.hid PB
    clear hW4 PB
    obtain ⟨z3, a0, a1, g0, g1⟩ := P1
    have HP2 := Lib.hid P2
    obtain ⟨z4, r0, r1, e0, e1⟩ := P2
    go_region
    go_wp2_with fail
    have HP5 := Lib.hid (HP2.out.put cd ix)
    clear r0 r1 e0 e1
    obtain ⟨z5, r0, r1, e0, e1⟩ := HP5.out
    refine postM_ret (v := .tuple #[.slice none 0 0, .agg #[.int .i64 cd, .int .i64 ix]]) (by simp [results, Try.results27, go_sem, r0, r1, z4]) rfl ?_
    exact ⟨(below_put HPB.out (by omega) _ _).drew, .inl ⟨cd, ix, HC.out, HF.out, rfl⟩⟩
  · have HF := Lib.hid hvf
    rw [HF.out]
    have hneq := flt_neq 0 0 0 0
    have P2 := hrf.alloc (.cells #[.int .i64 0, .int .i64 0] 29)
    have PX := hbx.on (bel1 _ (.cells #[.int .i64 0, .int .i64 0] 29))
    have PN := hnm.on (bel1 _ (.cells #[.int .i64 0, .int .i64 0] 29))
    have PB := bel_up HB2.out (.cells #[.int .i64 0, .int .i64 0] 29)
    clear hvf hrf hbx hnm
    have pn0 := PN.cell
    go_wp2_with fail
    obtain ⟨W4, hW4⟩ : ∃ W4, w2.alloc (.cells #[.int .i64 0, .int .i64 0] 29) = W4 := ⟨_, rfl⟩
    rw [hW4] at P2 PX PN PB ⊢
    have HP2 := Lib.hid P2
    have HPX := Lib.hid PX
    have HPN := Lib.hid PN
    have HPB := Lib.hid PB
    have hz4 : w.heap.size + 1 + 1 < W4.heap.size := P2.1
    clear hW4 P2 PX PN PB pn0
    refine (name_calls s _ hs).mono ?_
    rintro e w3 ⟨rfl, hb3⟩
    have HB3 := Lib.hid (chain HPB.out hb3)
    have HP3 := Lib.hid (HP2.out.on hb3)
    have HX3 := Lib.hid (HPX.out.on hb3)
    have HN3 := Lib.hid (HPN.out.on hb3)
    have hz3 : w.heap.size + 1 + 1 < w3.heap.size := HP3.out.1
    clear hb3
    cases hnm : isName s.data.toList
    · have HNM := Lib.hid hnm
      clear hnm
      obtain ⟨z4, r0, r1, e0, e1⟩ := HP3.out
      go_wp2_with (go_at_call 46; refine (vfault_calls _ _ _).mono ?_; rintro e w' ⟨rfl, rfl⟩)
      have HP5 := Lib.hid ((HP3.out.put 7 (-2)).alloc (.cells #[.int .i64 7, .int .i64 (-2)] 29))
      clear r0 r1 e0 e1
      obtain ⟨z5, r0, r1, e0, e1⟩ := HP5.out
      refine postM_ret (v := .tuple #[.slice none 0 0, .agg #[.int .i64 7, .int .i64 (-2)]]) (by simp [results, Try.results27, go_sem, r0, r1, z4]) rfl ?_
      exact ⟨bel_up (below_put HB3.out (by omega) _ _) _, .inr (.inl ⟨HF.out, HNM.out, rfl⟩)⟩
    · have HNM := Lib.hid hnm
      clear hnm
      obtain ⟨x0, x1, x2, x3, x4⟩ := HX3.out.cells
      have y0 := fun ob => cell_up (o := ob) x0
      have y1 := fun ob => cell_up (o := ob) x1
      have y2 := fun ob => cell_up (o := ob) x2
      have y3 := fun ob => cell_up (o := ob) x3
      have y4 := fun ob => cell_up (o := ob) x4
      go_wp2_with (go_at_call 33; refine (walkW_calls HM.out (HV.out.on (bel_up HB3.out _))).mono ?_; rintro e w5 ⟨rfl, hb5, a5, b5, c5, d5, e5, hbx5, hv5⟩)
      have HB5 := Lib.hid (chain (bel_up HB3.out _) hb5)
      have HK5 := Lib.hid (chain (bel1 _ _) hb5)
      have hz5 : w3.heap.size + 1 < w5.heap.size := by have := hbx5.lt; simpa using this
      have HO5 := Lib.hid ((One.new w3 52 (.slice none 0 0)).on hb5)
      rw [alloc_size] at hbx5
      have HX5 := Lib.hid hbx5
      have HM5 : Hid (VInS w5 (Sm (FM w3.heap.size w5.heap.size) w5) (.agg #[a5, b5, c5, d5, e5]) d p) := Lib.hid (hv5.ofM fun b t hb h => by
        simp only [alloc_size] at hb
        rcases h with h | h <;> omega)
      clear hb5 hbx5 hv5 x0 x1 x2 x3 x4 y0 y1 y2 y3 y4
      refine (wpIn_wide (n := 9)).1 ?_
      refine rangeP (F := Fence.wide) (n := 9) rfl (by omega) (gf := 59) (lb := #[.pointer (some ⟨w3.heap.size + 1, 0, none⟩)]) rfl trivial (enters_of Try.func59 (by kernel_rfl) rfl)
        (walk_seq (M := FM w3.heap.size w5.heap.size) HM.out (fun k hk h => by rcases h with h | h; (· omega); (· exact absurd h.1 (by decide))) (fun k hk h => by rcases h with h | h; (· omega); (· exact absurd h.1 (by decide))) HX5.out HM5.out 8)
        (fun h k => h.trans k) (fun W l o o' _ h ho => KpM.putObj W l o o' h ho) (Below.refl _ _) (fun _ => rfl)
        (FI w w5 w3.heap.size d p s.data.toList) (fun _ _ => False) (FI.own (by have := HB5.out.size; omega)) (fun _ _ _ _ h _ _ => h) ⟨none, 0, HO5.out, OwnI.nil _ _, HB5.out, KpM.refl _ _⟩
        (fun pre x a' W => a' = { tmps := #[.agg #[.int .i64 d.k, .int .i64 d.n, .slice Ab nb cb, .slice An nn cn, .slice Ap p.len cp], .string s, .pointer (some ⟨w.heap.size, 0, none⟩), .pointer (some ⟨w.heap.size + 1, 0, none⟩), .slice none 0 0, .pointer (some ⟨w.heap.size + 1 + 1, 0, none⟩), .pointer (some ⟨w2.heap.size, 0, none⟩), .pointer (some ⟨w3.heap.size, 0, none⟩), .slice x.A x.n x.c, undef, undef, undef, .agg #[.int .i64 d.k, .int .i64 d.n, .slice Ab nb cb, .slice An nn cn, .slice Ap p.len cp], .agg #[.int .i64 0, .int .i64 0], .agg #[.int .i64 0, .int .i64 0], .agg #[.int .i64 0, .int .i64 0], .bool false, undef, .string s, .bool true, .bool false, undef, .agg #[.int .i64 d.k, .int .i64 d.n, .slice Ab nb cb, .slice An nn cn, .slice Ap p.len cp], .func (.func 59) #[] #[.pointer (some ⟨w3.heap.size + 1, 0, none⟩)], .slice x.A x.n x.c, x.v, undef, undef, undef, undef, undef, undef, undef, undef, undef, undef, undef, undef, undef, undef, undef, undef, undef, undef, undef, undef, undef, undef, undef, undef, undef, undef, undef, undef, undef, undef, undef, undef, undef, undef, undef, undef, undef, undef], defers := [] } ∧ WPre (walkV d p) w5.heap.size pre x W) (fun pre x a' => OwnFrom.and (fun _ _ _ _ h _ _ => h) (wpre_own _ _ _ pre x)) ?assign ?body ?done ?stop
      case assign =>
        intro l pre x W K hi hp hsz hK
        simp only [Wk.encs]
        gi_wp2_with fail
        exact hK _ _ (KeepsFrom.refl _ _) (KpM.refl _ _) hi ⟨rfl, hp⟩
      case body =>
        rintro l pre x a' W hi ⟨rfl, hp⟩
        have HP := Lib.hid hp
        obtain ⟨A, c, h1, h2, h3, h4⟩ := hi
        obtain ⟨L, hL⟩ : ∃ L, selP d p s.data.toList (pre.map Wk.ghost) = L := ⟨_, rfl⟩
        rw [hL] at h1 h2
        have HL := Lib.hid hL
        have H1 := Lib.hid h1
        have H2 := Lib.hid h2
        have H3 := Lib.hid h3
        have H4 := Lib.hid h4
        obtain ⟨hown, _, hpre⟩ := hp
        have HOW := Lib.hid hown
        have hmem : x.ghost ∈ walkV d p := hpre.subset (by simp)
        have hlen : L.length ≤ 600 := by
          rw [← hL]
          have a1 := selP_len d p s.data.toList (pre.map Wk.ghost)
          have a2 := hpre.length_le
          have a3 := walkV_len d p
          simp only [List.map_append, List.length_append] at a2
          omega
        have hxn : x.path.length = x.n := by have := hown.1; rw [iv_len] at this; omega
        clear hown hpre h1 h2 h3 h4 hL
        rcases walkV_entry hmem with hroot | hent
        · have hp0 : x.path = [] := congrArg Prod.fst hroot
          have hn0 : x.n = 0 := by rw [← hxn, hp0]; rfl
          have HSEL := Lib.hid (show selP d p s.data.toList ((pre ++ [x]).map Wk.ghost) = L by
            rw [List.map_append, List.map_cons, List.map_nil, selP_snoc, HL.out, show x.ghost.1 = [] from hp0, hitB_nil]
            simp)
          clear hroot hmem hp0 hxn
          rw [hn0]
          gi_wp2_with fail
          exact ⟨KeepsFrom.refl _ _, .inl ⟨rfl, KpM.refl _ _, A, c, by rw [HSEL.out]; exact H1.out, by rw [HSEL.out]; exact H2.out, H3.out, H4.out⟩⟩
        · obtain ⟨hpx, q, k, d', p', hq, hpq, hk, hnc⟩ := hent
          obtain ⟨m, hm⟩ : ∃ m, q.length = m := ⟨_, rfl⟩
          have hxm : x.n = m + 1 := by rw [← hxn, show x.path = _ from hq, List.length_append, hm]; rfl
          have hm10 : m ≤ 1048576 := by have := pathV_ht q d p 0 d' p' hpq; have := valF_ht (d := d) (p := p) (by rw [HF.out]); omega
          have hrd := Rd.of_own HOW.out
          obtain ⟨bA, oA, kx, hA, hbA, hkx, hck⟩ := iv_at hrd (show m < x.n by omega)
          have hkk : kx = (k : Int) := by
            rw [show x.path = _ from hq, List.getElem?_append_right (by omega), hm] at hkx
            simpa using hkx.symm
          subst hkk
          have hcap := (own_cap HOW.out).1
          have HRQ := Lib.hid (show Rd W W.heap.size 1 (cutA x.A x.c 0 1) m (iv q) by
            have := hrd.cut (k := 0) (m := m) (c := x.c) (by omega) hcap
            rw [show x.path = q ++ [(k : Int)] from hq] at this
            simpa [iv, ← hm] using this)
          have hsl := fun w' => run_cut_h (P := Try.prog) slI x.A x.n x.c m (by omega) w'
          have HQ := Lib.hid hq
          have HPQ := Lib.hid hpq
          have HNC := Lib.hid hnc
          have hbx := (HX3.out.on HK5.out).kp H4.out (show ¬ FM w3.heap.size w5.heap.size w.heap.size 26 by intro h; rcases h with h | h <;> omega)
          have HNA : Hid (NAt W W.heap.size w.heap.size 0 d p) := Lib.hid ⟨hbx.lt, _, _, _, ⟨hbx.cells.1, hbx.cells.2.1, hbx.cells.2.2.1, hbx.cells.2.2.2.1, hbx.cells.2.2.2.2⟩, HHD.out.mono (fun q hq => H3.out.cell hq) H3.out.size (FIn.keep (fun q hq => H3.out.cell hq) H3.out.size p)⟩
          have hnb := (HN3.out.on HK5.out).kp H4.out (show ¬ FM w3.heap.size w5.heap.size (w.heap.size + 1) 9 by intro h; rcases h with h | h <;> omega)
          have HNB := Lib.hid hnb
          have HHX := Lib.hid hxn
          clear hrd hkx hq hpq hnc hbx hnb hpx hmem hxn
          have HOX := Lib.hid (show W.ownsRow w5.heap.size 3 1 (.slice (some ⟨bA, oA, none⟩) (m + 1) x.c) (m + 1) (iv x.path) by have := HOW.out; rw [hxm, hA] at this; exact this)
          have HHM := Lib.hid (show x.path.length = m + 1 by rw [HHX.out, hxm])
          rw [hxm] at hsl
          rw [hxm, hA] at *
          gi_wp2_with (refine ⟨trivial, ?_⟩; gi_at_call 54; refine (CallsIn.inRound l (callsIn_wide.2 (find_ok (path := q) HNA.out HRQ.out hm10 (by have := HM.out.pl; omega) HPQ.out))).mono ?_; rintro e w6 ⟨b', o', rfl, hat, hb6⟩)
          obtain ⟨W7, hW7⟩ : ∃ W7, w6.alloc (.cells #[.int .i64 0, .int .i64 0] 29) = W7 := ⟨_, rfl⟩
          rw [hW7]
          have hb7 : Below W.heap.size W W7 := by rw [← hW7]; exact bel_up hb6 _
          have HB7 := Lib.hid hb7
          obtain ⟨hb', sb', sn', sp', ⟨c0, c1, c2, c3, c4⟩, Ab', nb', cb', An', nn', cn', Ap', cp', rfl, rfl, rfl, _, hnc', _, _, _, hrn', _⟩ := hat
          have u0 := (hb7.cell (p := ⟨b', o', none⟩) hb').trans c0
          have u3 := (hb7.cell (p := ⟨b', o' + 3, none⟩) hb').trans c3
          have u5 := (hb7.cell (p := ⟨bA, oA + m, none⟩) hbA).trans hck
          have u6 := (HNB.out.on hb7).cell
          have HRN := Lib.hid hrn'
          have HCK := Lib.hid hck
          clear hb6 hW7 c0 c1 c2 c3 c4 hrn' hb7 hck hsl
          by_cases hk4 : d'.k = 4
          · have hnl : nn' = p'.len := by have := HRN.out.len; rw [sv_len] at this; rw [← this]; exact node_names HNC.out hk4
            obtain ⟨bn, on, t, rfl, hbn, hnt, hct⟩ := sv_at HRN.out (show k < nn' by omega)
            have u7 := (HB7.out.cell (p := ⟨bn, on + k, none⟩) hbn).trans hct
            have g1 : (d'.k == 4) = true := by simp [hk4]
            have hkn : (k : Int) < (nn' : Int) := by omega
            have hk0 : (0 : Int) ≤ (k : Int) := by omega
            have hmm : (m : Int) < (m : Int) + 1 := by omega
            have hm0 : (0 : Int) ≤ (m : Int) := by omega
            have hwm : IntKind.i64.wrap (m : Int) = (m : Int) := by simp [IntKind.wrap, IntKind.bits, IntKind.signed]; omega
            have HNT := Lib.hid hnt
            clear hnt hct
            rw [hk4] at u0
            refine region_quiet_round (F := Fence.wide) (r := l) rfl rfl (by kernel_rfl) (by kernel_rfl) ?_
            repeat (quiet_step_in (fail))
            refine wpQuietIn_nil ?_
            intro W8 hw8
            obtain ⟨nq, hw8⟩ := hw8
            have HB8 := Lib.hid (show Below W.heap.size W W8 by rw [hw8]; exact HB7.out.trans ⟨rfl, rfl, rfl, Nat.le_refl _, fun _ _ => rfl⟩)
            clear hw8
            by_cases hts : t = s
            · subst hts
              have hss : (t.toList == t.toList) = true := by simp
              have HSEL := Lib.hid (show selP d p t.data.toList ((pre ++ [x]).map Wk.ghost) = L ++ [x.path] by
                rw [List.map_append, List.map_cons, List.map_nil, selP_snoc, HL.out]
                rw [show x.ghost.1 = q ++ [(k : Int)] from HQ.out, show x.path = q ++ [(k : Int)] from HQ.out, hitB_snoc HPQ.out, HNT.out, g1]
                simp)
              obtain ⟨vs, hrow, hvl, hels⟩ := H2.out
              have HRO := Lib.hid hrow
              have HVL := Lib.hid hvl
              have HEL := Lib.hid hels
              have o8 := (H1.out.on HB8.out).cell
              have o8' := fun ob => cell_up (o := ob) o8
              have hzW := H1.out.lt
              have hzK := H4.out.1
              clear hrow hvl hels u0 u3 u5 u6 u7
              rw [hss]
              gi_wp2_with (gi_at_builtin; refine wpListIn_app1 _ slII rfl (.tmp 58) (.tmp 60) rfl w5.heap.size A L.length c vs rfl ((own_below HRO.out HB8.out (Nat.le_refl _)).alloc _) W8.heap.size (.slice (some ⟨bA, oA, none⟩) (m + 1) x.c) rfl (cell_new1 _ _ _) rfl (by omega) (by have := HB8.out.size; simp only [alloc_size]; omega) ?_; intro A9 c9 w9 hown9 hg9; have o9 := find_box (by omega) H1.out HRO.out HB8.out hg9; have o9c := o9.cell; have o9f := o9.free 0; clear o9)
              have hfin := find_next (by omega) (by omega) H1.out HRO.out HVL.out HEL.out H3.out H4.out HOX.out HHM.out HB8.out hg9 hown9
              exact ⟨hfin.1, .inl ⟨rfl, hfin.2.1, A9, c9, by rw [HSEL.out]; exact hfin.2.2.2.1, by rw [HSEL.out]; exact hfin.2.2.2.2, hfin.2.2.1, H4.out.trans hfin.2.1⟩⟩
            · have HSEL := Lib.hid (show selP d p s.data.toList ((pre ++ [x]).map Wk.ghost) = L by
                rw [List.map_append, List.map_cons, List.map_nil, selP_snoc, HL.out]
                rw [show x.ghost.1 = q ++ [(k : Int)] from HQ.out, hitB_snoc HPQ.out, HNT.out, g1]
                have hne : ¬ t.data.toList = s.data.toList := fun e => hts (by cases t; cases s; congr 1; exact Array.toList_inj.1 e)
                rw [show (some t.data.toList == some s.data.toList) = false by simpa using fun e => hne (by rw [e])]
                simp)
              have hss : (t.toList == s.toList) = false := by
                have hne : ¬ t.data.toList = s.data.toList := fun e => hts (by cases t; cases s; congr 1; exact Array.toList_inj.1 e)
                rw [ByteArray.toList_eq, ByteArray.toList_eq]
                simpa using fun e => hne (by rw [e])
              rw [hss]
              gi_wp2_with fail
              have hfin := find_same H1.out H2.out H3.out H4.out HB8.out
              exact ⟨hfin.1, .inl ⟨rfl, hfin.2.1, A, c, by rw [HSEL.out]; exact hfin.2.2.1, by rw [HSEL.out]; exact hfin.2.2.2.1, hfin.2.2.2.2.1, hfin.2.2.2.2.2⟩⟩
          · have g1 : (d'.k == 4) = false := by simp [hk4]
            have g2 : decide (d'.k = 4) = false := by simp [hk4]
            have HSEL := Lib.hid (show selP d p s.data.toList ((pre ++ [x]).map Wk.ghost) = L by
              rw [List.map_append, List.map_cons, List.map_nil, selP_snoc, HL.out]
              rw [show x.ghost.1 = q ++ [(k : Int)] from HQ.out, hitB_snoc HPQ.out, g1]
              simp)
            refine region_quiet_round (F := Fence.wide) (r := l) rfl rfl (by kernel_rfl) (by kernel_rfl) ?_
            repeat (quiet_step_in (fail))
            refine wpQuietIn_nil ?_
            intro W8 hw8
            obtain ⟨nq, hw8⟩ := hw8
            have HB8 := Lib.hid (show Below W.heap.size W W8 by rw [hw8]; exact HB7.out.trans ⟨rfl, rfl, rfl, Nat.le_refl _, fun _ _ => rfl⟩)
            clear hw8
            gi_wp2_with fail
            have hfin := find_same H1.out H2.out H3.out H4.out HB8.out
            exact ⟨hfin.1, .inl ⟨rfl, hfin.2.1, A, c, by rw [HSEL.out]; exact hfin.2.2.1, by rw [HSEL.out]; exact hfin.2.2.2.1, hfin.2.2.2.2.1, hfin.2.2.2.2.2⟩⟩
      case done =>
        rintro D xs W hD hS hi hK
        obtain ⟨A, c, h1, h2, h3, h4⟩ := hi
        rw [hS] at h1 h2
        have H2 := Lib.hid h2
        have H3 := Lib.hid h3
        have h5 := ((HP3.out.on HK5.out)).kp h4 (fun t h => by rcases h with h | h <;> omega)
        have H5 := Lib.hid h5
        have HK := Lib.hid hK
        have o1 := h1.cell
        obtain ⟨z4, r0, r1, e0, e1⟩ := h5
        clear h1 h2 h3 h4 hK hS
        go_wp2_with fail
        have HP5 := Lib.hid (H5.out.put 0 0)
        have HKD := Lib.hid (show ((W.setCell ⟨w.heap.size + 1 + 1, 0, none⟩ (.int .i64 0)).setCell ⟨w.heap.size + 1 + 1, 1, none⟩ (.int .i64 0)).heap[D]? = some (.deferred (some [])) by
          rw [Below.heap_setCell _ _ _ _ (by simp; omega), Below.heap_setCell _ _ _ _ (by simp; omega)]; exact HK.out)
        have HP6 := Lib.hid (HP5.out.kp (putObj_other (o' := .deferred none) HKD.out rfl) (fun _ h => h))
        clear r0 r1 e0 e1 z4
        obtain ⟨z5, r0, r1, e0, e1⟩ := HP6.out
        refine postM_mark (v := .tuple #[.slice A (selP d p s.data.toList (walkV d p)).length c, .agg #[.int .i64 0, .int .i64 0]]) rfl HKD.out (by simp [results, Try.results27, go_sem, r0, r1, z5]) ?_
        refine ⟨below_obj (below_put H3.out (by omega) _ _) (Nat.le_refl _) (by omega), .inr (.inr ⟨A, c, HF.out, HNM.out, rfl, ?_⟩)⟩
        refine OwnI.kp0 ?_ (putObj_other HKD.out rfl)
        exact (H2.out.set (by omega)).set (by omega) |>.mono (by omega)
      case stop =>
        rintro D pre W hD hS h hK
        exact h.elim
end Go.Proofs.Ytolognhjdmkohaa
