/-
  The reference: With.
-/
import Derived.Test.YtolognhjdmkohaaKRepM
import Derived.Test.YtolognhjdmkohaaJ19
import Derived.Deep.RegionLaw
import Derived.Deep.CutRange
namespace Go.Proofs.Ytolognhjdmkohaa
open Go.RowKit
set_option linter.unusedVariables false
set_option linter.unusedSimpArgs false

/-- the result, read at the end -/
theorem with_ret {w : World} {tmps : Array Value} {g : Nat} {a b c d e : Value} {R : Ending → World → Prop} (h6 : tmps.getD 6 undef = .pointer (some ⟨g, 0, none⟩)) (hb : Bx w g a b c d e)
    (hR : R (.returned (.agg #[a, b, c, d, e])) w) : bodyPost Try.prog Try.f37 R .ret { tmps := tmps, defers := [] } w := by
  obtain ⟨y0, y1, y2, y3, y4⟩ := hb.cells
  have hl := hb.lt
  rw [Array.getD_eq_getD_getElem?] at h6
  exact bodyPost_ret (by simp [results, Try.results37, go_sem, h6, y0, y1, y2, y3, y4, hl]) rfl hR
/-- what With answers -/
def WtEnd (B0 : Nat) (w : World) (x : Nd × VF) (e : Ending) (w' : World) : Prop :=
  ∃ v, e = .returned v ∧ VInS w' (fun b => (b < B0 ∨ w.heap.size ≤ b) ∧ b < w'.heap.size) v x.1 x.2 ∧ Below w.heap.size w w'
def WtC (B0 : Nat) (path : List Int) : Prop :=
  ∀ (w : World) (v vw : Value) (d e : Nd) (p q : VF) (A : Option Addr) (n c i : Nat) (x : Nd × VF), B0 ≤ w.heap.size → VIn w B0 v d p → VIn w B0 vw e q → p.len ≤ 1048576 → Fits p → Rd w B0 1 A n (iv path) → n ≤ c → n ≤ 1048576 → pathV d p path i = .inr x →
    Calls Try.prog 37 #[v, .slice A n c, vw] w (WtEnd B0 w (repV path d p e q))
/-- the loop's relation -/
def WtRel (B0 : Nat) (W2 wc : World) (g : Nat) (k n sb sn : Value) (F : VF) (j : Value) (wr : World) : Prop :=
  ∃ (i : Nat) (A : Option Addr) (c : Nat) (cs : List Value), j = .int .i64 (i : Int) ∧ i ≤ F.len ∧ Bx wr g k n sb sn (.slice A i c) ∧ wr.ownsRow wc.heap.size 26 5 (.slice A i c) i cs ∧ FCells wr (Sw B0 wc wr (.slice A i c)) (F.take i) cs ∧ wc.heap.size ≤ wr.heap.size ∧ Below g W2 wr
theorem wt_rel {W2 wr w6 w7 : World} {B0 g i g' c c' M M' : Nat} {A : Option Addr} {k n sb sn : Value} {G p' : VF} {d' : Nd} {cs : List Value} {sb' sn' sp' : Value} {ob : Obj}
    (hbx : Bx wr g k n sb sn (.slice A i c)) (hrow : wr.ownsRow W2.heap.size 26 5 (.slice A i c) i cs) (hfc : FCells wr (Sw B0 W2 wr (.slice A i c)) (G.take i) cs) (hzc : W2.heap.size ≤ wr.heap.size) (hgc : g < W2.heap.size) (hgB : B0 ≤ g) (hbel : Below g W2 wr) (hil : i < G.len) (hgd : ∃ r', G.drop i = .cons d' p' r')
    (hb6 : Below wr.heap.size wr w6) (hv6 : HdS w6 (fun b => (b < B0 ∨ wr.heap.size ≤ b) ∧ b < w6.heap.size) d' p'.len (FInS w6 (fun b => (b < B0 ∨ wr.heap.size ≤ b) ∧ b < w6.heap.size) p') sb' sn' sp')
    (hg7 : (w6.alloc ob).grownBy w7 (Value.slice A i c).ownBlock)
    (hown7 : w7.ownsRow W2.heap.size 26 5 (.slice (some ⟨g', 0, none⟩) (i + 1) c') (i + 1) (cs ++ [.int .i64 d'.k, .int .i64 d'.n, sb', sn', sp']))
    (hat : (Value.slice A i c).ownBlock = some g' ∨ g' = w6.heap.size + 1) (hM : M < M') :
    WtRel B0 W2 W2 g k n sb sn G (.int .i64 ((i : Int) + 1)) (w7.setCell ⟨g, 4, none⟩ (.slice (some ⟨g', 0, none⟩) (i + 1) c')) ∧ M < M' := by
  obtain ⟨r', hgd⟩ := hgd
  obtain ⟨a, b, c1, d1, e⟩ := wt_next hbx hrow hfc hzc hgc hgB hb6 hv6 hg7 hown7 hat
  exact ⟨⟨i + 1, _, c', _, by go_num, hil, a, b, by rw [VF.take_succ hgd]; exact c1, d1, hbel.trans e⟩, hM⟩
theorem HdS.of {w : World} {B : Nat} {S : Nat → Prop} {d : Nd} {p : VF} {sb sn sp : Value} (h : Hd w B d p.len (FIn w B p) sb sn sp) (hS : ∀ b, b < B → S b) : HdS w S d p.len (FInS w S p) sb sn sp := by
  have hf : ∀ (F : VF) (b o : Nat), FIn w B F b o → FInS w S F b o := by
    intro F
    induction F with
    | nil => intro b o _; trivial
    | cons d p r ih1 ih2 =>
      rintro b o ⟨⟨sb, sn, sp, hc, Ab, nb, cb, An, nn, cn, Ap, cp, h1, h2, h3, h4, h5, h6, h6', h7, h8, h9⟩, hr⟩
      refine ⟨⟨sb, sn, sp, hc, Ab, nb, cb, An, nn, cn, Ap, cp, h1, h2, h3, h4, h5, h6, h6', ?_, ?_, fun h0 => ?_⟩, ih2 b _ hr⟩
      · exact ⟨by have := h7.1; omega, fun h0 => by obtain ⟨b, o, e, hb, hc⟩ := h7.2 h0; exact ⟨b, o, e, hS b hb, hc⟩⟩
      · exact ⟨by have := h8.1; omega, fun h0 => by obtain ⟨b, o, e, hb, hc⟩ := h8.2 h0; exact ⟨b, o, e, hS b hb, hc⟩⟩
      · obtain ⟨b, o, e, hb, hq⟩ := h9 h0
        exact ⟨b, o, e, hS b hb, ih1 b o hq⟩
  obtain ⟨Ab, nb, cb, An, nn, cn, Ap, cp, h1, h2, h3, h4, h5, h6, h6', h7, h8, h9⟩ := h
  refine ⟨Ab, nb, cb, An, nn, cn, Ap, cp, h1, h2, h3, h4, h5, h6, h6', ?_, ?_, fun h0 => ?_⟩
  · exact ⟨by have := h7.1; omega, fun h0 => by obtain ⟨b, o, e, hb, hc⟩ := h7.2 h0; exact ⟨b, o, e, hS b hb, hc⟩⟩
  · exact ⟨by have := h8.1; omega, fun h0 => by obtain ⟨b, o, e, hb, hc⟩ := h8.2 h0; exact ⟨b, o, e, hS b hb, hc⟩⟩
  · obtain ⟨b, o, e, hb, hq⟩ := h9 h0
    exact ⟨b, o, e, hS b hb, hf p b o hq⟩
theorem VInS.of {w : World} {B : Nat} {S : Nat → Prop} {v : Value} {d : Nd} {p : VF} (h : VIn w B v d p) (hS : ∀ b, b < B → S b) : VInS w S v d p := by
  obtain ⟨sb, sn, sp, e, h⟩ := h
  exact ⟨sb, sn, sp, e, HdS.of h hS⟩
theorem wt_done {w W2 wr W9 : World} {B0 : Nat} {d : Nd} {G : VF} {n : Nat} {Q : Nat → Nat → Prop} {Ab An A3 : Option Addr} {nb cb nn cn c3 : Nat} {sp : Value} {cs : List Value} (hd : Hd w B0 d n Q (.slice Ab nb cb) (.slice An nn cn) sp) (hrow : wr.ownsRow W2.heap.size 26 5 (.slice A3 G.len c3) G.len cs)
    (hfc : FCells wr (Sw B0 W2 wr (.slice A3 G.len c3)) G cs) (hk : ∀ q : Addr, q.block ≠ w.heap.size + 1 + 1 → W9.cell? q = wr.cell? q) (hb : Below w.heap.size w wr) (hB : B0 ≤ w.heap.size) (hz2 : W2.heap.size = w.heap.size + 4) (hz9 : W9.heap.size = wr.heap.size) :
    VInS W9 (fun b => (b < B0 ∨ w.heap.size ≤ b) ∧ b < W9.heap.size) (.agg #[.int .i64 d.k, .int .i64 d.n, .slice Ab nb cb, .slice An nn cn, .slice A3 G.len c3]) d G := by
  obtain ⟨Ab', nb', cb', An', nn', cn', Ap, cp, e1, e2, rfl, h4, h5, h6, h6', h7, h8, h9⟩ := hd
  cases e1
  cases e2
  have hz := hb.size
  have hs : ∀ a : Addr, a.block < B0 → W9.cell? a = w.cell? a := fun a ha => (hk a (by omega)).trans (hb.cell (by omega))
  refine ⟨_, _, _, rfl, Ab, nb, cb, An, nn, cn, A3, c3, rfl, rfl, rfl, h4, h5, (own_cap hrow).1, (own_cap hrow).2, ?_, ?_, fun h0 => ?_⟩
  · exact ⟨by have := h7.1; omega, fun h0 => by obtain ⟨b, o, e, hb, hc⟩ := h7.2 h0; exact ⟨b, o, e, ⟨.inl hb, by omega⟩, fun j u hu => (hs _ hb).trans (hc j u hu)⟩⟩
  · exact ⟨by have := h8.1; omega, fun h0 => by obtain ⟨b, o, e, hb, hc⟩ := h8.2 h0; exact ⟨b, o, e, ⟨.inl hb, by omega⟩, fun j u hu => (hs _ hb).trans (hc j u hu)⟩⟩
  · obtain ⟨b, o, rfl, hb1, hc⟩ := (Rd.of_own hrow).2 h0
    have hb2 := (hrow.lt b rfl).1
    refine ⟨b, o, rfl, ⟨.inr (by omega), by omega⟩, ?_⟩
    refine FCells.fin G cs b o (FCells.keep (fun q hq => hk q (by have := hq.1; omega)) (fun x hx => ?_) G cs hfc) (fun j u hu => (hk _ (by show b ≠ _; omega)).trans (hc j u hu))
    have h1 := hx.1
    have h2 := hx.2.1
    exact ⟨by omega, by omega⟩
set_option maxRecDepth 100000 in
set_option maxHeartbeats 4000000 in
theorem with_nil (B0 : Nat) : WtC B0 [] := by
  intro w v vw d e p q A n c i x hB hv hvw hpl hfp hr hnc hn hpt
  obtain rfl : n = 0 := by have := hr.len; simpa [iv] using this.symm
  have HVW := Lib.hid hvw
  obtain ⟨sb, sn, sp, rfl, Ab, nb, cb, An, nn, cn, Ap, cp, rfl, rfl, rfl, _⟩ := hv
  obtain ⟨tb, tn, tp, rfl, Ab1, nb1, cb1, An1, nn1, cn1, Ap1, cp1, rfl, rfl, rfl, _⟩ := hvw
  clear hr hpt hfp
  go_enter Try.func37, Try.ntmps37
  go_wp2_with fail
  have h := Bx.new ((w.alloc (.cells #[.int .i64 d.k, .int .i64 d.n, .slice Ab nb cb, .slice An nn cn, .slice Ap p.len cp] 26)).alloc (.cells #[.int .i64 e.k, .int .i64 e.n, .slice Ab1 nb1 cb1, .slice An1 nn1 cn1, .slice Ap1 q.len cp1] 26)) (.int .i64 e.k) (.int .i64 e.n) (.slice Ab1 nb1 cb1) (.slice An1 nn1 cn1) (.slice Ap1 q.len cp1)
  simp only [alloc_size] at h
  refine with_ret rfl h ⟨_, rfl, VInS.of (HVW.out.below (bel3 _ _ _ _) hB) (fun b hb => ⟨.inl hb, by simp; omega⟩), bel3 _ _ _ _⟩
set_option maxRecDepth 100000 in
set_option maxHeartbeats 4000000 in
theorem with_cons (B0 : Nat) (k0 : Int) (r : List Int) (IH : WtC B0 r) : WtC B0 (k0 :: r) := by
  intro w v vw d e p q A n c i0 x hB hv hvw hpl hfp hr hnc hn hpt
  obtain ⟨j, d', p', r', rfl, hj, hdj, hpt'⟩ : ∃ (j : Nat) (d' : Nd) (p' r' : VF), k0 = (j : Int) ∧ j < p.len ∧ p.drop j = .cons d' p' r' ∧ pathV d' p' r (i0 + 1) = .inr x := by
    rcases pathV_cases d p k0 r i0 with ⟨h1, _⟩ | ⟨j, d', p', r', e1, e2, e3, e4⟩
    · rw [h1] at hpt; cases hpt
    · exact ⟨j, d', p', r', e1, e2, e3, by rw [← e4]; exact hpt⟩
  rw [repV_go hdj]
  obtain ⟨X, hX⟩ : ∃ X, repV r d' p' e q = X := ⟨_, rfl⟩
  rw [hX]
  obtain ⟨G, hG⟩ : ∃ G, p.setAt j X.1 X.2 = G := ⟨_, rfl⟩
  rw [hG]
  have HG := Lib.hid hG
  have HX := Lib.hid hX
  have HGL := Lib.hid (show G.len = p.len by rw [← hG]; exact VF.len_setAt _ _ _ _)
  obtain ⟨m, rfl⟩ : ∃ m, n = m + 1 := ⟨r.length, by have := hr.len; simp [iv] at this; omega⟩
  have HRR : Hid (Rd w B0 1 (cutA A c 1 1) m (iv r)) := Lib.hid (by
    have h := hr.cut (k := 1) (m := m) (c := c) (by omega) hnc
    have hl : r.length = m := by
      have := hr.len
      simp [iv] at this
      omega
    have e : ((iv ((j : Int) :: r)).drop (1 * 1)).take (m * 1) = iv r := by
      rw [iv, List.map_cons, Nat.one_mul, List.drop_one, List.tail_cons, Nat.mul_one]
      exact List.take_of_length_le (by rw [List.length_map]; omega)
    rw [e] at h
    exact h)
  obtain ⟨bp, op, kx, rfl, hbp, hkx, hck⟩ := iv_at hr (show 0 < m + 1 by omega)
  obtain rfl : kx = (j : Int) := by simpa using hkx.symm
  rw [Nat.add_zero] at hck
  have HCK := Lib.hid hck
  have HBP := Lib.hid (show bp < w.heap.size by omega)
  have hsl : ∀ W : World, (Instr.sliceAt 46 (.slice (some ⟨bp, op, none⟩) (m + 1) c) (some (.int .i64 1)) none none).run Try.prog W = .ok (.slice (cutA (some ⟨bp, op, none⟩) c 1 1) m (c - 1)) W := fun W => run_cut_l (P := Try.prog) slI (some ⟨bp, op, none⟩) (m + 1) c 1 (by omega) W
  have HV := Lib.hid hv
  have HVW := Lib.hid hvw
  have HFP := Lib.hid hfp
  have HIH := Lib.hid IH
  have HDJ := Lib.hid hdj
  have HPT := Lib.hid hpt'
  obtain ⟨sb, sn, sp, rfl, hd0⟩ := hv
  have HHD := Lib.hid hd0
  obtain ⟨Ab, nb, cb, An, nn, cn, Ap, cp, rfl, rfl, rfl, _⟩ := hd0
  obtain ⟨tb, tn, tp, rfl, Ab1, nb1, cb1, An1, nn1, cn1, Ap1, cp1, rfl, rfl, rfl, _⟩ := hvw
  clear hr hpt hfp hX hG hkx hck IH hdj hpt'
  obtain ⟨bq, oq, hAp, hbq, hfin⟩ := hd_parts HHD.out (by omega)
  subst hAp
  have HFIN := Lib.hid hfin
  clear hfin
  have hm1 : (((m : Int) + 1) == 0) = false := by simp; omega
  go_enter Try.func37, Try.ntmps37
  go_upto_region 5 with (fail)
  obtain ⟨W2, hW2⟩ : ∃ W2, (((w.alloc (.cells #[.int .i64 d.k, .int .i64 d.n, .slice Ab nb cb, .slice An nn cn, .slice (some ⟨bq, oq, none⟩) p.len cp] 26)).alloc (.cells #[.int .i64 e.k, .int .i64 e.n, .slice Ab1 nb1 cb1, .slice An1 nn1 cn1, .slice Ap1 q.len cp1] 26)).alloc (.cells #[.int .i64 0, .int .i64 0, .slice none 0 0, .slice none 0 0, .slice none 0 0] 26)).alloc (.cells #[.int .i64 d.k, .int .i64 d.n, .slice Ab nb cb, .slice An nn cn, .slice none 0 0] 26) = W2 := ⟨_, rfl⟩
  have hz2 : W2.heap.size = w.heap.size + 4 := by rw [← hW2]; simp
  have hfar : ∀ g a1 a2 a3 a4 a5, g ≠ w.heap.size + 1 + 1 + 1 → Bx ((((w.alloc (.cells #[.int .i64 d.k, .int .i64 d.n, .slice Ab nb cb, .slice An nn cn, .slice (some ⟨bq, oq, none⟩) p.len cp] 26)).alloc (.cells #[.int .i64 e.k, .int .i64 e.n, .slice Ab1 nb1 cb1, .slice An1 nn1 cn1, .slice Ap1 q.len cp1] 26)).alloc (.cells #[.int .i64 0, .int .i64 0, .slice none 0 0, .slice none 0 0, .slice none 0 0] 26)).alloc (.cells #[.int .i64 d.k, .int .i64 d.n, .slice Ab nb cb, .slice An nn cn, .slice none 0 0] 26)) g a1 a2 a3 a4 a5 → Bx W2 g a1 a2 a3 a4 a5 := fun g a1 a2 a3 a4 a5 hne h => by rw [← hW2]; exact h
  have HB0 : Hid (Bx W2 w.heap.size (.int .i64 d.k) (.int .i64 d.n) (.slice Ab nb cb) (.slice An nn cn) (.slice (some ⟨bq, oq, none⟩) p.len cp)) := Lib.hid (hfar _ _ _ _ _ _ (by omega) ((Bx.new _ _ _ _ _ _).on (bel3 _ _ _ _)))
  have HB1 : Hid (Bx W2 (w.heap.size + 1) (.int .i64 e.k) (.int .i64 e.n) (.slice Ab1 nb1 cb1) (.slice An1 nn1 cn1) (.slice Ap1 q.len cp1)) := Lib.hid (hfar _ _ _ _ _ _ (by omega) (by have h := Bx.new (w.alloc (.cells #[.int .i64 d.k, .int .i64 d.n, .slice Ab nb cb, .slice An nn cn, .slice (some ⟨bq, oq, none⟩) p.len cp] 26)) (.int .i64 e.k) (.int .i64 e.n) (.slice Ab1 nb1 cb1) (.slice An1 nn1 cn1) (.slice Ap1 q.len cp1); rw [alloc_size] at h; exact h.on (bel2 _ _ _)))
  have HB2 : Hid (Bx W2 (w.heap.size + 1 + 1) (.int .i64 0) (.int .i64 0) (.slice none 0 0) (.slice none 0 0) (.slice none 0 0)) := Lib.hid (hfar _ _ _ _ _ _ (by omega) (by have h := Bx.new ((w.alloc (.cells #[.int .i64 d.k, .int .i64 d.n, .slice Ab nb cb, .slice An nn cn, .slice (some ⟨bq, oq, none⟩) p.len cp] 26)).alloc (.cells #[.int .i64 e.k, .int .i64 e.n, .slice Ab1 nb1 cb1, .slice An1 nn1 cn1, .slice Ap1 q.len cp1] 26)) (.int .i64 0) (.int .i64 0) (.slice none 0 0) (.slice none 0 0) (.slice none 0 0); rw [alloc_size, alloc_size] at h; exact h.on (bel1 _ _)))
  have HBG : Hid (Bx W2 (w.heap.size + 1 + 1 + 1) (.int .i64 d.k) (.int .i64 d.n) (.slice Ab nb cb) (.slice An nn cn) (.slice none 0 0)) := Lib.hid (by rw [← hW2]; have h := Bx.new (((w.alloc (.cells #[.int .i64 d.k, .int .i64 d.n, .slice Ab nb cb, .slice An nn cn, .slice (some ⟨bq, oq, none⟩) p.len cp] 26)).alloc (.cells #[.int .i64 e.k, .int .i64 e.n, .slice Ab1 nb1 cb1, .slice An1 nn1 cn1, .slice Ap1 q.len cp1] 26)).alloc (.cells #[.int .i64 0, .int .i64 0, .slice none 0 0, .slice none 0 0, .slice none 0 0] 26)) (.int .i64 d.k) (.int .i64 d.n) (.slice Ab nb cb) (.slice An nn cn) (.slice none 0 0); rw [alloc_size, alloc_size, alloc_size] at h; exact h)
  have HBW := Lib.hid (show Below w.heap.size w W2 by rw [← hW2]; exact bel4 w _ _ _ _)
  have HZ2 := Lib.hid hz2
  (try rw [hW2])
  clear hW2 hfar hz2
  obtain ⟨np, hnp⟩ : ∃ np, p.len = np := ⟨_, rfl⟩
  have HNP := Lib.hid hnp
  rw [hnp] at hpl HB0 hj HGL ⊢
  clear hnp
  go_wp2_with fail
  go_loopw [8] (WtRel B0 W2 W2 (w.heap.size + 1 + 1 + 1) (.int .i64 d.k) (.int .i64 d.n) (.slice Ab nb cb) (.slice An nn cn) G) (fun k _ => np - (intOf k).toNat)
  case atStart => exact ⟨0, none, 0, [], rfl, Nat.zero_le _, HBG.out, World.ownsRow_nil _ _ _ _, by rw [VF.take_zero]; rfl, Nat.le_refl _, Below.refl _ _⟩
  case round =>
    obtain ⟨i, A3, c3, cs, rfl, hi, hbx, hrow, hfc, hzc, hbel⟩ := hrel
    rw [HGL.out] at hi
    have H1 := Lib.hid hbx
    have H2 := Lib.hid hrow
    have H3 := Lib.hid hfc
    have H4 := Lib.hid hbel
    have HWR := Lib.hid (show Below w.heap.size w wr from HBW.out.trans (hbel.mono (by omega)))
    have HX0 := Lib.hid (HB0.out.below hbel (by omega))
    have HX1 := Lib.hid (HB1.out.below hbel (by omega))
    have HX2 := Lib.hid (HB2.out.below hbel (by omega))
    have hzr := HWR.out.size
    have hzr4 : w.heap.size + 4 ≤ wr.heap.size := by rw [← HZ2.out]; exact hzc
    obtain ⟨y0, y1, y2, y3, y4⟩ := HX0.out.cells
    obtain ⟨x0, x1, x2, x3, x4⟩ := HX1.out.cells
    obtain ⟨t0, t1, t2, t3, t4⟩ := H1.out.cells
    clear hbx hrow hfc hbel
    by_cases hlt : i < np
    · obtain ⟨dd, pp, hdr⟩ := VF.drop_cons (F := p) (i := i) (by rw [HNP.out]; exact hlt)
      obtain ⟨sb', sn', sp', ⟨k0, k1, k2, k3, k4⟩, hd'⟩ := HFIN.out.at_ hdr
      have HV' : Hid (VIn w B0 (.agg #[.int .i64 dd.k, .int .i64 dd.n, sb', sn', sp']) dd pp) := Lib.hid ⟨sb', sn', sp', rfl, hd'⟩
      have HD' := Lib.hid hd'
      obtain ⟨Ab', nb', cb', An', nn', cn', Ap', cp', rfl, rfl, rfl, _⟩ := hd'
      have hbw : bq < w.heap.size := by omega
      have q0 := (HWR.out.cell (by exact hbw)).trans k0
      have q1 := (HWR.out.cell (by exact hbw)).trans k1
      have q2 := (HWR.out.cell (by exact hbw)).trans k2
      have q3 := (HWR.out.cell (by exact hbw)).trans k3
      have q4 := (HWR.out.cell (by exact hbw)).trans k4
      have ck := (HWR.out.cell (by exact HBP.out)).trans HCK.out
      have HDR := Lib.hid hdr
      clear k0 k1 k2 k3 k4 hdr
      have hli : (i : Int) < (np : Int) := by omega
      have h0 : (0 : Int) ≤ (i : Int) := by omega
      by_cases hij : i = j
      · subst hij
        have hib : ((i : Int) == (i : Int)) = true := by simp
        obtain ⟨rfl, rfl, _⟩ : dd = d' ∧ pp = p' ∧ True := by have h := HDJ.out; rw [HDR.out] at h; cases h; exact ⟨rfl, rfl, trivial⟩
        have HGD : Hid (∃ r', G.drop i = .cons X.1 X.2 r') := Lib.hid (by rw [← HG.out]; exact VF.setAt_here p i X.1 X.2 (by rw [HNP.out]; exact hlt))
        have fz := H1.out.free 4
        obtain ⟨f1, f2, f3⟩ := Fits.at_ HFP.out HDR.out
        have HC : Hid (∀ W : World, B0 ≤ W.heap.size → Below w.heap.size w W → Calls Try.prog 37 #[.agg #[.int .i64 dd.k, .int .i64 dd.n, .slice Ab' nb' cb', .slice An' nn' cn', .slice Ap' pp.len cp'], .slice (cutA (some ⟨bp, op, none⟩) c 1 1) m (c - 1), .agg #[.int .i64 e.k, .int .i64 e.n, .slice Ab1 nb1 cb1, .slice An1 nn1 cn1, .slice Ap1 q.len cp1]] W (WtEnd B0 W X)) := Lib.hid (fun W hBW hbW => by
          have h := HIH.out W _ _ dd e pp q _ m (c - 1) (i0 + 1) x hBW (HV'.out.keep (fun a ha => hbW.cell (by omega)) (Nat.le_refl _)) (HVW.out.keep (fun a ha => hbW.cell (by omega)) (Nat.le_refl _)) f2 f3 (HRR.out.below (hbW.mono hB)) (by omega) (by omega) HPT.out
          rw [HX.out] at h
          exact h)
        go_upto_region 9 with (fail)
        clear y0 y1 y2 y3 t0 t1 t2 t3 ck hib f1 f2 f3
        go_region_law (first
          | (refine step_app5 slV rfl (.tmp 28) (.tmp 38) rfl W2.heap.size A3 i c3 cs (by simp [Act.eval, Act.put]) (by exact (own_below H2.out HB6.out (Nat.le_refl _)).alloc _) w6.heap.size [.int .i64 X.1.k, .int .i64 X.1.n, .slice Ab6 nb6 cb6, .slice An6 nn6 cn6, .slice Ap6 X.2.len cp6] (by simp [Act.eval, Act.put]) rfl (by exact news5 _ _ _ _ _ _ _) (by simp [Value.oneCell']) (by omega) (by simp only [alloc_size]; omega) (w6.heap.size + 1) (by simp only [alloc_size]) ?_
             intro g' c' w7 hown7 hg7 hat hlt7
             have hb7 := bx_grown (H1.out.on HB6.out) hg7 (fun e => by have := (H2.out.lt _ e).1; have := HZ2.out; omega)
             have hc7 := hb7.cells
             obtain ⟨_, _, _, _, t7⟩ := hc7
             have f7 := hb7.free 4)
          | (go_simp
             go_at_call 37
             refine (HC.out _ (by show B0 ≤ wr.heap.size; omega) (by exact HWR.out.drew)).mono ?_
             rintro e' w6 ⟨v6, rfl, ⟨sb6, sn6, sp6, rfl, hd6⟩, hb6⟩
             have HD6 := Lib.hid hd6
             obtain ⟨Ab6, nb6, cb6, An6, nn6, cn6, Ap6, cp6, rfl, rfl, rfl, _⟩ := hd6
             have HB6 := Lib.hid (show Below wr.heap.size wr w6 from beldrew hb6)
             have hz6 : wr.heap.size ≤ w6.heap.size := HB6.out.size
             have t6 := (HB6.out.cell (p := ⟨w.heap.size + 1 + 1 + 1, 4, none⟩) (by show w.heap.size + 1 + 1 + 1 < wr.heap.size; omega)).trans t4
             have t6' := fun ob => cell_up (o := ob) t6
             clear hb6))
        all_goals go_wp2_with fail
        all_goals exact wt_rel H1.out H2.out H3.out hzc (by have := HZ2.out; omega) (by omega) H4.out (by rw [HGL.out]; exact hlt) HGD.out HB6.out HD6.out hg7 hown7 hat (by simp [intOf]; omega)
      · have hib : ((i : Int) == (j : Int)) = false := by simp; omega
        have HGD : Hid (∃ r', G.drop i = .cons dd pp r') := Lib.hid (by rw [← HG.out]; exact VF.setAt_other p j i X.1 X.2 dd pp _ hij HDR.out)
        have hs : ∀ a : Addr, a.block < B0 → wr.drew.cell? a = w.cell? a := fun a ha => HWR.out.cell (p := a) (by omega)
        have hS : ∀ b, b < B0 → ((b < B0 ∨ wr.heap.size ≤ b) ∧ b < wr.drew.heap.size) := fun b hb => ⟨.inl hb, by show b < wr.heap.size; omega⟩
        have HDS := Lib.hid ((HdS.of (S := fun b => b < B0) HD'.out (fun b h => h)).mono hs hS (FInS.keep hs hS pp))
        clear hs hS
        have fz := H1.out.free 4
        have t4' := fun ob => cell_up (o := ob) t4
        have H1d := Lib.hid (show Bx wr.drew (w.heap.size + 1 + 1 + 1) (.int .i64 d.k) (.int .i64 d.n) (.slice Ab nb cb) (.slice An nn cn) (.slice A3 i c3) from H1.out)
        have HDW := Lib.hid (show World.ownsRow wr.drew W2.heap.size 26 5 (.slice A3 i c3) i cs from H2.out)
        go_upto_region 10 with (fail)
        go_region_law (first
          | (refine step_app5 slV rfl (.tmp 42) (.tmp 48) rfl W2.heap.size A3 i c3 cs (by simp [Act.eval, Act.put]) (by first | exact H2.out.alloc _ | exact HDW.out.alloc _) wr.heap.size [.int .i64 dd.k, .int .i64 dd.n, .slice Ab' nb' cb', .slice An' nn' cn', .slice Ap' pp.len cp'] (by simp [Act.eval, Act.put]) rfl (by first | exact news5 wr _ _ _ _ _ _ | exact news5 wr.drew _ _ _ _ _ _) (by simp [Value.oneCell']) (by omega) (by simp only [alloc_size, World.size_drew]; omega) (wr.heap.size + 1) (by simp only [alloc_size, World.size_drew]) ?_
             intro g' c' w7 hown7 hg7 hat hlt7
             have hb7 := (by first | exact bx_grown H1.out hg7 (fun e => by have := (H2.out.lt _ e).1; have := HZ2.out; omega) | exact bx_grown H1d.out hg7 (fun e => by have := (H2.out.lt _ e).1; have := HZ2.out; omega) : Bx w7 (w.heap.size + 1 + 1 + 1) (.int .i64 d.k) (.int .i64 d.n) (.slice Ab nb cb) (.slice An nn cn) (.slice A3 i c3))
             have hc7 := hb7.cells
             obtain ⟨_, _, _, _, t7⟩ := hc7
             have f7 := hb7.free 4))
        all_goals go_wp2_with fail
        all_goals exact wt_rel H1.out H2.out H3.out hzc (by have := HZ2.out; omega) (by omega) H4.out (by rw [HGL.out]; exact hlt) HGD.out (w6 := wr.drew) (Below.refl _ _).drew HDS.out hg7 hown7 hat (by simp [intOf]; omega)
    · have HAL := Lib.hid (show G.take i = G from VF.take_all (by rw [HGL.out]; omega))
      have HIN := Lib.hid (show i = G.len by rw [HGL.out]; omega)
      have zf := HX2.out.free
      obtain ⟨z0, z1, z2, z3, z4⟩ := HX2.out.cells
      go_wp2_with fail
      obtain ⟨W9, hW9⟩ : ∃ W9, (((((wr.setCell ⟨w.heap.size + 1 + 1, 0, none⟩ (.int .i64 d.k)).setCell ⟨w.heap.size + 1 + 1, 1, none⟩ (.int .i64 d.n)).setCell ⟨w.heap.size + 1 + 1, 2, none⟩ (.slice Ab nb cb)).setCell ⟨w.heap.size + 1 + 1, 3, none⟩ (.slice An nn cn)).setCell ⟨w.heap.size + 1 + 1, 4, none⟩ (.slice A3 i c3)) = W9 := ⟨_, rfl⟩
      have hb9 : Bx W9 (w.heap.size + 1 + 1) (.int .i64 d.k) (.int .i64 d.n) (.slice Ab nb cb) (.slice An nn cn) (.slice A3 i c3) := by rw [← hW9]; exact HX2.out.set5 _ _ _ _ _
      have hz9 : W9.heap.size = wr.heap.size := by rw [← hW9]; simp
      have hc9 : ∀ q : Addr, q.block ≠ w.heap.size + 1 + 1 → W9.cell? q = wr.cell? q := by rw [← hW9]; exact fun q hq => cell_set5 q (fun e => hq e.symm)
      have hB9 : Below w.heap.size w W9 := by rw [← hW9]; exact below5 HWR.out (by omega) _ _ _ _ _
      rw [hW9]
      clear hW9 z0 z1 z2 z3 z4 zf t0 t1 t2 t3 t4
      have hrow := H2.out
      have hfc := H3.out
      rw [HAL.out] at hfc
      refine with_ret rfl hb9 ⟨_, rfl, ?_, hB9⟩
      rw [HIN.out] at hrow hfc ⊢
      exact wt_done HHD.out hrow hfc hc9 HWR.out hB HZ2.out hz9
theorem with_calls {B0 : Nat} (path : List Int) : WtC B0 path := by
  induction path with
  | nil => exact with_nil B0
  | cons k r ih => exact with_cons B0 k r ih
end Go.Proofs.Ytolognhjdmkohaa
