/-
  The law on paths in two parts.
-/
import Derived.Test.YtolognhjdmkohaaKPathM
import Derived.Test.YtolognhjdmkohaaJ19
import Derived.Test.YtolognhjdmkohaaJ15
import Derived.Test.YtolognhjdmkohaaKAbv
namespace Go.Proofs.Ytolognhjdmkohaa
open Go.RowKit
set_option linter.unusedVariables false
set_option linter.unusedSimpArgs false

/-- the blocks from B on are kept -/
def Hg (B : Nat) (w w' : World) : Prop := w.heap.size ≤ w'.heap.size ∧ ∀ k, B ≤ k → k < w.heap.size → w'.heap[k]? = w.heap[k]?
theorem Hg.of {B : Nat} {w w' : World} (h : Below w.heap.size w w') : Hg B w w' := ⟨h.size, fun k _ hk => h.block k hk⟩
theorem Hg.trans {B : Nat} {w w1 w2 : World} (h : Hg B w w1) (h' : Hg B w1 w2) : Hg B w w2 := ⟨Nat.le_trans h.1 h'.1, fun k h1 h2 => (h'.2 k h1 (Nat.lt_of_lt_of_le h2 h.1)).trans (h.2 k h1 h2)⟩
theorem Hg.cell {B : Nat} {w w' : World} (h : Hg B w w') {q : Addr} (h1 : B ≤ q.block) (h2 : q.block < w.heap.size) : w'.cell? q = w.cell? q := World.cell?_of_block (w := w) (h.2 q.block h1 h2)
theorem FC.hg {B : Nat} {w w' : World} {g : Nat} {a b : Int} (h : FC w g a b) (hh : Hg B w w') (hg : B ≤ g) : FC w' g a b := by
  obtain ⟨z, c0, c1, f0, f1⟩ := h
  exact ⟨Nat.lt_of_lt_of_le z hh.1, (hh.cell (by exact hg) (by exact z)).trans c0, (hh.cell (by exact hg) (by exact z)).trans c1, (World.frozen?_of_block (w := w) (a := ⟨g, 0, none⟩) (hh.2 g hg z)).trans f0, (World.frozen?_of_block (w := w) (a := ⟨g, 1, none⟩) (hh.2 g hg z)).trans f1⟩
theorem Bx.hg {B : Nat} {w w' : World} {g : Nat} {a b c d e : Value} (h : Bx w g a b c d e) (hh : Hg B w w') (hg : B ≤ g) : Bx w' g a b c d e := (hh.2 g hg h.lt).trans h
/-- what At answers, in one form -/
def AtR (B : Nat) (w' : World) (v : Value) (d : Nd) (p : VF) (path : List Int) (c i : Int) : Prop :=
  (c ≠ 0 ∧ valF d p = (c, i)) ∨ (∃ j : Nat, c = 12 ∧ i = (j : Int) ∧ valF d p = (0, 0) ∧ pathV d p path 0 = .inl j) ∨ (∃ d' p', c = 0 ∧ i = 0 ∧ valF d p = (0, 0) ∧ pathV d p path 0 = .inr (d', p') ∧ VInS w' (fun b => B ≤ b ∧ b < w'.heap.size) v d' p')
theorem AtR.hg {B : Nat} {w w' : World} {v : Value} {d : Nd} {p : VF} {path : List Int} {c i : Int} (h : AtR B w v d p path c i) (hb : Hg B w w') : AtR B w' v d p path c i := by
  rcases h with h | h | ⟨d', p', h1, h2, h3, h4, h5⟩
  · exact .inl h
  · exact .inr (.inl h)
  · exact .inr (.inr ⟨d', p', h1, h2, h3, h4, h5.keep (fun q hq => hb.cell hq.1 hq.2) (fun b hq => ⟨hq.1, Nat.lt_of_lt_of_le hq.2 hb.1⟩)⟩)
theorem atU_calls {d : Nd} {p : VF} {w : World} {v : Value} {A : Option Addr} {n c : Nat} {path : List Int} (hm : Mod d p) (hv : VIn w w.heap.size v d p) (hr : Rd w w.heap.size 1 A n (iv path)) (hn : n ≤ 1048576) :
    Calls Try.prog 25 #[v, .slice A n c] w fun e w' => ∃ k0 k1 Ab nb cb An nn cn Ap np cp cd ix, e = .returned (.tuple #[.agg #[.int .i64 k0, .int .i64 k1, .slice Ab nb cb, .slice An nn cn, .slice Ap np cp], .agg #[.int .i64 cd, .int .i64 ix]]) ∧ Below w.heap.size w w' ∧ AtR w.heap.size w' (.agg #[.int .i64 k0, .int .i64 k1, .slice Ab nb cb, .slice An nn cn, .slice Ap np cp]) d p path cd ix := by
  refine (at_calls2 hm hv hr hn).mono ?_
  rintro e w' ⟨hb, h | ⟨j, h1, h2, rfl⟩ | ⟨d', p', v', h1, h2, rfl, h3⟩⟩
  · obtain ⟨cd, ix, h1, h2, rfl⟩ := h
    exact ⟨_, _, _, _, _, _, _, _, _, _, _, _, _, rfl, hb, .inl ⟨h1, h2⟩⟩
  · exact ⟨_, _, _, _, _, _, _, _, _, _, _, _, _, rfl, hb, .inr (.inl ⟨j, rfl, rfl, h1, h2⟩)⟩
  · have h5 := h3
    obtain ⟨sb, sn, sp, rfl, Ab, nb, cb, An, nn, cn, Ap, cp, rfl, rfl, rfl, _⟩ := h5
    exact ⟨_, _, _, _, _, _, _, _, _, _, _, _, _, rfl, hb, .inr (.inr ⟨d', p', rfl, rfl, h1, h2, h3⟩)⟩
/-- a path in two parts: what the law asks of the faults -/
theorem compose_bad {B1 B2 : Nat} {w1 w2 : World} {v1 v2 : Value} {d : Nd} {p : VF} {a b : List Int} {c i c' i' : Int} (h : AtR B1 w1 v1 d p a c i) (h' : AtR B2 w2 v2 d p (a ++ b) c' i') (hc : c ≠ 0) : c' = c ∧ i' = i := by
  rcases h with ⟨_, h⟩ | ⟨j, rfl, rfl, h, hp⟩ | ⟨d', p', rfl, _⟩
  · rcases h' with ⟨_, h'⟩ | ⟨j, rfl, rfl, h', hp'⟩ | ⟨d', p', rfl, rfl, h', _⟩
    · rw [h] at h'; cases h'; exact ⟨rfl, rfl⟩
    · rw [h] at h'; cases h'; exact absurd rfl hc
    · rw [h] at h'; cases h'; exact absurd rfl hc
  · have hq : pathV d p (a ++ b) 0 = .inl j := by rw [path_app, hp]
    rcases h' with ⟨hc', h'⟩ | ⟨j', rfl, rfl, h', hp'⟩ | ⟨d', p', rfl, rfl, h', hp', _⟩
    · rw [h] at h'; cases h'; exact absurd rfl hc'
    · rw [hq] at hp'; cases hp'; exact ⟨rfl, rfl⟩
    · rw [hq] at hp'; cases hp'
  · exact absurd rfl hc
theorem compose_next {B2 B3 : Nat} {w1 w2 w3 : World} {v1 v2 v3 : Value} {d d1 : Nd} {p p1 : VF} {a b : List Int} {c' i' c'' i'' : Int} (h1 : valF d p = (0, 0)) (h2 : pathV d p a 0 = .inr (d1, p1)) (h' : AtR B2 w2 v2 d p (a ++ b) c' i') (h'' : AtR B3 w3 v3 d1 p1 b c'' i'') (hc : c'' ≠ 0) : c' = c'' ∧ i' = (a.length : Int) + i'' := by
  have hv1 := path_valid a d p 0 d1 p1 h1 h2
  have hq : pathV d p (a ++ b) 0 = pathV d1 p1 b (0 + a.length) := by rw [path_app, h2]
  rcases h'' with ⟨_, h⟩ | ⟨j, rfl, rfl, h, hp⟩ | ⟨d', p', rfl, _⟩
  · rw [hv1] at h; cases h; exact absurd rfl hc
  · rw [path_shift, hp] at hq
    rcases h' with ⟨hc', h'⟩ | ⟨j', rfl, rfl, h', hp'⟩ | ⟨d', p', rfl, rfl, h', hp', _⟩
    · rw [h1] at h'; cases h'; exact absurd rfl hc'
    · rw [hq] at hp'; cases hp'; exact ⟨rfl, by omega⟩
    · rw [hq] at hp'; cases hp'
  · exact absurd rfl hc
theorem compose_good {B2 B3 : Nat} {w1 w2 w3 : World} {v1 v2 v3 : Value} {d d1 : Nd} {p p1 : VF} {a b : List Int} {c' i' i'' : Int} (h1 : valF d p = (0, 0)) (h2 : pathV d p a 0 = .inr (d1, p1)) (h' : AtR B2 w2 v2 d p (a ++ b) c' i') (h'' : AtR B3 w3 v3 d1 p1 b 0 i'') : c' = 0 ∧ ∃ d' p', pathV d1 p1 b 0 = .inr (d', p') ∧ VIn w2 w2.heap.size v2 d' p' ∧ VIn w3 w3.heap.size v3 d' p' := by
  have hq : pathV d p (a ++ b) 0 = pathV d1 p1 b (0 + a.length) := by rw [path_app, h2]
  rcases h'' with ⟨h, _⟩ | ⟨j, h, _⟩ | ⟨d', p', _, rfl, h, hp, hv⟩
  · exact absurd rfl h
  · exact absurd h (by decide)
  · rw [path_shift, hp] at hq
    rcases h' with ⟨hc', h'⟩ | ⟨j', rfl, rfl, h', hp'⟩ | ⟨d2, p2, rfl, rfl, h', hp', hv'⟩
    · rw [h1] at h'; cases h'; exact absurd rfl hc'
    · rw [hq] at hp'; cases hp'
    · rw [hq] at hp'; cases hp'; exact ⟨rfl, _, _, hp, hv'.vin (fun b h => h.2), hv.vin (fun b h => h.2)⟩
theorem step_appR {P : Program} {ops : Array Oper} {o : Oper} {a : Act} {w : World} {K : Act → World → Prop} {Q : Exit → Act → World → Prop} {E : Prop} {t e : TypeId} {size bytes : Nat} (hT : SlT P t e size bytes) (hgd : o.guard = none) (s x : Operand)
    (ho : o.op = .call { callee := .builtin .append, args := #[s, x], argTypes := #[t, t] })
    (base : Nat) (A : Option Addr) (n c : Nat) (xs : List Value) (hs : a.eval s = .slice A n c) (hown : w.ownsRow base e size (.slice A n c) n xs)
    (B : Nat) (A2 : Option Addr) (m c2 : Nat) (news : List Value) (hx : a.eval x = .slice A2 m c2) (hr : Rd w B size A2 m news) (h1 : ∀ u ∈ news, u.oneCell' = true)
    (hbytes : (n + m) * bytes ≤ 140737488355328) (hbase : base ≤ w.heap.size)
    (h : ∀ A' c' w', w'.ownsRow base e size (.slice A' (n + m) c') (n + m) (xs ++ news) → w.grownBy w' (Value.slice A n c).ownBlock → Below base w w' → K (a.put o.dst (.slice A' (n + m) c')) w') :
    if Region.wanted o (yielded ops a.tmps) = true then Oper.wp P o a w K Q else E := by
  have hw : Region.wanted o (yielded ops a.tmps) = true := by unfold Region.wanted; rw [hgd]
  rw [if_pos hw]
  exact wp_appG w hT s x ho base A n c xs hs hown B A2 m c2 news hx hr h1 hbytes hbase h
theorem Hg.set {B g o : Nat} {w w' : World} {x : Value} (h : Hg B w w') (hg : g < B ∨ w.heap.size ≤ g) : Hg B w (w'.setCell ⟨g, o, none⟩ x) :=
  ⟨by simpa using h.1, fun k h1 h2 => (Below.heap_setCell _ _ _ _ (by show k ≠ g; omega)).trans (h.2 k h1 h2)⟩
theorem Hg.alloc {B : Nat} {w w' : World} (h : Hg B w w') (o : Obj) : Hg B w (w'.alloc o) := ⟨by simp; have := h.1; omega, fun k h1 h2 => (Below.heap_alloc _ _ _ (Nat.lt_of_lt_of_le h2 h.1)).trans (h.2 k h1 h2)⟩
theorem Hg.drew {B : Nat} {w w' : World} (h : Hg B w w') : Hg B w w'.drew := ⟨h.1, h.2⟩
theorem Hg.refl (B : Nat) (w : World) : Hg B w w := ⟨Nat.le_refl _, fun _ _ _ => rfl⟩
theorem Hg.mono {B B' : Nat} {w w' : World} (h : Hg B w w') (hB : B ≤ B') : Hg B' w w' := ⟨h.1, fun k h1 h2 => h.2 k (Nat.le_trans hB h1) h2⟩
theorem Bx.drew {w : World} {g : Nat} {a b c d e : Value} (h : Bx w g a b c d e) : Bx w.drew g a b c d e := h
/-- what stands behind the drawn statement -/
def CmpFin (w W5 : World) (s3 : Nat) (d : Nd) (p : VF) (path : List Int) (a b : Value) (wx : World) : Prop :=
  ∃ g h l0 l1 Ab7 nb7 cb7 An7 nn7 cn7 Ap7 np7 cp7 c7 i7 B, a = .pointer (some ⟨g, 0, none⟩) ∧ b = .pointer (some ⟨h, 0, none⟩) ∧ Below w.heap.size w wx ∧ Hg s3 W5 wx ∧ wx.cell? ⟨g, 0, none⟩ = some (.int .i64 l0) ∧ wx.cell? ⟨g, 1, none⟩ = some (.int .i64 l1) ∧ wx.cell? ⟨g, 2, none⟩ = some (.slice Ab7 nb7 cb7) ∧ wx.cell? ⟨g, 3, none⟩ = some (.slice An7 nn7 cn7) ∧ wx.cell? ⟨g, 4, none⟩ = some (.slice Ap7 np7 cp7) ∧ wx.cell? ⟨h, 0, none⟩ = some (.int .i64 c7) ∧ wx.cell? ⟨h, 1, none⟩ = some (.int .i64 i7) ∧ AtR B wx (.agg #[.int .i64 l0, .int .i64 l1, .slice Ab7 nb7 cb7, .slice An7 nn7 cn7, .slice Ap7 np7 cp7]) d p path c7 i7
section
variable {w W5 w7 : World} {s3 B g h : Nat} {d : Nd} {p : VF} {path : List Int} {l0 l1 c7 i7 : Int} {Ab7 An7 Ap7 : Option Addr} {nb7 cb7 nn7 cn7 np7 cp7 : Nat}
theorem cmp_fin {wx : World} (h1 : Below w.heap.size w wx) (h2 : Hg s3 W5 wx) (hb : Bx wx g (.int .i64 l0) (.int .i64 l1) (.slice Ab7 nb7 cb7) (.slice An7 nn7 cn7) (.slice Ap7 np7 cp7)) (hf : FC wx h c7 i7) (ha : AtR B wx (.agg #[.int .i64 l0, .int .i64 l1, .slice Ab7 nb7 cb7, .slice An7 nn7 cn7, .slice Ap7 np7 cp7]) d p path c7 i7) : CmpFin w W5 s3 d p path (.pointer (some ⟨g, 0, none⟩)) (.pointer (some ⟨h, 0, none⟩)) wx :=
  ⟨g, h, l0, l1, Ab7, nb7, cb7, An7, nn7, cn7, Ap7, np7, cp7, c7, i7, B, rfl, rfl, h1, h2, hb.cells.1, hb.cells.2.1, hb.cells.2.2.1, hb.cells.2.2.2.1, hb.cells.2.2.2.2, hf.2.1, hf.2.2.1, ha⟩
theorem cmp_t1 (h1 : Below w.heap.size w w7) (h2 : Hg s3 W5 w7) (ha : AtR B w7 (.agg #[.int .i64 l0, .int .i64 l1, .slice Ab7 nb7 cb7, .slice An7 nn7 cn7, .slice Ap7 np7 cp7]) d p path c7 i7) : CmpFin w W5 s3 d p path (.pointer (some ⟨w7.heap.size, 0, none⟩)) (.pointer (some ⟨w7.heap.size + 1, 0, none⟩)) ((w7.alloc (.cells #[.int .i64 l0, .int .i64 l1, .slice Ab7 nb7 cb7, .slice An7 nn7 cn7, .slice Ap7 np7 cp7] 26)).alloc (.cells #[.int .i64 c7, .int .i64 i7] 29)) := by
  have hf := FC.new (w7.alloc (.cells #[.int .i64 l0, .int .i64 l1, .slice Ab7 nb7 cb7, .slice An7 nn7 cn7, .slice Ap7 np7 cp7] 26)) c7 i7
  rw [alloc_size] at hf
  exact cmp_fin (bel_up2 h1 _ _) ((h2.alloc _).alloc _) ((Bx.new w7 (.int .i64 l0) (.int .i64 l1) (.slice Ab7 nb7 cb7) (.slice An7 nn7 cn7) (.slice Ap7 np7 cp7)).on (bel1 _ _)) hf (ha.hg (((Hg.refl _ _).alloc _).alloc _))
theorem cmp_t2 (h1 : Below w.heap.size w w7) (h2 : Hg s3 W5 w7) (ha : AtR B w7 (.agg #[.int .i64 l0, .int .i64 l1, .slice Ab7 nb7 cb7, .slice An7 nn7 cn7, .slice Ap7 np7 cp7]) d p path c7 i7) : CmpFin w W5 s3 d p path (.pointer (some ⟨w7.heap.size + 1, 0, none⟩)) (.pointer (some ⟨w7.heap.size, 0, none⟩)) ((w7.alloc (.cells #[.int .i64 c7, .int .i64 i7] 29)).alloc (.cells #[.int .i64 l0, .int .i64 l1, .slice Ab7 nb7 cb7, .slice An7 nn7 cn7, .slice Ap7 np7 cp7] 26)) := by
  have hb := Bx.new (w7.alloc (.cells #[.int .i64 c7, .int .i64 i7] 29)) (.int .i64 l0) (.int .i64 l1) (.slice Ab7 nb7 cb7) (.slice An7 nn7 cn7) (.slice Ap7 np7 cp7)
  rw [alloc_size] at hb
  exact cmp_fin (bel_up2 h1 _ _) ((h2.alloc _).alloc _) hb ((FC.new w7 c7 i7).on (bel1 _ _)) (ha.hg (((Hg.refl _ _).alloc _).alloc _))
theorem cmp_t3 (h1 : Below w.heap.size w w7) (h2 : Hg s3 W5 w7) (ha : AtR B w7 (.agg #[.int .i64 l0, .int .i64 l1, .slice Ab7 nb7 cb7, .slice An7 nn7 cn7, .slice Ap7 np7 cp7]) d p path c7 i7) (hg : Bx w7 g (.int .i64 0) (.int .i64 0) (.slice none 0 0) (.slice none 0 0) (.slice none 0 0)) (hw : w.heap.size ≤ W5.heap.size) (h5 : W5.heap.size ≤ g) (hB : g < B) : CmpFin w W5 s3 d p path (.pointer (some ⟨g, 0, none⟩)) (.pointer (some ⟨w7.heap.size, 0, none⟩)) ((((((w7.setCell ⟨g, 0, none⟩ (.int .i64 l0)).setCell ⟨g, 1, none⟩ (.int .i64 l1)).setCell ⟨g, 2, none⟩ (.slice Ab7 nb7 cb7)).setCell ⟨g, 3, none⟩ (.slice An7 nn7 cn7)).setCell ⟨g, 4, none⟩ (.slice Ap7 np7 cp7)).alloc (.cells #[.int .i64 c7, .int .i64 i7] 29)) := by
  have hf := FC.new (((((w7.setCell ⟨g, 0, none⟩ (.int .i64 l0)).setCell ⟨g, 1, none⟩ (.int .i64 l1)).setCell ⟨g, 2, none⟩ (.slice Ab7 nb7 cb7)).setCell ⟨g, 3, none⟩ (.slice An7 nn7 cn7)).setCell ⟨g, 4, none⟩ (.slice Ap7 np7 cp7)) c7 i7
  have hz : (((((w7.setCell ⟨g, 0, none⟩ (.int .i64 l0)).setCell ⟨g, 1, none⟩ (.int .i64 l1)).setCell ⟨g, 2, none⟩ (.slice Ab7 nb7 cb7)).setCell ⟨g, 3, none⟩ (.slice An7 nn7 cn7)).setCell ⟨g, 4, none⟩ (.slice Ap7 np7 cp7)).heap.size = w7.heap.size := by simp
  rw [hz] at hf
  exact cmp_fin (bel_up (below5 h1 (by omega) _ _ _ _ _) _) ((((((h2.set (.inr h5)).set (.inr h5)).set (.inr h5)).set (.inr h5)).set (.inr h5)).alloc _) ((hg.set5 _ _ _ _ _).on (bel1 _ _)) hf (ha.hg (((((((Hg.refl _ _).set (.inl hB)).set (.inl hB)).set (.inl hB)).set (.inl hB)).set (.inl hB)).alloc _))
theorem cmp_t4 (h1 : Below w.heap.size w w7) (h2 : Hg s3 W5 w7) (ha : AtR B w7 (.agg #[.int .i64 l0, .int .i64 l1, .slice Ab7 nb7 cb7, .slice An7 nn7 cn7, .slice Ap7 np7 cp7]) d p path c7 i7) (hh : FC w7 h 0 0) (hw : w.heap.size ≤ W5.heap.size) (h5 : W5.heap.size ≤ h) (hB : h < B) : CmpFin w W5 s3 d p path (.pointer (some ⟨w7.heap.size, 0, none⟩)) (.pointer (some ⟨h, 0, none⟩)) (((w7.setCell ⟨h, 0, none⟩ (.int .i64 c7)).setCell ⟨h, 1, none⟩ (.int .i64 i7)).alloc (.cells #[.int .i64 l0, .int .i64 l1, .slice Ab7 nb7 cb7, .slice An7 nn7 cn7, .slice Ap7 np7 cp7] 26)) := by
  have hb := Bx.new ((w7.setCell ⟨h, 0, none⟩ (.int .i64 c7)).setCell ⟨h, 1, none⟩ (.int .i64 i7)) (.int .i64 l0) (.int .i64 l1) (.slice Ab7 nb7 cb7) (.slice An7 nn7 cn7) (.slice Ap7 np7 cp7)
  have hz : ((w7.setCell ⟨h, 0, none⟩ (.int .i64 c7)).setCell ⟨h, 1, none⟩ (.int .i64 i7)).heap.size = w7.heap.size := by simp
  rw [hz] at hb
  exact cmp_fin (bel_up (below_put h1 (by omega) _ _) _) (((h2.set (.inr h5)).set (.inr h5)).alloc _) hb ((hh.put c7 i7).on (bel1 _ _)) (ha.hg ((((Hg.refl _ _).set (.inl hB)).set (.inl hB)).alloc _))
theorem cmp_t5 (h1 : Below w.heap.size w w7) (h2 : Hg s3 W5 w7) (ha : AtR B w7 (.agg #[.int .i64 l0, .int .i64 l1, .slice Ab7 nb7 cb7, .slice An7 nn7 cn7, .slice Ap7 np7 cp7]) d p path c7 i7) (hg : Bx w7 g (.int .i64 0) (.int .i64 0) (.slice none 0 0) (.slice none 0 0) (.slice none 0 0)) (hh : FC w7 h 0 0) (hw : w.heap.size ≤ W5.heap.size) (h5 : W5.heap.size ≤ g) (h6 : W5.heap.size ≤ h) (hB : g < B) (hB' : h < B) (hne : g ≠ h) : CmpFin w W5 s3 d p path (.pointer (some ⟨g, 0, none⟩)) (.pointer (some ⟨h, 0, none⟩)) (((((((w7.setCell ⟨g, 0, none⟩ (.int .i64 l0)).setCell ⟨g, 1, none⟩ (.int .i64 l1)).setCell ⟨g, 2, none⟩ (.slice Ab7 nb7 cb7)).setCell ⟨g, 3, none⟩ (.slice An7 nn7 cn7)).setCell ⟨g, 4, none⟩ (.slice Ap7 np7 cp7)).setCell ⟨h, 0, none⟩ (.int .i64 c7)).setCell ⟨h, 1, none⟩ (.int .i64 i7)) :=
  cmp_fin (below_put (below5 h1 (by omega) _ _ _ _ _) (by omega) _ _) (((((((h2.set (.inr h5)).set (.inr h5)).set (.inr h5)).set (.inr h5)).set (.inr h5)).set (.inr h6)).set (.inr h6)) (((hg.set5 _ _ _ _ _).far hne).far hne) ((FC.far5 hh hne).put c7 i7) (ha.hg ((((((((Hg.refl _ _).set (.inl hB)).set (.inl hB)).set (.inl hB)).set (.inl hB)).set (.inl hB)).set (.inl hB')).set (.inl hB')))
end
theorem bx_new2 (w : World) (o : Obj) (a b c d e : Value) : Bx ((w.alloc o).alloc (.cells #[a, b, c, d, e] 26)) (w.heap.size + 1) a b c d e := by
  have h := Bx.new (w.alloc o) a b c d e
  rw [alloc_size] at h
  exact h
theorem fc_new2 (w : World) (o : Obj) (a b : Int) : FC ((w.alloc o).alloc (.cells #[.int .i64 a, .int .i64 b] 29)) (w.heap.size + 1) a b := by
  have h := FC.new (w.alloc o) a b
  rw [alloc_size] at h
  exact h
theorem cell_on {w w' : World} {q : Addr} {v : Value} (h : w.cell? q = some v) (hb : Below w.heap.size w w') : w'.cell? q = some v := Abv.cell h ⟨w', hb⟩
theorem path_le : ∀ (path : List Int) (d : Nd) (p : VF) (i j : Nat), pathV d p path i = .inl j → j < i + path.length := by
  intro path
  induction path with
  | nil => intro d p i j h; rw [pathV_nil] at h; cases h
  | cons k r ih =>
    intro d p i j h
    rcases pathV_cases d p k r i with ⟨h1, _⟩ | ⟨m, d', p', q, _, _, _, h1⟩
    · rw [h1] at h; cases h; simp
    · rw [h1] at h; have := ih _ _ _ _ h; simp; omega
set_option maxRecDepth 100000 in
set_option maxHeartbeats 16000000 in
theorem lawCompose_calls {w : World} {v : Value} {d : Nd} {p : VF} {A1 A2 : Option Addr} {n1 c1 n2 c2 : Nat} {q1 q2 : List Int} (hv : VIn w w.heap.size v d p) (hm : Mod d p) (hr1 : Rd w w.heap.size 1 A1 n1 (iv q1)) (hr2 : Rd w w.heap.size 1 A2 n2 (iv q2)) (hn : n1 + n2 ≤ 1048576) :
    Calls Try.prog 8 #[v, .slice A1 n1 c1, .slice A2 n2 c2] w fun e w' => e = .returned (.bool true) ∧ Below w.heap.size w w' := by
  have HV := Lib.hid hv
  have HM := Lib.hid hm
  have HR1 := Lib.hid hr1
  have HR2 := Lib.hid hr2
  have HL1 := Lib.hid (show q1.length = n1 by have := hr1.len; rw [iv_len] at this; exact this)
  obtain ⟨sb, sn, sp, rfl, hd0⟩ := hv
  obtain ⟨Ab, nb, cb, An, nn, cn, Ap, cp, rfl, rfl, rfl, _⟩ := hd0
  clear hm hr1 hr2
  go_enter Try.func8, Try.ntmps8
  go_wp2_with fail
  refine (example_calls _).mono ?_
  rintro e w2 ⟨rfl, hb2⟩
  have HX2 := Lib.hid ((Bx.new w (.int .i64 d.k) (.int .i64 d.n) (.slice Ab nb cb) (.slice An nn cn) (.slice Ap p.len cp)).on hb2)
  have HB2 := Lib.hid (belA hb2)
  clear hb2
  go_wp2_with (at_builtin; refine wpList_app _ slI rfl (.tmp 16) (.tmp 17) rfl w2.heap.size none 0 0 [] rfl (World.ownsRow_nil _ _ _ _) w2.heap.size A1 n1 c1 (iv q1) rfl (HR1.out.on HB2.out) (iv_one _) (by omega) (Nat.le_refl _) ?_; intro A3 c3 w3 hown3 hb3; rw [List.nil_append, Nat.zero_add] at hown3; have HO3 := Lib.hid hown3; have HB3 := Lib.hid (chain HB2.out hb3); have HX3 := Lib.hid (HX2.out.on hb3); obtain ⟨r0, r1, r2, r3, r4⟩ := HX3.out.cells; have HO3Z := Lib.hid (show w2.heap.size ≤ w3.heap.size from hb3.size); clear hown3 hb3)
  refine (atU_calls HM.out (HV.out.on HB3.out) (HR1.out.on HB3.out) (by omega)).mono ?_
  rintro e w4 ⟨k0, k1, Ab4, nb4, cb4, An4, nn4, cn4, Ap4, np4, cp4, c4, i4, rfl, hb4, hat4⟩
  have hww : Below w4.heap.size w4 ((w4.alloc (.cells #[.int .i64 k0, .int .i64 k1, .slice Ab4 nb4 cb4, .slice An4 nn4 cn4, .slice Ap4 np4 cp4] 26)).alloc (.cells #[.int .i64 c4, .int .i64 i4] 29)) := bel2 _ _ _
  have HAT4 := Lib.hid (hat4.hg (Hg.of hww))
  have HB4 := Lib.hid (chain (chain HB3.out hb4) hww)
  have HO4 := Lib.hid (own_below (own_below HO3.out hb4 (Nat.le_refl _)) hww (Nat.le_refl _))
  have HX4 := Lib.hid ((HX3.out.on hb4).on hww)
  have HY4 := Lib.hid ((Bx.new w4 (.int .i64 k0) (.int .i64 k1) (.slice Ab4 nb4 cb4) (.slice An4 nn4 cn4) (.slice Ap4 np4 cp4)).on (bel1 _ (.cells #[.int .i64 c4, .int .i64 i4] 29)))
  have hf4 := FC.new (w4.alloc (.cells #[.int .i64 k0, .int .i64 k1, .slice Ab4 nb4 cb4, .slice An4 nn4 cn4, .slice Ap4 np4 cp4] 26)) c4 i4
  rw [alloc_size] at hf4
  have HF4 := Lib.hid hf4
  have HZ2 := Lib.hid (show w2.heap.size ≤ w3.heap.size ∧ w3.heap.size ≤ w4.heap.size ∧ w.heap.size < w2.heap.size from ⟨HO3Z.out, hb4.size, HX2.out.lt⟩)
  clear hww hat4 hb4 hf4 r0 r1 r2 r3 r4
  go_upto_region 6 with (fail)
  obtain ⟨W5, hW5⟩ : ∃ W5, (w4.alloc (.cells #[.int .i64 k0, .int .i64 k1, .slice Ab4 nb4 cb4, .slice An4 nn4 cn4, .slice Ap4 np4 cp4] 26)).alloc (.cells #[.int .i64 c4, .int .i64 i4] 29) = W5 := ⟨_, rfl⟩
  have hz5l : w4.heap.size + 1 < W5.heap.size := by rw [← hW5]; simp
  have hz5g : W5.heap.size ≤ w4.heap.size + 1 + 1 := by rw [← hW5]; simp
  rw [hW5] at HAT4 HB4 HO4 HX4 HY4 HF4 ⊢
  clear hW5
  obtain ⟨r0, r1, r2, r3, r4⟩ := HX4.out.cells
  have HR5 := Lib.hid (HR2.out.on HB4.out)
  have r0' := fun ob => cell_up (o := ob) r0
  have r1' := fun ob => cell_up (o := ob) r1
  have r2' := fun ob => cell_up (o := ob) r2
  have r3' := fun ob => cell_up (o := ob) r3
  have r4' := fun ob => cell_up (o := ob) r4
  have r0'' := fun ob ob' => cell_up (o := ob') (r0' ob)
  have r1'' := fun ob ob' => cell_up (o := ob') (r1' ob)
  have r2'' := fun ob ob' => cell_up (o := ob') (r2' ob)
  have r3'' := fun ob ob' => cell_up (o := ob') (r3' ob)
  have r4'' := fun ob ob' => cell_up (o := ob') (r4' ob)
  have hq2 : w2.heap.size ≤ w3.heap.size := HZ2.out.1
  have hq3 : w3.heap.size ≤ w4.heap.size := HZ2.out.2.1
  have hq1 : w.heap.size < w2.heap.size := HZ2.out.2.2
  have hq5 : w3.heap.size ≤ W5.heap.size := by omega
  have hq6 : w3.heap.size ≤ W5.heap.size + 1 := by omega
  have HROW : Hid (∀ k, (Value.slice A3 n1 c3).ownBlock = some k → k < w3.heap.size) := Lib.hid fun k hk => (HO3.out.lt k hk).2
  have HBWa := Lib.hid (bel1 W5 (.cells #[.int .i64 0, .int .i64 0, .slice none 0 0, .slice none 0 0, .slice none 0 0] 26))
  have HOWa := Lib.hid (own_below HO4.out HBWa.out (Nat.le_refl _))
  have HRWa := Lib.hid (HR5.out.below HBWa.out)
  have HBWb := Lib.hid (bel1 W5 (.cells #[.int .i64 0, .int .i64 0] 29))
  have HOWb := Lib.hid (own_below HO4.out HBWb.out (Nat.le_refl _))
  have HRWb := Lib.hid (HR5.out.below HBWb.out)
  have HBWc := Lib.hid (bel2 W5 (.cells #[.int .i64 0, .int .i64 0, .slice none 0 0, .slice none 0 0, .slice none 0 0] 26) (.cells #[.int .i64 0, .int .i64 0] 29))
  have HOWc := Lib.hid (own_below HO4.out HBWc.out (Nat.le_refl _))
  have HRWc := Lib.hid (HR5.out.below HBWc.out)
  have HBWd := Lib.hid (bel2 W5 (.cells #[.int .i64 0, .int .i64 0] 29) (.cells #[.int .i64 0, .int .i64 0, .slice none 0 0, .slice none 0 0, .slice none 0 0] 26))
  have HOWd := Lib.hid (own_below HO4.out HBWd.out (Nat.le_refl _))
  have HRWd := Lib.hid (HR5.out.below HBWd.out)
  have BXa := Lib.hid (Bx.new W5 (.int .i64 0) (.int .i64 0) (.slice none 0 0) (.slice none 0 0) (.slice none 0 0))
  have BXc := Lib.hid (BXa.out.on (bel1 _ (.cells #[.int .i64 0, .int .i64 0] 29)))
  have hbxd := Bx.new (W5.alloc (.cells #[.int .i64 0, .int .i64 0] 29)) (.int .i64 0) (.int .i64 0) (.slice none 0 0) (.slice none 0 0) (.slice none 0 0)
  rw [alloc_size] at hbxd
  have BXd := Lib.hid hbxd
  have FCb := Lib.hid (FC.new W5 0 0)
  have FCd := Lib.hid (FCb.out.on (bel1 _ (.cells #[.int .i64 0, .int .i64 0, .slice none 0 0, .slice none 0 0, .slice none 0 0] 26)))
  have hfcc := FC.new (W5.alloc (.cells #[.int .i64 0, .int .i64 0, .slice none 0 0, .slice none 0 0, .slice none 0 0] 26)) 0 0
  rw [alloc_size] at hfcc
  have FCc := Lib.hid hfcc
  clear hbxd hfcc
  go_cut [10, 11] (fun a b wx => CmpFin w W5 w3.heap.size d p (q1 ++ q2) a b wx)
  case first =>
    go_region_law (first
      | (refine step_appR slI rfl (.tmp 27) (.tmp 28) rfl w2.heap.size A3 n1 c3 (iv q1) (by simp [Act.eval, Act.put]) (by first | exact HO4.out | exact HOWa.out | exact HOWb.out | exact HOWc.out | exact HOWd.out) W5.heap.size A2 n2 c2 (iv q2) (by simp [Act.eval, Act.put]) (by first | exact HR5.out | exact HRWa.out | exact HRWb.out | exact HRWc.out | exact HRWd.out) (iv_one _) (by omega) (by (try simp only [alloc_size, World.size_drew]); omega) ?_
         intro A6 c6 w6 hown6 hg6 hb6
         have HB56 : Hid (Below w2.heap.size W5 w6) := Lib.hid (by first | exact undrew hb6 | exact (HBWa.out.mono (by omega)).trans (undrew hb6) | exact (HBWb.out.mono (by omega)).trans (undrew hb6) | exact (HBWc.out.mono (by omega)).trans (undrew hb6) | exact (HBWd.out.mono (by omega)).trans (undrew hb6))
         have HR6 := Lib.hid (show Rd w6 w6.heap.size 1 A6 (n1 + n2) (iv (q1 ++ q2)) from iv_app q1 q2 ▸ Rd.of_own hown6)
         have HB6 := Lib.hid (HB4.out.trans (HB56.out.mono (by omega)))
         have HV6 := Lib.hid (HV.out.on HB6.out)
         have hz6 := hg6.size
         try simp only [alloc_size, World.size_drew] at hz6
         have hk6 := fun (k : Nat) (h1 : w3.heap.size ≤ k) h2 => hg6.block k h2 (fun e => by have := HROW.out k e.symm; omega)
         have HK6 := Lib.hid hk6
         have HG6 : Hid (Hg w3.heap.size W5 w6) := Lib.hid ⟨by omega, fun k h1 h2 => by first | exact hk6 k h1 h2 | exact (hk6 k h1 (by simp only [alloc_size, World.size_drew]; omega)).trans (HBWa.out.block k h2) | exact (hk6 k h1 (by simp only [alloc_size, World.size_drew]; omega)).trans (HBWb.out.block k h2) | exact (hk6 k h1 (by simp only [alloc_size, World.size_drew]; omega)).trans (HBWc.out.block k h2) | exact (hk6 k h1 (by simp only [alloc_size, World.size_drew]; omega)).trans (HBWd.out.block k h2)⟩
         have hc6 := fun (q : Addr) (h1 : w3.heap.size ≤ q.block) h2 => World.cell?_of_block (hk6 q.block h1 h2)
         have hf6 := fun (q : Addr) (h1 : w3.heap.size ≤ q.block) h2 => World.frozen?_of_block (a := q) (hk6 q.block h1 h2)
         have s0 := (HB56.out.cell (p := ⟨w.heap.size, 0, none⟩) hq1).trans r0
         have s1 := (HB56.out.cell (p := ⟨w.heap.size, 1, none⟩) hq1).trans r1
         have s2 := (HB56.out.cell (p := ⟨w.heap.size, 2, none⟩) hq1).trans r2
         have s3 := (HB56.out.cell (p := ⟨w.heap.size, 3, none⟩) hq1).trans r3
         have s4 := (HB56.out.cell (p := ⟨w.heap.size, 4, none⟩) hq1).trans r4
         have s0' := fun ob => cell_up (o := ob) s0
         have s1' := fun ob => cell_up (o := ob) s1
         have s2' := fun ob => cell_up (o := ob) s2
         have s3' := fun ob => cell_up (o := ob) s3
         have s4' := fun ob => cell_up (o := ob) s4
         have s0'' := fun ob ob' => cell_up (o := ob') (s0' ob)
         have s1'' := fun ob ob' => cell_up (o := ob') (s1' ob)
         have s2'' := fun ob ob' => cell_up (o := ob') (s2' ob)
         have s3'' := fun ob ob' => cell_up (o := ob') (s3' ob)
         have s4'' := fun ob ob' => cell_up (o := ob') (s4' ob)
         clear hown6 hg6 hb6 hk6)
      | (go_simp
         go_at_call 25
         refine (atU_calls (path := q1 ++ q2) HM.out (by first | exact HV6.out | exact HV6.out.on (bel1 _ _) | exact HV6.out.on (bel2 _ _ _)) (by first | exact HR6.out | exact HR6.out.on (bel1 _ _) | exact HR6.out.on (bel2 _ _ _)) (by omega)).mono ?_
         rintro e w7 ⟨l0, l1, Ab7, nb7, cb7, An7, nn7, cn7, Ap7, np7, cp7, c7, i7, rfl, hb7, hat7⟩
         have HB67 : Hid (Below w6.heap.size w6 w7) := Lib.hid (by first | exact hb7 | exact chain (bel1 _ _) hb7 | exact chain (bel2 _ _ _) hb7)
         have HB7 := Lib.hid hb7
         have HAT7 := Lib.hid hat7
         have hz7 := hb7.size
         try simp only [alloc_size] at hz7
         have hc7 := fun (q : Addr) h2 => hb7.cell (p := q) h2
         have hf7 := fun (q : Addr) h2 => World.frozen?_of_block (a := q) (hb7.block q.block h2)
         have ha7 := fun (q : Addr) (o : Obj) (h2 : q.block < w7.heap.size) => World.cell?_of_block (Below.heap_alloc w7 o q.block h2)
         have hb7f := fun (q : Addr) (o : Obj) (h2 : q.block < w7.heap.size) => World.frozen?_of_block (a := q) (Below.heap_alloc w7 o q.block h2)
         try have hm1 : w6.heap.size < w7.heap.size := by omega
         try have hm2 : w6.heap.size + 1 < w7.heap.size := by omega
         try have hm3 : W5.heap.size < w7.heap.size := by omega
         try have hm4 : W5.heap.size + 1 < w7.heap.size := by omega
         try have hm5 : W5.heap.size < w6.heap.size := by omega
         try have hm6 : W5.heap.size + 1 < w6.heap.size := by omega
         have HBW7 := Lib.hid (HB6.out.trans (HB67.out.mono HB6.out.size))
         have HGW7 := Lib.hid (HG6.out.trans (Hg.of HB67.out))
         clear hb7 hat7))
    all_goals clear r0 r1 r2 r3 r4 r0' r1' r2' r3' r4' r0'' r1'' r2'' r3'' r4'' s0 s1 s2 s3 s4 s0' s1' s2' s3' s4' s0'' s1'' s2'' s3'' s4'' hc7 hf7 ha7 hb7f hc6 hf6
    all_goals go_wp2_with fail
    all_goals go_meet
    all_goals first
      | with_reducible exact cmp_t1 HBW7.out HGW7.out HAT7.out
      | with_reducible exact cmp_t2 HBW7.out HGW7.out HAT7.out
      | (with_reducible refine cmp_t3 HBW7.out HGW7.out HAT7.out ?_ ?_ ?_ ?_
         · exact (by first | with_reducible exact (Bx.new w6 _ _ _ _ _).on HB7.out | with_reducible exact ((Bx.new w6 _ _ _ _ _).on (bel1 _ _)).on HB7.out | with_reducible exact (bx_new2 w6 _ _ _ _ _ _).on HB7.out | exact Bx.on ((HK6.out _ hq5 (by simp only [alloc_size, World.size_drew]; omega)).trans BXa.out) HB67.out | exact Bx.on ((HK6.out _ hq5 (by simp only [alloc_size, World.size_drew]; omega)).trans BXc.out) HB67.out | exact Bx.on ((HK6.out _ hq6 (by simp only [alloc_size, World.size_drew]; omega)).trans BXd.out) HB67.out)
         · exact (by (try simp only [alloc_size, World.size_drew]); omega)
         · exact (by (try simp only [alloc_size, World.size_drew]); omega)
         · exact (by (try simp only [alloc_size, World.size_drew]); omega))
      | (with_reducible refine cmp_t4 HBW7.out HGW7.out HAT7.out ?_ ?_ ?_ ?_
         · exact (by first | with_reducible exact (FC.new w6 _ _).on HB7.out | with_reducible exact ((FC.new w6 _ _).on (bel1 _ _)).on HB7.out | with_reducible exact (fc_new2 w6 _ _ _).on HB7.out | exact FC.on (FC.heap FCb.out (HK6.out _ hq5 (by simp only [alloc_size, World.size_drew]; omega))) HB67.out | exact FC.on (FC.heap FCd.out (HK6.out _ hq5 (by simp only [alloc_size, World.size_drew]; omega))) HB67.out | exact FC.on (FC.heap FCc.out (HK6.out _ hq6 (by simp only [alloc_size, World.size_drew]; omega))) HB67.out)
         · exact (by (try simp only [alloc_size, World.size_drew]); omega)
         · exact (by (try simp only [alloc_size, World.size_drew]); omega)
         · exact (by (try simp only [alloc_size, World.size_drew]); omega))
      | (with_reducible refine cmp_t5 HBW7.out HGW7.out HAT7.out ?_ ?_ ?_ ?_ ?_ ?_ ?_ ?_
         · exact (by first | with_reducible exact (Bx.new w6 _ _ _ _ _).on HB7.out | with_reducible exact ((Bx.new w6 _ _ _ _ _).on (bel1 _ _)).on HB7.out | with_reducible exact (bx_new2 w6 _ _ _ _ _ _).on HB7.out | exact Bx.on ((HK6.out _ hq5 (by simp only [alloc_size, World.size_drew]; omega)).trans BXa.out) HB67.out | exact Bx.on ((HK6.out _ hq5 (by simp only [alloc_size, World.size_drew]; omega)).trans BXc.out) HB67.out | exact Bx.on ((HK6.out _ hq6 (by simp only [alloc_size, World.size_drew]; omega)).trans BXd.out) HB67.out)
         · exact (by first | with_reducible exact (FC.new w6 _ _).on HB7.out | with_reducible exact ((FC.new w6 _ _).on (bel1 _ _)).on HB7.out | with_reducible exact (fc_new2 w6 _ _ _).on HB7.out | exact FC.on (FC.heap FCb.out (HK6.out _ hq5 (by simp only [alloc_size, World.size_drew]; omega))) HB67.out | exact FC.on (FC.heap FCd.out (HK6.out _ hq5 (by simp only [alloc_size, World.size_drew]; omega))) HB67.out | exact FC.on (FC.heap FCc.out (HK6.out _ hq6 (by simp only [alloc_size, World.size_drew]; omega))) HB67.out)
         · exact (by (try simp only [alloc_size, World.size_drew]); omega)
         · exact (by (try simp only [alloc_size, World.size_drew]); omega)
         · exact (by (try simp only [alloc_size, World.size_drew]); omega)
         · exact (by (try simp only [alloc_size, World.size_drew]); omega)
         · exact (by (try simp only [alloc_size, World.size_drew]); omega)
         · exact (by (try simp only [alloc_size, World.size_drew]); omega))
  case rest =>
    obtain ⟨g, h, l0, l1, Ab7, nb7, cb7, An7, nn7, cn7, Ap7, np7, cp7, c7, i7, B7, rfl, rfl, hbl, hhg, y0, y1, y2, y3, y4, b0, b1, hat7⟩ := hcut
    have HBL := Lib.hid hbl
    have HY0 := Lib.hid y0
    have HY1 := Lib.hid y1
    have HY2 := Lib.hid y2
    have HY3 := Lib.hid y3
    have HY4c := Lib.hid y4
    have HH0 := Lib.hid b0
    have HH1 := Lib.hid b1
    have HAT7 := Lib.hid hat7
    have HF9 := Lib.hid (HF4.out.hg hhg (by omega))
    have HX8 := Lib.hid (HY4.out.hg hhg (by omega))
    have HAT8 := Lib.hid (HAT4.out.hg hhg)
    obtain ⟨_, a0, a1, _, _⟩ := HF9.out
    obtain ⟨x0, x1, x2, x3, x4⟩ := HX8.out.cells
    clear hbl hhg y0 y1 y2 y3 y4 hat7 r0 r1 r2 r3 r4 r0' r1' r2' r3' r4' r0'' r1'' r2'' r3'' r4''
    by_cases hc4 : c4 = 0
    · subst hc4
      rcases HAT8.out with ⟨h0, _⟩ | ⟨j, h0, _⟩ | ⟨d1, p1, _, hi4, hvf, hpt, hv1⟩
      · exact absurd rfl h0
      · exact absurd h0 (by decide)
      · have HVF := Lib.hid hvf
        have HPT := Lib.hid hpt
        have HM1 := Lib.hid (path_mod HM.out hvf hpt)
        have HV1 := Lib.hid (show VIn wc wc.heap.size _ d1 p1 from hv1.vin (fun b h => h.2))
        clear hvf hpt hv1 hi4
        go_wp2_with fail
        refine (atU_calls (path := q2) HM1.out HV1.out (HR2.out.on HBL.out) (by omega)).mono ?_
        rintro e w8 ⟨m0, m1, Ab8, nb8, cb8, An8, nn8, cn8, Ap8, np8, cp8, c8, i8, rfl, hb8, hat8⟩
        have hww : Below w8.heap.size w8 ((w8.alloc (.cells #[.int .i64 m0, .int .i64 m1, .slice Ab8 nb8 cb8, .slice An8 nn8 cn8, .slice Ap8 np8 cp8] 26)).alloc (.cells #[.int .i64 c8, .int .i64 i8] 29)) := bel2 _ _ _
        have HAT9 := Lib.hid (hat8.hg (Hg.of hww))
        have HB9 := Lib.hid (chain (chain HBL.out hb8) hww)
        have HUP := Lib.hid (chain hb8 hww)
        have HAT79 := Lib.hid (HAT7.out.hg (Hg.of (chain hb8 hww)))
        have HZ9 := Lib.hid ((Bx.new w8 (.int .i64 m0) (.int .i64 m1) (.slice Ab8 nb8 cb8) (.slice An8 nn8 cn8) (.slice Ap8 np8 cp8)).on (bel1 _ (.cells #[.int .i64 c8, .int .i64 i8] 29)))
        have hf9 := FC.new (w8.alloc (.cells #[.int .i64 m0, .int .i64 m1, .slice Ab8 nb8 cb8, .slice An8 nn8 cn8, .slice Ap8 np8 cp8] 26)) c8 i8
        rw [alloc_size] at hf9
        have HG9 := Lib.hid hf9
        clear hww hat8 hb8 hf9 a0 a1 b0 b1 x0 x1 x2 x3 x4
        go_upto_region 10 with (fail)
        obtain ⟨W9, hW9⟩ : ∃ W9, (w8.alloc (.cells #[.int .i64 m0, .int .i64 m1, .slice Ab8 nb8 cb8, .slice An8 nn8 cn8, .slice Ap8 np8 cp8] 26)).alloc (.cells #[.int .i64 c8, .int .i64 i8] 29) = W9 := ⟨_, rfl⟩
        rw [hW9] at HAT9 HB9 HUP HAT79 HZ9 HG9 ⊢
        clear hW9
        obtain ⟨_, a0, a1, _, _⟩ := HG9.out
        have b0 := cell_on HH0.out HUP.out
        have b1 := cell_on HH1.out HUP.out
        obtain ⟨x0, x1, x2, x3, x4⟩ := HZ9.out.cells
        have y0 := cell_on HY0.out HUP.out
        have y1 := cell_on HY1.out HUP.out
        have y2 := cell_on HY2.out HUP.out
        have y3 := cell_on HY3.out HUP.out
        have y4 := cell_on HY4c.out HUP.out
        by_cases hc8 : c8 = 0
        · subst hc8
          obtain ⟨hc7, d', p', hp', hvy, hvz⟩ := compose_good (w1 := W9) (v1 := .bool true) HVF.out HPT.out HAT79.out HAT9.out
          subst hc7
          have HVY := Lib.hid hvy
          have HVZ := Lib.hid hvz
          have HM2 := Lib.hid (path_mod HM1.out (path_valid _ _ _ _ _ _ HVF.out HPT.out) hp')
          clear hvy hvz hp'
          go_wp2_with (go_at_call 21; refine (same_calls HM2.out.pl HM2.out.fp HM2.out.nd.2.2.1 HM2.out.pl HM2.out.fp HVY.out HVZ.out).mono ?_; rintro e w10 ⟨rfl, hb10⟩; rw [(sameV_iff d' p' d' p').2 ⟨rfl, rfl⟩]; have HB10 := Lib.hid (chain HB9.out hb10); clear hb10)
          go_ret
          exact ⟨rfl, HB10.out⟩
        · obtain ⟨hc7, hi7⟩ := compose_next (w1 := W9) (v1 := .bool true) HVF.out HPT.out HAT79.out HAT9.out hc8
          have hc8' : (c8 != 0) = true := by simpa using hc8
          rw [HL1.out] at hi7
          have hib : 0 ≤ i8 ∧ i8 ≤ 1048576 := by
            rcases HAT9.out with ⟨_, h1⟩ | ⟨j, _, rfl, _, hpj⟩ | ⟨_, _, h1, _⟩
            · rw [path_valid _ _ _ _ _ _ HVF.out HPT.out] at h1; cases h1; exact absurd rfl hc8
            · have := path_le _ _ _ _ _ hpj
              have hl2 : q2.length = n2 := by have := HR2.out.len; rw [iv_len] at this; exact this
              omega
            · exact absurd h1 hc8
          have hwrp : IntKind.i64.wrap ((n1 : Int) + i8) = (n1 : Int) + i8 := IntWalk.i64_in _ (by omega)
          have heq := flt_eql c8 ((n1 : Int) + i8) c8 ((n1 : Int) + i8)
          subst hc7 hi7
          have b0' := fun y : Abv W9 => Abv.cell b0 y
          have b1' := fun y : Abv W9 => Abv.cell b1 y
          have a0' := fun y : Abv W9 => Abv.cell a0 y
          have a1' := fun y : Abv W9 => Abv.cell a1 y
          clear hc8 hib
          go_upto_region 11 with (fail)
          refine region_above (by kernel_rfl) (by kernel_rfl) ?_
          repeat (quiet_step ((go_at_call 20; exact at_above _ _ _)))
          refine wpQuiet_nil ?_
          intro W10 hw10
          obtain ⟨y, rfl⟩ := hw10
          go_wp2_with fail
          go_ret
          exact ⟨by simp, chain HB9.out y.b⟩
    · obtain ⟨hc7, hi7⟩ := compose_bad HAT8.out HAT7.out hc4
      have hc4' : (c4 != 0) = true := by simpa using hc4
      have heq := flt_eql c4 i4 c4 i4
      subst hc7 hi7
      clear hc4
      go_wp2_with fail
      go_ret
      exact ⟨by simp, HBL.out⟩
end Go.Proofs.Ytolognhjdmkohaa
