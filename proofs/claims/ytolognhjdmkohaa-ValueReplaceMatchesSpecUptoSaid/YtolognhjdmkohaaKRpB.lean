/-
  What value.clone makes, in memory: the rows lie apart from one another.
-/
import Derived.Test.YtolognhjdmkohaaKRpA
namespace Go.Proofs.Ytolognhjdmkohaa
open Go.RowKit
set_option linter.unusedVariables false
set_option linter.unusedSimpArgs false

theorem FInT.wide {w : World} {F : VF} {lo hi lo' hi' b o : Nat} (h : FInT w F lo hi b o) (h1 : lo' ≤ lo) (h2 : hi ≤ hi') : FInT w F lo' hi' b o :=
  FInT.keep F lo hi lo' hi' b o h1 h2 (fun _ _ _ _ => rfl) rfl h
theorem VInT.wide {w : World} {lo hi lo' hi' : Nat} {v : Value} {d : Nd} {p : VF} (h : VInT w lo hi v d p) (h1 : lo' ≤ lo) (h2 : hi ≤ hi') : VInT w lo' hi' v d p := by
  obtain ⟨sb, sn, sp, e, h⟩ := h
  exact ⟨sb, sn, sp, e, h.mono (fun _ _ => rfl) (fun x hx => ⟨by omega, by omega⟩) (fun b o _ hf => hf.wide h1 h2)⟩
theorem own_unf {w : World} {base e s n b : Nat} {v : Value} {xs : List Value} (h : w.ownsRow base e s v n xs) (hb : v.ownBlock = some b) : UnF w b := by
  intro o
  rcases h.2 with ⟨rfl, _⟩ | ⟨g, cap, cur, rfl, _, hh, _⟩
  · cases hb
  · obtain rfl : g = b := by simpa [Value.ownBlock] using hb
    unfold World.frozen?
    simp [hh]
theorem heap_set5 {w : World} {g : Nat} {x0 x1 x2 x3 x4 : Value} (k : Nat) (hk : k ≠ g) : (((((w.setCell ⟨g, 0, none⟩ x0).setCell ⟨g, 1, none⟩ x1).setCell ⟨g, 2, none⟩ x2).setCell ⟨g, 3, none⟩ x3).setCell ⟨g, 4, none⟩ x4).heap[k]? = w.heap[k]? := by
  rw [Below.heap_setCell _ _ _ _ (by exact hk), Below.heap_setCell _ _ _ _ (by exact hk), Below.heap_setCell _ _ _ _ (by exact hk), Below.heap_setCell _ _ _ _ (by exact hk), Below.heap_setCell _ _ _ _ (by exact hk)]
/-- the cells of a row of values, each of which lies apart; own is the row's block -/
def FCellsT (w : World) (own : Option Nat) : VF → Nat → Nat → List Value → Prop
  | .nil, _, _, cs => cs = []
  | .cons d p r, lo, hi, cs => ∃ l m sb sn sp cs', cs = .int .i64 d.k :: .int .i64 d.n :: sb :: sn :: sp :: cs' ∧ lo ≤ l ∧ l ≤ m ∧ m ≤ hi ∧ (∀ x, own = some x → ¬ (l ≤ x ∧ x < m)) ∧ HdS w (fun x => l ≤ x ∧ x < m) d p.len (fun b' o' => FInT w p l m b' o') sb sn sp ∧ FCellsT w own r m hi cs'
theorem FCellsT.keep {w w' : World} {own own' : Option Nat} : ∀ (F : VF) (lo hi : Nat) (cs : List Value), (∀ k, lo ≤ k → k < hi → own ≠ some k → w'.heap[k]? = w.heap[k]?) → (∀ x, own' = some x → own = some x ∨ hi ≤ x) → FCellsT w own F lo hi cs → FCellsT w' own' F lo hi cs := by
  intro F
  induction F with
  | nil => intro lo hi cs _ _ h; exact h
  | cons d p r _ ih =>
    rintro lo hi cs hk ho ⟨l, m, sb, sn, sp, cs', rfl, h1, h2, h3, h4, h5, h6⟩
    have hs : ∀ k, l ≤ k ∧ k < m → w'.heap[k]? = w.heap[k]? := fun k hq => hk k (by omega) (by omega) (fun e => h4 _ e hq)
    refine ⟨l, m, sb, sn, sp, cs', rfl, h1, h2, h3, fun x hx hb => ?_, h5.mono (fun q hq => cell_of_heap (hs q.block hq) q rfl) (fun _ h => h) (fun b' o' hb' h => FInT.keep p l m l m b' o' (Nat.le_refl _) (Nat.le_refl _) (fun k a1 a2 _ => hs k ⟨a1, a2⟩) (hs b' hb') h), ih m hi cs' (fun q a1 a2 a3 => hk q (by omega) a2 a3) ho h6⟩
    rcases ho x hx with h | h
    · exact h4 x h hb
    · omega
theorem FCellsT.snoc {w : World} {own : Option Nat} {l m hi hi' : Nat} {d : Nd} {p : VF} {sb sn sp : Value} (e1 : hi ≤ l) (e2 : l ≤ m) (e3 : m ≤ hi') (e4 : ∀ x, own = some x → ¬ (l ≤ x ∧ x < m)) (h : HdS w (fun x => l ≤ x ∧ x < m) d p.len (fun b' o' => FInT w p l m b' o') sb sn sp) :
    ∀ (F : VF) (lo : Nat) (cs : List Value), lo ≤ hi → FCellsT w own F lo hi cs → FCellsT w own (F.snoc d p) lo hi' (cs ++ [.int .i64 d.k, .int .i64 d.n, sb, sn, sp]) := by
  intro F
  induction F with
  | nil => intro lo cs hlh e; cases e; exact ⟨l, m, sb, sn, sp, [], rfl, by omega, e2, e3, e4, h, rfl⟩
  | cons d' p' r _ ih =>
    rintro lo cs hlh ⟨l', m', sb', sn', sp', cs', rfl, h1, h2, h3, h4, h5, h6⟩
    exact ⟨l', m', sb', sn', sp', _, rfl, h1, h2, by omega, h4, h5, ih m' cs' h3 h6⟩
theorem FCellsT.fin {w : World} {own : Option Nat} : ∀ (F : VF) (lo lo' hi : Nat) (cs : List Value) (b o : Nat), lo' ≤ lo → FCellsT w own F lo hi cs → (∀ x, b = x → own = some x) → UnF w b → (∀ j u, cs[j]? = some u → w.cell? ⟨b, o + j, none⟩ = some u) → FInT w F lo' hi b o := by
  intro F
  induction F with
  | nil => intros; trivial
  | cons d p r _ ih =>
    rintro lo lo' hi cs b o hl ⟨l, m, sb, sn, sp, cs', rfl, h1, h2, h3, h4, h5, h6⟩ ho hu hc
    refine ⟨l, m, by omega, h2, h3, h4 b (ho b rfl), hu, ⟨sb, sn, sp, ⟨hc 0 _ rfl, hc 1 _ rfl, hc 2 _ rfl, hc 3 _ rfl, hc 4 _ rfl⟩, h5⟩, ih m m hi cs' b (o + 5) (Nat.le_refl _) h6 ho hu fun j u hu => ?_⟩
    rw [Nat.add_assoc]
    rw [show 5 + j = j + 5 by omega]
    exact hc (j + 5) u (by simpa using hu)
/-- some parts have been copied -/
def CloRelT (W2 wc : World) (g : Nat) (d : Nd) (sb sn : Value) (nb nn : Nat) (p : VF) (k : Value) (wr : World) : Prop :=
  ∃ (i : Nat) (A : Option Addr) (c : Nat) (cs : List Value), k = .int .i64 (i : Int) ∧ i ≤ p.len ∧ Bx wr g (.int .i64 d.k) (.int .i64 d.n) sb sn (.slice A i c) ∧ wr.ownsRow wc.heap.size 26 5 (.slice A i c) i cs ∧
    FCellsT wr (Value.slice A i c).ownBlock (p.take i) wc.heap.size wr.heap.size cs ∧ wr.ownsRow W2.heap.size 5 1 sb nb (bv d.bs) ∧ wr.ownsRow W2.heap.size 9 1 sn nn (sv d.ns) ∧ Below W2.heap.size W2 wr ∧ wc.heap.size ≤ wr.heap.size
theorem cloT_next {W2 wc wr w6 w7 : World} {g i g' c c' nb nn : Nat} {A : Option Addr} {d d' : Nd} {p p' r : VF} {cs : List Value} {sb sn sb' sn' sp' : Value}
    (hbx : Bx wr g (.int .i64 d.k) (.int .i64 d.n) sb sn (.slice A i c)) (hrow : wr.ownsRow wc.heap.size 26 5 (.slice A i c) i cs) (hfc : FCellsT wr (Value.slice A i c).ownBlock (p.take i) wc.heap.size wr.heap.size cs)
    (hob : wr.ownsRow W2.heap.size 5 1 sb nb (bv d.bs)) (hon : wr.ownsRow W2.heap.size 9 1 sn nn (sv d.ns)) (hbel : Below W2.heap.size W2 wr) (hzc : wc.heap.size ≤ wr.heap.size) (hgc : g < wc.heap.size) (hgW : W2.heap.size ≤ g)
    (hdr : p.drop i = .cons d' p' r) (hi : i < p.len) (hb6 : Below wr.heap.size wr w6) (hz6 : wr.heap.size + 1 ≤ w6.heap.size)
    (hv6 : HdS w6 (fun b => wr.heap.size + 1 ≤ b ∧ b < w6.heap.size) d' p'.len (fun b' o' => FInT w6 p' (wr.heap.size + 1) w6.heap.size b' o') sb' sn' sp')
    (hg7 : (w6.alloc (.cells #[.int .i64 d'.k, .int .i64 d'.n, sb', sn', sp'] 26)).grownBy w7 (Value.slice A i c).ownBlock)
    (hown7 : w7.ownsRow wc.heap.size 26 5 (.slice (some ⟨g', 0, none⟩) (i + 1) c') (i + 1) (cs ++ [.int .i64 d'.k, .int .i64 d'.n, sb', sn', sp']))
    (hat : (Value.slice A i c).ownBlock = some g' ∨ g' = w6.heap.size + 1) :
    CloRelT W2 wc g d sb sn nb nn p (.int .i64 ((i : Int) + 1)) (w7.setCell ⟨g, 4, none⟩ (.slice (some ⟨g', 0, none⟩) (i + 1) c')) := by
  have hz7 := hg7.size
  simp only [alloc_size] at hz7
  have hrl : ∀ k, (Value.slice A i c).ownBlock = some k → wc.heap.size ≤ k ∧ k < wr.heap.size := fun k hk => hrow.lt k hk
  -- a block below the size of w6, other than the row's own, is in w7 as in w6
  have k67 : ∀ b, b < w6.heap.size → (Value.slice A i c).ownBlock ≠ some b → w7.heap[b]? = w6.heap[b]? := fun b hb hne => by
    rw [hg7.block b (by simp only [alloc_size]; omega) (fun e => hne e.symm)]
    exact Below.heap_alloc w6 _ b hb
  have k7r : ∀ b, b < wr.heap.size → (Value.slice A i c).ownBlock ≠ some b → w7.heap[b]? = wr.heap[b]? := fun b hb hne => (k67 b (by omega) hne).trans (hb6.block b hb)
  have hgne : (Value.slice A i c).ownBlock ≠ some g := fun e => by have := (hrl g e).1; omega
  have hg'c : wc.heap.size ≤ g' := by
    rcases hat with h | h
    · exact (hrl g' h).1
    · omega
  have hset : ∀ b, b ≠ g → (w7.setCell ⟨g, 4, none⟩ (.slice (some ⟨g', 0, none⟩) (i + 1) c')).heap[b]? = w7.heap[b]? := fun b hb => Below.heap_setCell _ _ _ _ (by exact hb)
  have hsz : (w7.setCell ⟨g, 4, none⟩ (.slice (some ⟨g', 0, none⟩) (i + 1) c')).heap.size = w7.heap.size := by simp
  have hbx7 : Bx w7 g (.int .i64 d.k) (.int .i64 d.n) sb sn (.slice A i c) := (k7r g (by omega) hgne).trans hbx
  have hob' : ∀ x, (Value.slice (some ⟨g', 0, none⟩) (i + 1) c').ownBlock = some x → (Value.slice A i c).ownBlock = some x ∨ w6.heap.size ≤ x := fun x hx => by
    have e' : g' = x := by simpa [Value.ownBlock] using hx
    subst e'
    rcases hat with h | h
    · exact .inl h
    · exact .inr (by omega)
  have hf8 : FCellsT (w7.setCell ⟨g, 4, none⟩ (.slice (some ⟨g', 0, none⟩) (i + 1) c')) (Value.slice (some ⟨g', 0, none⟩) (i + 1) c').ownBlock (p.take i) wc.heap.size wr.heap.size cs :=
    FCellsT.keep _ _ _ _ (fun k h1 h2 h3 => (hset k (by omega)).trans (k7r k h2 h3)) (fun x hx => by
      rcases hob' x hx with h | h
      · exact .inl h
      · exact .inr (by omega)) hfc
  have hv8 : HdS (w7.setCell ⟨g, 4, none⟩ (.slice (some ⟨g', 0, none⟩) (i + 1) c')) (fun x => wr.heap.size + 1 ≤ x ∧ x < w6.heap.size) d' p'.len (fun b' o' => FInT (w7.setCell ⟨g, 4, none⟩ (.slice (some ⟨g', 0, none⟩) (i + 1) c')) p' (wr.heap.size + 1) w6.heap.size b' o') sb' sn' sp' := by
    have hk : ∀ k, (wr.heap.size + 1 ≤ k ∧ k < w6.heap.size) → (w7.setCell ⟨g, 4, none⟩ (.slice (some ⟨g', 0, none⟩) (i + 1) c')).heap[k]? = w6.heap[k]? := fun k hq =>
      (hset k (by omega)).trans (k67 k hq.2 (fun e => by have := (hrl k e).2; omega))
    exact hv6.mono (fun q hq => cell_of_heap (hk q.block hq) q rfl) (fun _ h => h) (fun b' o' hb' h => FInT.keep p' _ _ _ _ b' o' (Nat.le_refl _) (Nat.le_refl _) (fun k a1 a2 _ => hk k ⟨a1, a2⟩) (hk b' hb') h)
  refine ⟨i + 1, some ⟨g', 0, none⟩, c', cs ++ [.int .i64 d'.k, .int .i64 d'.n, sb', sn', sp'], by go_num, hi, hbx7.set4 _, ?_, ?_, ?_, ?_, ?_, by rw [hsz]; omega⟩
  · exact own_set hown7 hgc
  · rw [VF.take_succ hdr]
    refine FCellsT.snoc (m := w6.heap.size) (l := wr.heap.size + 1) (by omega) (by omega) (by rw [hsz]; omega) (fun x hx hb => ?_) hv8 _ _ _ hzc hf8
    rcases hob' x hx with h | h
    · have := (hrl x h).2; omega
    · omega
  · exact own_ty (own_grown (own_below (own_below hob hb6 (Nat.le_refl _)) (bel1 _ _) (Nat.le_refl _)) hg7 (own_ne hob hrow (by decide))) hbx7.ty (by decide)
  · exact own_ty (own_grown (own_below (own_below hon hb6 (Nat.le_refl _)) (bel1 _ _) (Nat.le_refl _)) hg7 (own_ne hon hrow (by decide))) hbx7.ty (by decide)
  · refine Below.setCell (p := ⟨g, 4, none⟩) ?_ hgW _
    have h1 : Below W2.heap.size W2 (w6.alloc (.cells #[.int .i64 d'.k, .int .i64 d'.n, sb', sn', sp'] 26)) := (hbel.trans (hb6.mono hbel.size)).alloc (by have := hbel.size; omega) _
    exact h1.grown hg7 (by have := hbel.size; simp only [alloc_size]; omega) (fun k hk => by have := (hrl k hk).1; omega)
/-- what clone answers -/
def CloEndT (w : World) (d : Nd) (p : VF) (e : Ending) (w' : World) : Prop :=
  ∃ v, e = .returned v ∧ VInT w' w.heap.size w'.heap.size v d p ∧ Below w.heap.size w w'
def CloCT (d : Nd) (p : VF) : Prop := NdFits d → Fits p → p.len ≤ 1048576 → ∀ (w : World) (v : Value), VIn w w.heap.size v d p → Calls Try.prog 55 #[v] w (CloEndT w d p)
theorem cloT_pick {d : Nd} {p r F : VF} {i : Nat} (h : VF.All CloCT (F.drop i)) (hd : F.drop i = .cons d p r) (hf : Fits (F.drop i)) : ∀ (w : World) (v : Value), VIn w w.heap.size v d p → Calls Try.prog 55 #[v] w (CloEndT w d p) := by
  rw [hd] at h hf
  exact h.1 hf.1 hf.2.2.1 hf.2.1
theorem cloT_done {W2 wc wr : World} {nb nn cb cn c : Nat} {A1 A2 A : Option Addr} {d : Nd} {p : VF} {cs : List Value} (hrow : wr.ownsRow wc.heap.size 26 5 (.slice A p.len c) p.len cs) (hfc : FCellsT wr (Value.slice A p.len c).ownBlock p wc.heap.size wr.heap.size cs)
    (hob : wr.ownsRow W2.heap.size 5 1 (.slice A1 nb cb) nb (bv d.bs)) (hon : wr.ownsRow W2.heap.size 9 1 (.slice A2 nn cn) nn (sv d.ns)) (hz : W2.heap.size ≤ wc.heap.size) :
    VInT wr W2.heap.size wr.heap.size (.agg #[.int .i64 d.k, .int .i64 d.n, .slice A1 nb cb, .slice A2 nn cn, .slice A p.len c]) d p := by
  refine ⟨_, _, _, rfl, A1, nb, cb, A2, nn, cn, A, c, rfl, rfl, rfl, (own_cap hob).1, (own_cap hon).1, (own_cap hrow).1, (own_cap hrow).2, RdS.own hob (fun b h1 h2 => ⟨h1, h2⟩), RdS.own hon (fun b h1 h2 => ⟨h1, h2⟩), fun h0 => ?_⟩
  obtain ⟨b, o, rfl, hb, hc⟩ := (Rd.of_own hrow).2 h0
  have hb1 := (hrow.lt b rfl).1
  refine ⟨b, o, rfl, ⟨by omega, hb⟩, ?_⟩
  exact FCellsT.fin p wc.heap.size W2.heap.size wr.heap.size cs b o hz hfc (fun x hx => by have := hrow.lt b rfl; simpa [Value.ownBlock] using hx) (own_unf hrow (by simp [Value.ownBlock])) hc
end Go.Proofs.Ytolognhjdmkohaa
