/-
  The reference's parse: what it answers, and its lists in memory.
-/
import Derived.Test.YtolognhjdmkohaaKParM
import Derived.Test.YtolognhjdmkohaaJ16
namespace Go.Proofs.Ytolognhjdmkohaa
open Go.RowKit
set_option linter.unusedVariables false
set_option linter.unusedSimpArgs false

/-- what parse answers -/
def PaEnd (w : World) (r : Option (Nd × VF × Int × Nat)) (e : Ending) (w' : World) : Prop :=
  Below w.heap.size w w' ∧ ((r = none ∧ ∃ (k x y : Int) (A : Option Addr) (c : Nat), e = .returned (.tuple #[.agg #[.int .i64 k, .int .i64 0, .slice A 0 c, .slice none 0 0, .slice none 0 0], .int .i64 x, .int .i64 y, .bool false])) ∨
    (∃ d p z k' v, r = some (d, p, z, k') ∧ e = .returned (.tuple #[v, .int .i64 z, .int .i64 ((k' : Nat) : Int), .bool true]) ∧ VInS w' (fun b => w.heap.size ≤ b ∧ b < w'.heap.size) v d p))
/-- append of one value onto a row of the call's own -/
theorem wpList_app5 {P : Program} {ops : Array Oper} {rest : List Oper} {o : Oper} {a : Act} {w : World} {Q : Exit → Act → World → Prop} {t e : TypeId} {size bytes : Nat} (hT : SlT P t e size bytes) (hgd : o.guard = none) (s x : Operand)
    (ho : o.op = .call { callee := .builtin .append, args := #[s, x], argTypes := #[t, t] })
    (base : Nat) (A : Option Addr) (n c : Nat) (xs : List Value) (hs : a.eval s = .slice A n c) (hown : w.ownsRow base e size (.slice A n c) n xs)
    (gx : Nat) (news : List Value) (hx : a.eval x = .slice (some ⟨gx, 0, none⟩) 1 1) (hl : news.length = size) (hnews : ∀ j u, news[j]? = some u → w.cell? ⟨gx, 0 + j, none⟩ = some u) (h1 : ∀ u ∈ news, u.oneCell' = true)
    (hbytes : (n + 1) * bytes ≤ 140737488355328) (hbase : base ≤ w.heap.size) (H : Nat) (hH : w.heap.size = H)
    (h : ∀ g cap w', w'.ownsRow base e size (.slice (some ⟨g, 0, none⟩) (n + 1) cap) (n + 1) (xs ++ news) → w.grownBy w' (Value.slice A n c).ownBlock → ((Value.slice A n c).ownBlock = some g ∨ g = H) → g < w'.heap.size → wpList P ops Q rest (a.put o.dst (.slice (some ⟨g, 0, none⟩) (n + 1) cap)) w') :
    wpList P ops Q (o :: rest) a w :=
  wpList_plain hgd fun _ hK => by
    have hh := step_app5 (ops := #[]) (E := True) (Q := Q) hT hgd s x ho base A n c xs hs hown gx news hx hl hnews h1 hbytes hbase H hH fun g cap w' h2 h3 h4 h5 => hK _ _ (h g cap w' h2 h3 h4 h5)
    rwa [if_pos (by unfold Region.wanted; rw [hgd])] at hh
/-- some names and parts have been parsed -/
structure PIn (w wc : World) (h gf : Nat) (k : Int) (ns : List (List UInt8)) (F : VF) (An : Option Addr) (cn : Nat) (A : Option Addr) (c : Nat) (cs : List Value) (wr : World) : Prop where
  bx : Bx wr h (.int .i64 k) (.int .i64 0) (.slice none 0 0) (.slice An ns.length cn) (.slice A F.len c)
  rs : Bx wr w.heap.size (.int .i64 0) (.int .i64 0) (.slice none 0 0) (.slice none 0 0) (.slice none 0 0)
  on : wr.ownsRow wc.heap.size 9 1 (.slice An ns.length cn) ns.length (sv ns)
  op : wr.ownsRow wc.heap.size 26 5 (.slice A F.len c) F.len cs
  fc : FCells wr (Sy wc wr (.slice An ns.length cn) (.slice A F.len c)) F cs
  ff : ∃ a b, FC wr gf a b
  bl : Below w.heap.size w wr
  zc : wc.heap.size ≤ wr.heap.size
section
variable {w wc wr w6 w7 : World} {gf h g' c cn c' : Nat} {k x y : Int} {ns : List (List UInt8)} {F : VF} {An A : Option Addr} {cs : List Value} {ob : Obj}
theorem bl_grown {o : Option Nat} (hbl : Below w.heap.size w wr) (hgf : w.heap.size ≤ gf) (h6 : Rf wr w6 gf) (hg7 : (w6.alloc ob).grownBy w7 o) (ho : ∀ b, o = some b → w.heap.size ≤ b) : Below w.heap.size w w7 := by
  have hz := hbl.size
  have hz6 := h6.size
  have h1 : Below w.heap.size w (w6.alloc ob) := (hbl.trans (h6.below hgf hz)).alloc (by omega) _
  exact h1.grown hg7 (by simp only [alloc_size]; omega) ho
theorem PIn.name {s : List UInt8} (hL : PIn w wc h gf k ns F An cn A c cs wr) (hwh : w.heap.size < h) (hhc : h < wc.heap.size) (hwf : w.heap.size < gf) (hfc : gf < wc.heap.size) (hfh : gf ≠ h)
    (h6 : Rf wr w6 gf) (hf6 : ∃ a b, FC w6 gf a b) (hg7 : (w6.alloc ob).grownBy w7 (Value.slice An ns.length cn).ownBlock)
    (hown7 : w7.ownsRow wc.heap.size 9 1 (.slice (some ⟨g', 0, none⟩) (ns.length + 1) c') (ns.length + 1) (sv ns ++ [.string ⟨s.toArray⟩]))
    (hat : (Value.slice An ns.length cn).ownBlock = some g' ∨ g' = w6.heap.size + 1) :
    PIn w wc h gf k (ns ++ [s]) F (some ⟨g', 0, none⟩) c' A c cs (w7.setCell ⟨h, 3, none⟩ (.slice (some ⟨g', 0, none⟩) (ns.length + 1) c')) := by
  have hz7 := hg7.size
  have hz6 := h6.size
  have hzc := hL.zc
  have hzw := hL.bl.size
  simp only [alloc_size] at hz7
  have hrl : ∀ b, (Value.slice An ns.length cn).ownBlock = some b → wc.heap.size ≤ b ∧ b < wr.heap.size := fun b hb => hL.on.lt b hb
  have hpl : ∀ b, (Value.slice A F.len c).ownBlock = some b → wc.heap.size ≤ b ∧ b < wr.heap.size := fun b hb => hL.op.lt b hb
  have k67 : ∀ b, b < w6.heap.size → (Value.slice An ns.length cn).ownBlock ≠ some b → w7.heap[b]? = w6.heap[b]? := fun b hb hne => by
    rw [hg7.block b (by simp only [alloc_size]; omega) (fun e => hne e.symm)]
    exact Below.heap_alloc w6 _ b hb
  have k7r : ∀ b, b < wr.heap.size → b ≠ gf → (Value.slice An ns.length cn).ownBlock ≠ some b → w7.heap[b]? = wr.heap[b]? := fun b hb hg hne => (k67 b (by omega) hne).trans (h6.block b hb hg)
  have hne : ∀ b, b < wc.heap.size → (Value.slice An ns.length cn).ownBlock ≠ some b := fun b hb e => by have := (hrl b e).1; omega
  have hg'c : wc.heap.size ≤ g' := by
    rcases hat with h | h
    · exact (hrl g' h).1
    · omega
  have hset : ∀ b, b ≠ h → (w7.setCell ⟨h, 3, none⟩ (.slice (some ⟨g', 0, none⟩) (ns.length + 1) c')).heap[b]? = w7.heap[b]? := fun b hb => Below.heap_setCell _ _ _ _ (by exact hb)
  have hsz : (w7.setCell ⟨h, 3, none⟩ (.slice (some ⟨g', 0, none⟩) (ns.length + 1) c')).heap.size = w7.heap.size := by simp
  have hbx7 : Bx w7 h (.int .i64 k) (.int .i64 0) (.slice none 0 0) (.slice An ns.length cn) (.slice A F.len c) := (k7r h (by omega) (by omega) (hne h hhc)).trans hL.bx
  have hln : (ns ++ [s]).length = ns.length + 1 := by simp
  refine ⟨?_, ?_, ?_, ?_, ?_, ?_, ?_, by rw [hsz]; omega⟩
  · rw [hln]; exact hbx7.set3 _
  · exact ((hset _ (by omega)).trans (k7r _ (by omega) (by omega) (hne _ (by omega)))).trans hL.rs
  · rw [hln, sv_app1]; exact own_set hown7 hhc
  · exact own_set (own_grown ((own_rf hL.op h6 (by omega)).alloc _) hg7 (own_ne hL.op hL.on (by decide))) hhc
  · rw [hln]
    refine FCells.keep (fun q hq => ?_) (fun b hb => ?_) _ _ hL.fc
    · obtain ⟨h1, h2, h3, h4⟩ := hq
      exact (cell_of_heap ((hset q.block (by omega)).trans (k7r q.block h2 (by omega) h3)) q rfl)
    · obtain ⟨h1, h2, h3, h4⟩ := hb
      refine ⟨h1, by rw [hsz]; omega, fun e => ?_, h4⟩
      have e' : g' = b := by simpa [Value.ownBlock] using e
      subst e'
      rcases hat with h | h
      · exact h3 h
      · omega
  · obtain ⟨a, b, hfc6⟩ := hf6
    exact ⟨a, b, hfc6.heap ((hset gf hfh).trans (k67 gf (by omega) (hne gf hfc)))⟩
  · exact (bl_grown hL.bl (by omega) h6 hg7 (fun b hb => by have := (hrl b hb).1; omega)).setCell (p := ⟨h, 3, none⟩) (by show w.heap.size ≤ h; omega) _
theorem PIn.part {d' : Nd} {p' : VF} {sb' sn' sp' : Value} (hL : PIn w wc h gf k ns F An cn A c cs wr) (hwh : w.heap.size < h) (hhc : h < wc.heap.size) (hwf : w.heap.size < gf) (hfc : gf < wc.heap.size) (hfh : gf ≠ h)
    (h6 : Below wr.heap.size wr w6) (hv6 : HdS w6 (fun b => wr.heap.size ≤ b ∧ b < w6.heap.size) d' p'.len (FInS w6 (fun b => wr.heap.size ≤ b ∧ b < w6.heap.size) p') sb' sn' sp')
    (hg7 : (w6.alloc ob).grownBy w7 (Value.slice A F.len c).ownBlock)
    (hown7 : w7.ownsRow wc.heap.size 26 5 (.slice (some ⟨g', 0, none⟩) (F.len + 1) c') (F.len + 1) (cs ++ [.int .i64 d'.k, .int .i64 d'.n, sb', sn', sp']))
    (hat : (Value.slice A F.len c).ownBlock = some g' ∨ g' = w6.heap.size + 1) :
    PIn w wc h gf k ns (F.snoc d' p') An cn (some ⟨g', 0, none⟩) c' (cs ++ [.int .i64 d'.k, .int .i64 d'.n, sb', sn', sp']) (w7.setCell ⟨h, 4, none⟩ (.slice (some ⟨g', 0, none⟩) (F.len + 1) c')) := by
  have hz7 := hg7.size
  have hz6 := h6.size
  have hzc := hL.zc
  have hzw := hL.bl.size
  simp only [alloc_size] at hz7
  have hnl : ∀ b, (Value.slice An ns.length cn).ownBlock = some b → wc.heap.size ≤ b ∧ b < wr.heap.size := fun b hb => hL.on.lt b hb
  have hrl : ∀ b, (Value.slice A F.len c).ownBlock = some b → wc.heap.size ≤ b ∧ b < wr.heap.size := fun b hb => hL.op.lt b hb
  have k67 : ∀ b, b < w6.heap.size → (Value.slice A F.len c).ownBlock ≠ some b → w7.heap[b]? = w6.heap[b]? := fun b hb hne => by
    rw [hg7.block b (by simp only [alloc_size]; omega) (fun e => hne e.symm)]
    exact Below.heap_alloc w6 _ b hb
  have k7r : ∀ b, b < wr.heap.size → (Value.slice A F.len c).ownBlock ≠ some b → w7.heap[b]? = wr.heap[b]? := fun b hb hne => (k67 b (by omega) hne).trans (h6.block b hb)
  have hne : ∀ b, b < wc.heap.size → (Value.slice A F.len c).ownBlock ≠ some b := fun b hb e => by have := (hrl b e).1; omega
  have hg'c : wc.heap.size ≤ g' := by
    rcases hat with h | h
    · exact (hrl g' h).1
    · omega
  have hset : ∀ b, b ≠ h → (w7.setCell ⟨h, 4, none⟩ (.slice (some ⟨g', 0, none⟩) (F.len + 1) c')).heap[b]? = w7.heap[b]? := fun b hb => Below.heap_setCell _ _ _ _ (by exact hb)
  have hsz : (w7.setCell ⟨h, 4, none⟩ (.slice (some ⟨g', 0, none⟩) (F.len + 1) c')).heap.size = w7.heap.size := by simp
  have hbx7 : Bx w7 h (.int .i64 k) (.int .i64 0) (.slice none 0 0) (.slice An ns.length cn) (.slice A F.len c) := (k7r h (by omega) (hne h hhc)).trans hL.bx
  have hln : (F.snoc d' p').len = F.len + 1 := VF.len_snoc F d' p'
  refine ⟨?_, ?_, ?_, ?_, ?_, ?_, ?_, by rw [hsz]; omega⟩
  · rw [hln]; exact hbx7.set4 _
  · exact ((hset _ (by omega)).trans (k7r _ (by omega) (hne _ (by omega)))).trans hL.rs
  · exact own_set (own_grown ((own_below hL.on h6 (Nat.le_refl _)).alloc _) hg7 (own_ne hL.on hL.op (by decide))) hhc
  · rw [hln]; exact own_set hown7 hhc
  · rw [hln]
    have hnot : ∀ b, b < w6.heap.size → (Value.slice A F.len c).ownBlock ≠ some b → (Value.slice (some ⟨g', 0, none⟩) (F.len + 1) c').ownBlock ≠ some b := fun b hb h3 e => by
      have e' : g' = b := by simpa [Value.ownBlock] using e
      subst e'
      rcases hat with h | h
      · exact h3 h
      · omega
    refine FCells.snoc ?_ _ _ (FCells.keep (fun q hq => ?_) (fun b hb => ?_) _ _ hL.fc)
    · have hk : ∀ q : Addr, (wr.heap.size ≤ q.block ∧ q.block < w6.heap.size) → (w7.setCell ⟨h, 4, none⟩ (.slice (some ⟨g', 0, none⟩) (F.len + 1) c')).cell? q = w6.cell? q := fun q hq =>
        cell_of_heap ((hset q.block (by omega)).trans (k67 q.block hq.2 (fun e => by have := (hrl q.block e).2; omega))) q rfl
      have hS : ∀ b, (wr.heap.size ≤ b ∧ b < w6.heap.size) → Sy wc (w7.setCell ⟨h, 4, none⟩ (.slice (some ⟨g', 0, none⟩) (F.len + 1) c')) (.slice An ns.length cn) (.slice (some ⟨g', 0, none⟩) (F.len + 1) c') b := fun b hb =>
        ⟨by omega, by rw [hsz]; omega, fun e => by have := (hnl b e).2; omega, hnot b hb.2 (fun e => by have := (hrl b e).2; omega)⟩
      exact hv6.mono hk hS (FInS.keep hk hS p')
    · obtain ⟨h1, h2, h3, h4⟩ := hq
      exact (cell_of_heap ((hset q.block (by omega)).trans (k7r q.block h2 h4)) q rfl)
    · obtain ⟨h1, h2, h3, h4⟩ := hb
      exact ⟨h1, by rw [hsz]; omega, h3, hnot b (by omega) h4⟩
  · obtain ⟨a, b, hfr⟩ := hL.ff
    exact ⟨a, b, hfr.heap ((hset gf hfh).trans (k7r gf (by omega) (hne gf hfc)))⟩
  · exact (bl_grown hL.bl (gf := gf) (by omega) (Rf.of h6) hg7 (fun b hb => by have := (hrl b hb).1; omega)).setCell (p := ⟨h, 4, none⟩) (by show w.heap.size ≤ h; omega) _
/-- at the end: the value that the variable holds -/
theorem PIn.done (hL : PIn w wc h gf k ns F An cn A c cs wr) (hwc : w.heap.size < wc.heap.size) :
    VInS wr (fun b => w.heap.size < b ∧ b < wr.heap.size) (.agg #[.int .i64 k, .int .i64 0, .slice none 0 0, .slice An ns.length cn, .slice A F.len c]) ⟨k, 0, [], ns⟩ F := by
  have hrow := hL.op
  refine ⟨_, _, _, rfl, none, 0, 0, An, ns.length, cn, A, c, rfl, rfl, rfl, Nat.le_refl _, (own_cap hL.on).1, (own_cap hrow).1, (own_cap hrow).2, RdS.none_ _ _, RdS.own hL.on (fun b h1 h2 => ⟨by omega, h2⟩), fun h0 => ?_⟩
  obtain ⟨b, o, hA, hb, hc⟩ := (Rd.of_own hrow).2 h0
  subst hA
  have hb1 := (hrow.lt b rfl).1
  refine ⟨b, o, rfl, ⟨by omega, hb⟩, ?_⟩
  refine FCells.fin F cs b o (FCells.keep (fun _ _ => rfl) (fun x hx => ?_) F cs hL.fc) hc
  exact ⟨by have := hx.1; omega, hx.2.1⟩
theorem PIn.start {a b : Int} (hB : Bx wc h (.int .i64 k) (.int .i64 0) (.slice none 0 0) (.slice none 0 0) (.slice none 0 0)) (hR : Bx wc w.heap.size (.int .i64 0) (.int .i64 0) (.slice none 0 0) (.slice none 0 0) (.slice none 0 0)) (hff : FC wc gf a b) (hbl : Below w.heap.size w wc) :
    PIn w wc h gf k [] .nil none 0 none 0 [] wc :=
  ⟨hB, hR, World.ownsRow_nil _ _ _ _, World.ownsRow_nil _ _ _ _, rfl, ⟨a, b, hff⟩, hbl, Nat.le_refl _⟩
end
/-- what a list's parts make of a value -/
def fin4 (k : Int) : Option (List (List UInt8) × VF × Int × Nat) → Option (Nd × VF × Int × Nat)
  | none => none
  | some (ns, F, z, k') => some (⟨k, 0, [], ns⟩, F, z, k')
/-- what stands behind some parts that have been parsed -/
def moreQ (ns : List (List UInt8)) (F : VF) : Option (List (List UInt8) × VF × Int × Nat) → Option (List (List UInt8) × VF × Int × Nat)
  | none => none
  | some (ns', F', z, k) => some (ns ++ ns', F.app F', z, k)
theorem moreQ_nil (r : Option (List (List UInt8) × VF × Int × Nat)) : moreQ [] .nil r = r := by cases r <;> simp [moreQ, VF.app]
section
variable {RES : Option (Nd × VF × Int × Nat)} {k y z : Int} {q q' : Nat} {ns nm : List (List UInt8)} {F p : VF} {d : Nd} {one : Int → Nat → Option (Nd × VF × Int × Nat)} {bs : List UInt8} {rc : Bool} {M : Nat}
theorem resQ_none (h : RES = fin4 k (moreQ ns F (parPs one bs rc (M - F.len) y q))) (hi : F.len < M) (hs : stepQ one bs rc y q = none) : RES = none := by
  rw [h, show M - F.len = (M - F.len - 1) + 1 by omega]
  simp [parPs, hs, moreQ, fin4]
theorem resQ_some (h : RES = fin4 k (moreQ ns F (parPs one bs rc (M - F.len) y q))) (hi : F.len < M) (hs : stepQ one bs rc y q = some (nm, d, p, z, q')) : RES = fin4 k (moreQ (ns ++ nm) (F.snoc d p) (parPs one bs rc (M - (F.snoc d p).len) z q')) := by
  rw [h, show M - F.len = (M - F.len - 1) + 1 by omega, VF.len_snoc, Nat.sub_sub]
  simp only [parPs, hs]
  cases parPs one bs rc (M - (F.len + 1)) z q' with
  | none => rfl
  | some t => obtain ⟨ns', F', z', q2⟩ := t; simp [moreQ, VF.snoc_app]
theorem resQ_end (h : RES = fin4 k (moreQ ns F (parPs one bs rc (M - F.len) y q))) (hi : M ≤ F.len) : RES = some (⟨k, 0, [], ns⟩, F, y, q) := by
  rw [h, show M - F.len = 0 by omega]
  simp [parPs, moreQ, fin4, VF.app_nil]
end
theorem stepQ_no {one : Int → Nat → Option (Nd × VF × Int × Nat)} {bs : List UInt8} {x : Int} {q : Nat} (h : one x q = none) : stepQ one bs false x q = none := by simp [stepQ, h]
theorem stepQ_yes {one : Int → Nat → Option (Nd × VF × Int × Nat)} {bs : List UInt8} {x y : Int} {q q' : Nat} {d : Nd} {p : VF} (h : one x q = some (d, p, y, q')) : stepQ one bs false x q = some ([], d, p, y, q') := by simp [stepQ, h]
theorem stepQ_rfault {one : Int → Nat → Option (Nd × VF × Int × Nat)} {bs : List UInt8} {x : Int} {q : Nat} (h : (readChunk bs x).2.2.1 ≠ 0) : stepQ one bs true x q = none := by simp [stepQ, h]
theorem stepQ_rno {one : Int → Nat → Option (Nd × VF × Int × Nat)} {bs s : List UInt8} {x y i : Int} {q : Nat} (h : readChunk bs x = (s, y, 0, i)) (h1 : one y q = none) : stepQ one bs true x q = none := by simp [stepQ, h, h1]
theorem stepQ_ryes {one : Int → Nat → Option (Nd × VF × Int × Nat)} {bs s : List UInt8} {x y z i : Int} {q q' : Nat} {d : Nd} {p : VF} (h : readChunk bs x = (s, y, 0, i)) (h1 : one y q = some (d, p, z, q')) : stepQ one bs true x q = some ([s], d, p, z, q') := by simp [stepQ, h, h1]
/-- what the list case of parse answers -/
theorem parV_l3 {bs : List UInt8} {f q : Nat} {x k x1 m x2 i j : Int} (hq : q ≠ 0) (h1 : readNum bs x = (k, x1, 0, i)) (k1 : k ≠ 1) (k2 : k ≠ 2) (hk : ¬ (k < 1 ∨ 4 < k)) (h2 : readNum bs x1 = (m, x2, 0, j)) (hm : ¬ m < 0) :
    parV (f + 1) bs x q = fin4 k (parPs (parV f bs) bs (k == 4) m.toNat x2 (q - 1)) := by
  rw [parV, h1]
  simp only []
  rw [if_neg hq, if_neg (by simp; omega), if_neg k2, h2]
  simp only []
  rw [if_neg (by simp), if_neg k1, if_neg hm]
  cases parPs (parV f bs) bs (k == 4) m.toNat x2 (q - 1) with
  | none => rfl
  | some t => rfl
end Go.Proofs.Ytolognhjdmkohaa
