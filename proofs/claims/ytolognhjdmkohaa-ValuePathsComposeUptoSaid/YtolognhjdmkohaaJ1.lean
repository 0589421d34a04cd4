/-
  Memory words for the walks of this seat: a slice that reads as a list of cells (nil let in), rows that the call owns, an append onto such a row whose source may be nil. No program in sight.
-/
/-
  More words for memory: appends that say which block alone was written; rows of different element types.
-/
/-
  Byte strings in memory: as cells, as results, as strings; the contracts of the comparisons and of the makers of faults.
-/
import Derived.WalkKit
import Derived.Lib.Hide
import Derived.Test.YtolognhjdmkohaaChecked
import Derived.Outline
import Derived.KernelRfl
namespace Go.Proofs.Ytolognhjdmkohaa
open Go.RowKit
set_option linter.unusedVariables false
set_option linter.unusedSimpArgs false

/-- The slice value '.slice A n c' (s cells an element) holds the cells xs, in blocks below B. -/
def Rd (w : World) (B s : Nat) (A : Option Addr) (n : Nat) (xs : List Value) : Prop :=
  xs.length = n * s ∧ (0 < n → ∃ b o, A = some ⟨b, o, none⟩ ∧ b < B ∧ ∀ j u, xs[j]? = some u → w.cell? ⟨b, o + j, none⟩ = some u)

/-- A slice type t over elements e of so many cells and bytes. -/
structure SlT (P : Program) (t e : TypeId) (size bytes : Nat) : Prop where
  und : P.underlying t = some (.slice e)
  info : ∃ i z, P.info? e = some i ∧ i.zero = some z ∧ i.size = size ∧ i.bytes = bytes ∧ z.cells.size = size
  pos : 0 < size
  bpos : 0 < bytes

theorem SlT.mk' {P : Program} {t e : TypeId} {z : Value} {size bytes : Nat} (und : P.underlying t = some (.slice e))
    (h : (P.info? e).map (fun i => (i.zero, i.size, i.bytes)) = some (some z, size, bytes)) (hz : z.cells.size = size) (hp : 0 < size) (hb : 0 < bytes) : SlT P t e size bytes := by
  obtain ⟨i, hi, h1, h2, h3⟩ := info_parts h
  exact ⟨und, ⟨i, z, hi, h1, h2, h3, hz⟩, hp, hb⟩

section
variable {w w' : World} {B B' s n : Nat} {A : Option Addr} {xs : List Value}
theorem Rd.nil_ : Rd w B s A 0 [] := ⟨by simp, fun h => absurd h (by omega)⟩
theorem Rd.len (h : Rd w B 1 A n xs) : xs.length = n := by have := h.1; omega
theorem Rd.empty (h : Rd w B s A 0 xs) : xs = [] := List.eq_nil_of_length_eq_zero (by have := h.1; omega)
theorem Rd.keep (h : Rd w B s A n xs) (hk : ∀ p : Addr, p.block < B → w'.cell? p = w.cell? p) : Rd w' B s A n xs :=
  ⟨h.1, fun hn => by
    obtain ⟨b, o, e, hb, hc⟩ := h.2 hn
    exact ⟨b, o, e, hb, fun j u hu => (hk _ hb).trans (hc j u hu)⟩⟩
theorem Rd.more (h : Rd w B s A n xs) (hB : B ≤ B') : Rd w B' s A n xs :=
  ⟨h.1, fun hn => by
    obtain ⟨b, o, e, hb, hc⟩ := h.2 hn
    exact ⟨b, o, e, by omega, hc⟩⟩
theorem Rd.below (h : Rd w B s A n xs) (hb : Below B w w') : Rd w' B s A n xs := h.keep fun _ hp => hb.cell hp
theorem Rd.drew (h : Rd w B s A n xs) : Rd w.drew B s A n xs := h
theorem Rd.alloc (h : Rd w B s A n xs) (hB : B ≤ w.heap.size) (o : Obj) : Rd (w.alloc o) B s A n xs := h.below ((Below.refl _ _).alloc hB o)
theorem Rd.at_ {k : Nat} (h : Rd w B 1 A n xs) (hk : k < n) : ∃ b o u, A = some ⟨b, o, none⟩ ∧ b < B ∧ xs[k]? = some u ∧ w.cell? ⟨b, o + k, none⟩ = some u := by
  obtain ⟨b, o, e, hb, hc⟩ := h.2 (by omega)
  have hl : k < xs.length := by have := h.1; omega
  exact ⟨b, o, xs[k], e, hb, List.getElem?_eq_getElem hl, hc k _ (List.getElem?_eq_getElem hl)⟩
/-- the first m elements of the same address -/
theorem Rd.take {m : Nat} (h : Rd w B s A n xs) (hm : m ≤ n) : Rd w B s A m (xs.take (m * s)) := by
  refine ⟨by rw [List.length_take, h.1]; exact Nat.min_eq_left (Nat.mul_le_mul_right _ hm), fun h0 => ?_⟩
  obtain ⟨b, o, e, hb, hc⟩ := h.2 (by omega)
  refine ⟨b, o, e, hb, fun j u hu => hc j u ?_⟩
  rw [List.getElem?_take] at hu
  split at hu
  · exact hu
  · cases hu
/-- what is left behind k elements, as the model spells the address of a cut -/
theorem Rd.drop {k cap : Nat} (h : Rd w B s A n xs) (hk : k ≤ n) (hc : n ≤ cap) :
    Rd w B s (if cap = k then A else A.map (·.add (k * s))) (n - k) (xs.drop (k * s)) := by
  refine ⟨by rw [List.length_drop, h.1, Nat.sub_mul], fun hn => ?_⟩
  obtain ⟨b, o, rfl, hb, hcell⟩ := h.2 (by omega)
  rw [if_neg (by omega)]
  refine ⟨b, o + k * s, ?_, hb, fun j u hu => ?_⟩
  · simp only [Option.map_some, Option.some.injEq]
    unfold Addr.add
    split <;> simp_all
  · rw [Nat.add_assoc]
    exact hcell _ u (by rw [← hu, List.getElem?_drop])
theorem Rd.of_own {base : Nat} {e : TypeId} {c : Nat} (h : w.ownsRow base e s (.slice A n c) n xs) : Rd w w.heap.size s A n xs := by
  refine ⟨h.1, fun hn => ?_⟩
  rcases h.2 with ⟨hv, h0⟩ | ⟨g, cap, cur, hv, _, hg, _, _, _, ht⟩
  · omega
  · simp only [Value.slice.injEq] at hv
    obtain ⟨rfl, _, rfl⟩ := hv
    refine ⟨g, 0, rfl, (Array.getElem?_eq_some_iff.1 hg).1, fun j u hu => ?_⟩
    rw [cell_of_row w g (0 + j) cur e (0, 0) hg]
    rw [← ht, List.getElem?_take] at hu
    split at hu
    · simpa using hu
    · cases hu
/-- one new cell -/
theorem Rd.one (w : World) (u : Value) (e : TypeId) : Rd (w.alloc (.cells #[u] e)) (w.heap.size + 1) 1 (some ⟨w.heap.size, 0, none⟩) 1 [u] := by
  refine ⟨rfl, fun _ => ⟨_, _, rfl, by omega, fun j x hx => ?_⟩⟩
  match j, hx with
  | 0, hx => simp at hx; subst hx; simp
end

/-- the address of a cut, under one name -/
def cutA (A : Option Addr) (c k s : Nat) : Option Addr := if c = k then A else A.map (·.add (k * s))
theorem Rd.cut {w : World} {B s n : Nat} {A : Option Addr} {xs : List Value} {k m c : Nat} (h : Rd w B s A n xs) (hk : k + m ≤ n) (hc : n ≤ c) : Rd w B s (cutA A c k s) m ((xs.drop (k * s)).take (m * s)) := by
  exact (h.drop (k := k) (cap := c) (by omega) hc).take (by omega)
/-- 'x[l:h]', one equation for every capacity -/
theorem run_cut {P : Program} {t e : TypeId} {size bytes : Nat} (hT : SlT P t e size bytes) (A : Option Addr) (n c l h : Nat) (h1 : l ≤ h) (h2 : h ≤ c) (w : World) :
    (Instr.sliceAt t (.slice A n c) (some (.int .i64 (l : Int))) (some (.int .i64 (h : Int))) none).run P w = .ok (.slice (cutA A c l size) (h - l) (c - l)) w := by
  obtain ⟨i, z, hi, hz, hs, hby, hzs⟩ := hT.info
  have he : P.elem t = e := by simp [Program.elem, hT.und]
  have ht : P.underlying t = some (.slice (P.elem t)) := by rw [he]; exact hT.und
  rw [run_sliceAt_slice w t _ _ _ _ ht, run_slice_lh w t A n c ht .i64 .i64 l h (by omega) (by omega) (by omega), he]
  simp [sizeOf, typeInfo, hi, hs, sliced, cutA]
theorem run_cut_h {P : Program} {t e : TypeId} {size bytes : Nat} (hT : SlT P t e size bytes) (A : Option Addr) (n c h : Nat) (h2 : h ≤ c) (w : World) :
    (Instr.sliceAt t (.slice A n c) none (some (.int .i64 (h : Int))) none).run P w = .ok (.slice (cutA A c 0 size) h c) w := by
  obtain ⟨i, z, hi, hz, hs, hby, hzs⟩ := hT.info
  have he : P.elem t = e := by simp [Program.elem, hT.und]
  have ht : P.underlying t = some (.slice (P.elem t)) := by rw [he]; exact hT.und
  rw [run_sliceAt_slice w t _ _ _ _ ht, run_slice_h w t A n c ht .i64 h (by omega) (by omega), he]
  simp [sizeOf, typeInfo, hi, hs, sliced, cutA]
theorem run_cut_l {P : Program} {t e : TypeId} {size bytes : Nat} (hT : SlT P t e size bytes) (A : Option Addr) (n c l : Nat) (h1 : l ≤ n) (w : World) :
    (Instr.sliceAt t (.slice A n c) (some (.int .i64 (l : Int))) none none).run P w = .ok (.slice (cutA A c l size) (n - l) (c - l)) w := by
  obtain ⟨i, z, hi, hz, hs, hby, hzs⟩ := hT.info
  have he : P.elem t = e := by simp [Program.elem, hT.und]
  have ht : P.underlying t = some (.slice (P.elem t)) := by rw [he]; exact hT.und
  rw [run_sliceAt_slice w t _ _ _ _ ht, run_slice_l w t A n c ht .i64 l (by omega) (by omega), he]
  simp [sizeOf, typeInfo, hi, hs, sliced, cutA]

/-- The shape of what is owned. -/
theorem own_shape {w : World} {base : Nat} {e : TypeId} {s : Nat} {v : Value} {n : Nat} {xs : List Value} (h : w.ownsRow base e s v n xs) : ∃ A c, v = .slice A n c := by
  rcases h.2 with ⟨rfl, rfl⟩ | ⟨g, cap, cur, rfl, _⟩
  · exact ⟨_, _, rfl⟩
  · exact ⟨_, _, rfl⟩
theorem own_cap {w : World} {base : Nat} {e : TypeId} {s : Nat} {A : Option Addr} {n m c : Nat} {xs : List Value} (h : w.ownsRow base e s (.slice A m c) n xs) : n ≤ c ∧ c ≤ maxLen := by
  rcases h.2 with ⟨hv, rfl⟩ | ⟨g, cap, cur, hv, _, _, h1, h2, _⟩
  · simp only [Value.slice.injEq] at hv
    obtain ⟨_, _, rfl⟩ := hv
    exact ⟨Nat.le_refl _, Nat.zero_le _⟩
  · simp only [Value.slice.injEq] at hv
    obtain ⟨_, _, rfl⟩ := hv
    exact ⟨h1, h2⟩
/-- What is owned from 'base' on stays owned where all below a later bound is as it was. -/
theorem own_below {w w' : World} {base B : Nat} {e : TypeId} {s : Nat} {v : Value} {n : Nat} {xs : List Value} (h : w.ownsRow base e s v n xs) (hb : Below B w w') (hB : w.heap.size ≤ B) : w'.ownsRow base e s v n xs := by
  refine ⟨h.1, ?_⟩
  rcases h.2 with hn | ⟨g, cap, cur, rfl, hg, hh, r⟩
  · exact .inl hn
  · exact .inr ⟨g, cap, cur, rfl, hg, by rw [hb.block g (Nat.lt_of_lt_of_le (Array.getElem?_eq_some_iff.1 hh).1 hB)]; exact hh, r⟩
theorem own_mono {w : World} {base base' : Nat} {e : TypeId} {s : Nat} {v : Value} {n : Nat} {xs : List Value} (h : w.ownsRow base e s v n xs) (hb : base' ≤ base) : w.ownsRow base' e s v n xs := by
  refine ⟨h.1, ?_⟩
  rcases h.2 with hn | ⟨g, cap, cur, rfl, hg, r⟩
  · exact .inl hn
  · exact .inr ⟨g, cap, cur, rfl, by omega, r⟩

section
variable {P : Program} (w : World)
theorem run_app {t e : TypeId} {size bytes : Nat} (hT : SlT P t e size bytes) (ty : TypeId) (base : Nat) (A : Option Addr) (n c : Nat) (xs : List Value) (hown : w.ownsRow base e size (.slice A n c) n xs)
    (B : Nat) (A2 : Option Addr) (m c2 : Nat) (news : List Value) (hr : Rd w B size A2 m news) (h1 : ∀ u ∈ news, u.oneCell' = true) (hbytes : (n + m) * bytes ≤ 140737488355328) (hbase : base ≤ w.heap.size) :
    ∃ A' c' w', (Builtin.append_ #[t, t] ty #[.slice A n c, .slice A2 m c2]).run P w = .ok (.slice A' (n + m) c') w' ∧ w'.ownsRow base e size (.slice A' (n + m) c') (n + m) (xs ++ news) ∧ Below base w w' := by
  obtain ⟨i, z, hi, hz, hs, hby, hzs⟩ := hT.info
  have h63 : n + m ≤ maxLen := by
    have h := Nat.le_trans (Nat.le_mul_of_pos_right (n + m) hT.bpos) hbytes
    simp only [maxLen]
    omega
  have hfar : ∀ k, (Value.slice A n c).ownBlock = some k → base ≤ k := fun k hk => (hown.lt k hk).1
  rcases A2 with _ | ad
  · have hm : m = 0 := by
      rcases Nat.eq_zero_or_pos m with h0 | h0
      · exact h0
      · obtain ⟨b, o, h, _⟩ := hr.2 h0
        cases h
    subst hm
    have hn := hr.empty
    subst hn
    refine ⟨A, c, w, ?_, by simpa using hown, Below.refl _ _⟩
    rcases hown.2 with ⟨hv, rfl⟩ | ⟨g, cap, cur, hv, _, _, hnc, _⟩
    · simp only [Value.slice.injEq] at hv
      obtain ⟨rfl, _, rfl⟩ := hv
      simp [Builtin.append_, run_underlying hT.und, sizeOf, typeInfo, hi, Builtin.lenOf, Builtin.firstCells]
    · simp only [Value.slice.injEq] at hv
      obtain ⟨rfl, _, rfl⟩ := hv
      simp [Builtin.append_, run_underlying hT.und, sizeOf, typeInfo, hi, Builtin.lenOf, Builtin.firstCells, hnc, storeCells]
  · have hcells : ∀ j u, news[j]? = some u → w.cell? (ad.add j) = some u := by
      intro j u hu
      rcases Nat.eq_zero_or_pos m with h0 | h0
      · subst h0
        have hn := hr.empty
        subst hn
        simp at hu
      · obtain ⟨b, o, h, _, hc⟩ := hr.2 h0
        injection h with h
        subst h
        have e : (⟨b, o, none⟩ : Addr).add j = ⟨b, o + j, none⟩ := by unfold Addr.add; split <;> simp_all
        rw [e]
        exact hc j u hu
    obtain ⟨v', w', hrun, h2, h3, _⟩ := run_append_own (P := P) w base t ty e i z size bytes hT.und hi hz hs hby hzs hT.pos _ n xs hown ad m c2 news hr.1 hcells h1 h63 hbytes hbase
    obtain ⟨A', c', rfl⟩ := own_shape h2
    exact ⟨A', c', w', hrun, h2, (Below.refl _ _).grown h3 hbase hfar⟩

theorem wp_app {o : Oper} {a : Act} {K : Act → World → Prop} {Q : Exit → Act → World → Prop} {t e : TypeId} {size bytes : Nat} (hT : SlT P t e size bytes) (s x : Operand)
    (ho : o.op = .call { callee := .builtin .append, args := #[s, x], argTypes := #[t, t] })
    (base : Nat) (A : Option Addr) (n c : Nat) (xs : List Value) (hs : a.eval s = .slice A n c) (hown : w.ownsRow base e size (.slice A n c) n xs)
    (B : Nat) (A2 : Option Addr) (m c2 : Nat) (news : List Value) (hx : a.eval x = .slice A2 m c2) (hr : Rd w B size A2 m news) (h1 : ∀ u ∈ news, u.oneCell' = true)
    (hbytes : (n + m) * bytes ≤ 140737488355328) (hbase : base ≤ w.heap.size)
    (h : ∀ A' c' w', w'.ownsRow base e size (.slice A' (n + m) c') (n + m) (xs ++ news) → Below base w w' → K (a.put o.dst (.slice A' (n + m) c')) w') : o.wp P a w K Q := by
  obtain ⟨A', c', w', hrun, h2, h3⟩ := run_app (P := P) w hT o.type base A n c xs hown B A2 m c2 news hr h1 hbytes hbase
  unfold Oper.wp execOp
  simp only [ho, resolve, invoke, builtin, Sem.run_bind, Sem.run_pure, Result.andThen_ok, List.map_toArray, List.map_cons, List.map_nil, hs, hx, hrun]
  exact h A' c' w' h2 h3

/-- append onto a row of the call's own; the source reads as 'news' (nil let in). -/
theorem wpList_app {ops : Array Oper} {rest : List Oper} {o : Oper} {a : Act} {Q : Exit → Act → World → Prop} {t e : TypeId} {size bytes : Nat} (hT : SlT P t e size bytes) (hgd : o.guard = none) (s x : Operand)
    (ho : o.op = .call { callee := .builtin .append, args := #[s, x], argTypes := #[t, t] })
    (base : Nat) (A : Option Addr) (n c : Nat) (xs : List Value) (hs : a.eval s = .slice A n c) (hown : w.ownsRow base e size (.slice A n c) n xs)
    (B : Nat) (A2 : Option Addr) (m c2 : Nat) (news : List Value) (hx : a.eval x = .slice A2 m c2) (hr : Rd w B size A2 m news) (h1 : ∀ u ∈ news, u.oneCell' = true)
    (hbytes : (n + m) * bytes ≤ 140737488355328) (hbase : base ≤ w.heap.size)
    (h : ∀ A' c' w', w'.ownsRow base e size (.slice A' (n + m) c') (n + m) (xs ++ news) → Below base w w' → wpList P ops Q rest (a.put o.dst (.slice A' (n + m) c')) w') : wpList P ops Q (o :: rest) a w :=
  wpList_plain hgd fun _ hK => wp_app w hT s x ho base A n c xs hs hown B A2 m c2 news hx hr h1 hbytes hbase fun A' c' w' h2 h3 => hK _ _ (h A' c' w' h2 h3)

/-- the same, one chain of 'Below' -/
theorem wpList_appB {ops : Array Oper} {rest : List Oper} {o : Oper} {a : Act} {Q : Exit → Act → World → Prop} {t e : TypeId} {size bytes : Nat} (hT : SlT P t e size bytes) (hgd : o.guard = none) (s x : Operand)
    (ho : o.op = .call { callee := .builtin .append, args := #[s, x], argTypes := #[t, t] })
    (base : Nat) (A : Option Addr) (n c : Nat) (xs : List Value) (hs : a.eval s = .slice A n c) (hown : w.ownsRow base e size (.slice A n c) n xs)
    (B : Nat) (A2 : Option Addr) (m c2 : Nat) (news : List Value) (hx : a.eval x = .slice A2 m c2) (hr : Rd w B size A2 m news) (h1 : ∀ u ∈ news, u.oneCell' = true)
    (hbytes : (n + m) * bytes ≤ 140737488355328) (hbase : base ≤ w.heap.size) {B0 : Nat} {w0 : World} (hb : Below B0 w0 w) (hB0 : B0 ≤ base)
    (h : ∀ A' c' w', w'.ownsRow base e size (.slice A' (n + m) c') (n + m) (xs ++ news) → Below base w w' → Below B0 w0 w' → wpList P ops Q rest (a.put o.dst (.slice A' (n + m) c')) w') : wpList P ops Q (o :: rest) a w :=
  wpList_app w hT hgd s x ho base A n c xs hs hown B A2 m c2 news hx hr h1 hbytes hbase fun A' c' w' h2 h3 => h A' c' w' h2 h3 (hb.trans (h3.mono hB0))

/-- 'append(out, u)': u lies in a new block of one cell -/
theorem wpList_app1 {ops : Array Oper} {rest : List Oper} {o : Oper} {a : Act} {Q : Exit → Act → World → Prop} {t e : TypeId} {bytes : Nat} (hT : SlT P t e 1 bytes) (hgd : o.guard = none) (s x : Operand)
    (ho : o.op = .call { callee := .builtin .append, args := #[s, x], argTypes := #[t, t] })
    (base : Nat) (A : Option Addr) (n c : Nat) (xs : List Value) (hs : a.eval s = .slice A n c) (hown : w.ownsRow base e 1 (.slice A n c) n xs)
    (u : Value) (hx : a.eval x = .slice (some ⟨w.heap.size, 0, none⟩) 1 1) (h1 : u.oneCell' = true)
    (hbytes : (n + 1) * bytes ≤ 140737488355328) (hbase : base ≤ w.heap.size) {B0 : Nat} {w0 : World} (hb : Below B0 w0 w) (hB0 : B0 ≤ base)
    (h : ∀ A' c' w', w'.ownsRow base e 1 (.slice A' (n + 1) c') (n + 1) (xs ++ [u]) → Below base w w' → Below B0 w0 w' → wpList P ops Q rest (a.put o.dst (.slice A' (n + 1) c')) w') : wpList P ops Q (o :: rest) a (w.alloc (.cells #[u] e)) := by
  have hb' : Below base w (w.alloc (.cells #[u] e)) := (Below.refl _ _).alloc hbase _
  exact wpList_app (w.alloc (.cells #[u] e)) hT hgd s x ho base A n c xs hs (hown.alloc _) (w.heap.size + 1) _ 1 1 [u] hx (Rd.one w u e) (by simpa using h1) hbytes (Nat.le_trans hbase hb'.size)
    fun A' c' w' h2 h3 => h A' c' w' h2 (hb'.trans h3) (hb.trans ((hb'.trans h3).mono hB0))
end

end Go.Proofs.Ytolognhjdmkohaa
namespace Go.Proofs.Ytolognhjdmkohaa
open Go.RowKit
set_option linter.unusedVariables false
set_option linter.unusedSimpArgs false

section
variable {P : Program} (w : World)
/-- 'append(out, u)', the new cell's address spelled otherwise -/
theorem wpList_app1g {ops : Array Oper} {rest : List Oper} {o : Oper} {a : Act} {Q : Exit → Act → World → Prop} {t e : TypeId} {bytes : Nat} (hT : SlT P t e 1 bytes) (hgd : o.guard = none) (s x : Operand)
    (ho : o.op = .call { callee := .builtin .append, args := #[s, x], argTypes := #[t, t] })
    (base : Nat) (A : Option Addr) (n c : Nat) (xs : List Value) (hs : a.eval s = .slice A n c) (hown : w.ownsRow base e 1 (.slice A n c) n xs)
    (u : Value) (g : Nat) (hx : a.eval x = .slice (some ⟨g, 0, none⟩) 1 1) (hg : g = w.heap.size) (h1 : u.oneCell' = true)
    (hbytes : (n + 1) * bytes ≤ 140737488355328) (hbase : base ≤ w.heap.size) {B0 : Nat} {w0 : World} (hb : Below B0 w0 w) (hB0 : B0 ≤ base)
    (h : ∀ A' c' w', w'.ownsRow base e 1 (.slice A' (n + 1) c') (n + 1) (xs ++ [u]) → Below base w w' → Below B0 w0 w' → wpList P ops Q rest (a.put o.dst (.slice A' (n + 1) c')) w') : wpList P ops Q (o :: rest) a (w.alloc (.cells #[u] e)) := by
  subst hg
  exact wpList_app1 w hT hgd s x ho base A n c xs hs hown u hx h1 hbytes hbase hb hB0 h

theorem run_appG {t e : TypeId} {size bytes : Nat} (hT : SlT P t e size bytes) (ty : TypeId) (base : Nat) (A : Option Addr) (n c : Nat) (xs : List Value) (hown : w.ownsRow base e size (.slice A n c) n xs)
    (B : Nat) (A2 : Option Addr) (m c2 : Nat) (news : List Value) (hr : Rd w B size A2 m news) (h1 : ∀ u ∈ news, u.oneCell' = true) (hbytes : (n + m) * bytes ≤ 140737488355328) (hbase : base ≤ w.heap.size) :
    ∃ A' c' w', (Builtin.append_ #[t, t] ty #[.slice A n c, .slice A2 m c2]).run P w = .ok (.slice A' (n + m) c') w' ∧ w'.ownsRow base e size (.slice A' (n + m) c') (n + m) (xs ++ news) ∧ w.grownBy w' (Value.slice A n c).ownBlock ∧ Below base w w' := by
  obtain ⟨i, z, hi, hz, hs, hby, hzs⟩ := hT.info
  have h63 : n + m ≤ maxLen := by
    have h := Nat.le_trans (Nat.le_mul_of_pos_right (n + m) hT.bpos) hbytes
    simp only [maxLen]
    omega
  have hfar : ∀ k, (Value.slice A n c).ownBlock = some k → base ≤ k := fun k hk => (hown.lt k hk).1
  rcases A2 with _ | ad
  · have hm : m = 0 := by
      rcases Nat.eq_zero_or_pos m with h0 | h0
      · exact h0
      · obtain ⟨b, o, h, _⟩ := hr.2 h0
        cases h
    subst hm
    have hn := hr.empty
    subst hn
    refine ⟨A, c, w, ?_, by simpa using hown, World.grownBy.refl _ _, Below.refl _ _⟩
    rcases hown.2 with ⟨hv, rfl⟩ | ⟨g, cap, cur, hv, _, _, hnc, _⟩
    · simp only [Value.slice.injEq] at hv
      obtain ⟨rfl, _, rfl⟩ := hv
      simp [Builtin.append_, run_underlying hT.und, sizeOf, typeInfo, hi, Builtin.lenOf, Builtin.firstCells]
    · simp only [Value.slice.injEq] at hv
      obtain ⟨rfl, _, rfl⟩ := hv
      simp [Builtin.append_, run_underlying hT.und, sizeOf, typeInfo, hi, Builtin.lenOf, Builtin.firstCells, hnc, storeCells]
  · have hcells : ∀ j u, news[j]? = some u → w.cell? (ad.add j) = some u := by
      intro j u hu
      rcases Nat.eq_zero_or_pos m with h0 | h0
      · subst h0
        have hn := hr.empty
        subst hn
        simp at hu
      · obtain ⟨b, o, h, _, hc⟩ := hr.2 h0
        injection h with h
        subst h
        have e : (⟨b, o, none⟩ : Addr).add j = ⟨b, o + j, none⟩ := by unfold Addr.add; split <;> simp_all
        rw [e]
        exact hc j u hu
    obtain ⟨v', w', hrun, h2, h3, _⟩ := run_append_own (P := P) w base t ty e i z size bytes hT.und hi hz hs hby hzs hT.pos _ n xs hown ad m c2 news hr.1 hcells h1 h63 hbytes hbase
    obtain ⟨A', c', rfl⟩ := own_shape h2
    exact ⟨A', c', w', hrun, h2, h3, (Below.refl _ _).grown h3 hbase hfar⟩

theorem wp_appG {o : Oper} {a : Act} {K : Act → World → Prop} {Q : Exit → Act → World → Prop} {t e : TypeId} {size bytes : Nat} (hT : SlT P t e size bytes) (s x : Operand)
    (ho : o.op = .call { callee := .builtin .append, args := #[s, x], argTypes := #[t, t] })
    (base : Nat) (A : Option Addr) (n c : Nat) (xs : List Value) (hs : a.eval s = .slice A n c) (hown : w.ownsRow base e size (.slice A n c) n xs)
    (B : Nat) (A2 : Option Addr) (m c2 : Nat) (news : List Value) (hx : a.eval x = .slice A2 m c2) (hr : Rd w B size A2 m news) (h1 : ∀ u ∈ news, u.oneCell' = true)
    (hbytes : (n + m) * bytes ≤ 140737488355328) (hbase : base ≤ w.heap.size)
    (h : ∀ A' c' w', w'.ownsRow base e size (.slice A' (n + m) c') (n + m) (xs ++ news) → w.grownBy w' (Value.slice A n c).ownBlock → Below base w w' → K (a.put o.dst (.slice A' (n + m) c')) w') : o.wp P a w K Q := by
  obtain ⟨A', c', w', hrun, h2, h3, h4⟩ := run_appG (P := P) w hT o.type base A n c xs hown B A2 m c2 news hr h1 hbytes hbase
  unfold Oper.wp execOp
  simp only [ho, resolve, invoke, builtin, Sem.run_bind, Sem.run_pure, Result.andThen_ok, List.map_toArray, List.map_cons, List.map_nil, hs, hx, hrun]
  exact h A' c' w' h2 h3 h4

/-- append onto a row of the call's own: which block alone was written -/
theorem wpList_appG {ops : Array Oper} {rest : List Oper} {o : Oper} {a : Act} {Q : Exit → Act → World → Prop} {t e : TypeId} {size bytes : Nat} (hT : SlT P t e size bytes) (hgd : o.guard = none) (s x : Operand)
    (ho : o.op = .call { callee := .builtin .append, args := #[s, x], argTypes := #[t, t] })
    (base : Nat) (A : Option Addr) (n c : Nat) (xs : List Value) (hs : a.eval s = .slice A n c) (hown : w.ownsRow base e size (.slice A n c) n xs)
    (B : Nat) (A2 : Option Addr) (m c2 : Nat) (news : List Value) (hx : a.eval x = .slice A2 m c2) (hr : Rd w B size A2 m news) (h1 : ∀ u ∈ news, u.oneCell' = true)
    (hbytes : (n + m) * bytes ≤ 140737488355328) (hbase : base ≤ w.heap.size)
    (h : ∀ A' c' w', w'.ownsRow base e size (.slice A' (n + m) c') (n + m) (xs ++ news) → w.grownBy w' (Value.slice A n c).ownBlock → Below base w w' → wpList P ops Q rest (a.put o.dst (.slice A' (n + m) c')) w') : wpList P ops Q (o :: rest) a w :=
  wpList_plain hgd fun _ hK => wp_appG w hT s x ho base A n c xs hs hown B A2 m c2 news hx hr h1 hbytes hbase fun A' c' w' h2 h3 h4 => hK _ _ (h A' c' w' h2 h3 h4)

/-- 'append(out, u)': which block alone was written -/
theorem wpList_app1G {ops : Array Oper} {rest : List Oper} {o : Oper} {a : Act} {Q : Exit → Act → World → Prop} {t e : TypeId} {bytes : Nat} (hT : SlT P t e 1 bytes) (hgd : o.guard = none) (s x : Operand)
    (ho : o.op = .call { callee := .builtin .append, args := #[s, x], argTypes := #[t, t] })
    (base : Nat) (A : Option Addr) (n c : Nat) (xs : List Value) (hs : a.eval s = .slice A n c) (hown : w.ownsRow base e 1 (.slice A n c) n xs)
    (u : Value) (g : Nat) (hx : a.eval x = .slice (some ⟨g, 0, none⟩) 1 1) (hg : g = w.heap.size) (h1 : u.oneCell' = true)
    (hbytes : (n + 1) * bytes ≤ 140737488355328) (hbase : base ≤ w.heap.size)
    (h : ∀ A' c' w', w'.ownsRow base e 1 (.slice A' (n + 1) c') (n + 1) (xs ++ [u]) → w.grownBy w' (Value.slice A n c).ownBlock → Below base w w' → wpList P ops Q rest (a.put o.dst (.slice A' (n + 1) c')) w') : wpList P ops Q (o :: rest) a (w.alloc (.cells #[u] e)) := by
  subst hg
  have hb' : Below base w (w.alloc (.cells #[u] e)) := (Below.refl _ _).alloc hbase _
  refine wpList_appG (w.alloc (.cells #[u] e)) hT hgd s x ho base A n c xs hs (hown.alloc _) (w.heap.size + 1) _ 1 1 [u] hx (Rd.one w u e) (by simpa using h1) hbytes (Nat.le_trans hbase hb'.size)
    fun A' c' w' h2 h3 h4 => h A' c' w' h2 ?_ (hb'.trans h4)
  refine ⟨h3.os, h3.tape, h3.output, Nat.le_trans hb'.size h3.size, fun k hk hne => ?_⟩
  rw [h3.block k (by simp; omega) hne]
  exact Below.heap_alloc w _ k hk
end

/-- rows of different element types lie apart -/
theorem own_ne {w : World} {b b' : Nat} {e e' : TypeId} {s s' : Nat} {v v' : Value} {n n' : Nat} {xs xs' : List Value} (h : w.ownsRow b e s v n xs) (h' : w.ownsRow b' e' s' v' n' xs') (hne : e ≠ e') : v.ownBlock = none ∨ v.ownBlock ≠ v'.ownBlock := by
  rcases h.2 with ⟨rfl, _⟩ | ⟨g, cap, cur, rfl, _, hg, _⟩
  · exact .inl rfl
  · right
    rcases h'.2 with ⟨rfl, _⟩ | ⟨g', cap', cur', rfl, _, hg', _⟩
    · simp [Value.ownBlock]
    · intro e1
      have : g = g' := by simpa [Value.ownBlock] using e1
      subst this
      rw [hg] at hg'
      injection hg' with hg'
      injection hg' with _ e2
      exact hne e2
end Go.Proofs.Ytolognhjdmkohaa
namespace Go.Proofs.Ytolognhjdmkohaa
open Go.RowKit
set_option linter.unusedVariables false
set_option linter.unusedSimpArgs false

theorem slB : SlT Try.prog 22 5 1 1 := SlT.mk' Try.underlying22 (z := .int .u8 0) (by kernel_rfl) rfl (by decide) (by decide)
/-- bytes as cells -/
def bv (bs : List UInt8) : List Value := bs.map fun b => .int .u8 (b.toNat : Int)
theorem bv_len (bs : List UInt8) : (bv bs).length = bs.length := by simp [bv]
theorem bv_app (a b : List UInt8) : bv (a ++ b) = bv a ++ bv b := by simp [bv]
theorem bv_one (bs : List UInt8) : ∀ u ∈ bv bs, u.oneCell' = true := by
  intro u hu
  simp only [bv, List.mem_map] at hu
  obtain ⟨b, _, rfl⟩ := hu
  rfl

/-- what a call that makes a byte string answers -/
def Made (w : World) (bs : List UInt8) (e : Ending) (w' : World) : Prop :=
  ∃ A c, e = .returned (.slice A bs.length c) ∧ w'.ownsRow w.heap.size 5 1 (.slice A bs.length c) bs.length (bv bs) ∧ Below w.heap.size w w'

/-- one byte more -/
theorem own_snoc {w : World} {base : Nat} {A : Option Addr} {c : Nat} {acc : List UInt8} {b : UInt8} {v : Int} (h : w.ownsRow base 5 1 (.slice A (acc.length + 1) c) (acc.length + 1) (bv acc ++ [.int .u8 v])) (hv : v = (b.toNat : Int)) :
    w.ownsRow base 5 1 (.slice A (acc ++ [b]).length c) (acc ++ [b]).length (bv (acc ++ [b])) := by
  subst hv
  rw [bv_app, List.length_append]
  exact h
theorem made_snoc {w0 w : World} {A : Option Addr} {c : Nat} {acc : List UInt8} {b : UInt8} {v : Int} (h : w.ownsRow w0.heap.size 5 1 (.slice A (acc.length + 1) c) (acc.length + 1) (bv acc ++ [.int .u8 v])) (hv : v = (b.toNat : Int)) (hb : Below w0.heap.size w0 w) :
    Made w0 (acc ++ [b]) (.returned (.slice A (acc.length + 1) c)) w := ⟨A, c, by simp, own_snoc h hv, hb⟩
theorem snoc_len (acc : List UInt8) (b : UInt8) : acc.length + 1 = (acc ++ [b]).length := by simp


theorem foldl_push (ns : List UInt8) : ∀ s : ByteArray, (ns.map (fun b => ((b.toNat : Nat) : Int))).foldl (fun r n => r.push (UInt8.ofNat n.toNat)) s = ⟨s.data ++ ns.toArray⟩ := by
  induction ns with
  | nil => intro s; simp
  | cons b ns ih =>
    intro s
    simp only [List.map_cons, List.foldl_cons]
    rw [ih]
    congr 1
    simp [ByteArray.push]
/-- 'string(b)' -/
theorem run_str {w : World} {B : Nat} {A : Option Addr} {n c : Nat} {bs : List UInt8} (h : Rd w B 1 A n (bv bs)) :
    (convert 22 9 (.slice A n c)).run Try.prog w = .ok (.string ⟨bs.toArray⟩) w := by
  rw [run_convert_bytes_string w 22 9 5 A n c Try.underlying22 Try.underlying5 Try.underlying9]
  have hl := h.len
  rw [bv_len] at hl
  rcases A with _ | ad
  · have hn : n = 0 := by
      rcases Nat.eq_zero_or_pos n with h0 | h0
      · exact h0
      · obtain ⟨b, o, e, _⟩ := h.2 h0
        cases e
    subst hn
    obtain rfl : bs = [] := List.eq_nil_of_length_eq_zero hl
    rfl
  · have hload : (loadCells ad n).run Try.prog w = .ok ((bs.map (fun b => ((b.toNat : Nat) : Int))).map (Value.int .u8)).toArray w := by
      have e : (bs.map (fun b => ((b.toNat : Nat) : Int))).map (Value.int .u8) = bv bs := by simp [bv]
      rw [e]
      have hn : n = (bv bs).length := by rw [bv_len]; omega
      rw [hn]
      refine run_loadCells_list w ad (bv bs) ?_
      intro j v hv
      have hj : j < (bv bs).length := (List.getElem?_eq_some_iff.1 hv).1
      obtain ⟨b, o, e, _, hc⟩ := h.2 (by omega)
      injection e with e
      subst e
      have e : (⟨b, o, none⟩ : Addr).add j = ⟨b, o + j, none⟩ := by unfold Addr.add; split <;> simp_all
      rw [e]
      exact hc j v hv
    rw [run_bytesToString w ad n c _ hload, foldl_push]
    have e0 : ByteArray.empty.data = #[] := rfl
    rw [e0, Array.empty_append]

/-- the comparison of two byte strings -/
theorem bytes_calls {w : World} {B B' : Nat} {A A' : Option Addr} {n n' c c' : Nat} {a b : List UInt8} (ha : Rd w B 1 A n (bv a)) (hb : Rd w B' 1 A' n' (bv b)) :
    Calls Try.prog 17 #[.slice A n c, .slice A' n' c'] w fun e w' => e = .returned (.bool (a == b)) ∧ w = w' := by
  have ra := run_str (c := c) ha
  have rb := run_str (c := c') hb
  go_enter Try.func17, Try.ntmps17
  go_wp2
  go_ret
  exact ⟨rfl, rfl⟩

/-- a fault as a value -/
def flt (c i : Int) : Value := .agg #[.int .i64 c, .int .i64 i]
/-- a fault as a block -/
def fblk (c i : Int) : Obj := .cells #[.int .i64 c, .int .i64 i] 29
theorem fault_calls (c i : Int) (w : World) : Calls Try.prog 91 #[.int .i64 c, .int .i64 i] w fun e w' => e = .returned (.agg #[.int .i64 c, .int .i64 i]) ∧ w.alloc (.cells #[.int .i64 c, .int .i64 i] 29) = w' := by
  go_enter Try.func91, Try.ntmps91
  go_wp2
  exact bodyPost_ret (v := .agg #[.int .i64 c, .int .i64 i]) (by simp [results, Try.results91, go_sem]) rfl ⟨rfl, rfl⟩
theorem at_calls (c i : Int) (w : World) : Calls Try.prog 20 #[.int .i64 c, .int .i64 i] w fun e w' => e = .returned (.agg #[.int .i64 c, .int .i64 i]) ∧ w.alloc (.cells #[.int .i64 c, .int .i64 i] 29) = w' := by
  go_enter Try.func20, Try.ntmps20
  go_wp2
  exact bodyPost_ret (v := .agg #[.int .i64 c, .int .i64 i]) (by simp [results, Try.results20, go_sem]) rfl ⟨rfl, rfl⟩

theorem fault_und : Try.prog.underlying 29 = some (.struct (Try.prog.fieldsOf 29)) := by kernel_rfl
theorem fault_std : Try.prog.stoodInHeld 29 = false := by kernel_rfl
theorem run_fault_eq (d : Nat) (a b c e : Int) (w : World) : (Op.equalIn (d + 2) 29 (.agg #[.int .i64 a, .int .i64 b]) (.agg #[.int .i64 c, .int .i64 e])).run Try.prog w = .ok (a == c && b == e) w := by
  rw [run_equalIn_struct w (d + 1) 29 _ _ fault_und fault_std]
  go_simp
  by_cases h1 : a = c <;> by_cases h2 : b = e <;> simp [h1, h2]
theorem flt_neq (a b c d : Int) (w : World) : (binOp .neq 29 (.agg #[.int .i64 a, .int .i64 b]) (.agg #[.int .i64 c, .int .i64 d])).run Try.prog w = .ok (.bool (!(a == c && b == d))) w := by
  rw [run_neq_struct, run_fault_eq 9998]; rfl
theorem flt_eql (a b c d : Int) (w : World) : (binOp .eql 29 (.agg #[.int .i64 a, .int .i64 b]) (.agg #[.int .i64 c, .int .i64 d])).run Try.prog w = .ok (.bool (a == c && b == d)) w := by
  rw [run_eql_struct, run_fault_eq 9998]; rfl

theorem in_calls (n l h : Int) (w : World) :
    Calls Try.prog 23 #[.int .i64 n, .int .i64 l, .int .i64 h] w fun e w' => e = .returned (.bool (decide (l ≤ n) && decide (n ≤ h))) ∧ w = w' := by
  by_cases h1 : l ≤ n
  · have d1 : decide (l ≤ n) = true := by simp [h1]
    by_cases h2 : n ≤ h
    · have d2 : decide (n ≤ h) = true := by simp [h2]
      rw [d1, d2]
      go_enter Try.func23, Try.ntmps23
      go_wp2
      go_ret
      exact ⟨rfl, rfl⟩
    · have d2 : decide (n ≤ h) = false := by simp; omega
      rw [d1, d2]
      go_enter Try.func23, Try.ntmps23
      go_wp2
      go_ret
      exact ⟨rfl, rfl⟩
  · have d1 : decide (l ≤ n) = false := by simp; omega
    rw [d1]
    go_enter Try.func23, Try.ntmps23
    go_wp2
    go_ret
    exact ⟨rfl, rfl⟩
end Go.Proofs.Ytolognhjdmkohaa
