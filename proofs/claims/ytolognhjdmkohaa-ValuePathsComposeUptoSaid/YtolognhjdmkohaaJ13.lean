/-
  A range over a function whose body knows what lies in memory behind what it is handed.
-/
/-
  A region that draws its order and only reads, in a round of a range over a function.
-/
/-
  What value.walk comes to, plain; what a round of a loop over it keeps.
-/
import Derived.RangeFuncNested
import Derived.RangeFuncBound
import Derived.RangeFuncCalls
import Derived.RangeFuncLeaves
import Derived.Shelf.Abstract
import Derived.Shelf.RegionOpen
import Derived.WalkKit
import Derived.OwnWalkIn
import Derived.TacticsInMore
import Derived.LoopNIn
import Derived.LoopIn
import Derived.Sort.QuietTacIn
import Derived.Test.YtolognhjdmkohaaJ9
namespace Go.Proofs.Ytolognhjdmkohaa
open Go.RowKit Go.Shelf
set_option linter.unusedVariables false
set_option linter.unusedSimpArgs false

/-- the iterator's promise: each round is begun where Pre holds of what is handed -/
def SeqP {α : Type} (F : Fence) (n : Nat) (P : Program) (g : Nat) (lb : Array Value) (encs : α → Array Value) (Pre : List α → α → World → Prop) (Kp : World → World → Prop) (S Sp : List α → Prop) (w : World) : Prop :=
  ∀ (l : Nat) (J Jx : List α → World → Prop) (W : World), Below w.heap.size w W → AbidesFrom W.heap.size J → AbidesFrom W.heap.size Jx →
    (∀ pre x W1, J pre W1 → Pre pre x W1 → YieldAt F (n - 1) P l (encs x) W1 fun e W' =>
      (e = .returned (.bool true) ∧ J (pre ++ [x]) W' ∧ Kp W1 W') ∨ (e = .returned (.bool false) ∧ Jx (pre ++ [x]) W')) →
    J [] W →
    CallsIn F n P g (#[.func (.yield l) #[] #[]] ++ lb) W fun e W' => (∃ v, e = .returned v) ∧ ((∃ xs, S xs ∧ J xs W') ∨ (∃ pre, Sp pre ∧ Jx pre W'))
/-- how a round is left -/
def RoundEnd {α : Type} (B : Nat) (Kp : World → World → Prop) (I Ix : List α → World → Prop) (xs : List α) (W : World) (e : Exit) (W' : World) : Prop :=
  KeepsFrom B W W' ∧ ((e = .normal ∧ Kp W W' ∧ I xs W') ∨ (e = .ret ∧ Ix xs W'))
/-- the loop's record -/
abbrev LoopRec (fn : FuncId) (tmps : Array Value) (ps : Array Tmp) (assign body : Code) (D : Nat) (st : LoopState) (pe : Option Code) : Loop :=
  { state := st, pending := pe, fn, tmps, params := ps, assign, body, defers := D }

theorem rangeP {F : Fence} {n : Nat} {P : Program} {α : Type} {g : Operand} {ps : Array Tmp} {assign body : Code} {Q : Exit → Act → World → Prop} {a : Act} {w : World}
    (hro : F.round = none) (h1 : 1 ≤ n) {gf : Nat} {lb : Array Value} (hg : a.eval g = .func (.func gf) #[] lb) (hFg : F.fn gf) (eg : ∀ args w, (callFunc gf args).run P w = .ok (.enter gf args) w)
    {encs : α → Array Value} {Pre : List α → α → World → Prop} {Kp : World → World → Prop} {S Sp : List α → Prop} {w0 : World} (hseq : SeqP F (n - 1) P gf lb encs Pre Kp S Sp w0)
    (hKt : ∀ {A B C : World}, Kp A B → Kp B C → Kp A C) (hKb : ∀ (W : World) (l : Nat) (o o' : Obj), w.heap.size ≤ l → W.heap[l]? = some o → o.isCells = false → Kp W (W.putObj l o')) (hb0 : Below w0.heap.size w0 w) (hps : ∀ x, (encs x).size = ps.size)
    (I Ix : List α → World → Prop) (hI : OwnFrom w.heap.size I) (hIx : OwnFrom w.heap.size Ix) (h0 : I [] w) (Ax : List α → α → Act → World → Prop) (hAx : ∀ pre x a', OwnFrom w.heap.size (fun (_ : Unit) W => Ax pre x a' W))
    (hassign : ∀ (l : Nat) (pre : List α) (x : α) (W : World) (K : Act → World → Prop), I pre W → Pre pre x W → w.heap.size + 1 < W.heap.size → (∀ a' W', KeepsFrom w.heap.size W W' → Kp W W' → I pre W' → Ax pre x a' W' → K a' W') →
      assign.wpIn (F.inRound l) (n - 1 - 1) P (Exit.then K (fun _ _ _ => False)) { tmps := (ps.zip (encs x)).foldl (fun t (p, v) => t.setIfInBounds p v) a.tmps, defers := [] } W)
    (hbody : ∀ (l : Nat) (pre : List α) (x : α) (a' : Act) (W : World), I pre W → Ax pre x a' W → body.wpIn (F.inRound l) (n - 1 - 1) P (fun e _ W' => RoundEnd w.heap.size Kp I Ix (pre ++ [x]) W e W') a' W)
    (hdone : ∀ (D : Nat) (xs : List α) (W : World), w.heap.size ≤ D → S xs → I xs W → W.heap[D]? = some (.deferred (some [])) → Q .normal { a with defers := { target := .collected D, args := #[] } :: a.defers } W)
    (hstop : ∀ (D : Nat) (pre : List α) (W : World), w.heap.size ≤ D → Sp pre → Ix pre W → W.heap[D]? = some (.deferred (some [])) → Code.ret.wpIn F n P Q { a with defers := { target := .collected D, args := #[] } :: a.defers } W) :
    (Code.rangeFunc g ps assign body).wpIn F n P Q a w := by
  refine wpIn_rangeFunc fun fn hfn => ?_
  rw [hro]
  have hD0 : ((w.alloc (.deferred (some []))).alloc (.loop (LoopRec fn a.tmps ps assign body w.heap.size .ready none))).heap[w.heap.size]? = some (.deferred (some [])) :=
    (Below.heap_alloc _ _ _ (by simp)).trans (World.alloc_heap_new w _)
  have hL0 : ((w.alloc (.deferred (some []))).alloc (.loop (LoopRec fn a.tmps ps assign body w.heap.size .ready none))).heap[w.heap.size + 1]? = some (.loop (LoopRec fn a.tmps ps assign body w.heap.size .ready none)) := by
    have := World.alloc_heap_new (w.alloc (.deferred (some []))) (.loop (LoopRec fn a.tmps ps assign body w.heap.size .ready none))
    rwa [World.size_alloc] at this
  obtain ⟨W1, hW1⟩ : ∃ W1, (w.alloc (.deferred (some []))).alloc (.loop (LoopRec fn a.tmps ps assign body w.heap.size .ready none)) = W1 := ⟨_, rfl⟩
  refine ⟨w.heap.size + 1, [{ target := .collected w.heap.size, args := #[] }], W1, { target := .fn (.func gf) lb, args := #[.func (.yield (w.heap.size + 1)) #[] #[]] }, W1, gf,
    #[.func (.yield (w.heap.size + 1)) #[] #[]] ++ lb, W1, by rw [← hW1]; exact run_enterLoop_outer _ _ _ _ _, by simp only [resolve, hg]; simp [go_sem], fun f' hf' => by simp [Target.leads] at hf'; subst hf'; exact hFg, by simp [invoke, go_sem, eg], fun _ => h1, ?_⟩
  rw [← hW1]
  refine (hseq (w.heap.size + 1)
      (fun pre W => I pre W ∧ W.heap[w.heap.size + 1]? = some (.loop (LoopRec fn a.tmps ps assign body w.heap.size .ready none)) ∧ W.heap[w.heap.size]? = some (.deferred (some [])))
      (fun pre W => Ix pre W ∧ W.heap[w.heap.size + 1]? = some (.loop (LoopRec fn a.tmps ps assign body w.heap.size .done (some .ret))) ∧ W.heap[w.heap.size]? = some (.deferred (some [])))
      _ (hb0.trans ((((Below.refl _ w).alloc (Nat.le_refl _) _).alloc (by simp) _).mono hb0.size)) ?_ ?_ ?_ ⟨hI.alloc _ (hI.alloc _ h0), hL0, hD0⟩).mono ?_
  · intro s A B row hs hgr hr
    refine ⟨hI s A B row hs.1 hgr fun r e => ?_, (grownBy_keeps hgr (fun r e => (hr r e).2) hs.2.1 rfl).trans hs.2.1, (grownBy_keeps hgr (fun r e => (hr r e).2) hs.2.2 rfl).trans hs.2.2⟩
    obtain ⟨hB, o, ho, hw⟩ := hr r e
    exact ⟨by simp at hB; omega, o, ho, Obj.not_cells_of_walk hw⟩
  · intro s A B row hs hgr hr
    refine ⟨hIx s A B row hs.1 hgr fun r e => ?_, (grownBy_keeps hgr (fun r e => (hr r e).2) hs.2.1 rfl).trans hs.2.1, (grownBy_keeps hgr (fun r e => (hr r e).2) hs.2.2 rfl).trans hs.2.2⟩
    obtain ⟨hB, o, ho, hw⟩ := hr r e
    exact ⟨by simp at hB; omega, o, ho, Obj.not_cells_of_walk hw⟩
  · rintro pre x W ⟨hi, hl, hk⟩ hpre
    refine ⟨fn, _, assign, body, run_yield (P := P) (args := encs x) hl (hps x), roundIn_of_wpIn hfn (hassign _ pre x W _ hi hpre (Array.getElem?_eq_some_iff.1 hl).1 fun a' Wa hkf hkp hia hax => ?_)⟩
    have hla := hkf.same _ _ (by omega) hl rfl
    have hka := hkf.same _ _ (Nat.le_refl _) hk rfl
    refine ⟨_, run_beginRound hla rfl, ?_⟩
    have hlb := World.putObj_heap_same (o := Obj.loop { LoopRec fn a.tmps ps assign body w.heap.size .ready none with state := .busy }) (Array.getElem?_eq_some_iff.1 hla).1
    have hkb := (World.putObj_heap_other (w := Wa) (o := Obj.loop { LoopRec fn a.tmps ps assign body w.heap.size .ready none with state := .busy }) (show w.heap.size ≠ w.heap.size + 1 by omega)).trans hka
    have hkp1 := hKt hkp (hKb _ _ _ (Obj.loop { LoopRec fn a.tmps ps assign body w.heap.size .ready none with state := .busy }) (show w.heap.size ≤ w.heap.size + 1 by omega) hla rfl)
    refine wpIn_mono (hbody _ pre x a' _ (hI.putObj _ hia (by omega) hla rfl) ((hAx pre x a').putObj (s := ()) _ hax (by omega) hla rfl)) ?_
    rintro e a3 W3 ⟨hk3, ⟨rfl, hkp3, hi3⟩ | ⟨rfl, hi3⟩⟩
    · have hl3 := hk3.same _ _ (by omega) hlb rfl
      refine ⟨_, _, run_endRound (P := P) none hl3, .inl ⟨rfl, ⟨hI.putObj _ hi3 (by omega) hl3 rfl, World.putObj_heap_same (Array.getElem?_eq_some_iff.1 hl3).1, (World.putObj_heap_other (by omega)).trans (hk3.same _ _ (Nat.le_refl _) hkb rfl)⟩, hKt (hKt hkp1 hkp3) (hKb _ _ _ _ (by omega) hl3 rfl)⟩⟩
    · have hl3 := hk3.same _ _ (by omega) hlb rfl
      exact ⟨_, _, run_endRound (P := P) (some .ret) hl3, .inr ⟨rfl, hIx.putObj _ hi3 (by omega) hl3 rfl, World.putObj_heap_same (Array.getElem?_eq_some_iff.1 hl3).1, (World.putObj_heap_other (by omega)).trans (hk3.same _ _ (Nat.le_refl _) hkb rfl)⟩⟩
  · rintro e W2 ⟨⟨v, rfl⟩, (⟨xs, hS, hi, hl, hk⟩ | ⟨pre, hSp, hi, hl, hk⟩)⟩
    · exact ⟨none, _, run_endLoop (P := P) hl (by simp), hdone _ xs _ (Nat.le_refl _) hS (hI.putObj _ hi (by omega) hl rfl) ((World.putObj_heap_other (by omega)).trans hk)⟩
    · exact ⟨some .ret, _, run_endLoop (P := P) hl (by simp), hstop _ pre _ (Nat.le_refl _) hSp (hIx.putObj _ hi (by omega) hl rfl) ((World.putObj_heap_other (by omega)).trans hk)⟩
end Go.Proofs.Ytolognhjdmkohaa
namespace Go.Proofs.Ytolognhjdmkohaa
open Go.RowKit Go.Shelf
set_option linter.unusedVariables false
set_option linter.unusedSimpArgs false

def noDef (o : Oper) : Bool := match o.op with | .defer _ => false | _ => true
theorem noDef_ne {o : Oper} (h : noDef o = true) (c : Call) : o.op ≠ .defer c := by
  intro e
  unfold noDef at h
  rw [e] at h
  cases h
section
variable {F : Fence} {n : Nat} {P : Program} {ops : Array Oper} {Q : Exit → Act → World → Prop}
theorem wpIn_round {r : Nat} {o : Oper} {a : Act} {w : World} {K : Act → World → Prop} (hro : F.round = none) (hd : noDef o = true) (h : o.wpIn F n P a w K Q) : o.wpIn (F.inRound r) n P a w K Q := by
  unfold Oper.wpIn at *
  refine ⟨h.1, ?_⟩
  have h2 := h.2
  rw [hro, Oper.semAt_none] at h2
  rw [show (F.inRound r).round = some r from rfl, Oper.semAt_some r _ _ (noDef_ne hd)]
  exact h2
theorem wpOpsIn_round {r : Nat} (hro : F.round = none) (hd : ops.toList.all noDef = true) : ∀ (l : List Nat) (a : Act) (w : World), wpOpsIn F n P ops Q l a w → wpOpsIn (F.inRound r) n P ops Q l a w := by
  intro l
  induction l with
  | nil => intro a w h; exact h
  | cons i rest ih =>
    intro a w h
    rw [wpOpsIn_cons] at *
    have h := wpOpIn_mono (K' := wpOpsIn (F.inRound r) n P ops Q rest) ih h
    unfold wpOpIn at *
    cases ho : ops[i]? with
    | none => simp only [ho] at h ⊢; exact h
    | some o =>
      simp only [ho] at h ⊢
      have hno : noDef o = true := List.all_eq_true.1 hd o (by have := Array.mem_of_getElem? ho; simpa using this)
      split
      · rename_i hw; rw [if_pos hw] at h; exact wpIn_round hro hno h
      · rename_i hw; rw [if_neg hw] at h; exact h
theorem region_quiet_round {id r : Nat} {a : Act} {w : World} {l : List Oper} (hro : F.round = none) (hd : l.all noDef = true) (hm : P.follows .mixedOrders = true) (hB : Region.lexB .any l.toArray = true)
    (h : wpQuietIn F n P l.toArray (fun w' => ∃ n, w' = w.drewN n) (fun a' => ∀ w', (∃ n, w' = w.drewN n) → Q .normal a' w') l a) : (Code.region id l.toArray true).wpIn (F.inRound r) n P Q a w := by
  simp only [Region.lexB, Bool.and_eq_true] at hB
  refine wpIn_region_draw fun t => ?_
  refine wpOpsIn_round hro (by simpa using hd) _ _ _ ?_
  simp only [Region.schedule, hm, Bool.true_or, if_true]
  refine wpAnyIn_sound l.toArray.size t _ a _ (wpAnyIn_of_quiet (C := fun w' => ∃ n, w' = w.drewN n) (Q := fun a' => ∀ w', (∃ n, w' = w.drewN n) → Q .normal a' w') hro (fun _ w' hw' h => h w' hw') _ _ _ _ ⟨1, rfl⟩ ?_)
  have := wpAnyQIn_lex (F := F) (n := n) (C := fun w' => ∃ n, w' = w.drewN n) (md := .any) hB.1 l.toArray.toList 0 (Array.replicate l.toArray.size false) a (by simp) (by simpa using hB.2) (by simpa using h)
  simpa using this
end
end Go.Proofs.Ytolognhjdmkohaa
namespace Go.Proofs.Ytolognhjdmkohaa
open Go.RowKit
set_option linter.unusedVariables false
set_option linter.unusedSimpArgs false

/-- the paths, the nodes and their parts, in preorder -/
def walkF : List Int → VF → Nat → List (List Int × Nd × VF)
  | _, .nil, _ => []
  | path, .cons d p r, i => (path ++ [(i : Int)], d, p) :: (walkF (path ++ [(i : Int)]) p 0 ++ walkF path r (i + 1))
def walkL (path : List Int) (d : Nd) (p : VF) : List (List Int × Nd × VF) := (path, d, p) :: walkF path p 0
theorem walkF_snoc (path : List Int) (d : Nd) (p : VF) : ∀ (F : VF) (j : Nat), walkF path (F.snoc d p) j = walkF path F j ++ walkL (path ++ [((j + F.len : Nat) : Int)]) d p := by
  intro F
  induction F with
  | nil => intro j; simp [VF.snoc, walkF, walkL, VF.len]
  | cons d' p' r _ ih =>
    intro j
    simp only [VF.snoc, walkF, VF.len, ih (j + 1), List.cons_append, List.append_assoc]
    rw [show j + 1 + r.len = j + (r.len + 1) by omega]
theorem walkF_take (path : List Int) : ∀ (F : VF) (i j : Nat), walkF path (F.take i) j <+: walkF path F j := by
  intro F
  induction F with
  | nil => intro i j; cases i <;> exact List.prefix_refl _
  | cons d p r _ ih =>
    intro i j
    cases i with
    | zero => exact List.nil_prefix
    | succ i =>
      simp only [VF.take, walkF]
      exact List.prefix_cons_inj _ |>.2 ((List.prefix_append_right_inj _).2 (ih i (j + 1)))
theorem walkL_take (path : List Int) (d : Nd) (p : VF) (i : Nat) : walkL path d (p.take i) <+: (path, d, p.take i) :: walkF path p 0 := List.prefix_cons_inj _ |>.2 (walkF_take path p i 0)
def VF.ht : VF → Nat
  | .nil => 0
  | .cons _ p r => max (p.ht + 1) r.ht
theorem ht_at {F : VF} {i : Nat} {d : Nd} {p r : VF} (h : F.drop i = .cons d p r) : p.ht + 1 ≤ F.ht := by
  induction F generalizing i with
  | nil => cases i <;> cases h
  | cons d' p' r' _ ih =>
    cases i with
    | zero => cases h; simp only [VF.ht]; omega
    | succ i => have := ih (i := i) h; simp only [VF.ht]; omega
theorem chk_ht : ∀ (F : VF) (num lev m : Nat), chkF F num lev = .inr m → F.ht = 0 ∨ F.ht + lev ≤ 11 := by
  intro F
  induction F with
  | nil => intro num lev m _; exact .inl rfl
  | cons d p r ih1 ih2 =>
    intro num lev m h
    by_cases h1 : 600 ≤ num ∨ 10 < lev
    · rw [chkF_many h1] at h; cases h
    · by_cases h2 : nodeC d p.len ≠ 0
      · rw [chkF_node h1 h2] at h; cases h
      · cases hp : chkF p (num + 1) (lev + 1) with
        | inl f => rw [chkF_inl h1 h2 hp] at h; cases h
        | inr k =>
          rw [chkF_inr h1 h2 hp] at h
          have a := ih1 _ _ _ hp
          have b := ih2 _ _ _ h
          simp only [VF.ht]
          omega

/-- what a round keeps: all cells but those of the loop's own -/
def KpM (M : Nat → TypeId → Prop) (W W' : World) : Prop := W.heap.size ≤ W'.heap.size ∧ ∀ k cs t fr, W.heap[k]? = some (.cells cs t fr) → ¬ M k t → W'.heap[k]? = some (.cells cs t fr)
/-- a block of cells that is none of the loop's own -/
def Sm (M : Nat → TypeId → Prop) (W : World) (b : Nat) : Prop := ∃ cs t fr, W.heap[b]? = some (.cells cs t fr) ∧ ¬ M b t
theorem KpM.refl (M : Nat → TypeId → Prop) (W : World) : KpM M W W := ⟨Nat.le_refl _, fun _ _ _ _ h _ => h⟩
theorem KpM.trans {M : Nat → TypeId → Prop} {A B C : World} (h : KpM M A B) (k : KpM M B C) : KpM M A C := ⟨Nat.le_trans h.1 k.1, fun i cs t fr hi hm => k.2 i cs t fr (h.2 i cs t fr hi hm) hm⟩
theorem KpM.below {M : Nat → TypeId → Prop} {A B : World} (h : Below A.heap.size A B) : KpM M A B := ⟨h.size, fun k cs t fr hk _ => (h.block k (Array.getElem?_eq_some_iff.1 hk).1).trans hk⟩
theorem KpM.putObj {M : Nat → TypeId → Prop} (W : World) (l : Nat) (o o' : Obj) (h : W.heap[l]? = some o) (ho : o.isCells = false) : KpM M W (W.putObj l o') := by
  refine ⟨by simp, fun k cs t fr hk _ => ?_⟩
  refine (World.putObj_heap_other (fun e => ?_)).trans hk
  subst e
  rw [h] at hk
  cases hk
  cases ho
theorem Sm.kp {M : Nat → TypeId → Prop} {W W' : World} {b : Nat} (h : Sm M W b) (k : KpM M W W') : Sm M W' b := by
  obtain ⟨cs, t, fr, h, hm⟩ := h
  exact ⟨cs, t, fr, k.2 b cs t fr h hm, hm⟩
theorem Sm.cell {M : Nat → TypeId → Prop} {W W' : World} {q : Addr} (h : Sm M W q.block) (k : KpM M W W') : W'.cell? q = W.cell? q := by
  obtain ⟨cs, t, fr, h, hm⟩ := h
  unfold World.cell?
  rw [k.2 _ cs t fr h hm, h]
theorem Sm.lt {M : Nat → TypeId → Prop} {W : World} {b : Nat} (h : Sm M W b) : b < W.heap.size := by
  obtain ⟨cs, t, fr, h, hm⟩ := h
  exact (Array.getElem?_eq_some_iff.1 h).1
theorem VInS.kp {M : Nat → TypeId → Prop} {W W' : World} {v : Value} {d : Nd} {p : VF} (h : VInS W (Sm M W) v d p) (k : KpM M W W') : VInS W' (Sm M W') v d p := h.keep (fun q hq => hq.cell k) (fun b hb => hb.kp k)
theorem RdS.kp {M : Nat → TypeId → Prop} {W W' : World} {A : Option Addr} {n : Nat} {xs : List Value} (h : RdS W (Sm M W) A n xs) (k : KpM M W W') : RdS W' (Sm M W') A n xs := h.keep (fun q hq => hq.cell k) (fun b hb => hb.kp k)
theorem FInS.kp {M : Nat → TypeId → Prop} {W W' : World} {F : VF} {b o : Nat} (h : FInS W (Sm M W) F b o) (hb : Sm M W b) (k : KpM M W W') : FInS W' (Sm M W') F b o := FInS.keep (fun q hq => hq.cell k) (fun b hb => hb.kp k) F b o hb h
theorem Bx.kp {M : Nat → TypeId → Prop} {W W' : World} {g : Nat} {a b c d e : Value} (h : Bx W g a b c d e) (k : KpM M W W') (hm : ¬ M g 26) : Bx W' g a b c d e := k.2 g _ _ _ h hm
theorem RdS.row {M : Nat → TypeId → Prop} {w : World} {base e : Nat} {A : Option Addr} {n c : Nat} {xs : List Value} (h : w.ownsRow base e 1 (.slice A n c) n xs) (hm : ∀ k, base ≤ k → ¬ M k e) : RdS w (Sm M w) A n xs := by
  refine ⟨by have := h.1; omega, fun hn => ?_⟩
  obtain ⟨b, o, rfl, hb, hc⟩ := (Rd.of_own h).2 hn
  refine ⟨b, o, rfl, ?_, hc⟩
  rcases h.2 with ⟨hv, _⟩ | ⟨g, cap, cur, hv, hg, hh, _⟩
  · cases hv
  · injection hv with hv
    injection hv with hv
    injection hv with hv
    subst hv
    exact ⟨_, _, _, hh, hm b hg⟩
theorem FInS.at_ {w : World} {S : Nat → Prop} : ∀ (F : VF) (b o i : Nat) (d : Nd) (p r : VF), FInS w S F b o → F.drop i = .cons d p r → ∃ sb sn sp, Cells5 w b (o + i * 5) d sb sn sp ∧ HdS w S d p.len (FInS w S p) sb sn sp := by
  intro F
  induction F with
  | nil => intro b o i d p r _ h; cases i <;> cases h
  | cons d' p' r' _ ih =>
    intro b o i d p r hf h
    cases i with
    | zero => cases h; exact hf.1
    | succ i =>
      have := ih b (o + 5) i d p r hf.2 h
      rw [show o + (i + 1) * 5 = o + 5 + i * 5 by omega]
      exact this
theorem abides_below {β : Type} {B : Nat} {J : β → World → Prop} (h : AbidesFrom B J) {s : β} {W W' : World} (hj : J s W) (hb : Below W.heap.size W W') : J s W' :=
  h s W W' none hj ⟨hb.os, hb.tape, hb.output, hb.size, fun k hk _ => hb.block k hk⟩ (fun r e => by cases e)

/-- what a round is handed: a path and a node; beside them what they stand for -/
structure Wk where
  A : Option Addr
  n : Nat
  c : Nat
  Ab : Option Addr
  nb : Nat
  cb : Nat
  An : Option Addr
  nn : Nat
  cn : Nat
  Ap : Option Addr
  np : Nat
  cp : Nat
  path : List Int
  d : Nd
  p : VF
def Wk.v (x : Wk) : Value := .agg #[.int .i64 x.d.k, .int .i64 x.d.n, .slice x.Ab x.nb x.cb, .slice x.An x.nn x.cn, .slice x.Ap x.np x.cp]
def Wk.encs (x : Wk) : Array Value := #[.slice x.A x.n x.c, x.v]
def Wk.ghost (x : Wk) : List Int × Nd × VF := (x.path, x.d, x.p)
/-- what is known of it -/
def WPre (L : List (List Int × Nd × VF)) (B : Nat) (pre : List Wk) (x : Wk) (W : World) : Prop :=
  W.ownsRow B 3 1 (.slice x.A x.n x.c) x.n (iv x.path) ∧ VIn W W.heap.size x.v x.d x.p ∧ (pre ++ [x]).map Wk.ghost <+: L
/-- how a round is left -/
def YEnd (J Jx : List Wk → World → Prop) (M : Nat → TypeId → Prop) (pre : List Wk) (x : Wk) (W : World) (e : Ending) (W' : World) : Prop :=
  ∃ b, e = .returned (.bool b) ∧ (b = true → J (pre ++ [x]) W' ∧ KpM M W W') ∧ (b = false → Jx (pre ++ [x]) W')
/-- what walk answers -/
def WkEnd (J Jx : List Wk → World → Prop) (M : Nat → TypeId → Prop) (path : List Int) (d : Nd) (p : VF) (pre : List Wk) (W : World) (e : Ending) (W' : World) : Prop :=
  ∃ b xs, e = .returned (.bool b) ∧ (b = true → xs.map Wk.ghost = walkL path d p ∧ J (pre ++ xs) W' ∧ KpM M W W') ∧ (b = false → xs.map Wk.ghost <+: walkL path d p ∧ Jx (pre ++ xs) W')
def WkC (l : Nat) (J Jx : List Wk → World → Prop) (M : Nat → TypeId → Prop) (L : List (List Int × Nd × VF)) (d : Nd) (p : VF) : Prop :=
  NdFits d → Fits p → p.len ≤ 1048576 → ∀ (path : List Int) (pre : List Wk) (W : World) (v : Value) (A : Option Addr) (n c : Nat), VInS W (Sm M W) v d p → RdS W (Sm M W) A n (iv path) → n + p.ht ≤ 1000 → J pre W → pre.map Wk.ghost ++ walkL path d p <+: L →
    Calls Try.prog 60 #[v, .slice A n c, .func (.yield l) #[] #[]] W (WkEnd J Jx M path d p pre W)
theorem wk_pick {l : Nat} {J Jx : List Wk → World → Prop} {M : Nat → TypeId → Prop} {L : List (List Int × Nd × VF)} {F : VF} {i : Nat} {d : Nd} {p r : VF} (h : VF.All (WkC l J Jx M L) F) (hd : F.drop i = .cons d p r) (hf : Fits F) :
    ∀ (path : List Int) (pre : List Wk) (W : World) (v : Value) (A : Option Addr) (n c : Nat), VInS W (Sm M W) v d p → RdS W (Sm M W) A n (iv path) → n + p.ht ≤ 1000 → J pre W → pre.map Wk.ghost ++ walkL path d p <+: L →
    Calls Try.prog 60 #[v, .slice A n c, .func (.yield l) #[] #[]] W (WkEnd J Jx M path d p pre W) := by
  have h1 := VF.all_drop h i
  rw [hd] at h1
  have h2 := hf.at_ hd
  exact h1.1 h2.1 h2.2.2 h2.2.1
end Go.Proofs.Ytolognhjdmkohaa
