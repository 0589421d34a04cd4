import Derived.Test.YtgdiadednlajgaaGreatDoorP8
import Derived.Test.YtgdiadednlajgaaGreatDoorP9
import Derived.Test.YtgdiadednlajgaaGreatDoorP10
import Derived.Test.YtgdiadednlajgaaGreatDoorP3
import Derived.Lib.ItoaNum
import Derived.Lib.AtoiAll
import Derived.Lib.Join
import Derived.Lib.Split
import Derived.Lib.SplitLaws
import Derived.Test.YtgdiadednlajgaaGreatDoorP13
import Derived.Sort.Grow
import Derived.WalkSmall
namespace Go.Proofs.YtgdiadednlajgaaGreatDoor
open Go.RowKit
set_option linter.unusedVariables false
set_option linter.unusedSimpArgs false
abbrev ruC (r : Rl) (sb sn sp : Value) : List Value := [.string ⟨r.name.toArray⟩, .int .i64 r.kind, sb, .int .i64 r.size, .bool r.big, .int .i64 r.mn, .int .i64 r.mx, .int .i64 r.stop, .int .i64 r.count, .int .i64 r.elem, sn, sp]
structure RuL (W : World) (r : Rl) (Ab : Option Addr) (cb : Nat) (An : Option Addr) (cn : Nat) (Ap : Option Addr) (cp : Nat) : Prop where
  cb : r.bs.length ≤ cb
  cn : r.names.length ≤ cn
  cp : r.parts.length ≤ cp
  b : Rd W W.heap.size 1 Ab r.bs.length (bv r.bs)
  n : Rd W W.heap.size 1 An r.names.length (sv r.names)
  p : Rd W W.heap.size 1 Ap r.parts.length (iv r.parts)
theorem RuL.on {W w : World} {r : Rl} {Ab An Ap : Option Addr} {cb cn cp : Nat} (h : RuL W r Ab cb An cn Ap cp) (hb : Below W.heap.size W w) : RuL w r Ab cb An cn Ap cp :=
  ⟨h.cb, h.cn, h.cp, (h.b.below hb).more hb.size, (h.n.below hb).more hb.size, (h.p.below hb).more hb.size⟩
theorem RuSl.lists {W : World} {r : Rl} {sb sn sp : Value} (h : RuSl W W.heap.size r sb sn sp) : ∃ Ab cb An cn Ap cp, sb = .slice Ab r.bs.length cb ∧ sn = .slice An r.names.length cn ∧ sp = .slice Ap r.parts.length cp ∧ RuL W r Ab cb An cn Ap cp := by
  obtain ⟨Ab, nb, cb, An, nn, cn, Ap, np, cp, rfl, rfl, rfl, h1, h2, h3, h4, h5, h6⟩ := h
  have e1 : r.bs.length = nb := by have := h4.len; rw [bv_len] at this; exact this
  have e2 : r.names.length = nn := by have := h5.len; rw [sv_len] at this; exact this
  have e3 : r.parts.length = np := by have := h6.len; rw [iv_len] at this; exact this
  subst e1
  subst e2
  subst e3
  exact ⟨Ab, cb, An, cn, Ap, cp, rfl, rfl, rfl, h1, h2, h3, h4, h5, h6⟩
theorem Cells12.range {w : World} {b o : Nat} {r : Rl} {sb sn sp : Value} (h : Cells12 w b o r sb sn sp) : w.rangeAt b o (ruC r sb sn sp) := by
  obtain ⟨h0, h1, h2, h3, h4, h5, h6, h7, h8, h9, h10, h11⟩ := h
  intro j v hv
  match j, hv with
  | 0, hv => cases hv; exact h0
  | 1, hv => cases hv; exact h1
  | 2, hv => cases hv; exact h2
  | 3, hv => cases hv; exact h3
  | 4, hv => cases hv; exact h4
  | 5, hv => cases hv; exact h5
  | 6, hv => cases hv; exact h6
  | 7, hv => cases hv; exact h7
  | 8, hv => cases hv; exact h8
  | 9, hv => cases hv; exact h9
  | 10, hv => cases hv; exact h10
  | 11, hv => cases hv; exact h11
  | j + 12, hv => cases hv
theorem FmIn.rule {W : World} {A : Option Addr} {n i : Nat} {F : List Rl} (h : FmIn W W.heap.size A n F) (hi : i < n) : ∃ b o r Ab cb An cn Ap cp, A = some ⟨b, o, none⟩ ∧ F[i]? = some r ∧ W.rangeAt b (o + i * 12) (ruC r (.slice Ab r.bs.length cb) (.slice An r.names.length cn) (.slice Ap r.parts.length cp)) ∧ RuL W r Ab cb An cn Ap cp := by
  obtain ⟨b, o, r, sb, sn, sp, e, hb, hr, hc, hs⟩ := h.at_ hi
  obtain ⟨Ab, cb, An, cn, Ap, cp, rfl, rfl, rfl, hl⟩ := hs.lists
  exact ⟨b, o, r, Ab, cb, An, cn, Ap, cp, e, hr, hc.range, hl⟩
structure RSm (r : Rl) : Prop where
  name : r.name.length ≤ 1048576
  bs : r.bs.length ≤ 1048576
  names : r.names.length ≤ 1048576
  parts : r.parts.length ≤ 1048576
  each : ∀ s ∈ r.names, s.length ≤ 1048576
def FSm (F : List Rl) : Prop := F.length ≤ 1048576 ∧ ∀ r ∈ F, RSm r
theorem Wd.range_old {M : List Nat} {W w : World} {O : List Atom} {b q : Nat} {cs : List Value} (hr : W.rangeAt b q cs) (hM : b ∉ M) (h : Wd M W O w) : w.rangeAt b q cs := fun j v hv => h.cell_old (hr j v hv) hM
theorem Wd.cell_range {M : List Nat} {W w : World} {O : List Atom} {b q j : Nat} {cs : List Value} {v : Value} (hr : W.rangeAt b q cs) (hv : cs[j]? = some v) (hM : b ∉ M) (h : Wd M W O w) : w.cell? ⟨b, q + j, none⟩ = some v := h.cell_old (hr j v hv) hM
section
variable {P : Program} {ops : Array Oper} {C : World → Prop} {N : Nat} {E : Env} {o : Oper} {d : Nat}
theorem o_indexAddrI {t e : TypeId} {x y : Operand} {b q n c s bytes : Nat} {k : IntKind} {m : Int} [hT : Sl P t e s bytes] (ho : o.op = .indexAddr t x y) (hd : o.dst = some d) (hN : d < N) (hw : wantE ops E o = some true) (hx : ev E x = some (.slice (some ⟨b, q, none⟩) n c)) (hy : ev E y = some (.int k m)) (hj : 0 ≤ m ∧ m < n) : oE P ops C N E ((d, .pointer (some ⟨b, q + m.toNat * s, none⟩)) :: E) o := by
  obtain ⟨j, rfl⟩ : ∃ j : Nat, m = (j : Int) := ⟨m.toNat, by omega⟩
  exact o_indexAddr ho hd hN hw hx hy (by omega)
theorem o_indexAddrI1 {t e : TypeId} {x y : Operand} {b q n c bytes : Nat} {k : IntKind} {m : Int} [hT : Sl P t e 1 bytes] (ho : o.op = .indexAddr t x y) (hd : o.dst = some d) (hN : d < N) (hw : wantE ops E o = some true) (hx : ev E x = some (.slice (some ⟨b, q, none⟩) n c)) (hy : ev E y = some (.int k m)) (hj : 0 ≤ m ∧ m < n) : oE P ops C N E ((d, .pointer (some ⟨b, q + m.toNat, none⟩)) :: E) o := by
  have := o_indexAddrI (P := P) (C := C) ho hd hN hw hx hy hj
  rwa [Nat.mul_one] at this
end
def ruleC (r : Rl) (early : List Rl) (n : Nat) : Int :=
  if !(isName r.name) then 7
  else if decide (0 ≤ findR early r.name) then 8
  else if !(inB r.kind 1 10) then 5
  else if !(formedB r.kind r.size r.big r.mn r.mx r.stop r.count r.elem r.bs.length r.names.length r.parts.length) then 6
  else if r.kind == 1 && ((r.bs.length : Int) == 0) then 10
  else if decide (16 < (r.bs.length : Int)) then 3
  else if r.kind == 7 && ((r.names.length : Int) != (r.parts.length : Int)) then 9
  else if (r.kind == 7 && ((r.parts.length : Int) == 0)) then 10
  else if (r.kind == 8 && decide ((r.parts.length : Int) < 2)) then 10
  else if decide (12 < (r.parts.length : Int)) then 2
  else if !(rangesB r.kind r.size r.mn r.mx r.stop r.count r.elem r.parts n) then 4
  else 0
theorem ranges_calls {a0 : Value} {k size mn mx stop count elem : Int} {big : Bool} {Ab An Ap : Option Addr} {nb cb nn cn np cp n : Nat} {parts : List Int} {w : World} (hk : inB k 1 10 = true) (hn : n ≤ 1048576) (hp : Rd w w.heap.size 1 Ap np (iv parts)) (hnp : np ≤ 1048576) :
    Calls Tryz.prog 91 #[.agg #[a0, .int .i64 k, .slice Ab nb cb, .int .i64 size, .bool big, .int .i64 mn, .int .i64 mx, .int .i64 stop, .int .i64 count, .int .i64 elem, .slice An nn cn, .slice Ap np cp], .int .i64 (n : Int)] w fun e w' => e = .returned (.bool (rangesB k size mn mx stop count elem parts n)) ∧ Below w.heap.size w w' := by
  have hk' : 1 ≤ k ∧ k ≤ 10 := by unfold inB at hk; simpa using hk
  rcases (show k = 1 ∨ k = 2 ∨ k = 3 ∨ k = 4 ∨ k = 5 ∨ k = 6 ∨ k = 7 ∨ k = 8 ∨ k = 9 ∨ k = 10 by omega) with rfl | rfl | rfl | rfl | rfl | rfl | rfl | rfl | rfl | rfl
  · exact ranges_1 w hn hp hnp
  · exact ranges_2 w hn
  · exact ranges_3 w hn
  · exact ranges_4 w hn
  · exact ranges_5 w hn
  · exact ranges_6 w hn
  · exact ranges_7 w hn hp hnp
  · exact ranges_8 w hn hp hnp
  · exact ranges_9 w hn
  · exact ranges_10 w hn
end Go.Proofs.YtgdiadednlajgaaGreatDoor
namespace Go.Proofs.YtgdiadednlajgaaGreatDoor
set_option linter.unusedVariables false
def kindWs : List (List UInt8) := [[108, 105, 116, 101, 114, 97, 108], [110, 117, 109, 98, 101, 114], [100, 101, 99, 105, 109, 97, 108], [98, 121, 116, 101, 115], [117, 110, 116, 105, 108], [99, 111, 117, 110, 116, 101, 100], [115, 101, 113, 117, 101, 110, 99, 101], [99, 104, 111, 105, 99, 101], [114, 101, 112, 101, 97, 116], [98, 108, 111, 98]]
def kindW (k : Int) : List UInt8 := kindWs.getD (k - 1).toNat []
def hx (n : Nat) : UInt8 := UInt8.ofNat (if n < 10 then 48 + n else 87 + n)
def hexB (c : UInt8) : List UInt8 := [hx (c.toNat / 16), hx (c.toNat % 16)]
def hexL (bs : List UInt8) : List UInt8 := (bs.map hexB).flatten
def nmAt (F : List Rl) (x : Int) : List UInt8 := match F[x.toNat]? with | some r => r.name | none => []
theorem nmAt_eq {F : List Rl} {x : Int} {r : Rl} (h : F[x.toNat]? = some r) : nmAt F x = r.name := by unfold nmAt; rw [h]
def bigW : List UInt8 := [98, 105, 103]
def littleW : List UInt8 := [108, 105, 116, 116, 108, 101]
def partW (F : List Rl) (r : Rl) (i : Nat) : List UInt8 := (if r.kind == 7 then (if r.names.getD i [] == [] then [45] else r.names.getD i []) ++ [58] else []) ++ nmAt F (r.parts.getD i 0)
def ifW (u : Bool) (s : List UInt8) : List (List UInt8) := if u then [s] else []
def headWs (F : List Rl) (r : Rl) : List (List UInt8) :=
  [r.name, kindW r.kind] ++ ifW (r.kind == 1) (hexL r.bs) ++ ifW (useStop r.kind) (Lib.itoa r.stop) ++ ifW (useSize r.kind) (Lib.itoa r.size) ++ ifW (r.kind == 2) (if r.big then bigW else littleW) ++ ifW (r.kind == 2) (Lib.itoa r.mn) ++ ifW (useMax r.kind) (Lib.itoa r.mx) ++ ifW (useCount r.kind) (nmAt F r.count) ++ ifW (useOf r.kind) (nmAt F r.elem)
def lineWs (F : List Rl) (r : Rl) : List (List UInt8) := headWs F r ++ (List.range r.parts.length).map (partW F r)
def lineB (F : List Rl) (r : Rl) : List UInt8 := Lib.join (lineWs F r) [32] ++ [10]
def textF (F : List Rl) : List UInt8 := (F.map (lineB F)).flatten
structure Rs where
  ws : List (List UInt8)
  bad : Bool
  ns : List (List UInt8)
def atoiV (x : List UInt8) : Int := match Lib.atoiAll x with | .ok v => v | .syntax => 0 | .range => Lib.atoiSat x
def numOk (x : List UInt8) : Bool := match Lib.atoiAll x with | .ok v => !(decide (10 < x.length)) && (!(decide (v < 0)) && Lib.itoa v == x) | _ => false
def hxAt (c : UInt8) : Int := if 48 ≤ c.toNat ∧ c.toNat ≤ 57 then (c.toNat : Int) - 48 else if 97 ≤ c.toNat ∧ c.toNat ≤ 102 then (c.toNat : Int) - 87 else -1
def hxByte (a b : UInt8) : UInt8 := UInt8.ofNat (((hxAt a) * 16 + hxAt b) % 256).toNat
def unhex : List UInt8 → Option (List UInt8)
  | [] => some []
  | [_] => none
  | a :: b :: l => if hxAt a < 0 ∨ hxAt b < 0 then none else (unhex l).map (hxByte a b :: ·)
end Go.Proofs.YtgdiadednlajgaaGreatDoor
namespace Go.Proofs.YtgdiadednlajgaaGreatDoor
set_option linter.unusedVariables false
def consF (b : UInt8) : List (List UInt8) → List (List UInt8)
  | [] => [[b]]
  | w :: t => (b :: w) :: t
def spl (c : UInt8) : List UInt8 → List (List UInt8)
  | [] => [[]]
  | b :: l => if b = c then [] :: spl c l else consF b (spl c l)
theorem index_eq (c : UInt8) (l : List UInt8) : Lib.index (c :: l) [c] = 0 := by
  unfold Lib.index
  simp [List.isPrefixOf]
theorem index_ne {b c : UInt8} (h : b ≠ c) (l : List UInt8) : Lib.index (b :: l) [c] = if Lib.index l [c] = -1 then -1 else Lib.index l [c] + 1 := by
  have hp : ([c] : List UInt8).isPrefixOf (b :: l) = false := by simp [List.isPrefixOf, Ne.symm h]
  rw [Lib.index, hp]
  simp
theorem splitK_cons {b c : UInt8} (h : b ≠ c) (l : List UInt8) : ∀ k, Lib.splitK [c] 0 k (b :: l) = consF b (Lib.splitK [c] 0 k l)
  | 0 => rfl
  | k + 1 => by
    unfold Lib.splitK
    rw [index_ne h]
    by_cases hi : Lib.index l [c] = -1
    · rw [hi]; rfl
    · have hge := Lib.index_ge l [c]
      rw [if_neg hi, if_neg (by rw [beq_iff_eq]; omega), if_neg (by rw [beq_iff_eq]; exact hi)]
      have e : (Lib.index l [c] + 1).toNat = (Lib.index l [c]).toNat + 1 := by omega
      rw [e]
      rfl
theorem split_eq (c : UInt8) : ∀ s : List UInt8, Lib.split s [c] = spl c s
  | [] => rfl
  | b :: l => by
    unfold spl
    by_cases h : b = c
    · subst h
      rw [if_pos rfl]
      unfold Lib.split
      rw [Lib.count_cons_eq, Nat.add_comm, Lib.splitK, index_eq, if_neg (by decide)]
      rw [← split_eq b l]
      rfl
    · rw [if_neg h, ← split_eq c l]
      unfold Lib.split
      rw [Lib.count_cons_ne b c l h, splitK_cons h]
def cutL (c : UInt8) : List UInt8 → List UInt8 × List UInt8 × Bool
  | [] => ([], [], false)
  | b :: l => if b = c then ([], l, true) else (b :: (cutL c l).1, (cutL c l).2)
theorem cut_eq (c : UInt8) : ∀ s : List UInt8, Lib.cut s [c] = cutL c s
  | [] => rfl
  | b :: l => by
    unfold cutL
    by_cases h : b = c
    · subst h
      rw [if_pos rfl]
      unfold Lib.cut
      rw [index_eq, if_pos (by decide)]
      rfl
    · rw [if_neg h, ← cut_eq c l]
      unfold Lib.cut
      rw [index_ne h]
      by_cases hi : Lib.index l [c] = -1
      · rw [hi]; rfl
      · have hge := Lib.index_ge l [c]
        rw [if_neg hi, if_pos (by omega), if_pos (by omega)]
        have e : (Lib.index l [c] + 1).toNat = (Lib.index l [c]).toNat + 1 := by omega
        have e2 : (Lib.index l [c]).toNat + 1 + [c].length = ((Lib.index l [c]).toNat + [c].length) + 1 := by omega
        rw [e, e2]
        rfl
theorem cutL_yes {c : UInt8} : ∀ {s t r : List UInt8}, cutL c s = (t, r, true) → spl c s = t :: spl c r ∧ s = t ++ c :: r ∧ c ∉ t
  | [], t, r, h => by cases h
  | b :: l, t, r, h => by
    unfold cutL at h
    rw [show spl c (b :: l) = if b = c then [] :: spl c l else consF b (spl c l) from rfl]
    by_cases hb : b = c
    · rw [if_pos hb] at h ⊢
      cases h
      exact ⟨rfl, by rw [hb]; rfl, by simp⟩
    · rw [if_neg hb] at h ⊢
      have h1 : b :: (cutL c l).1 = t := congrArg (·.1) h
      have h2 : (cutL c l).2 = (r, true) := congrArg (·.2) h
      have := cutL_yes (s := l) (t := (cutL c l).1) (r := r) (by rw [← h2])
      rw [this.1, ← h1]
      refine ⟨rfl, by rw [List.cons_append, ← this.2.1], ?_⟩
      intro hm
      rcases List.mem_cons.1 hm with e | e
      · exact hb e.symm
      · exact this.2.2 e
theorem cutL_no {c : UInt8} : ∀ {s t r : List UInt8}, cutL c s = (t, r, false) → spl c s = [s] ∧ t = s ∧ r = [] ∧ c ∉ s
  | [], t, r, h => by cases h; exact ⟨rfl, rfl, rfl, by simp⟩
  | b :: l, t, r, h => by
    unfold cutL at h
    unfold spl
    by_cases hb : b = c
    · rw [if_pos hb] at h; cases h
    · rw [if_neg hb] at h ⊢
      have h1 : b :: (cutL c l).1 = t := congrArg (·.1) h
      have h2 : (cutL c l).2 = (r, false) := congrArg (·.2) h
      have := cutL_no (s := l) (t := (cutL c l).1) (r := r) (by rw [← h2])
      rw [this.1, ← h1]
      refine ⟨rfl, by rw [this.2.1], this.2.2.1, ?_⟩
      intro hm
      rcases List.mem_cons.1 hm with e | e
      · exact hb e.symm
      · exact this.2.2.2 e
theorem spl_one {c : UInt8} : ∀ {x : List UInt8}, c ∉ x → spl c x = [x]
  | [], _ => rfl
  | b :: l, h => by
    unfold spl
    rw [if_neg (fun e => h (by rw [e]; exact List.mem_cons_self)), spl_one fun hm => h (List.mem_cons_of_mem _ hm)]
    rfl
theorem spl_app {c : UInt8} : ∀ {x : List UInt8} (s : List UInt8), c ∉ x → spl c (x ++ c :: s) = x :: spl c s
  | [], s, _ => by
    show spl c (c :: s) = _
    rw [spl, if_pos rfl]
  | b :: l, s, h => by
    show spl c (b :: (l ++ c :: s)) = _
    rw [spl, if_neg (fun e => h (by rw [e]; exact List.mem_cons_self)), spl_app s fun hm => h (List.mem_cons_of_mem _ hm)]
    rfl
theorem spl_ne (c : UInt8) : ∀ s : List UInt8, spl c s ≠ []
  | [] => by simp [spl]
  | b :: l => by
    unfold spl
    split
    · simp
    · cases spl c l <;> simp [consF]
theorem joinTail_cons (sep y : List UInt8) (r : List (List UInt8)) : Lib.joinTail sep (y :: r) = sep ++ (y ++ Lib.joinTail sep r) := by
  unfold Lib.joinTail
  rw [List.map_cons, List.flatten_cons, List.append_assoc]
theorem spl_join {c : UInt8} : ∀ (x : List UInt8) (r : List (List UInt8)), (∀ w ∈ x :: r, c ∉ w) → spl c (Lib.join (x :: r) [c]) = x :: r
  | x, [], h => by
    rw [Lib.join_one]
    exact spl_one (h x List.mem_cons_self)
  | x, y :: r, h => by
    rw [Lib.join_cons, joinTail_cons]
    have ih := spl_join y r fun w hw => h w (List.mem_cons_of_mem _ hw)
    rw [Lib.join_cons] at ih
    show spl c (x ++ c :: (y ++ Lib.joinTail [c] r)) = _
    rw [spl_app _ (h x List.mem_cons_self), ih]
theorem join_consF (b : UInt8) (c : List UInt8) : ∀ l : List (List UInt8), l ≠ [] → Lib.join (consF b l) c = b :: Lib.join l c
  | [], h => absurd rfl h
  | w :: t, _ => by
    show Lib.join ((b :: w) :: t) c = _
    rw [Lib.join_cons, Lib.join_cons]
    rfl
theorem join_spl (c : UInt8) : ∀ s : List UInt8, Lib.join (spl c s) [c] = s
  | [] => Lib.join_one _ _
  | b :: l => by
    unfold spl
    by_cases h : b = c
    · rw [if_pos h]
      have ih := join_spl c l
      cases hs : spl c l with
      | nil => exact absurd hs (spl_ne c l)
      | cons w t =>
        rw [hs, Lib.join_cons] at ih
        rw [Lib.join_cons, joinTail_cons, ih, h]
        rfl
    · rw [if_neg h, join_consF _ _ _ (spl_ne c l), join_spl c l]
end Go.Proofs.YtgdiadednlajgaaGreatDoor
namespace Go.Proofs.YtgdiadednlajgaaGreatDoor
open Go.RowKit
set_option linter.unusedVariables false
structure GV (w : World) : Prop where
  pow : Lib.TabIs Tryz.prog w "internal/strconv.uint64pow10" .u64 Lib.pow10Tab
  sp : Lib.TabIs Tryz.prog w "strings.asciiSpace" .u8 Lib.asciiSpaceTab
  ml : ∃ m, w.cell? ⟨2, 0, none⟩ = some (.int .i64 m)
  e1 : ∃ te pe, w.cell? ⟨4, 0, none⟩ = some (.iface te pe)
  e2 : ∃ te pe, w.cell? ⟨5, 0, none⟩ = some (.iface te pe)
theorem cell_keep {w w' : World} {p : Addr} {v : Value} (h : w.cell? p = some v) (hb : Below w.heap.size w w') : w'.cell? p = some v := (hb.cell (fm_sm h)).trans h
theorem tab_keep {n : String} {g : Nat} {k : IntKind} {zs : List Int} {w w' : World} (hg : Tryz.prog.globalNamed n = some g) (h : Lib.TabIs Tryz.prog w n k zs) (h0 : 0 < zs.length) (hb : Below w.heap.size w w') : Lib.TabIs Tryz.prog w' n k zs :=
  var?_below hb hg (fm_sm (h.cell hg 0 h0)) h
theorem GV.on {w w' : World} (h : GV w) (hb : Below w.heap.size w w') : GV w' :=
  ⟨tab_keep (g := 3) (by kernel_rfl) h.pow (by rw [Lib.pow10Tab_length]; decide) hb, tab_keep (g := 0) (by kernel_rfl) h.sp (by rw [Lib.asciiSpaceTab_length]; decide) hb, h.ml.imp fun m hm => cell_keep hm hb, by
    obtain ⟨a, b, hc⟩ := h.e1
    exact ⟨a, b, cell_keep hc hb⟩, by
    obtain ⟨a, b, hc⟩ := h.e2
    exact ⟨a, b, cell_keep hc hb⟩⟩
theorem below_more (w : World) (os : Array Obj) : Below w.heap.size w { w with heap := w.heap ++ os } := ⟨rfl, rfl, rfl, by simp, fun k hk => by simp only; rw [Array.getElem?_append_left hk]⟩
theorem itoa_calls {w : World} (hg : GV w) {n : Int} (h0 : -9223372036854775808 ≤ n) (h1 : n ≤ 9223372036854775807) : Calls Tryz.prog 67 #[.int .i64 n] w fun e w' => e = .returned (.string ⟨(Lib.itoa n).toArray⟩) ∧ Below w.heap.size w w' := by
  refine (Tryz.strconv_Itoa n h0 h1 w hg.pow).mono ?_
  rintro e w' ⟨rfl, k, os, rfl⟩
  exact ⟨rfl, Below.trans (below_drewN w k) (below_more (w.drewN k) os)⟩
theorem sjoin_calls {w : World} {A : Option Addr} {n c : Nat} {ws : List (List UInt8)} (hr : Rd w w.heap.size 1 A n (sv ws)) (hc : n ≤ c) (hn : n ≤ 1048576) (hl : (Lib.join ws [32]).length ≤ 1000000) : Calls Tryz.prog 72 #[.slice A n c, .string ⟨#[32]⟩] w fun e w' => e = .returned (.string ⟨(Lib.join ws [32]).toArray⟩) ∧ Below w.heap.size w w' := by
  have hlen : ws.length = n := by have := hr.len; rw [sv_len] at this; exact this
  by_cases h0 : 0 < n
  · obtain ⟨b, o, rfl, hb, hcells⟩ := hr.2 h0
    have hmap : (ws.map fun l => (⟨l.toArray⟩ : ByteArray)).map (fun s => s.data.toList) = ws := by
      rw [List.map_map]
      exact List.map_id'' (fun l => by simp) ws
    have h := Tryz.strings_Join b o c (ws.map fun l => ⟨l.toArray⟩) ⟨#[32]⟩ w (fun j x hx => hcells j _ (by
      unfold sv
      rw [List.getElem?_map] at hx ⊢
      cases hw : ws[j]? with
      | none => rw [hw] at hx; cases hx
      | some l => rw [hw] at hx; cases hx; rfl)) hb (by rw [List.length_map]; omega) (by rw [List.length_map]; omega) (by rw [hmap]; show (Lib.join ws [32]).length ≤ _; omega)
    rw [hmap, List.length_map, hlen] at h
    exact h
  · obtain rfl : n = 0 := by omega
    obtain rfl : ws = [] := List.eq_nil_of_length_eq_zero hlen
    exact (Tryz.strings_Join_none A c ⟨#[32]⟩ w).mono fun e w' ⟨he, hw⟩ => ⟨by rw [he]; rfl, hw ▸ Below.refl _ _⟩
end Go.Proofs.YtgdiadednlajgaaGreatDoor
