/-
  Arguments opened: byte strings, lists of numbers, lists of byte strings that came in, as the walks ask for them.
-/
/-
  Values that came in, opened.
-/
import Derived.Test.YtolognhjdmkohaaRows
import Derived.Test.YtolognhjdmkohaaJ1
import Derived.ProofKit
import Derived.OpenShut
import Derived.ShutString
import Derived.ChangeOld
import Derived.SizedLaws
import Derived.JoinedCond
import Derived.Deep.Slices
import Derived.Test.YtolognhjdmkohaaJ17
import Derived.SliceStrings
namespace Go.Proofs.Ytolognhjdmkohaa
set_option linter.unusedVariables false
set_option linter.unusedSimpArgs false
open Go.ChangeShapes Go.WideShapes Go.ChangeAt Go.RowKit Go.Deep

theorem own : ownKnob Try.prog.godebug = none := by kernel_rfl
theorem laidOut : laidOutB Try.prog = true := by kernel_rfl

section
variable {H : Type} {enc : TypeId × Value → H} {W : World} {base : Nat} {v : Value} {d : DataW H} {p : List MemPlace}

theorem bulk_one (d : DataW H) : 1 ≤ Rows.uptoBulk d := by
  cases d with
  | lit l => cases l <;> simp [Rows.uptoBulk]
  | nil => simp [Rows.uptoBulk]
  | ptr d => simp [Rows.uptoBulk]
  | slice elems spare => simp [Rows.uptoBulk]
  | agg parts => simp [Rows.uptoBulk]
  | iface t d => simp [Rows.uptoBulk]
  | map entries => simp [Rows.uptoBulk]
  | held h => simp [Rows.uptoBulk]
theorem bulk_len (l : List (DataW H)) : l.length ≤ Rows.uptoBulkAll l := by
  induction l with
  | nil => simp [Rows.uptoBulkAll]
  | cons x r ih => have := bulk_one x; simp only [Rows.uptoBulkAll, List.length_cons]; omega
theorem bulk_app (l r : List (DataW H)) : Rows.uptoBulkAll (l ++ r) = Rows.uptoBulkAll l + Rows.uptoBulkAll r := by
  induction l with
  | nil => simp [Rows.uptoBulkAll]
  | cons x l ih => simp only [List.cons_append, Rows.uptoBulkAll, ih]; omega
theorem bulk_small {l : List (DataW H)} (hk : Rows.uptoSmall H l = true) : Rows.uptoBulkAll l ≤ 1048576 := of_decide_eq_true hk

/-- cells of a row that came in -/
theorem rd_of_ints {k : IntKind} {a : Addr} {len cap : Nat} {zs : List Int} (hl : len ≤ cap) (hz : zs.length = cap) (hc : ∀ i, i < zs.length → W.cell? (a.add i) = some (.int k (zs.getD i 0))) :
    Rd W W.heap.size 1 (some a) len ((zs.take len).map (Value.int k)) := by
  refine ⟨by simp; omega, fun hn => ?_⟩
  have h0 := hc 0 (by omega)
  have hs : a.spot = none := by simpa [Addr.add] using World.cell?_spot h0
  obtain ⟨b, o, sp⟩ := a
  simp only at hs
  subst hs
  refine ⟨b, o, rfl, World.block_lt_of_cell? W _ (by simpa [Addr.add] using h0), fun j u hu => ?_⟩
  rw [List.getElem?_map, List.getElem?_take] at hu
  split at hu
  · rename_i hj
    have hjl : j < zs.length := by omega
    have := hc j hjl
    rw [List.getElem?_eq_getElem hjl] at hu
    simp only [Option.map_some, Option.some.injEq] at hu
    subst hu
    have e : (⟨b, o, none⟩ : Addr).add j = ⟨b, o + j, none⟩ := by unfold Addr.add; split <;> simp_all
    rw [e] at this
    rw [this]
    simp [List.getD, List.getElem?_eq_getElem hjl]
  · simp at hu

theorem bytes_of_ints (zs : List Int) (h : ∀ n ∈ zs, (Lit.int .u8 n).wf = true) : ∃ bs : List UInt8, bs.length = zs.length ∧ zs.map (Value.int .u8) = bv bs := by
  refine ⟨zs.map fun z => UInt8.ofNat z.toNat, by simp, ?_⟩
  unfold bv
  rw [List.map_map]
  refine List.map_congr_left fun z hz => ?_
  have := bounds_u8 (h z hz)
  have e : (UInt8.ofNat z.toNat).toNat = z.toNat := by rw [UInt8.toNat_ofNat']; exact Nat.mod_eq_of_lt (by omega)
  simp only [Function.comp_apply, e]
  congr 1
  omega

set_option maxRecDepth 100000 in
/-- a byte string that came in -/
theorem open_bytes (hv : Value.okWide Try.prog W .any base 22 v) (h : DataW.Trod enc Try.prog W 0 (fun _ => true) true 22 v d p) :
    ∃ (A : Option Addr) (n c : Nat) (bs : List UInt8), v = .slice A n c ∧ Rd W W.heap.size 1 A n (bv bs) ∧ n ≤ c ∧ c ≤ maxLen ∧ bs.length = n ∧ n + 1 ≤ Rows.uptoBulk d ∧
      (∀ {ts : List TypeId} {ds : List (DataW H)} {j : Nat}, (DataW.weightsEach Try.prog ts ds).all (· ≤ reachBytes) = true → ts[j]? = some 22 → ds[j]? = some d → n ≤ 140737488351232) := by
  obtain ⟨a0, len, cap, rfl⟩ := okWide_slice Try.underlying22 hv
  obtain ⟨fuel, hf⟩ := h
  rcases open_ints Try.underlying22 Try.underlying5 (by kernel_rfl) hf with ⟨hcs, hx⟩ | ⟨x, l, c, zs, hcs, _, hl, hm, hz, hx, hcell, hwz⟩
  · simp [Value.cells] at hcs
    obtain ⟨rfl, rfl, rfl⟩ := hcs
    exact ⟨none, 0, 0, [], rfl, Rd.nil_, Nat.le_refl _, by simp [maxLen], rfl, bulk_one d, fun _ _ _ => by omega⟩
  · simp [Value.cells] at hcs
    obtain ⟨rfl, rfl, rfl⟩ := hcs
    simp only [Prod.mk.injEq] at hx
    obtain ⟨rfl, _⟩ := hx
    have hz' : zs.length = cap := by simpa using hz
    have hr := rd_of_ints hl hz' hcell
    obtain ⟨bs, hbl, hbe⟩ := bytes_of_ints (zs.take len) (fun n hn => hwz n (List.mem_of_mem_take hn))
    rw [hbe] at hr
    have hbl' : bs.length = len := by rw [hbl, List.length_take]; omega
    refine ⟨_, _, _, bs, rfl, hr, hl, hm, hbl', ?_, fun hsz ht hd => ?_⟩
    · have h1 := bulk_len (lits (H := H) .u8 (zs.take len))
      simp only [Rows.uptoBulk]
      simp only [lits, List.length_map, List.length_take] at h1
      simp only [lits]
      omega
    · have := sized_slice hsz ht hd Try.underlying22
      rw [show Try.prog.bytesOf 5 = 1 by kernel_rfl] at this
      simp only [lits, List.length_map, List.length_take, List.length_drop, reachBytes] at this
      omega

set_option maxRecDepth 100000 in
/-- a list of numbers that came in -/
theorem open_numbers (hv : Value.okWide Try.prog W .any base 46 v) (h : DataW.Trod enc Try.prog W 0 (fun _ => true) true 46 v d p) :
    ∃ (A : Option Addr) (n c : Nat) (xs : List Int), v = .slice A n c ∧ Rd W W.heap.size 1 A n (xs.map (Value.int .i64)) ∧ n ≤ c ∧ c ≤ maxLen ∧ xs.length = n ∧ n + 1 ≤ Rows.uptoBulk d ∧ ∀ x ∈ xs, -9223372036854775808 ≤ x ∧ x ≤ 9223372036854775807 := by
  obtain ⟨a0, len, cap, rfl⟩ := okWide_slice Try.underlying46 hv
  obtain ⟨fuel, hf⟩ := h
  rcases open_ints Try.underlying46 Try.underlying3 (by kernel_rfl) hf with ⟨hcs, hx⟩ | ⟨x, l, c, zs, hcs, _, hl, hm, hz, hx, hcell, hwz⟩
  · simp [Value.cells] at hcs
    obtain ⟨rfl, rfl, rfl⟩ := hcs
    exact ⟨none, 0, 0, [], rfl, Rd.nil_, Nat.le_refl _, by simp [maxLen], rfl, bulk_one d, fun _ h => by cases h⟩
  · simp [Value.cells] at hcs
    obtain ⟨rfl, rfl, rfl⟩ := hcs
    simp only [Prod.mk.injEq] at hx
    obtain ⟨rfl, _⟩ := hx
    have hz' : zs.length = cap := by simpa using hz
    refine ⟨_, _, _, zs.take len, rfl, rd_of_ints hl hz' hcell, hl, hm, by rw [List.length_take]; omega, ?_, fun n hn => bounds_i64 (hwz n (List.mem_of_mem_take hn))⟩
    have h1 := bulk_len (lits (H := H) .i64 (zs.take len))
    simp only [Rows.uptoBulk]
    simp only [lits, List.length_map, List.length_take] at h1
    simp only [lits]
    omega
end
end Go.Proofs.Ytolognhjdmkohaa
namespace Go.Proofs.Ytolognhjdmkohaa
open Go.ChangeShapes Go.WideShapes Go.ChangeAt Go.RowKit Go.Deep
set_option linter.unusedVariables false
set_option linter.unusedSimpArgs false

/-- the weight of a node, of a forest -/
def ndw (d : Nd) : Nat := d.bs.length + nmSz d.ns + 1
def VF.fsz : VF → Nat
  | .nil => 0
  | .cons d p r => ndw d + p.fsz + r.fsz
def VF.Ok : VF → Prop
  | .nil => True
  | .cons d p r => NdOk d ∧ p.Ok ∧ r.Ok
def VF.ofL : List (Nd × VF) → VF
  | [] => .nil
  | x :: r => .cons x.1 x.2 (VF.ofL r)
theorem ofL_len : ∀ (l : List (Nd × VF)), (VF.ofL l).len = l.length := by
  intro l
  induction l with
  | nil => rfl
  | cons x r ih => simp [VF.ofL, VF.len, ih]
theorem ofL_in {W : World} {B : Nat} : ∀ (l : List (Nd × VF)) (b o : Nat), (∀ i x, l[i]? = some x → ∃ sb sn sp, Cells5 W b (o + i * 5) x.1 sb sn sp ∧ Hd W B x.1 x.2.len (FIn W B x.2) sb sn sp) → FIn W B (VF.ofL l) b o := by
  intro l
  induction l with
  | nil => intro b o _; trivial
  | cons x r ih =>
    intro b o h
    refine ⟨by have := h 0 x rfl; simpa using this, ih b (o + 5) fun i y hy => ?_⟩
    have := h (i + 1) y (by simpa using hy)
    rw [show o + (i + 1) * 5 = o + 5 + i * 5 by omega] at this
    exact this
theorem ofL_ok : ∀ (l : List (Nd × VF)), (∀ (i : Nat) (x : Nd × VF), l[i]? = some x → NdOk x.1 ∧ x.2.Ok) → (VF.ofL l).Ok := by
  intro l
  induction l with
  | nil => intro _; trivial
  | cons x r ih => intro h; exact ⟨(h 0 x rfl).1, (h 0 x rfl).2, ih fun i y hy => h (i + 1) y (by simpa using hy)⟩
theorem nmSz_cons (x : List UInt8) (t : List (List UInt8)) : nmSz (x :: t) = x.length + 1 + nmSz t := by simp [nmSz]
theorem nmSz_mem {ns : List (List UInt8)} {x : List UInt8} (h : x ∈ ns) : x.length + 1 ≤ nmSz ns := by
  induction ns with
  | nil => cases h
  | cons y r ih =>
    unfold nmSz at *
    simp only [List.map_cons, List.sum_cons]
    rcases List.mem_cons.1 h with rfl | h
    · omega
    · have := ih h; omega
theorem nmSz_len (ns : List (List UInt8)) : ns.length ≤ nmSz ns := by
  induction ns with
  | nil => simp [nmSz]
  | cons y r ih =>
    unfold nmSz at *
    simp only [List.map_cons, List.sum_cons, List.length_cons]
    omega
theorem fsz_len : ∀ (F : VF), F.len ≤ F.fsz := by
  intro F
  induction F with
  | nil => simp [VF.len, VF.fsz]
  | cons d p r _ ih => simp only [VF.len, VF.fsz, ndw]; omega
theorem nd_fits {d : Nd} (h : NdOk d) (hw : ndw d ≤ 1048576) : NdFits d := by
  unfold ndw at hw
  refine ⟨h, by omega, by have := nmSz_len d.ns; omega, fun x hx => ?_⟩
  have := nmSz_mem hx
  omega
theorem f_fits : ∀ (F : VF), F.Ok → F.fsz ≤ 1048576 → Fits F := by
  intro F
  induction F with
  | nil => intro _ _; trivial
  | cons d p r ih1 ih2 =>
    intro h hw
    simp only [VF.fsz] at hw
    exact ⟨nd_fits h.1 (by omega), by have := fsz_len p; omega, ih1 h.2.1 (by omega), ih2 h.2.2 (by omega)⟩
theorem enc_fsz : ∀ (F : VF) (rc : Bool) (ns : List (List UInt8)), F.Ok → F.fsz ≤ 1048576 → (rc = true → nmSz ns ≤ 1048576) → (encP F rc ns).length ≤ 64 * F.fsz + (if rc = true then nmSz ns else 0) := by
  intro F
  induction F with
  | nil => intro rc ns _ _ _; simp [encP]
  | cons d p r ih1 ih2 =>
    intro rc ns hok hw hn
    simp only [VF.fsz, ndw] at hw
    obtain ⟨⟨hk1, hk2, hn1, hn2⟩, hp, hr⟩ := hok
    have a1 := num_len d.k hk1 hk2
    have a2 := num_len d.n hn1 hn2
    have a3 := num_len (p.len : Int) (by omega) (by have := fsz_len p; omega)
    have a4 := chunk_len d.bs (by omega)
    have b1 := ih1 (d.k == 4) d.ns hp (by omega) (fun _ => by omega)
    have b2 := ih2 rc ns.tail hr (by omega) (fun e => by
      have := hn e
      cases ns with
      | nil => simp [nmSz]
      | cons x t => simp only [nmSz, List.map_cons, List.sum_cons] at this; simp only [List.tail_cons, nmSz]; omega)
    have c1 : (if (d.k == 4) = true then nmSz d.ns else 0) ≤ nmSz d.ns := by split <;> omega
    have c2 : (encOne d p.len (encP p (d.k == 4) d.ns)).length ≤ 40 + d.bs.length + nmSz d.ns + 64 * p.fsz := by
      unfold encOne
      rw [List.length_append]
      split
      · omega
      · split
        · omega
        · rw [List.length_append]; omega
    simp only [encP, List.length_append, VF.fsz, ndw]
    cases rc with
    | false => simp at b2 ⊢; omega
    | true =>
      simp only [if_true] at b2 ⊢
      cases ns with
      | nil =>
        have c3 := chunk_len [] (by simp)
        simp only [List.headD_nil, List.length_nil] at c3 ⊢
        simp only [List.tail_nil] at b2 ⊢
        omega
      | cons x t =>
        have hx := hn rfl
        rw [nmSz_cons] at hx ⊢
        have c3 := chunk_len x (by omega)
        simp only [List.headD_cons, List.tail_cons] at b2 ⊢
        omega
theorem mod_of {d : Nd} {p : VF} (hd : NdOk d) (hp : p.Ok) (hw : ndw d + p.fsz ≤ 1048576) : Mod d p := by
  refine ⟨nd_fits hd (by omega), f_fits p hp (by omega), by have := fsz_len p; omega, ?_⟩
  have h := enc_fsz (.cons d p .nil) false [] ⟨hd, hp, trivial⟩ (by simp only [VF.fsz]; omega) (fun e => by cases e)
  simp only [encP, VF.fsz, Bool.false_eq_true, if_false, List.nil_append, List.append_nil] at h
  show (encOne d p.len (encP p (d.k == 4) d.ns)).length ≤ _
  omega
section
variable {H : Type} {enc : TypeId × Value → H} {W : World}
theorem bulk_strs (ss : List ByteArray) : Rows.uptoBulkAll (strs (H := H) ss) = nmSz (ss.map fun s => s.data.toList) := by
  induction ss with
  | nil => rfl
  | cons s r ih =>
    have e : strs (H := H) (s :: r) = DataW.lit (.string s.data.toList) :: strs r := by simp [strs]
    rw [e]
    simp only [Rows.uptoBulkAll, Rows.uptoBulk, List.map_cons]
    rw [ih]
    simp [nmSz]
set_option maxRecDepth 100000 in
theorem names_of_trod {fuel : Nat} {cs : List Value} {x : DataW H × List MemPlace} (h : DataW.trod enc Try.prog W 0 (fun _ => true) true fuel 23 cs = some x) :
    ∃ (A : Option Addr) (n c : Nat) (ns : List (List UInt8)), cs = [.slice A n c] ∧ Rd W W.heap.size 1 A n (sv ns) ∧ n ≤ c ∧ nmSz ns + 1 ≤ Rows.uptoBulk x.1 := by
  rcases open_strings Try.underlying23 Try.underlying9 (by kernel_rfl) h with ⟨hcs, hx⟩ | ⟨a, len, cap, ss, hcs, _, hl, hm, hz, hx, hcell, _⟩
  · exact ⟨none, 0, 0, [], hcs, ⟨rfl, fun h => absurd h (Nat.lt_irrefl _)⟩, Nat.le_refl _, by simp [nmSz]; exact bulk_one x.1⟩
  · subst hx
    have hz' : ss.length = cap := by simpa using hz
    refine ⟨some a, len, cap, (ss.take len).map (fun s => s.data.toList), hcs, ⟨by simp [sv]; omega, fun hn => ?_⟩, hl, ?_⟩
    · have h0 := hcell 0 (by omega)
      have hs : a.spot = none := by simpa [Addr.add] using World.cell?_spot h0
      obtain ⟨b, o, sp⟩ := a
      simp only at hs
      subst hs
      refine ⟨b, o, rfl, World.block_lt_of_cell? W _ (by simpa [Addr.add] using h0), fun j u hu => ?_⟩
      have e : (⟨b, o, none⟩ : Addr).add j = ⟨b, o + j, none⟩ := by unfold Addr.add; split <;> simp_all
      rw [← e]
      simp only [sv, List.map_map, List.getElem?_map, List.getElem?_take] at hu
      split at hu
      · rename_i hj
        have hjl : j < ss.length := by omega
        rw [List.getElem?_eq_getElem hjl] at hu
        simp only [Option.map_some, Option.some.injEq, Function.comp] at hu
        rw [hcell j hjl, List.getD_eq_getElem?_getD, List.getElem?_eq_getElem hjl]
        rw [← hu]
        rfl
      · simp at hu
    · simp only [Rows.uptoBulk]
      rw [bulk_strs (ss.take len)]
      omega
set_option maxRecDepth 100000 in
theorem bytes_of_trod {fuel : Nat} {cs : List Value} {x : DataW H × List MemPlace} (h : DataW.trod enc Try.prog W 0 (fun _ => true) true fuel 22 cs = some x) :
    ∃ (A : Option Addr) (n c : Nat) (bs : List UInt8), cs = [.slice A n c] ∧ Rd W W.heap.size 1 A n (bv bs) ∧ n ≤ c ∧ bs.length = n ∧ n + 1 ≤ Rows.uptoBulk x.1 := by
  rcases open_ints Try.underlying22 Try.underlying5 (by kernel_rfl) h with ⟨hcs, hx⟩ | ⟨a, len, cap, zs, hcs, _, hl, hm, hz, hx, hcell, hwz⟩
  · exact ⟨none, 0, 0, [], hcs, Rd.nil_, Nat.le_refl _, rfl, bulk_one x.1⟩
  · subst hx
    have hz' : zs.length = cap := by simpa using hz
    have hr := rd_of_ints hl hz' hcell
    obtain ⟨bs, hbl, hbe⟩ := bytes_of_ints (zs.take len) (fun n hn => hwz n (List.mem_of_mem_take hn))
    rw [hbe] at hr
    have hbl' : bs.length = len := by rw [hbl, List.length_take]; omega
    refine ⟨_, _, _, bs, hcs, hr, hl, hbl', ?_⟩
    have h1 := bulk_len (lits (H := H) .u8 (zs.take len))
    simp only [Rows.uptoBulk]
    simp only [lits, List.length_map, List.length_take] at h1
    simp only [lits]
    omega
theorem choose_list {α : Type} (n : Nat) (P : Nat → α → Prop) (h : ∀ i, i < n → ∃ x, P i x) : ∃ l : List α, l.length = n ∧ ∀ i x, l[i]? = some x → P i x := by
  induction n with
  | zero => exact ⟨[], rfl, fun i x h => by simp at h⟩
  | succ n ih =>
    obtain ⟨l, hl, hp⟩ := ih fun i hi => h i (by omega)
    obtain ⟨x, hx⟩ := h n (by omega)
    refine ⟨l ++ [x], by simp [hl], fun i y hy => ?_⟩
    by_cases hi : i < l.length
    · rw [List.getElem?_append_left hi] at hy; exact hp i y hy
    · rw [List.getElem?_append_right (by omega)] at hy
      obtain ⟨k, hk⟩ : ∃ k, i - l.length = k := ⟨_, rfl⟩
      rw [hk] at hy
      cases k with
      | zero => simp at hy; subst hy; obtain rfl : i = n := by omega
                exact hx
      | succ k => simp at hy
theorem fsz_of (l : List (Nd × VF)) (E : List (DataW H)) (hl : l.length = E.length) (h : ∀ (i : Nat) (x : Nd × VF) (e : DataW H), l[i]? = some x → E[i]? = some e → ndw x.1 + x.2.fsz ≤ Rows.uptoBulk e) : (VF.ofL l).fsz ≤ Rows.uptoBulkAll E := by
  induction l generalizing E with
  | nil => simp [VF.ofL, VF.fsz]
  | cons b l ih =>
    cases E with
    | nil => simp at hl
    | cons e E =>
      simp only [Rows.uptoBulkAll, VF.ofL, VF.fsz]
      have h1 := h 0 b e rfl rfl
      have h2 := ih E (by simpa using hl) fun i x y hx hy => h (i + 1) x y (by simpa using hx) (by simpa using hy)
      omega
theorem add_mk (b o j : Nat) : (⟨b, o, none⟩ : Addr).add j = ⟨b, o + j, none⟩ := by unfold Addr.add; split <;> simp_all
set_option maxRecDepth 100000 in
theorem value_of_trod : ∀ (fuel : Nat) (cs : List Value) (x : DataW H × List MemPlace), DataW.trod enc Try.prog W 0 (fun _ => true) true fuel 26 cs = some x →
    ∃ (d : Nd) (p : VF) (sb sn sp : Value), cs = [.int .i64 d.k, .int .i64 d.n, sb, sn, sp] ∧ Hd W W.heap.size d p.len (FIn W W.heap.size p) sb sn sp ∧ NdOk d ∧ p.Ok ∧ ndw d + p.fsz ≤ Rows.uptoBulk x.1 := by
  intro fuel
  induction fuel using Nat.strongRecOn with
  | ind fuel ih =>
    intro cs x h
    obtain ⟨xs, n, rfl, rfl, hl, hlen, hf⟩ := DataW.trod_struct Try.underlying26 h
    obtain ⟨y0, y1, y2, y3, y4, rfl⟩ : ∃ y0 y1 y2 y3 y4, xs = [y0, y1, y2, y3, y4] := by
      match xs, hlen with
      | [y0, y1, y2, y3, y4], _ => exact ⟨y0, y1, y2, y3, y4, rfl⟩
    have hC : Try.prog.cellsOf 26 = 5 := by kernel_rfl
    rw [hC] at hl
    obtain ⟨c0, c1, c2, c3, c4, rfl⟩ : ∃ c0 c1 c2 c3 c4, cs = [c0, c1, c2, c3, c4] := by
      match cs, hl with
      | [c0, c1, c2, c3, c4], _ => exact ⟨c0, c1, c2, c3, c4, rfl⟩
    have k3 : Try.prog.cellsOf 3 = 1 := by kernel_rfl
    have k5 : Try.prog.cellsOf 22 = 1 := by kernel_rfl
    have k6 : Try.prog.cellsOf 23 = 1 := by kernel_rfl
    have k7 : Try.prog.cellsOf 24 = 1 := by kernel_rfl
    have f0 : DataW.trod enc Try.prog W 0 (fun _ => true) true n 3 [c0] = some y0 := by have h := hf 0 _ rfl; simpa [k3] using h
    have f1 : DataW.trod enc Try.prog W 0 (fun _ => true) true n 3 [c1] = some y1 := by have h := hf 1 _ rfl; simpa [k3] using h
    have f2 : DataW.trod enc Try.prog W 0 (fun _ => true) true n 22 [c2] = some y2 := by have h := hf 2 _ rfl; simpa [k5] using h
    have f3 : DataW.trod enc Try.prog W 0 (fun _ => true) true n 23 [c3] = some y3 := by have h := hf 3 _ rfl; simpa [k6] using h
    have f4 : DataW.trod enc Try.prog W 0 (fun _ => true) true n 24 [c4] = some y4 := by have h := hf 4 _ rfl; simpa [k7] using h
    obtain ⟨kk, e0, e1, w0⟩ := DataW.trod_int Try.underlying3 f0
    obtain ⟨nn, e2, e3, w1⟩ := DataW.trod_int Try.underlying3 f1
    obtain ⟨Ab, nb, cb, bs, e4, hrb, hlb, hbl, hbk⟩ := bytes_of_trod f2
    obtain ⟨An, nm, cn, ns, e5, hrn, hln, hnk⟩ := names_of_trod f3
    simp only [List.cons.injEq, and_true] at e0 e2 e4 e5
    subst e0 e2 e4 e5
    have hkb := bounds_i64 w0
    have hnb := bounds_i64 w1
    rcases DataW.trod_slice Try.underlying24 f4 with ⟨hcs, hx⟩ | ⟨a, l, c, elems, rest, n', hfu, hcs, hx, _, hl', hm, hel0, hel, _, _⟩
    · simp only [List.cons.injEq, and_true] at hcs
      subst hcs
      refine ⟨⟨kk, nn, bs, ns⟩, .nil, _, _, _, rfl, ⟨Ab, nb, cb, An, nm, cn, none, 0, rfl, rfl, rfl, hlb, hln, Nat.le_refl _, Nat.zero_le _, hrb, hrn, fun h => absurd h (Nat.lt_irrefl _)⟩, ⟨hkb.1, hkb.2, hnb.1, hnb.2⟩, trivial, ?_⟩
      have b0 := bulk_one y0.1
      have b1 := bulk_one y1.1
      have b4 := bulk_one y4.1
      simp only [List.map_cons, List.map_nil, Rows.uptoBulk, Rows.uptoBulkAll, VF.fsz, ndw]
      omega
    · simp only [List.cons.injEq, and_true] at hcs
      subst hcs
      have hn' : n' < n + 1 := by omega
      have each : ∀ i, i < l → ∃ y : (Nd × VF) × (Value × Value × Value), (∃ cs', W.cells? 0 (a.add (i * 5)) 5 = some cs' ∧ cs' = [.int .i64 y.1.1.k, .int .i64 y.1.1.n, y.2.1, y.2.2.1, y.2.2.2]) ∧ Hd W W.heap.size y.1.1 y.1.2.len (FIn W W.heap.size y.1.2) y.2.1 y.2.2.1 y.2.2.2 ∧ (NdOk y.1.1 ∧ y.1.2.Ok) ∧ (∀ e, (elems.map (·.1))[i]? = some e → ndw y.1.1 + y.1.2.fsz ≤ Rows.uptoBulk e) := by
        intro i hlt
        have hel' := hel i hlt
        rw [hC, List.getElem?_eq_getElem (show i < elems.length by omega)] at hel'
        obtain ⟨cs', hc, ht⟩ := Option.bind_eq_some_iff.1 hel'
        obtain ⟨d, p, sb, sn, sp, hcs', hd, hok, hpo, hw⟩ := ih n' hn' cs' _ ht
        exact ⟨((d, p), (sb, sn, sp)), ⟨cs', hc, hcs'⟩, hd, ⟨hok, hpo⟩, fun e he => by
          rw [List.getElem?_map, List.getElem?_eq_getElem (show i < elems.length by omega)] at he
          simp only [Option.map_some, Option.some.injEq] at he
          subst he
          exact hw⟩
      obtain ⟨ys, hyl, hys⟩ := choose_list l _ each
      refine ⟨⟨kk, nn, bs, ns⟩, VF.ofL (ys.map (·.1)), _, _, _, rfl, ⟨Ab, nb, cb, An, nm, cn, some a, c, rfl, rfl, by rw [ofL_len, List.length_map, hyl], hlb, hln, by rw [ofL_len, List.length_map, hyl]; exact hl', hm, hrb, hrn, fun h0 => ?_⟩, ⟨hkb.1, hkb.2, hnb.1, hnb.2⟩, ?_, ?_⟩
      · rw [ofL_len, List.length_map, hyl] at h0
        have hy0 : ys[0]? = some ys[0] := List.getElem?_eq_getElem (by omega)
        obtain ⟨⟨cs0, hc0, hcs0⟩, _⟩ := hys 0 _ hy0
        obtain ⟨_, _, hat0⟩ := World.cells?_some hc0
        have hcell0 := hat0 0 (by omega)
        have hs : a.spot = none := by rw [hcs0] at hcell0; simpa [Addr.add] using World.cell?_spot hcell0
        obtain ⟨b, o, sp⟩ := a
        simp only at hs
        subst hs
        have hadd : ∀ i j, ((⟨b, o, none⟩ : Addr).add (i * 5)).add j = ⟨b, o + i * 5 + j, none⟩ := fun i j => by rw [add_mk, add_mk]
        refine ⟨b, o, rfl, ?_, ofL_in _ b o fun i x hx => ?_⟩
        · rw [hcs0] at hcell0
          have := World.block_lt_of_cell? W _ hcell0
          simpa [Addr.add] using this
        · rw [List.getElem?_map] at hx
          cases hy : ys[i]? with
          | none => rw [hy] at hx; simp at hx
          | some y =>
            rw [hy] at hx
            simp only [Option.map_some, Option.some.injEq] at hx
            subst hx
            obtain ⟨⟨cs1, hc1, hcs1⟩, hd, _⟩ := hys i y hy
            obtain ⟨_, _, hat⟩ := World.cells?_some hc1
            rw [hcs1] at hat
            have q0 := hat 0 (by omega)
            have q1 := hat 1 (by omega)
            have q2 := hat 2 (by omega)
            have q3 := hat 3 (by omega)
            have q4 := hat 4 (by omega)
            rw [hadd] at q0 q1 q2 q3 q4
            exact ⟨_, _, _, ⟨by simpa using q0, by simpa using q1, by simpa using q2, by simpa using q3, by simpa using q4⟩, hd⟩
      · refine ofL_ok _ fun i x hx => ?_
        rw [List.getElem?_map] at hx
        cases hy : ys[i]? with
        | none => rw [hy] at hx; simp at hx
        | some y =>
          rw [hy] at hx
          simp only [Option.map_some, Option.some.injEq] at hx
          subst hx
          exact (hys i y hy).2.2.1
      · have hsz := fsz_of (ys.map (·.1)) (elems.map (·.1)) (by simp [hyl, hel0]) fun i x e hx he => by
          rw [List.getElem?_map] at hx
          cases hy : ys[i]? with
          | none => rw [hy] at hx; simp at hx
          | some y =>
            rw [hy] at hx
            simp only [Option.map_some, Option.some.injEq] at hx
            subst hx
            exact (hys i y hy).2.2.2 e he
        have b0 := bulk_one y0.1
        have b1 := bulk_one y1.1
        have hy4 : y4.1 = .slice (elems.map (·.1)) (rest.map (·.1)) := by rw [hx]
        simp only [List.map_cons, List.map_nil, Rows.uptoBulk, Rows.uptoBulkAll, ndw, hy4]
        omega
set_option maxRecDepth 100000 in
theorem open_value {base : Nat} {v : Value} {d : DataW H} {p : List MemPlace} (hv : Value.okWide Try.prog W .any base 26 v) (h : DataW.Trod enc Try.prog W 0 (fun _ => true) true 26 v d p) (hb : Rows.uptoBulk d ≤ 1048576) :
    ∃ (nd : Nd) (F : VF), VIn W W.heap.size v nd F ∧ Mod nd F := by
  obtain ⟨cs, rfl, hsz⟩ := okWide_struct Try.underlying26 hv
  obtain ⟨fuel, hf⟩ := h
  obtain ⟨nd, F, sb, sn, sp, hcs, hd, hok, hpo, hw⟩ := value_of_trod fuel _ _ hf
  refine ⟨nd, F, ⟨sb, sn, sp, ?_, hd⟩, mod_of hok hpo (Nat.le_trans hw hb)⟩
  have : cs.toList = [.int .i64 nd.k, .int .i64 nd.n, sb, sn, sp] := by simpa [Value.cells] using hcs
  cases cs
  simp at this
  rw [this]
end
end Go.Proofs.Ytolognhjdmkohaa
