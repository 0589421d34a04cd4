/-
  Lists of byte strings that came in, opened.
-/
import Derived.Test.YtdandbhjmckmiaaOpen
import Derived.Test.YtdandbhjmckmiaaWireList2
namespace Go.Proofs.Ytdandbhjmckmiaa
open Go.ChangeShapes Go.WideShapes Go.ChangeAt Go.RowKit Go.Deep
set_option linter.unusedVariables false
set_option linter.unusedSimpArgs false

section
variable {H : Type} {enc : TypeId × Value → H} {W : World} {base : Nat} {v : Value} {d : DataW H} {p : List MemPlace}

/-- the cells of a byte string, however it was reached -/
theorem bytes_of_trod {fuel : Nat} {cs : List Value} {x : DataW H × List MemPlace} (h : DataW.trod enc Try.prog W 0 (fun _ => true) true fuel 24 cs = some x) :
    ∃ (A : Option Addr) (n c : Nat) (bs : List UInt8), cs = [.slice A n c] ∧ Rd W W.heap.size 1 A n (bv bs) ∧ n ≤ c ∧ bs.length = n ∧ n + 1 ≤ Rows.uptoBulk x.1 := by
  rcases open_ints Try.underlying24 Try.underlying5 (by kernel_rfl) h with ⟨hcs, hx⟩ | ⟨a, len, cap, zs, hcs, _, hl, hm, hz, hx, hcell, hwz⟩
  · exact ⟨none, 0, 0, [], hcs, Rd.nil_, Nat.le_refl _, rfl, bulk_one x.1⟩
  · subst hx
    have hz' : zs.length = cap := by simpa using hz
    have hr := rd_of_ints hl hz' hcell
    obtain ⟨bs, hbl, hbe⟩ := bytes_of_ints (zs.take len) (fun n hn => hwz n (List.mem_of_mem_take hn))
    rw [hbe] at hr
    have hbl' : bs.length = len := by rw [hbl, List.length_take]; omega
    refine ⟨_, _, _, bs, hcs, hr, hl, hbl', ?_⟩
    have h1 := bulk_len (lits (H := H) .u8 (zs.take len))
    simp only [Rows.uptoBulk]
    simp only [lits, List.length_map, List.length_take] at h1
    simp only [lits]
    omega

theorem choose_list {α : Type} (n : Nat) (P : Nat → α → Prop) (h : ∀ i, i < n → ∃ x, P i x) : ∃ l : List α, l.length = n ∧ ∀ i x, l[i]? = some x → P i x := by
  induction n with
  | zero => exact ⟨[], rfl, fun i x h => by simp at h⟩
  | succ n ih =>
    obtain ⟨l, hl, hp⟩ := ih fun i hi => h i (by omega)
    obtain ⟨x, hx⟩ := h n (by omega)
    refine ⟨l ++ [x], by simp [hl], fun i y hy => ?_⟩
    by_cases hi : i < l.length
    · rw [List.getElem?_append_left hi] at hy; exact hp i y hy
    · rw [List.getElem?_append_right (by omega)] at hy
      obtain ⟨k, hk⟩ : ∃ k, i - l.length = k := ⟨_, rfl⟩
      rw [hk] at hy
      cases k with
      | zero => simp at hy; subst hy; obtain rfl : i = n := by omega
                exact hx
      | succ k => simp at hy

theorem tot_of (l : List (List UInt8)) (D : Nat → DataW H) (h : ∀ i x, l[i]? = some x → x.length + 1 ≤ Rows.uptoBulk (D i)) : tot l ≤ Rows.uptoBulkAll ((List.range l.length).map D) := by
  induction l generalizing D with
  | nil => simp [tot, Rows.uptoBulkAll]
  | cons b l ih =>
    rw [List.length_cons, List.range_succ_eq_map]
    simp only [List.map_cons, List.map_map, Rows.uptoBulkAll, tot]
    have h1 := h 0 b (by simp)
    have h2 := ih (D ∘ Nat.succ) fun i x hx => h (i + 1) x (by simpa using hx)
    omega

/-- a list of byte strings that came in -/
theorem open_chunks (hv : Value.okWide Try.prog W .any base 40 v) (h : DataW.Trod enc Try.prog W 0 (fun _ => true) true 40 v d p) :
    ∃ (A : Option Addr) (n c : Nat) (l : List (List UInt8)), v = .slice A n c ∧ Chs W W.heap.size A n l ∧ n ≤ c ∧ tot l + 1 ≤ Rows.uptoBulk d := by
  obtain ⟨a0, len, cap, rfl⟩ := okWide_slice Try.underlying40 hv
  obtain ⟨fuel, hf⟩ := h
  rcases open_slice Try.underlying40 hf with ⟨hcs, hx⟩ | ⟨a, l, c, m, n, D, Pl, hcs, _, hl, hm, hmm, hx, hi⟩
  · simp [Value.cells] at hcs
    obtain ⟨rfl, rfl, rfl⟩ := hcs
    exact ⟨none, 0, 0, [], rfl, ⟨[], Rd.nil_, rfl, fun j b h => by simp at h⟩, Nat.le_refl _, by simp [tot]; exact bulk_one d⟩
  · simp [Value.cells] at hcs
    obtain ⟨rfl, rfl, rfl⟩ := hcs
    simp only [Prod.mk.injEq] at hx
    obtain ⟨rfl, _⟩ := hx
    have hmc : m = cap := by simpa using hmm
    have hC : Try.prog.cellsOf 24 = 1 := by kernel_rfl
    have each : ∀ i, i < len → ∃ y : Value × List UInt8, W.cell? (a.add i) = some y.1 ∧ (∃ A' n' c', y.1 = .slice A' n' c' ∧ Rd W W.heap.size 1 A' n' (bv y.2) ∧ n' ≤ c') ∧ y.2.length + 1 ≤ Rows.uptoBulk (D i) := by
      intro i hlt
      obtain ⟨cs', hc, ht⟩ := hi i (by omega)
      rw [hC] at hc
      obtain ⟨A', n', c', bs, rfl, hr, hnc, hbl, hbk⟩ := bytes_of_trod ht
      obtain ⟨_, _, hat⟩ := World.cells?_some hc
      have h0 := hat 0 (by omega)
      refine ⟨(.slice A' n' c', bs), ?_, ⟨A', n', c', rfl, hr, hnc⟩, by simp only [hbl]; exact hbk⟩
      have e : (a.add (i * 1)).add 0 = a.add i := by simp [Addr.add]
      rw [e] at h0
      simpa using h0
    obtain ⟨ys, hyl, hys⟩ := choose_list len _ each
    refine ⟨_, _, _, ys.map (·.2), rfl, ⟨ys.map (·.1), ?_, by simp, ?_⟩, hl, ?_⟩
    · refine ⟨by simp [hyl], fun hn => ?_⟩
      have h0 : ys[0]? = some ys[0] := List.getElem?_eq_getElem (by omega)
      have hc0 := (hys 0 _ h0).1
      have hs : a.spot = none := by simpa [Addr.add] using World.cell?_spot hc0
      obtain ⟨b, o, sp⟩ := a
      simp only at hs
      subst hs
      refine ⟨b, o, rfl, World.block_lt_of_cell? W _ (by simpa [Addr.add] using hc0), fun j u hu => ?_⟩
      rw [List.getElem?_map] at hu
      cases hy : ys[j]? with
      | none => rw [hy] at hu; simp at hu
      | some y =>
        rw [hy] at hu
        simp only [Option.map_some, Option.some.injEq] at hu
        subst hu
        have e : (⟨b, o, none⟩ : Addr).add j = ⟨b, o + j, none⟩ := by unfold Addr.add; split <;> simp_all
        rw [← e]
        exact (hys j y hy).1
    · intro j b hb
      rw [List.getElem?_map] at hb
      cases hy : ys[j]? with
      | none => rw [hy] at hb; simp at hb
      | some y =>
        rw [hy] at hb
        simp only [Option.map_some, Option.some.injEq] at hb
        subst hb
        obtain ⟨A', n', c', e, hr, hnc⟩ := (hys j y hy).2.1
        exact ⟨A', n', c', by rw [List.getElem?_map, hy, ← e]; rfl, hr, hnc⟩
    · have ht := tot_of (ys.map (·.2)) D fun i x hx => by
        rw [List.getElem?_map] at hx
        cases hy : ys[i]? with
        | none => rw [hy] at hx; simp at hx
        | some y =>
          rw [hy] at hx
          simp only [Option.map_some, Option.some.injEq] at hx
          subst hx
          exact (hys i y hy).2.2
      rw [List.length_map, hyl] at ht
      simp only [Rows.uptoBulk]
      omega
end
end Go.Proofs.Ytdandbhjmckmiaa
