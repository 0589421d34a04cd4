/-
  The walk of the reference's parse.
-/
import Derived.Test.YtolognhjdmkohaaKPar
import Derived.Deep.CutRange
namespace Go.Proofs.Ytolognhjdmkohaa
open Go.RowKit
set_option linter.unusedVariables false
set_option linter.unusedSimpArgs false

/-- the four results, read at the end -/
theorem par_ret {w : World} {tmps : Array Value} {g : Nat} {a b c d e x y z : Value} {R : Ending → World → Prop} (h8 : tmps.getD 8 undef = .pointer (some ⟨g, 0, none⟩)) (h9 : tmps.getD 9 undef = x) (h10 : tmps.getD 10 undef = y) (h11 : tmps.getD 11 undef = z) (hb : Bx w g a b c d e)
    (hR : R (.returned (.tuple #[.agg #[a, b, c, d, e], x, y, z])) w) : bodyPost Try.prog Try.f53 R .ret { tmps := tmps, defers := [] } w := by
  obtain ⟨y0, y1, y2, y3, y4⟩ := hb.cells
  have hl := hb.lt
  rw [Array.getD_eq_getD_getElem?] at h8 h9 h10 h11
  exact bodyPost_ret (by simp [results, Try.results53, go_sem, h8, h9, h10, h11, y0, y1, y2, y3, y4, hl]) rfl hR
theorem pa_none {w W : World} {k x y : Int} {A : Option Addr} {c : Nat} (hb : Below w.heap.size w W) : PaEnd w none (.returned (.tuple #[.agg #[.int .i64 k, .int .i64 0, .slice A 0 c, .slice none 0 0, .slice none 0 0], .int .i64 x, .int .i64 y, .bool false])) W := ⟨hb, .inl ⟨rfl, k, x, y, A, c, rfl⟩⟩
/-- there is none -/
theorem par_bad {w W : World} {tmps : Array Value} {a b c d e : Value} {r : Option (Nd × VF × Int × Nat)} (hr : r = none) (h8 : tmps.getD 8 undef = .pointer (some ⟨w.heap.size, 0, none⟩)) (h9 : tmps.getD 9 undef = .int .i64 0) (h10 : tmps.getD 10 undef = .int .i64 0) (h11 : tmps.getD 11 undef = .bool false) (hb : Bx W w.heap.size a b c d e) (hbl : Below w.heap.size w W) :
    bodyPost Try.prog Try.f53 (PaEnd w r) .ret { tmps := tmps, defers := [] } (((((W.setCell ⟨w.heap.size, 0, none⟩ (.int .i64 0)).setCell ⟨w.heap.size, 1, none⟩ (.int .i64 0)).setCell ⟨w.heap.size, 2, none⟩ (.slice none 0 0)).setCell ⟨w.heap.size, 3, none⟩ (.slice none 0 0)).setCell ⟨w.heap.size, 4, none⟩ (.slice none 0 0)) := by
  subst hr
  exact par_ret h8 h9 h10 h11 (hb.set5 (.int .i64 0) (.int .i64 0) (.slice none 0 0) (.slice none 0 0) (.slice none 0 0)) (pa_none (below5 hbl (Nat.le_refl _) _ _ _ _ _))
set_option maxRecDepth 100000 in
set_option maxHeartbeats 2000000 in
theorem parse_zero {A : Option Addr} {n c k : Nat} {x lev : Int} (w : World) (h : 10 < lev ∨ k = 0) :
    Calls Try.prog 53 #[.slice A n c, .int .i64 x, .int .i64 lev, .int .i64 (k : Int)] w (PaEnd w none) := by
  go_enter Try.func53, Try.ntmps53
  by_cases h1 : 10 < lev
  · have hd1 : decide ((10 : Int) < lev) = true := by simpa using h1
    go_wp2_with fail
    exact par_ret rfl rfl rfl rfl (Bx.new w _ _ _ _ _) (pa_none (bel1 _ _))
  · have hd1 : decide ((10 : Int) < lev) = false := by simpa using h1
    obtain rfl : k = 0 := by omega
    go_wp2_with fail
    exact par_ret rfl rfl rfl rfl (Bx.new w _ _ _ _ _) (pa_none (bel1 _ _))
theorem parPs_less {bs : List UInt8} {one : Int → Nat → Option (Nd × VF × Int × Nat)} (hone : ∀ x k d p y k', one x k = some (d, p, y, k') → k' + 1 ≤ k) (rc : Bool) : ∀ (n : Nat) (x : Int) (k : Nat) (ns : List (List UInt8)) (F : VF) (z : Int) (k' : Nat), parPs one bs rc n x k = some (ns, F, z, k') → k' ≤ k := by
  intro n
  induction n with
  | zero => intro x k ns F z k' h; simp only [parPs, Option.some.injEq, Prod.mk.injEq] at h; omega
  | succ n ih =>
    intro x k ns F z k' h
    simp only [parPs] at h
    cases hs : stepQ one bs rc x k with
    | none => rw [hs] at h; cases h
    | some t =>
      obtain ⟨nm, d, p, y, k1⟩ := t
      rw [hs] at h
      simp only [] at h
      cases hp : parPs one bs rc n y k1 with
      | none => rw [hp] at h; cases h
      | some t =>
        obtain ⟨ns', F', z', k2⟩ := t
        rw [hp] at h
        simp only [Option.some.injEq, Prod.mk.injEq] at h
        have h1 := ih _ _ _ _ _ _ hp
        have h2 : k1 + 1 ≤ k := by
          unfold stepQ at hs
          split at hs
          · split at hs
            · cases hs
            · cases ho : one (readChunk bs x).2.1 k with
              | none => rw [ho] at hs; cases hs
              | some t =>
                obtain ⟨d', p', y', k3⟩ := t
                rw [ho] at hs
                simp only [Option.some.injEq, Prod.mk.injEq] at hs
                have := hone _ _ _ _ _ _ ho
                omega
          · cases ho : one x k with
            | none => rw [ho] at hs; cases hs
            | some t =>
              obtain ⟨d', p', y', k3⟩ := t
              rw [ho] at hs
              simp only [Option.some.injEq, Prod.mk.injEq] at hs
              have := hone _ _ _ _ _ _ ho
              omega
        omega
theorem parV_less {bs : List UInt8} : ∀ (f : Nat) (x : Int) (k : Nat) (d : Nd) (p : VF) (y : Int) (k' : Nat), parV f bs x k = some (d, p, y, k') → k' + 1 ≤ k := by
  intro f
  induction f with
  | zero => intro x k d p y k' h; cases h
  | succ f ih =>
    intro x k d p y k' h
    rw [parV] at h
    split at h
    · cases h
    · split at h
      · cases h
      · split at h
        · split at h
          · cases h
          · simp only [Option.some.injEq, Prod.mk.injEq] at h; omega
        · split at h
          · cases h
          · split at h
            · simp only [Option.some.injEq, Prod.mk.injEq] at h; omega
            · split at h
              · cases h
              · split at h
                · cases h
                · rename_i hp
                  simp only [Option.some.injEq, Prod.mk.injEq] at h
                  have := parPs_less ih _ _ _ _ _ _ _ _ hp
                  omega
theorem hds_alloc {w : World} {B : Nat} {d : Nd} {p : VF} {sb sn sp : Value} (h : HdS w (fun b => B ≤ b ∧ b < w.heap.size) d p.len (FInS w (fun b => B ≤ b ∧ b < w.heap.size) p) sb sn sp) (o : Obj) :
    HdS (w.alloc o) (fun b => B ≤ b ∧ b < (w.alloc o).heap.size) d p.len (FInS (w.alloc o) (fun b => B ≤ b ∧ b < (w.alloc o).heap.size) p) sb sn sp := by
  have hb := bel1 w o
  have hk : ∀ q : Addr, (B ≤ q.block ∧ q.block < w.heap.size) → (w.alloc o).cell? q = w.cell? q := fun q hq => hb.cell hq.2
  have hS : ∀ b, (B ≤ b ∧ b < w.heap.size) → (B ≤ b ∧ b < (w.alloc o).heap.size) := fun b h => ⟨h.1, Nat.lt_of_lt_of_le h.2 hb.size⟩
  exact h.mono hk hS (FInS.keep hk hS p)
theorem chunk_bad {bs s : List UInt8} {x y cd i : Int} (h : readChunk bs x = (s, y, cd, i)) (hc : cd ≠ 0) : s = [] := by
  unfold readChunk at h
  simp only [] at h
  split at h
  · simp only [Prod.mk.injEq] at h; exact h.1.symm
  · split at h
    · simp only [Prod.mk.injEq] at h; exact h.1.symm
    · split at h
      · simp only [Prod.mk.injEq] at h; exact h.1.symm
      · simp only [Prod.mk.injEq] at h; exact absurd h.2.2.1.symm hc
/-- the contract of parse, f levels from the end -/
def ParC (A : Option Addr) (n c : Nat) (bs : List UInt8) (f : Nat) (lev : Int) : Prop :=
  ∀ (w : World) (x : Int) (k : Nat), Rd w w.heap.size 1 A n (bv bs) → k ≤ 600 → Calls Try.prog 53 #[.slice A n c, .int .i64 x, .int .i64 lev, .int .i64 (k : Int)] w (PaEnd w (parV f bs x k))
/-- the loop's relation -/
def PRel (w wc : World) (h gf : Nat) (k : Int) (M f : Nat) (bs : List UInt8) (RES : Option (Nd × VF × Int × Nat)) (nd nx i : Value) (wr : World) : Prop :=
  ∃ ns F x q An cn A c cs, i = .int .i64 (F.len : Int) ∧ nx = .int .i64 x ∧ nd = .int .i64 ((q : Nat) : Int) ∧ q + F.len ≤ 600 ∧ F.len ≤ M ∧ ns.length ≤ F.len ∧ PIn w wc h gf k ns F An cn A c cs wr ∧ RES = fin4 k (moreQ ns F (parPs (parV f bs) bs (k == 4) (M - F.len) x q))
set_option maxRecDepth 100000 in
set_option maxHeartbeats 8000000 in
theorem parse_step {A : Option Addr} {n c f : Nat} {bs : List UInt8} {lev : Int} (hn : n ≤ 4000) (hnc : n ≤ c) (hf : f ≤ 10) (hlev : lev + (f : Int) = 10) (IH : ParC A n c bs f (lev + 1)) : ParC A n c bs (f + 1) lev := by
  intro w x k hr hk
  by_cases hk0 : k = 0
  · rw [show parV (f + 1) bs x k = none by rw [parV, if_pos hk0]]
    exact parse_zero w (.inr hk0)
  have HK0 := Lib.hid hk0
  have HIH := Lib.hid IH
  have HR := Lib.hid hr
  have hd1 : decide ((10 : Int) < lev) = false := by simp; omega
  have hd2 : ((k : Int) == 0) = false := by simpa using hk0
  have hwr : IntKind.i64.wrap ((k : Int) - 1) = ((k - 1 : Nat) : Int) := by rw [IntWalk.i64_in _ (by omega)]; omega
  obtain ⟨kd, x1, c1, i1, h1⟩ : ∃ kd x1 c1 i1, readNum bs x = (kd, x1, c1, i1) := ⟨_, _, _, _, rfl⟩
  have H1 := Lib.hid h1
  have HLV := Lib.hid hlev
  clear h1 IH hr hlev hk0
  go_enter Try.func53, Try.ntmps53
  go_wp2_with fail
  refine (get_calls (HR.out.on (bel1 _ _)) x (by unfold maxLen; omega)).mono ?_
  rintro e w2 ⟨rfl, hb2⟩
  rw [H1.out]
  have HS2 := Lib.hid ((Bx.new w (.int .i64 0) (.int .i64 0) (.slice none 0 0) (.slice none 0 0) (.slice none 0 0)).on hb2)
  have hz2 : w.heap.size < w2.heap.size := HS2.out.lt
  have HB3 := Lib.hid (bel_up (belA hb2) (.cells #[.int .i64 c1, .int .i64 i1] 29))
  have HS3 := Lib.hid (HS2.out.on (bel1 _ (.cells #[.int .i64 c1, .int .i64 i1] 29)))
  have HF3 := Lib.hid (FC.new w2 c1 i1)
  clear hb2 hd1 hd2 HS2
  go_upto_region 5 with (fail)
  obtain ⟨W3, hW3⟩ : ∃ W3, w2.alloc (.cells #[.int .i64 c1, .int .i64 i1] 29) = W3 := ⟨_, rfl⟩
  have hz3 : W3.heap.size = w2.heap.size + 1 := by rw [← hW3]; simp
  rw [hW3] at HB3 HS3 HF3 ⊢
  clear hW3
  obtain ⟨_, a0, a1, _, _⟩ := HF3.out
  obtain ⟨s0, s1, s2, s3, s4⟩ := HS3.out.cells
  have f0 := HS3.out.free 0
  have f1 := HS3.out.free 1
  have f2 := HS3.out.free 2
  have f3 := HS3.out.free 3
  have f4 := HS3.out.free 4
  by_cases hc1 : c1 = 0
  · subst hc1
    by_cases hkd : 1 ≤ kd ∧ kd ≤ 4
    · have hin : (decide (1 ≤ kd) && decide (kd ≤ 4)) = true := by simp [hkd]
      clear s0 s1 s2 s3 s4 f0 f1 f2 f3 f4
      go_upto_region 8 with (go_at_call 23; refine (in_calls _ _ _ _).mono ?_; rintro e w' ⟨rfl, rfl⟩; rw [hin])
      have hww : Below W3.heap.size W3 (W3.alloc (.cells #[.int .i64 kd, .int .i64 0, .slice none 0 0, .slice none 0 0, .slice none 0 0] 26)) := bel1 _ _
      have HB4 := Lib.hid (chain HB3.out hww)
      have HS4 := Lib.hid (HS3.out.on hww)
      have HF4 := Lib.hid (HF3.out.on hww)
      have HX4 := Lib.hid (Bx.new W3 (.int .i64 kd) (.int .i64 0) (.slice none 0 0) (.slice none 0 0) (.slice none 0 0))
      obtain ⟨W4, hW4⟩ : ∃ W4, W3.alloc (.cells #[.int .i64 kd, .int .i64 0, .slice none 0 0, .slice none 0 0, .slice none 0 0] 26) = W4 := ⟨_, rfl⟩
      have hz4 : W4.heap.size = W3.heap.size + 1 := by rw [← hW4]; simp
      rw [hW4] at HB4 HS4 HF4 HX4 ⊢
      clear hW4 hww a0 a1 HS3 HF3 HB3
      have HR4 := Lib.hid (HR.out.on HB4.out)
      by_cases hk2 : kd = 2
      · subst hk2
        obtain ⟨s, y2, cd, jx, hck⟩ : ∃ s y2 cd jx, readChunk bs x1 = (s, y2, cd, jx) := ⟨_, _, _, _, rfl⟩
        have HCK := Lib.hid hck
        clear hck hkd hin
        go_wp2_with fail
        refine (getChunk_calls HR4.out x1 (by omega) hnc).mono ?_
        rintro e w6 ⟨A6, c6, rfl, hown6, hb6⟩
        rw [HCK.out] at hown6 ⊢
        simp only at hown6
        have HO6 := Lib.hid hown6
        have HB6 := Lib.hid hb6
        obtain ⟨_, a0, a1, g0, g1⟩ := HF4.out.on hb6
        obtain ⟨t0, t1, t2, t3, t4⟩ := (HX4.out.on hb6).cells
        have e2 := (HX4.out.on hb6).free 2
        have hz6 : W4.heap.size ≤ w6.heap.size := hb6.size
        rw [hz3] at t0 t1 t2 t3 t4 e2
        clear hown6 hb6
        go_upto_region 10 with (fail)
        have hx6 := HX4.out.on HB6.out
        rw [hz3] at hx6
        obtain ⟨W7, hW7⟩ : ∃ W7, ((w6.setCell ⟨w2.heap.size + 1, 2, none⟩ (.slice A6 s.length c6)).setCell ⟨w2.heap.size, 0, none⟩ (.int .i64 cd)).setCell ⟨w2.heap.size, 1, none⟩ (.int .i64 jx) = W7 := ⟨_, rfl⟩
        have HX7 := Lib.hid (show Bx W7 (w2.heap.size + 1) (.int .i64 2) (.int .i64 0) (.slice A6 s.length c6) (.slice none 0 0) (.slice none 0 0) by rw [← hW7]; exact ((hx6.set2 _).far (by omega)).far (by omega))
        have HF7 := Lib.hid (show FC W7 w2.heap.size cd jx by rw [← hW7]; exact ((HF4.out.on HB6.out).far (by omega)).put cd jx)
        have HS7 := Lib.hid (show Bx W7 w.heap.size (.int .i64 0) (.int .i64 0) (.slice none 0 0) (.slice none 0 0) (.slice none 0 0) by rw [← hW7]; exact (((HS4.out.on HB6.out).far (by omega)).far (by omega)).far (by omega))
        have HB7 := Lib.hid (show Below w.heap.size w W7 by rw [← hW7]; exact below_put ((chain HB4.out HB6.out).setCell (p := ⟨w2.heap.size + 1, 2, none⟩) (by show w.heap.size ≤ w2.heap.size + 1; omega) _) (by omega) _ _)
        have HO7 := Lib.hid (show W7.ownsRow W4.heap.size 5 1 (.slice A6 s.length c6) s.length (bv s) by rw [← hW7]; exact own_set (own_set (own_set HO6.out (by omega)) (by omega)) (by omega))
        rw [hW7]
        clear hW7 hx6 a0 a1 g0 g1 t0 t1 t2 t3 t4 e2 HO6 HX4 HF4 HS4
        obtain ⟨_, a0, a1, _, _⟩ := HF7.out
        obtain ⟨t0, t1, t2, t3, t4⟩ := HX7.out.cells
        obtain ⟨s0, s1, s2, s3, s4⟩ := HS7.out.cells
        have f0 := HS7.out.free 0
        have f1 := HS7.out.free 1
        have f2 := HS7.out.free 2
        have f3 := HS7.out.free 3
        have f4 := HS7.out.free 4
        by_cases hcd : cd = 0
        · subst hcd
          have HE := Lib.hid (show parV (f + 1) bs x k = some (⟨2, 0, s, []⟩, .nil, y2, k - 1) by rw [parV, if_neg HK0.out, H1.out]; simp only []; rw [HCK.out]; simp)
          have hcap := (own_cap HO7.out).1
          have hzw : w.heap.size < W4.heap.size := by omega
          go_region
          go_wp2_with fail
          have HN9 := Lib.hid (own_set (o := 4) (x := .slice none 0 0) (own_set (o := 3) (x := .slice none 0 0) (own_set (o := 2) (x := .slice A6 s.length c6) (own_set (o := 1) (x := .int .i64 0) (own_set (o := 0) (x := .int .i64 2) HO7.out hzw) hzw) hzw) hzw) hzw)
          obtain ⟨W9, hW9⟩ : ∃ W9, (((((W7.setCell ⟨w.heap.size, 0, none⟩ (.int .i64 2)).setCell ⟨w.heap.size, 1, none⟩ (.int .i64 0)).setCell ⟨w.heap.size, 2, none⟩ (.slice A6 s.length c6)).setCell ⟨w.heap.size, 3, none⟩ (.slice none 0 0)).setCell ⟨w.heap.size, 4, none⟩ (.slice none 0 0)).drew = W9 := ⟨_, rfl⟩
          have HX9 : Bx W9 w.heap.size (.int .i64 2) (.int .i64 0) (.slice A6 s.length c6) (.slice none 0 0) (.slice none 0 0) := by rw [← hW9]; exact HS7.out.set5 _ _ _ _ _
          have HB9 : Below w.heap.size w W9 := by rw [← hW9]; exact (below5 HB7.out (Nat.le_refl _) _ _ _ _ _).drew
          have HO9 : W9.ownsRow W4.heap.size 5 1 (.slice A6 s.length c6) s.length (bv s) := by rw [← hW9]; exact HN9.out
          rw [hW9]
          clear hW9
          refine par_ret rfl rfl rfl rfl HX9 ⟨HB9, .inr ⟨_, _, _, _, _, HE.out, rfl, _, _, _, rfl, A6, s.length, c6, none, 0, 0, none, 0, rfl, rfl, rfl, hcap, Nat.le_refl _, Nat.le_refl _, by decide, RdS.own HO9 (fun b h1 h2 => ⟨by omega, h2⟩), RdS.none_ _ _, fun h => absurd h (by simp [VF.len])⟩⟩
        · have hcd' : (cd == 0) = false := by simpa using hcd
          have HE := Lib.hid (show parV (f + 1) bs x k = none by rw [parV, if_neg HK0.out, H1.out]; simp only []; rw [HCK.out]; simp [hcd])
          have hs0 : s = [] := chunk_bad HCK.out hcd
          subst hs0
          clear hcd
          go_region
          go_wp2_with fail
          rw [HE.out]
          obtain ⟨W9, hW9⟩ : ∃ W9, (((((W7.setCell ⟨w.heap.size, 0, none⟩ (.int .i64 2)).setCell ⟨w.heap.size, 1, none⟩ (.int .i64 0)).setCell ⟨w.heap.size, 2, none⟩ (.slice A6 0 c6)).setCell ⟨w.heap.size, 3, none⟩ (.slice none 0 0)).setCell ⟨w.heap.size, 4, none⟩ (.slice none 0 0)).drew = W9 := ⟨_, rfl⟩
          have HX9 : Bx W9 w.heap.size (.int .i64 2) (.int .i64 0) (.slice A6 0 c6) (.slice none 0 0) (.slice none 0 0) := by rw [← hW9]; exact HS7.out.set5 _ _ _ _ _
          have HB9 : Below w.heap.size w W9 := by rw [← hW9]; exact (below5 HB7.out (Nat.le_refl _) _ _ _ _ _).drew
          rw [hW9]
          clear hW9
          exact par_ret rfl rfl rfl rfl HX9 (pa_none HB9)
      · have hk2' : (kd == 2) = false := by simpa using hk2
        have HK2 := Lib.hid hk2
        have HKD := Lib.hid hkd
        clear hk2 hkd hin
        obtain ⟨m, x2, c2, i2, h2⟩ : ∃ m x2 c2 i2, readNum bs x1 = (m, x2, c2, i2) := ⟨_, _, _, _, rfl⟩
        have H2 := Lib.hid h2
        clear h2
        go_wp2_with fail
        refine (get_calls HR4.out x1 (by unfold maxLen; omega)).mono ?_
        rintro e w5 ⟨rfl, hb5⟩
        rw [H2.out]
        have HB5 := Lib.hid (chain HB4.out hb5)
        have HS5 := Lib.hid (HS4.out.on hb5)
        have HF5 := Lib.hid (HF4.out.on hb5)
        have HX5 := Lib.hid (HX4.out.on hb5)
        have hz5 : W4.heap.size ≤ w5.heap.size := hb5.size
        obtain ⟨_, a0, a1, b0, b1⟩ := HF5.out
        clear hb5 HB4 HS4 HF4 HX4
        go_upto_region 13 with (fail)
        have HB6 := Lib.hid (below_put HB5.out (show w.heap.size ≤ w2.heap.size by omega) (.int .i64 c2) (.int .i64 i2))
        have HF6 := Lib.hid (HF5.out.put c2 i2)
        have HS6 := Lib.hid (show Bx ((w5.setCell ⟨w2.heap.size, 0, none⟩ (.int .i64 c2)).setCell ⟨w2.heap.size, 1, none⟩ (.int .i64 i2)) w.heap.size (.int .i64 0) (.int .i64 0) (.slice none 0 0) (.slice none 0 0) (.slice none 0 0) from (HS5.out.far (by omega)).far (by omega))
        have HX6 := Lib.hid (show Bx ((w5.setCell ⟨w2.heap.size, 0, none⟩ (.int .i64 c2)).setCell ⟨w2.heap.size, 1, none⟩ (.int .i64 i2)) (w2.heap.size + 1) (.int .i64 kd) (.int .i64 0) (.slice none 0 0) (.slice none 0 0) (.slice none 0 0) by rw [← hz3]; exact (HX5.out.far (by omega)).far (by omega))
        obtain ⟨W6, hW6⟩ : ∃ W6, (w5.setCell ⟨w2.heap.size, 0, none⟩ (.int .i64 c2)).setCell ⟨w2.heap.size, 1, none⟩ (.int .i64 i2) = W6 := ⟨_, rfl⟩
        have hz6 : W6.heap.size = w5.heap.size := by rw [← hW6]; simp
        rw [hW6] at HB6 HF6 HS6 HX6 ⊢
        clear hW6 a0 a1 b0 b1 HB5 HF5 HS5 HX5
        obtain ⟨_, a0, a1, b0, b1⟩ := HF6.out
        obtain ⟨s0, s1, s2, s3, s4⟩ := HS6.out.cells
        have f0 := HS6.out.free 0
        have f1 := HS6.out.free 1
        have f2 := HS6.out.free 2
        have f3 := HS6.out.free 3
        have f4 := HS6.out.free 4
        by_cases hc2 : c2 = 0
        · subst hc2
          by_cases hk1 : kd = 1
          · subst hk1
            have HE := Lib.hid (show parV (f + 1) bs x k = some (⟨1, m, [], []⟩, .nil, x2, k - 1) by rw [parV, if_neg HK0.out, H1.out]; simp only []; rw [H2.out]; simp)
            obtain ⟨t0, t1, t2, t3, t4⟩ := HX6.out.cells
            have e1 := HX6.out.free 1
            go_wp2_with fail
            refine par_ret rfl rfl rfl rfl ((HS6.out.far (by omega)).set5 (.int .i64 1) (.int .i64 m) (.slice none 0 0) (.slice none 0 0) (.slice none 0 0)) ⟨below5 (HB6.out.setCell (p := ⟨w2.heap.size + 1, 1, none⟩) (by show w.heap.size ≤ w2.heap.size + 1; omega) _) (Nat.le_refl _) _ _ _ _ _, .inr ⟨_, _, _, _, _, HE.out, rfl, _, _, _, rfl, none, 0, 0, none, 0, 0, none, 0, rfl, rfl, rfl, Nat.le_refl _, Nat.le_refl _, Nat.le_refl _, by decide, RdS.none_ _ _, RdS.none_ _ _, fun h => absurd h (by simp [VF.len])⟩⟩
          · have hk1' : (kd == 1) = false := by simpa using hk1
            have HK1 := Lib.hid hk1
            clear hk1
            by_cases hm0 : m < 0
            · have hm' : decide (m < 0) = true := by simpa using hm0
              have HE := Lib.hid (show parV (f + 1) bs x k = none by rw [parV, if_neg HK0.out, H1.out]; simp only []; rw [H2.out]; simp only []; rw [if_neg (by have := HKD.out; simp; omega), if_neg HK2.out, if_neg (by simp), if_neg HK1.out, if_pos hm0])
              clear hm0
              go_wp2_with fail
              exact par_bad HE.out rfl rfl rfl rfl HS6.out HB6.out
            · have hm' : decide (m < 0) = false := by simpa using hm0
              obtain ⟨M, rfl⟩ := Int.eq_ofNat_of_zero_le (show 0 ≤ m by omega)
              have HE := Lib.hid (parV_l3 (f := f) HK0.out H1.out HK1.out HK2.out (by have := HKD.out; omega) H2.out hm0)
              rw [Int.toNat_natCast] at HE
              clear hm0 s0 s1 s2 s3 s4 f0 f1 f2 f3 f4
              go_wp2_with fail
              have HST := Lib.hid (PIn.start HX6.out HS6.out HF6.out HB6.out)
              have hhc : w2.heap.size + 1 < W6.heap.size := HX6.out.lt
              have HK := Lib.hid (show k - 1 + 0 ≤ 600 by omega)
              have HWC := Lib.hid HR4.out
              have hlw : IntKind.i64.wrap (lev + 1) = lev + 1 := IntWalk.i64_in _ (by have := HLV.out; omega)
              have HLW := Lib.hid hlw
              clear a0 a1 b0 b1 HB6 HF6 HS6 HX6 hlw hwr
              obtain ⟨h, hh⟩ : ∃ h, w2.heap.size + 1 = h := ⟨_, rfl⟩
              obtain ⟨gf, hgf⟩ : ∃ gf, w2.heap.size = gf := ⟨_, rfl⟩
              rw [hh] at HST hhc ⊢
              rw [hgf] at HST ⊢
              have hwh : w.heap.size < h := by omega
              have hwf : w.heap.size < gf := by omega
              have hfc : gf < W6.heap.size := by omega
              have hfh : gf ≠ h := by omega
              clear hh hgf
              go_loopw [3, 13, 17] (PRel w W6 h gf kd M f bs (parV (f + 1) bs x k)) (fun _ _ i _ => M - (intOf i).toNat)
              case atStart => exact ⟨[], .nil, x2, k - 1, none, 0, none, 0, [], rfl, rfl, rfl, HK.out, Nat.zero_le _, Nat.le_refl _, HST.out, by rw [HE.out, moreQ_nil]; rfl⟩
              case round =>
                obtain ⟨ns, F, y, q, An, cn, Ap, cp, cs, rfl, rfl, rfl, hq6, hi, hnsF, hL, hres⟩ := hrel
                have HL := Lib.hid hL
                have HRES := Lib.hid hres
                have HRD := Lib.hid (HR.out.on hL.bl)
                have hzr := hL.zc
                have hbl := hL.bx.lt
                obtain ⟨b0, _, _, b3, _⟩ := hL.bx.cells
                clear hL hres
                by_cases hltM : F.len < M
                · have hli : (F.len : Int) < (M : Int) := by omega
                  have h0 : (0 : Int) ≤ (F.len : Int) := by omega
                  go_upto_if 93 with (fail)
                  go_cut [13, 18] from 87 to 133 (fun nx s18 wx => ∃ nm An1 cn1 y1, nx = .int .i64 y1 ∧ nm.length ≤ 1 ∧ PIn w W6 h gf kd (ns ++ nm) F An1 cn1 Ap cp cs wx ∧ (parV f bs y1 q = none → stepQ (parV f bs) bs (kd == 4) y q = none) ∧ (∀ d p z q', parV f bs y1 q = some (d, p, z, q') → stepQ (parV f bs) bs (kd == 4) y q = some (nm, d, p, z, q')))
                  case first =>
                    by_cases hk : kd = 4
                    · have hk4 : (kd == 4) = true := by simpa using hk
                      have HK4 := Lib.hid hk4
                      clear hk
                      obtain ⟨s, y2, cd, jx, hck⟩ : ∃ s y2 cd jx, readChunk bs y = (s, y2, cd, jx) := ⟨_, _, _, _, rfl⟩
                      have HCK := Lib.hid hck
                      clear hck
                      obtain ⟨fa, fb, hff⟩ := HL.out.ff
                      have HFF := Lib.hid hff
                      clear hff
                      go_wp2_with fail
                      refine (getChunk_calls HRD.out y (by omega) hnc).mono ?_
                      rintro e w6 ⟨A6, c6, rfl, hown6, hb6⟩
                      rw [HCK.out] at hown6 ⊢
                      simp only at hown6
                      have HO6 := Lib.hid hown6
                      have HB6 := Lib.hid hb6
                      obtain ⟨_, a0, a1, g0, g1⟩ := HFF.out.on hb6
                      have hz6 : wr.heap.size ≤ w6.heap.size := hb6.size
                      clear hown6 hb6
                      go_upto_region 26 with (fail)
                      obtain ⟨W7, hW7⟩ : ∃ W7, (w6.setCell ⟨gf, 0, none⟩ (.int .i64 cd)).setCell ⟨gf, 1, none⟩ (.int .i64 jx) = W7 := ⟨_, rfl⟩
                      have hrf : Rf wr W7 gf := by rw [← hW7]; exact (Rf.of HB6.out).set.set
                      have HRF := Lib.hid hrf
                      have HFF7 := Lib.hid (show FC W7 gf cd jx by rw [← hW7]; exact (HFF.out.on HB6.out).put cd jx)
                      have HO7 := Lib.hid (show W7.ownsRow wr.heap.size 5 1 (.slice A6 s.length c6) s.length (bv s) by rw [← hW7]; exact own_set (own_set HO6.out (by omega)) (by omega))
                      have hz7 : W7.heap.size = w6.heap.size := by rw [← hW7]; simp
                      rw [hW7]
                      clear hW7 a0 a1 g0 g1 HO6 hrf
                      obtain ⟨_, a0, a1, _, _⟩ := HFF7.out
                      by_cases hcd : cd = 0
                      · subst hcd
                        have hstr := run_str (c := c6) (Rd.of_own HO7.out)
                        have hb7 := HL.out.bx.rf HRF.out (Ne.symm hfh)
                        have HB7 := Lib.hid hb7
                        obtain ⟨b0, _, _, b3, _⟩ := hb7.cells
                        have b3' := fun ob => cell_up (o := ob) b3
                        clear hb7
                        go_wp2_with (at_builtin; refine wpList_app5 slS rfl (.tmp 106) (.tmp 109) rfl W6.heap.size An ns.length cn (sv ns) (by simp [Act.eval, Act.put]) (by exact (own_rf HL.out.on HRF.out (by omega)).alloc _) W7.heap.size [.string ⟨s.toArray⟩] (by simp [Act.eval, Act.put]) rfl (by exact news1 _ _ _) (by simp [Value.oneCell']) (by omega) (by simp only [alloc_size]; omega) (W7.heap.size + 1) (by simp only [alloc_size]) ?_; intro g' c' w8 hown8 hg8 hat hlt8; have hb8 := bx_grown HB7.out hg8 (fun e => by have := (HL.out.on.lt h e).1; omega); have hc8 := hb8.cells; obtain ⟨_, _, _, t8, _⟩ := hc8; have f8 := hb8.free 3)
                        go_meet
                        exact ⟨[s], some ⟨g', 0, none⟩, c', y2, rfl, Nat.le_refl _, HL.out.name hwh hhc hwf hfc hfh HRF.out ⟨0, jx, HFF7.out⟩ hg8 hown8 hat, fun hn => by rw [HK4.out]; exact stepQ_rno HCK.out hn, fun d p z q' hy => by rw [HK4.out]; exact stepQ_ryes HCK.out hy⟩
                      · have hcd' : (cd != 0) = true := by simpa using hcd
                        have HCD := Lib.hid hcd
                        have hs7 := HL.out.rs.rf HRF.out (show w.heap.size ≠ gf by omega)
                        have HS7 := Lib.hid hs7
                        have HBL7 := Lib.hid (show Below w.heap.size w W7 from HL.out.bl.trans (HRF.out.below (by omega) HL.out.bl.size))
                        obtain ⟨s0, s1, s2, s3, s4⟩ := hs7.cells
                        have f0 := hs7.free 0
                        have f1 := hs7.free 1
                        have f2 := hs7.free 2
                        have f3 := hs7.free 3
                        have f4 := hs7.free 4
                        clear hcd hs7
                        go_wp2_with fail
                        exact par_bad (resQ_none HRES.out hltM (by rw [HK4.out]; exact stepQ_rfault (by rw [HCK.out]; exact HCD.out))) rfl rfl rfl rfl HS7.out HBL7.out
                    · have hk4 : (kd == 4) = false := by simpa using hk
                      have HK4 := Lib.hid hk4
                      clear hk
                      go_wp2_with fail
                      go_meet
                      exact ⟨[], An, cn, y, rfl, Nat.zero_le _, by rw [List.append_nil]; exact HL.out, fun hn => by rw [HK4.out]; exact stepQ_no hn, fun d p z q' hy => by rw [HK4.out]; exact stepQ_yes hy⟩
                  case rest =>
                    obtain ⟨nm, An1, cn1, y1, rfl, hnm, hL1, hno, hyes⟩ := hcut
                    have HL1 := Lib.hid hL1
                    have HNO := Lib.hid hno
                    have HYES := Lib.hid hyes
                    have HRD1 := Lib.hid (HR.out.on hL1.bl)
                    have hzr1 := hL1.zc
                    have hbl1 := hL1.bx.lt
                    have hlw := HLW.out
                    clear hL1 hno hyes b0 b3
                    go_wp2_with fail
                    refine (HIH.out _ y1 q HRD1.out (by omega)).mono ?_
                    rintro e w6 ⟨hb6, hres6⟩
                    have hz6 : wc.heap.size ≤ w6.heap.size := hb6.size
                    rcases hres6 with ⟨hp0, k6, x6, y6, A6, c6, rfl⟩ | ⟨d6, p6, z6, q6, v6, hp1, rfl, hv6⟩
                    · have HP0 := Lib.hid hp0
                      have hw7 := hb6.trans ((bel1 w6 (.cells #[.int .i64 k6, .int .i64 0, .slice A6 0 c6, .slice none 0 0, .slice none 0 0] 26)).mono hb6.size)
                      have HS7 := Lib.hid (HL1.out.rs.on hw7)
                      have HB7 := Lib.hid (chain HL1.out.bl hw7)
                      clear hb6 hp0 hw7
                      go_upto_region 30 with (fail)
                      obtain ⟨W7, hW7⟩ : ∃ W7, w6.alloc (.cells #[.int .i64 k6, .int .i64 0, .slice A6 0 c6, .slice none 0 0, .slice none 0 0] 26) = W7 := ⟨_, rfl⟩
                      rw [hW7] at HS7 HB7 ⊢
                      clear hW7
                      obtain ⟨s0, s1, s2, s3, s4⟩ := HS7.out.cells
                      have f0 := HS7.out.free 0
                      have f1 := HS7.out.free 1
                      have f2 := HS7.out.free 2
                      have f3 := HS7.out.free 3
                      have f4 := HS7.out.free 4
                      go_wp2_with fail
                      exact par_bad (resQ_none HRES.out hltM (HNO.out HP0.out)) rfl rfl rfl rfl HS7.out HB7.out
                    · have HP1 := Lib.hid hp1
                      have HQ6 := Lib.hid (parV_less _ _ _ _ _ _ _ hp1)
                      obtain ⟨sb6, sn6, sp6, rfl, hd6⟩ := hv6
                      have HD6 := Lib.hid hd6
                      obtain ⟨Ab6, nb6, cb6, An6, nn6, cn6, Ap6, cp6, rfl, rfl, rfl, _⟩ := hd6
                      have hw7 : Below w6.heap.size w6 (w6.alloc (.cells #[.int .i64 d6.k, .int .i64 d6.n, .slice Ab6 nb6 cb6, .slice An6 nn6 cn6, .slice Ap6 p6.len cp6] 26)) := bel1 _ _
                      have HX7 := Lib.hid (Bx.new w6 (.int .i64 d6.k) (.int .i64 d6.n) (.slice Ab6 nb6 cb6) (.slice An6 nn6 cn6) (.slice Ap6 p6.len cp6))
                      have HD7 := Lib.hid (hds_alloc HD6.out (.cells #[.int .i64 d6.k, .int .i64 d6.n, .slice Ab6 nb6 cb6, .slice An6 nn6 cn6, .slice Ap6 p6.len cp6] 26))
                      have HB7 := Lib.hid (chain hb6 hw7)
                      clear hb6 hp1 hw7 HD6
                      go_upto_region 30 with (fail)
                      obtain ⟨W7, hW7⟩ : ∃ W7, w6.alloc (.cells #[.int .i64 d6.k, .int .i64 d6.n, .slice Ab6 nb6 cb6, .slice An6 nn6 cn6, .slice Ap6 p6.len cp6] 26) = W7 := ⟨_, rfl⟩
                      have hz7 : W7.heap.size = w6.heap.size + 1 := by rw [← hW7]; simp
                      rw [hW7] at HX7 HD7 HB7 ⊢
                      clear hW7
                      have hb7 := HL1.out.bx.on HB7.out
                      have HBX7 := Lib.hid hb7
                      obtain ⟨_, _, _, _, b4⟩ := hb7.cells
                      have b4' := fun ob => cell_up (o := ob) b4
                      obtain ⟨t0, t1, t2, t3, t4⟩ := HX7.out.cells
                      clear hb7
                      go_wp2_with (at_builtin; refine wpList_app5 slV rfl (.tmp 127) (.tmp 129) rfl W6.heap.size Ap F.len cp cs (by simp [Act.eval, Act.put]) (by exact (own_below HL1.out.op HB7.out (Nat.le_refl _)).alloc _) W7.heap.size [.int .i64 d6.k, .int .i64 d6.n, .slice Ab6 nb6 cb6, .slice An6 nn6 cn6, .slice Ap6 p6.len cp6] (by simp [Act.eval, Act.put]) rfl (by exact news5 _ _ _ _ _ _ _) (by simp [Value.oneCell']) (by omega) (by simp only [alloc_size]; omega) (W7.heap.size + 1) (by simp only [alloc_size]) ?_; intro g' c' w8 hown8 hg8 hat hlt8; have hb8 := bx_grown HBX7.out hg8 (fun e => by have := (HL1.out.op.lt h e).1; omega); have hc8 := hb8.cells; obtain ⟨_, _, _, _, t8⟩ := hc8; have f8 := hb8.free 4)
                      have hq7 := HQ6.out
                      exact ⟨⟨ns ++ nm, F.snoc d6 p6, z6, q6, An1, cn1, some ⟨g', 0, none⟩, c', _, by rw [VF.len_snoc]; go_num, rfl, rfl, by rw [VF.len_snoc]; omega, by rw [VF.len_snoc]; omega, by rw [VF.len_snoc, List.length_append]; omega, HL1.out.part hwh hhc hwf hfc hfh HB7.out (by exact HD7.out) hg8 hown8 hat, resQ_some HRES.out hltM (HYES.out _ _ _ _ HP1.out)⟩, by simp [intOf]; omega⟩
                · have HEND := Lib.hid (resQ_end HRES.out (by omega))
                  obtain ⟨t0, t1, t2, t3, t4⟩ := HL.out.bx.cells
                  have HRS := Lib.hid HL.out.rs
                  obtain ⟨z0, z1, z2, z3, z4⟩ := HRS.out.cells
                  have zf := HRS.out.free
                  have hwz := HRS.out.lt
                  go_wp2_with fail
                  obtain ⟨W9, hW9⟩ : ∃ W9, (((((wr.setCell ⟨w.heap.size, 0, none⟩ (.int .i64 kd)).setCell ⟨w.heap.size, 1, none⟩ (.int .i64 0)).setCell ⟨w.heap.size, 2, none⟩ (.slice none 0 0)).setCell ⟨w.heap.size, 3, none⟩ (.slice An ns.length cn)).setCell ⟨w.heap.size, 4, none⟩ (.slice Ap F.len cp)) = W9 := ⟨_, rfl⟩
                  have hb9 : Bx W9 w.heap.size (.int .i64 kd) (.int .i64 0) (.slice none 0 0) (.slice An ns.length cn) (.slice Ap F.len cp) := by rw [← hW9]; exact HRS.out.set5 _ _ _ _ _
                  have HZ9 := Lib.hid (show W9.heap.size = wr.heap.size by rw [← hW9]; simp)
                  have HC9 := Lib.hid (show ∀ q : Addr, w.heap.size ≠ q.block → W9.cell? q = wr.cell? q by rw [← hW9]; exact fun q hq => cell_set5 q hq)
                  have HB9 := Lib.hid (show Below w.heap.size w W9 by rw [← hW9]; exact below5 HL.out.bl (Nat.le_refl _) _ _ _ _ _)
                  rw [hW9]
                  clear hW9 z0 z1 z2 z3 z4 zf t0 t1 t2 t3 t4
                  refine par_ret rfl rfl rfl rfl hb9 ⟨HB9.out, .inr ⟨_, _, y, q, _, HEND.out, rfl, ?_⟩⟩
                  exact (HL.out.done (by omega)).keep (fun q hq => HC9.out q (by have := hq.1; omega)) (fun b hb => ⟨by have := hb.1; omega, by rw [HZ9.out]; exact hb.2⟩)
        · have hc2' : (c2 != 0) = true := by simpa using hc2
          have HE := Lib.hid (show parV (f + 1) bs x k = none by rw [parV, if_neg HK0.out, H1.out]; simp only []; rw [H2.out]; simp only []; rw [if_neg (by have := HKD.out; simp; omega), if_neg HK2.out, if_pos hc2])
          clear hc2
          go_wp2_with fail
          exact par_bad HE.out rfl rfl rfl rfl HS6.out HB6.out
    · have hin : (decide (1 ≤ kd) && decide (kd ≤ 4)) = false := by rw [Bool.eq_false_iff]; intro h; simp at h; exact hkd h
      have HE := Lib.hid (show parV (f + 1) bs x k = none by rw [parV, if_neg HK0.out, H1.out]; simp only []; rw [if_pos (by omega)])
      clear hkd
      go_wp2_with (go_at_call 23; refine (in_calls _ _ _ _).mono ?_; rintro e w' ⟨rfl, rfl⟩; rw [hin])
      exact par_bad HE.out rfl rfl rfl rfl HS3.out HB3.out
  · have hc1' : (c1 != 0) = true := by simpa using hc1
    have HE := Lib.hid (show parV (f + 1) bs x k = none by rw [parV, if_neg HK0.out, H1.out]; simp only []; rw [if_pos (.inl hc1)])
    clear hc1
    go_wp2_with fail
    exact par_bad HE.out rfl rfl rfl rfl HS3.out HB3.out
theorem parse_calls {A : Option Addr} {n c : Nat} {bs : List UInt8} (hn : n ≤ 4000) (hnc : n ≤ c) : ∀ (f : Nat), f ≤ 10 → ∀ (lev : Int), lev + (f : Int) = 11 → ParC A n c bs f lev := by
  intro f
  induction f with
  | zero => intro _ lev hl w x k _ _; exact parse_zero w (.inl (by omega))
  | succ f ih => intro hf lev hl; exact parse_step hn hnc (by omega) (by omega) (ih (by omega) (lev + 1) (by omega))
end Go.Proofs.Ytolognhjdmkohaa
