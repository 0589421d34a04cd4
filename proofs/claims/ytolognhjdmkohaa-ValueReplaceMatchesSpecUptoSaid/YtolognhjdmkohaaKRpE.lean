/-
  The contract of value.Replace.
-/
import Derived.Test.YtolognhjdmkohaaKRpD
import Derived.Test.YtolognhjdmkohaaJ9
import Derived.Test.YtolognhjdmkohaaKAbv
namespace Go.Proofs.Ytolognhjdmkohaa
open Go.RowKit
set_option linter.unusedVariables false
set_option linter.unusedSimpArgs false

/-- the fault of a replacement -/
def RpF (d e : Nd) (p q : VF) (path : List Int) (cd ix : Int) : Prop :=
  cd ≠ 0 ∧ (valF d p = (cd, ix) ∨ (valF d p = (0, 0) ∧ valF e q = (cd, ix)) ∨ (valF d p = (0, 0) ∧ valF e q = (0, 0) ∧ ∃ j : Nat, pathV d p path 0 = .inl j ∧ cd = 12 ∧ ix = (j : Int)) ∨
    (valF d p = (0, 0) ∧ valF e q = (0, 0) ∧ (∃ x, pathV d p path 0 = .inr x) ∧ valF (repV path d p e q).1 (repV path d p e q).2 = (cd, ix)))
def RpEnd (w : World) (d e : Nd) (p q : VF) (path : List Int) (ev : Ending) (w' : World) : Prop :=
  Below w.heap.size w w' ∧ ((∃ cd ix, RpF d e p q path cd ix ∧ ev = .returned (.tuple #[.agg #[.int .i64 0, .int .i64 0, .slice none 0 0, .slice none 0 0, .slice none 0 0], .agg #[.int .i64 cd, .int .i64 ix]])) ∨
    (∃ v', valF d p = (0, 0) ∧ valF e q = (0, 0) ∧ (∃ x, pathV d p path 0 = .inr x) ∧ valF (repV path d p e q).1 (repV path d p e q).2 = (0, 0) ∧ ev = .returned (.tuple #[v', .agg #[.int .i64 0, .int .i64 0]]) ∧ VInS w' (fun b => w.heap.size ≤ b ∧ b < w'.heap.size) v' (repV path d p e q).1 (repV path d p e q).2))
theorem rp_ret {w : World} {tmps : Array Value} {g h : Nat} {a b c d e : Value} {x y : Int} {R : Ending → World → Prop} (h6 : tmps.getD 6 undef = .pointer (some ⟨g, 0, none⟩)) (h7 : tmps.getD 7 undef = .pointer (some ⟨h, 0, none⟩)) (hb : Bx w g a b c d e) (hf : FC w h x y)
    (hR : R (.returned (.tuple #[.agg #[a, b, c, d, e], .agg #[.int .i64 x, .int .i64 y]])) w) : bodyPost Try.prog Try.f36 R .ret { tmps := tmps, defers := [] } w := by
  obtain ⟨y0, y1, y2, y3, y4⟩ := hb.cells
  obtain ⟨z4, r0, r1, e0, e1⟩ := hf
  have hl := hb.lt
  rw [Array.getD_eq_getD_getElem?] at h6 h7
  exact bodyPost_ret (by simp [results, Try.results36, go_sem, h6, h7, y0, y1, y2, y3, y4, hl, r0, r1, z4]) rfl hR
/-- a fault is returned -/
theorem rp_bad {w W : World} {tmps : Array Value} {g h : Nat} {a b c d' e' : Value} {x y cd ix : Int} {d e : Nd} {p q : VF} {path : List Int} (hR : RpF d e p q path cd ix) (h6 : tmps.getD 6 undef = .pointer (some ⟨g, 0, none⟩)) (h7 : tmps.getD 7 undef = .pointer (some ⟨h, 0, none⟩)) (hb : Bx W g a b c d' e') (hf : FC W h x y) (hne : g ≠ h) (hg : w.heap.size ≤ g) (hh : w.heap.size ≤ h) (hbl : Below w.heap.size w W) :
    bodyPost Try.prog Try.f36 (RpEnd w d e p q path) .ret { tmps := tmps, defers := [] } (((((((W.setCell ⟨g, 0, none⟩ (.int .i64 0)).setCell ⟨g, 1, none⟩ (.int .i64 0)).setCell ⟨g, 2, none⟩ (.slice none 0 0)).setCell ⟨g, 3, none⟩ (.slice none 0 0)).setCell ⟨g, 4, none⟩ (.slice none 0 0)).setCell ⟨h, 0, none⟩ (.int .i64 cd)).setCell ⟨h, 1, none⟩ (.int .i64 ix)).drew := by
  obtain ⟨W', hW⟩ : ∃ W', (((((((W.setCell ⟨g, 0, none⟩ (.int .i64 0)).setCell ⟨g, 1, none⟩ (.int .i64 0)).setCell ⟨g, 2, none⟩ (.slice none 0 0)).setCell ⟨g, 3, none⟩ (.slice none 0 0)).setCell ⟨g, 4, none⟩ (.slice none 0 0)).setCell ⟨h, 0, none⟩ (.int .i64 cd)).setCell ⟨h, 1, none⟩ (.int .i64 ix)) = W' := ⟨_, rfl⟩
  obtain ⟨p1, p2, p3, p4, p5⟩ := put57 hb hf hne hW
  rw [hW]
  exact rp_ret h6 h7 (show Bx W'.drew g (.int .i64 0) (.int .i64 0) (.slice none 0 0) (.slice none 0 0) (.slice none 0 0) from p1) p2.drew ⟨(p4 _ _ hbl hg hh).drew, .inl ⟨cd, ix, hR, rfl⟩⟩
theorem cell_onR {w w' : World} {q : Addr} {v : Value} (h : w.cell? q = some v) (hb : Below w.heap.size w w') : w'.cell? q = some v := Abv.cell h ⟨w', hb⟩
theorem set5_out {w : World} {g o : Nat} {x0 x1 x2 x3 x4 : Value} (a : Addr) (ha : a.block ≠ g ∨ a.off < o ∨ o + 5 ≤ a.off) : (((((w.setCell ⟨g, o, none⟩ x0).setCell ⟨g, o + 1, none⟩ x1).setCell ⟨g, o + 2, none⟩ x2).setCell ⟨g, o + 3, none⟩ x3).setCell ⟨g, o + 4, none⟩ x4).cell? a = w.cell? a := by
  have h : ∀ (W : World) (t : Nat) (x : Value), t < 5 → (W.setCell ⟨g, o + t, none⟩ x).cell? a = W.cell? a := fun W t x ht => World.cell?_setCell_other W _ _ x (fun e => by subst e; simp only at ha; omega)
  rw [h _ 4 _ (by omega), h _ 3 _ (by omega), h _ 2 _ (by omega), h _ 1 _ (by omega)]
  exact h w 0 x0 (by omega)
theorem set5_in {w : World} {g o : Nat} {x0 x1 x2 x3 x4 y0 y1 y2 y3 y4 : Value} (h0 : w.cell? ⟨g, o, none⟩ = some y0) (h1 : w.cell? ⟨g, o + 1, none⟩ = some y1) (h2 : w.cell? ⟨g, o + 2, none⟩ = some y2) (h3 : w.cell? ⟨g, o + 3, none⟩ = some y3) (h4 : w.cell? ⟨g, o + 4, none⟩ = some y4)
    (W : World) (hW : (((((w.setCell ⟨g, o, none⟩ x0).setCell ⟨g, o + 1, none⟩ x1).setCell ⟨g, o + 2, none⟩ x2).setCell ⟨g, o + 3, none⟩ x3).setCell ⟨g, o + 4, none⟩ x4) = W) : W.cell? ⟨g, o, none⟩ = some x0 ∧ W.cell? ⟨g, o + 1, none⟩ = some x1 ∧ W.cell? ⟨g, o + 2, none⟩ = some x2 ∧ W.cell? ⟨g, o + 3, none⟩ = some x3 ∧ W.cell? ⟨g, o + 4, none⟩ = some x4 := by
  subst hW
  have h : ∀ (V : World) (t s : Nat) (x : Value), t ≠ s → (V.setCell ⟨g, o + t, none⟩ x).cell? ⟨g, o + s, none⟩ = V.cell? ⟨g, o + s, none⟩ := fun V t s x ht => World.cell?_setCell_other V _ _ x (fun e => ht (by have h := congrArg Addr.off e; simp only at h; omega))
  have hs : ∀ (V : World) (t : Nat) (x y : Value), V.cell? ⟨g, o + t, none⟩ = some y → (V.setCell ⟨g, o + t, none⟩ x).cell? ⟨g, o + t, none⟩ = some x := fun V t x y hy => World.cell?_setCell_same V _ _ hy
  refine ⟨?_, ?_, ?_, ?_, ?_⟩
  · rw [show (⟨g, o, none⟩ : Addr) = ⟨g, o + 0, none⟩ from rfl, h _ 4 0 _ (by omega), h _ 3 0 _ (by omega), h _ 2 0 _ (by omega), h _ 1 0 _ (by omega)]; exact hs w 0 x0 y0 h0
  · rw [h _ 4 1 _ (by omega), h _ 3 1 _ (by omega), h _ 2 1 _ (by omega)]; exact hs _ 1 x1 y1 ((h w 0 1 _ (by omega)).trans h1)
  · rw [h _ 4 2 _ (by omega), h _ 3 2 _ (by omega)]; exact hs _ 2 x2 y2 (by rw [h _ 1 2 _ (by omega)]; exact (h w 0 2 _ (by omega)).trans h2)
  · rw [h _ 4 3 _ (by omega)]; exact hs _ 3 x3 y3 (by rw [h _ 2 3 _ (by omega), h _ 1 3 _ (by omega)]; exact (h w 0 3 _ (by omega)).trans h3)
  · exact hs _ 4 x4 y4 (by rw [h _ 3 4 _ (by omega), h _ 2 4 _ (by omega), h _ 1 4 _ (by omega)]; exact (h w 0 4 _ (by omega)).trans h4)
def RpRel (w W1 : World) (d e : Nd) (p q : VF) (k : Value) (wr : World) : Prop :=
  ∃ i : Nat, k = .int .i64 (i : Int) ∧ i ≤ 2 ∧ Below W1.heap.size W1 wr ∧ (1 ≤ i → valF d p = (0, 0)) ∧ (2 ≤ i → valF e q = (0, 0))
set_option maxRecDepth 100000 in
set_option maxHeartbeats 4000000 in
theorem replace_calls {d e : Nd} {p q : VF} {w : World} {v vw : Value} {A : Option Addr} {n c : Nat} {path : List Int} (hm : Mod d p) (he : Mod e q) (hv : VIn w w.heap.size v d p) (hvw : VIn w w.heap.size vw e q) (hr : Rd w w.heap.size 1 A n (iv path)) (hn : n ≤ 1048576) :
    Calls Try.prog 36 #[v, .slice A n c, vw] w (RpEnd w d e p q path) := by
  have HV := Lib.hid hv
  have HE := Lib.hid hvw
  have HM := Lib.hid hm
  have HME := Lib.hid he
  have HR := Lib.hid hr
  obtain ⟨sb, sn, sp, rfl, hd⟩ := hv
  have HHD := Lib.hid hd
  obtain ⟨Ab, nb, cb, An, nn, cn, Ap, cp, rfl, rfl, rfl, _⟩ := hd
  obtain ⟨tb, tn, tp, rfl, hd⟩ := hvw
  have HHE := Lib.hid hd
  obtain ⟨Eb, mb, db, En, mn, dn, Ep, dp, rfl, rfl, rfl, _⟩ := hd
  clear hm he hr
  go_enter Try.func36, Try.ntmps36
  go_wp2_with fail
  obtain ⟨W1, hW1⟩ : ∃ W1, ((((w.alloc (.cells #[.int .i64 d.k, .int .i64 d.n, .slice Ab nb cb, .slice An nn cn, .slice Ap p.len cp] 26)).alloc (.cells #[.int .i64 e.k, .int .i64 e.n, .slice Eb mb db, .slice En mn dn, .slice Ep q.len dp] 26)).alloc (.cells #[.int .i64 0, .int .i64 0, .slice none 0 0, .slice none 0 0, .slice none 0 0] 26)).alloc (.cells #[.int .i64 0, .int .i64 0] 29)).alloc (.cells #[.int .i64 d.k, .int .i64 d.n, .slice Ab nb cb, .slice An nn cn, .slice Ap p.len cp, .int .i64 e.k, .int .i64 e.n, .slice Eb mb db, .slice En mn dn, .slice Ep q.len dp] 26) = W1 := ⟨_, rfl⟩
  have HBW := Lib.hid (show Below w.heap.size w W1 by rw [← hW1]; exact bel_up (bel4 _ _ _ _ _) _)
  have HG0 : Hid (Bx W1 w.heap.size (.int .i64 d.k) (.int .i64 d.n) (.slice Ab nb cb) (.slice An nn cn) (.slice Ap p.len cp)) := Lib.hid (by rw [← hW1]; exact (Bx.new _ _ _ _ _ _).on (bel4 _ _ _ _ _))
  have HG1 : Hid (Bx W1 (w.heap.size + 1) (.int .i64 e.k) (.int .i64 e.n) (.slice Eb mb db) (.slice En mn dn) (.slice Ep q.len dp)) := Lib.hid (by rw [← hW1]; have h := Bx.new (w.alloc (.cells #[.int .i64 d.k, .int .i64 d.n, .slice Ab nb cb, .slice An nn cn, .slice Ap p.len cp] 26)) (.int .i64 e.k) (.int .i64 e.n) (.slice Eb mb db) (.slice En mn dn) (.slice Ep q.len dp); rw [alloc_size] at h; exact h.on (bel3 _ _ _ _))
  have HG2 : Hid (Bx W1 (w.heap.size + 1 + 1) (.int .i64 0) (.int .i64 0) (.slice none 0 0) (.slice none 0 0) (.slice none 0 0)) := Lib.hid (by rw [← hW1]; have h := Bx.new ((w.alloc (.cells #[.int .i64 d.k, .int .i64 d.n, .slice Ab nb cb, .slice An nn cn, .slice Ap p.len cp] 26)).alloc (.cells #[.int .i64 e.k, .int .i64 e.n, .slice Eb mb db, .slice En mn dn, .slice Ep q.len dp] 26)) (.int .i64 0) (.int .i64 0) (.slice none 0 0) (.slice none 0 0) (.slice none 0 0); rw [alloc_size, alloc_size] at h; exact h.on (bel2 _ _ _))
  have HG3 : Hid (FC W1 (w.heap.size + 1 + 1 + 1) 0 0) := Lib.hid (by rw [← hW1]; have h := FC.new (((w.alloc (.cells #[.int .i64 d.k, .int .i64 d.n, .slice Ab nb cb, .slice An nn cn, .slice Ap p.len cp] 26)).alloc (.cells #[.int .i64 e.k, .int .i64 e.n, .slice Eb mb db, .slice En mn dn, .slice Ep q.len dp] 26)).alloc (.cells #[.int .i64 0, .int .i64 0, .slice none 0 0, .slice none 0 0, .slice none 0 0] 26)) 0 0; rw [alloc_size, alloc_size, alloc_size] at h; exact h.on (bel1 _ _))
  have HG4 : Hid (∀ j u, [.int .i64 d.k, .int .i64 d.n, .slice Ab nb cb, .slice An nn cn, .slice Ap p.len cp, .int .i64 e.k, .int .i64 e.n, .slice Eb mb db, .slice En mn dn, .slice Ep q.len dp][j]? = some u → W1.cell? ⟨w.heap.size + 1 + 1 + 1 + 1, j, none⟩ = some u) := Lib.hid (by
    intro j u hu
    rw [← hW1]
    have h := heap_alloc_new ((((w.alloc (.cells #[.int .i64 d.k, .int .i64 d.n, .slice Ab nb cb, .slice An nn cn, .slice Ap p.len cp] 26)).alloc (.cells #[.int .i64 e.k, .int .i64 e.n, .slice Eb mb db, .slice En mn dn, .slice Ep q.len dp] 26)).alloc (.cells #[.int .i64 0, .int .i64 0, .slice none 0 0, .slice none 0 0, .slice none 0 0] 26)).alloc (.cells #[.int .i64 0, .int .i64 0] 29)) (.cells #[.int .i64 d.k, .int .i64 d.n, .slice Ab nb cb, .slice An nn cn, .slice Ap p.len cp, .int .i64 e.k, .int .i64 e.n, .slice Eb mb db, .slice En mn dn, .slice Ep q.len dp] 26)
    simp only [alloc_size] at h
    rw [cell_of_row _ _ j _ 26 (0, 0) h]
    simpa using hu)
  have hz1 : W1.heap.size = w.heap.size + 5 := by rw [← hW1]; simp
  have HZ1 := Lib.hid hz1
  rw [hW1]
  clear hW1 hz1
  go_loopw [19] (RpRel w W1 d e p q) (fun k _ => 2 - (intOf k).toNat)
  case atStart => exact ⟨0, rfl, by omega, Below.refl _ _, fun h => absurd h (by omega), fun h => absurd h (by omega)⟩
  case round =>
    obtain ⟨i, rfl, hi, hbel, h1, h2⟩ := hrel
    have HBL := Lib.hid hbel
    have H1 := Lib.hid h1
    have H2 := Lib.hid h2
    have HWR := Lib.hid (chain HBW.out hbel)
    have HX2 := Lib.hid (HG2.out.on hbel)
    have HX3 := Lib.hid (HG3.out.on hbel)
    have hzr : w.heap.size + 5 ≤ wr.heap.size := by rw [← HZ1.out]; exact hbel.size
    clear hbel h1 h2
    rcases (show i = 0 ∨ i = 1 ∨ i = 2 by omega) with rfl | rfl | rfl
    · -- value 0
      have k0 := (HBL.out.cell (p := ⟨w.heap.size + 1 + 1 + 1 + 1, 0, none⟩) (by rw [HZ1.out]; exact Nat.lt_succ_self _)).trans (HG4.out 0 _ rfl)
      have k1 := (HBL.out.cell (p := ⟨w.heap.size + 1 + 1 + 1 + 1, 1, none⟩) (by rw [HZ1.out]; exact Nat.lt_succ_self _)).trans (HG4.out 1 _ rfl)
      have k2 := (HBL.out.cell (p := ⟨w.heap.size + 1 + 1 + 1 + 1, 2, none⟩) (by rw [HZ1.out]; exact Nat.lt_succ_self _)).trans (HG4.out 2 _ rfl)
      have k3 := (HBL.out.cell (p := ⟨w.heap.size + 1 + 1 + 1 + 1, 3, none⟩) (by rw [HZ1.out]; exact Nat.lt_succ_self _)).trans (HG4.out 3 _ rfl)
      have k4 := (HBL.out.cell (p := ⟨w.heap.size + 1 + 1 + 1 + 1, 4, none⟩) (by rw [HZ1.out]; exact Nat.lt_succ_self _)).trans (HG4.out 4 _ rfl)
      go_wp2_with fail
      refine (validate_calls HM.out (HV.out.on (chain HWR.out (bel1 _ _)))).mono ?_
      rintro e' w2 ⟨rfl, hb2⟩
      have hbw := chain (bel1 _ _) hb2
      have hz2 := hbw.size
      clear k0 k1 k2 k3 k4
      rcases valF_cases d p with ⟨cd, ix, hcd, hvf⟩ | hvf
      · have HF := Lib.hid hvf
        have HRF : Hid (RpF d e p q path cd ix) := Lib.hid ⟨hcd, .inl hvf⟩
        rw [HF.out]
        clear hvf
        have hc0 : (cd == 0) = false := by simpa using hcd
        have hneq := flt_neq cd ix 0 0
        have P0 := (HX2.out.on hbw).on (bel1 _ (.cells #[.int .i64 cd, .int .i64 ix] 29))
        have P2 := (HX3.out.on hbw).alloc (.cells #[.int .i64 cd, .int .i64 ix] 29)
        have P1 := FC.new w2 cd ix
        have PB := bel_up (chain HWR.out hbw) (.cells #[.int .i64 cd, .int .i64 ix] 29)
        clear hcd hb2 hbw
        go_wp2_with fail
        obtain ⟨W4, hW4⟩ : ∃ W4, w2.alloc (.cells #[.int .i64 cd, .int .i64 ix] 29) = W4 := ⟨_, rfl⟩
        rw [hW4] at P0 P1 P2 PB ⊢
        have HPB := Lib.hid PB
        have HP0 := Lib.hid P0
        have HP2 := Lib.hid P2
        clear hW4 PB
        obtain ⟨z3, a0, a1, g0, g1⟩ := P1
        obtain ⟨z4, r0, r1, e0, e1⟩ := P2
        obtain ⟨s0, s1, s2, s3, s4⟩ := P0.cells
        have sf := P0.free
        clear P0
        go_region
        go_wp2_with fail
        exact rp_bad HRF.out rfl rfl HP0.out HP2.out (by omega) (by omega) (by omega) HPB.out
      · have HF := Lib.hid hvf
        rw [HF.out]
        have hneq := flt_neq 0 0 0 0
        have HB := Lib.hid (bel_up (chain HBL.out hbw) (.cells #[.int .i64 0, .int .i64 0] 29))
        clear hvf hb2 hbw
        go_wp2_with fail
        exact ⟨⟨1, rfl, by omega, HB.out, fun _ => HF.out, fun h => absurd h (by omega)⟩, by decide⟩
    · -- value 1
      have k0 := (HBL.out.cell (p := ⟨w.heap.size + 1 + 1 + 1 + 1, 5, none⟩) (by rw [HZ1.out]; exact Nat.lt_succ_self _)).trans (HG4.out 5 _ rfl)
      have k1 := (HBL.out.cell (p := ⟨w.heap.size + 1 + 1 + 1 + 1, 6, none⟩) (by rw [HZ1.out]; exact Nat.lt_succ_self _)).trans (HG4.out 6 _ rfl)
      have k2 := (HBL.out.cell (p := ⟨w.heap.size + 1 + 1 + 1 + 1, 7, none⟩) (by rw [HZ1.out]; exact Nat.lt_succ_self _)).trans (HG4.out 7 _ rfl)
      have k3 := (HBL.out.cell (p := ⟨w.heap.size + 1 + 1 + 1 + 1, 8, none⟩) (by rw [HZ1.out]; exact Nat.lt_succ_self _)).trans (HG4.out 8 _ rfl)
      have k4 := (HBL.out.cell (p := ⟨w.heap.size + 1 + 1 + 1 + 1, 9, none⟩) (by rw [HZ1.out]; exact Nat.lt_succ_self _)).trans (HG4.out 9 _ rfl)
      go_wp2_with fail
      refine (validate_calls HME.out (HE.out.on (chain HWR.out (bel1 _ _)))).mono ?_
      rintro e' w2 ⟨rfl, hb2⟩
      have hbw := chain (bel1 _ _) hb2
      have hz2 := hbw.size
      clear k0 k1 k2 k3 k4
      rcases valF_cases e q with ⟨cd, ix, hcd, hvf⟩ | hvf
      · have HF := Lib.hid hvf
        have HRF : Hid (RpF d e p q path cd ix) := Lib.hid ⟨hcd, .inr (.inl ⟨H1.out (by omega), hvf⟩)⟩
        rw [HF.out]
        clear hvf
        have hc0 : (cd == 0) = false := by simpa using hcd
        have hneq := flt_neq cd ix 0 0
        have P0 := (HX2.out.on hbw).on (bel1 _ (.cells #[.int .i64 cd, .int .i64 ix] 29))
        have P2 := (HX3.out.on hbw).alloc (.cells #[.int .i64 cd, .int .i64 ix] 29)
        have P1 := FC.new w2 cd ix
        have PB := bel_up (chain HWR.out hbw) (.cells #[.int .i64 cd, .int .i64 ix] 29)
        clear hcd hb2 hbw
        go_wp2_with fail
        obtain ⟨W4, hW4⟩ : ∃ W4, w2.alloc (.cells #[.int .i64 cd, .int .i64 ix] 29) = W4 := ⟨_, rfl⟩
        rw [hW4] at P0 P1 P2 PB ⊢
        have HPB := Lib.hid PB
        have HP0 := Lib.hid P0
        have HP2 := Lib.hid P2
        clear hW4 PB
        obtain ⟨z3, a0, a1, g0, g1⟩ := P1
        obtain ⟨z4, r0, r1, e0, e1⟩ := P2
        obtain ⟨s0, s1, s2, s3, s4⟩ := P0.cells
        have sf := P0.free
        clear P0
        go_region
        go_wp2_with fail
        exact rp_bad HRF.out rfl rfl HP0.out HP2.out (by omega) (by omega) (by omega) HPB.out
      · have HF := Lib.hid hvf
        rw [HF.out]
        have hneq := flt_neq 0 0 0 0
        have HB := Lib.hid (bel_up (chain HBL.out hbw) (.cells #[.int .i64 0, .int .i64 0] 29))
        clear hvf hb2 hbw
        go_wp2_with fail
        exact ⟨⟨2, rfl, by omega, HB.out, fun _ => H1.out (by omega), fun h => HF.out⟩, by decide⟩
    · have HVD := Lib.hid (H1.out (by omega))
      have HVE := Lib.hid (H2.out (by omega))
      have HG0r := Lib.hid (HG0.out.on HBL.out)
      have HG1r := Lib.hid (HG1.out.on HBL.out)
      obtain ⟨q0, q1, q2, q3, q4⟩ := HG0r.out.cells
      go_wp2_with fail
      refine (cloneT_calls HM.out.nd HM.out.fp HM.out.pl (HV.out.on HWR.out)).mono ?_
      rintro ev w2 ⟨vo, rfl, ⟨so, no', po, rfl, hdo⟩, hb2⟩
      have hz2 := hb2.size
      have hdo' := hdo
      obtain ⟨Ao, no, co, Bo, mo, fo, Po, ho, rfl, rfl, rfl, _⟩ := hdo'
      obtain ⟨W2, hW2⟩ : ∃ W2, w2.alloc (.cells #[.int .i64 d.k, .int .i64 d.n, .slice Ao no co, .slice Bo mo fo, .slice Po p.len ho] 26) = W2 := ⟨_, rfl⟩
      have hzW2 : W2.heap.size = w2.heap.size + 1 := by rw [← hW2]; simp
      have HBO := Lib.hid (show Bx W2 w2.heap.size (.int .i64 d.k) (.int .i64 d.n) (.slice Ao no co) (.slice Bo mo fo) (.slice Po p.len ho) by rw [← hW2]; exact Bx.new _ _ _ _ _ _)
      have hb22 : Below w2.heap.size w2 W2 := by rw [← hW2]; exact bel1 _ _
      have HB22 := Lib.hid (chain hb2 hb22)
      have HNT : Hid (NT W2 wr.heap.size w2.heap.size w2.heap.size 0 d p) := Lib.hid ⟨_, _, _, HBO.out.cells, hdo.mono (fun q hq => hb22.cell hq.2) (fun _ h => h) (fun b o hb h => FInT.keep p _ _ _ _ b o (Nat.le_refl _) (Nat.le_refl _) (fun k _ a2 _ => hb22.block k a2) (hb22.block b hb.2) h)⟩
      have HNA : Hid (NAt W2 W2.heap.size w2.heap.size 0 d p) := Lib.hid (by
        obtain ⟨a, b, c, hc, h⟩ := HNT.out
        exact ⟨by omega, a, b, c, hc, h.hd (fun x hx => by omega) (fun b' o' hf => FInS.fin (S := fun x => wr.heap.size ≤ x ∧ x < w2.heap.size) (fun x hx => by omega) p b' o' (FInT.fins p _ _ b' o' (fun x a b => ⟨a, b⟩) (fun _ _ _ _ => rfl) (fun _ _ _ => rfl) hf))⟩)
      have HX2r := Lib.hid (HX2.out.on HB22.out)
      have HX3r := Lib.hid (HX3.out.on HB22.out)
      have HG1s := Lib.hid (HG1r.out.on HB22.out)
      clear hdo hb2 hb22 q0 q1 q2 q3 q4
      go_upto_region 9 with (fail)
      (try rw [hW2])
      clear hW2
      go_wp2_with fail
      refine (findT_calls (path := path) HNA.out (HR.out.on (chain HWR.out HB22.out)) hn (by have := HM.out.pl; omega)).mono ?_
      rintro ev w3 ⟨hb3, hres⟩
      have hz3 := hb3.size
      have HPR := Lib.hid (chain HWR.out HB22.out)
      rcases hres with ⟨j, hpt, rfl⟩ | ⟨d', p', bn, on, hpt, rfl, hat, hpa⟩
      · have hcd : (12 : Int) ≠ 0 := by decide
        have HRF : Hid (RpF d e p q path 12 (j : Int)) := Lib.hid ⟨by decide, .inr (.inr (.inl ⟨HVD.out, HVE.out, j, hpt, rfl, rfl⟩))⟩
        have hb2 : True := trivial
        have hc0 : (12 == 0) = false := by simp
        have hneq := flt_neq 12 (j : Int) 0 0
        have P0 := (HX2r.out.on hb3).on (bel1 _ (.cells #[.int .i64 12, .int .i64 (j : Int)] 29))
        have P2 := (HX3r.out.on hb3).alloc (.cells #[.int .i64 12, .int .i64 (j : Int)] 29)
        have P1 := FC.new w3 12 (j : Int)
        have PB := bel_up (chain HPR.out hb3) (.cells #[.int .i64 12, .int .i64 (j : Int)] 29)
        clear hcd hb2 hb3
        go_wp2_with fail
        obtain ⟨W4, hW4⟩ : ∃ W4, w3.alloc (.cells #[.int .i64 12, .int .i64 (j : Int)] 29) = W4 := ⟨_, rfl⟩
        rw [hW4] at P0 P1 P2 PB ⊢
        have HPB := Lib.hid PB
        have HP0 := Lib.hid P0
        have HP2 := Lib.hid P2
        clear hW4 PB
        obtain ⟨z3, a0, a1, g0, g1⟩ := P1
        obtain ⟨z4, r0, r1, e0, e1⟩ := P2
        obtain ⟨s0, s1, s2, s3, s4⟩ := P0.cells
        have sf := P0.free
        clear P0
        go_region
        go_wp2_with fail
        exact rp_bad HRF.out rfl rfl HP0.out HP2.out (by omega) (by omega) (by omega) HPB.out
      · have HPT := Lib.hid hpt
        have hneq := flt_neq 0 0 0 0
        have hb33 := bel_up hb3 (.cells #[.int .i64 0, .int .i64 0] 29)
        have HB33 := Lib.hid hb33
        have HX2s := Lib.hid (HX2r.out.on hb33)
        have HX3s := Lib.hid (HX3r.out.on hb33)
        have HG1t := Lib.hid (HG1s.out.on hb33)
        have HAT := Lib.hid hat
        have HPA := Lib.hid hpa
        obtain ⟨q0, q1, q2, q3, q4⟩ := HG1t.out.cells
        clear hpt hat hpa hb33
        go_upto_region 12 with (fail)
        obtain ⟨W3, hW3⟩ : ∃ W3, w3.alloc (.cells #[.int .i64 0, .int .i64 0] 29) = W3 := ⟨_, rfl⟩
        have hzW3 : W3.heap.size = w3.heap.size + 1 := by rw [← hW3]; simp
        rw [hW3] at HB33 HX2s HX3s HG1t q0 q1 q2 q3 q4 ⊢
        clear hW3 hb3
        go_wp2_with fail
        refine (cloneT_calls HME.out.nd HME.out.fp HME.out.pl (HE.out.on (chain HPR.out HB33.out))).mono ?_
        rintro ev w4 ⟨v4, rfl, hv4, hb4⟩
        have hz4 := hb4.size
        obtain ⟨s4b, s4n, s4p, rfl, hd4⟩ := hv4.vins
        have HD4 := Lib.hid hd4
        obtain ⟨E4, m4, f4, N4, k4, l4, P4, h4, rfl, rfl, rfl, _⟩ := hd4
        have HB24 := Lib.hid (chain HB33.out hb4)
        have HATs := HAT.out.on HB24.out
        obtain ⟨sb', sn', sp', hc', hvq⟩ := HATs.val
        have hbn := HAT.out.1
        obtain ⟨_, _, _, hvq', Ab', nb', cb', An', nn', cn', Ap', cp', rfl, rfl, rfl, _⟩ := hvq
        simp only [Value.agg.injEq, Array.mk.injEq, List.cons.injEq, and_true, true_and] at hvq'
        obtain ⟨rfl, rfl, rfl⟩ := hvq'
        have HOLD := Lib.hid hc'
        obtain ⟨y0, y1, y2, y3, y4⟩ := hc'
        have hlt2 : w2.heap.size < W2.heap.size := by omega
        have HNT4 : Hid (NT w4 wr.heap.size w2.heap.size w2.heap.size 0 d p) := Lib.hid (by
          obtain ⟨a, b, c, ⟨t0, t1, t2, t3, t4⟩, h⟩ := HNT.out
          have hk : ∀ k, k < W2.heap.size → w4.heap[k]? = W2.heap[k]? := fun k hk => HB24.out.block k hk
          refine ⟨a, b, c, ⟨(HB24.out.cell (by exact hlt2)).trans t0, (HB24.out.cell (by exact hlt2)).trans t1, (HB24.out.cell (by exact hlt2)).trans t2, (HB24.out.cell (by exact hlt2)).trans t3, (HB24.out.cell (by exact hlt2)).trans t4⟩, h.mono (fun q hq => HB24.out.cell (by omega)) (fun _ h => h) (fun b o hb h => FInT.keep p _ _ _ _ b o (Nat.le_refl _) (Nat.le_refl _) (fun k _ a2 _ => hk k (by omega)) (hk b (by omega)) h)⟩)
        have HPA4 := Lib.hid (PAt.keep HB24.out path d p w2.heap.size 0 bn on 0 (d', p') HNA.out HPT.out HPA.out)
        have hun := path_unf path d p wr.heap.size w2.heap.size w2.heap.size 0 0 (d', p') HNT4.out (fun o => (HBO.out.on HB24.out).free o) HPT.out HPA4.out
        have n0 := hun on
        have n1 := hun (on + 1)
        have n2 := hun (on + 2)
        have n3 := hun (on + 3)
        have n4 := hun (on + 4)
        clear hun q0 q1 q2 q3 q4
        go_upto_region 13 with (fail)
        obtain ⟨W5, hW5⟩ : ∃ W5, (((((w4.setCell ⟨bn, on, none⟩ (.int .i64 e.k)).setCell ⟨bn, on + 1, none⟩ (.int .i64 e.n)).setCell ⟨bn, on + 2, none⟩ (.slice E4 m4 f4)).setCell ⟨bn, on + 3, none⟩ (.slice N4 k4 l4)).setCell ⟨bn, on + 4, none⟩ (.slice P4 q.len h4)) = W5 := ⟨_, rfl⟩
        have hz5 : W5.heap.size = w4.heap.size := by rw [← hW5]; simp
        have HOUT := Lib.hid (show ∀ a : Addr, (a.block ≠ bn ∨ a.off < on ∨ on + 5 ≤ a.off) → W5.cell? a = w4.cell? a by rw [← hW5]; exact fun a ha => set5_out a ha)
        have HIN := Lib.hid (set5_in y0 y1 y2 y3 y4 W5 hW5)
        have HHP := Lib.hid (show ∀ k, k ≠ bn → W5.heap[k]? = w4.heap[k]? by
          rw [← hW5]
          intro k hk
          rw [Below.heap_setCell _ _ _ _ (by exact hk), Below.heap_setCell _ _ _ _ (by exact hk), Below.heap_setCell _ _ _ _ (by exact hk), Below.heap_setCell _ _ _ _ (by exact hk), Below.heap_setCell _ _ _ _ (by exact hk)])
        have hbs : ∀ B, Below B w4 w4 → B ≤ bn → Below B w4 W5 := fun B h hB => by
          rw [← hW5]
          exact ((((h.setCell (p := ⟨bn, on, none⟩) hB _).setCell (p := ⟨bn, on + 1, none⟩) hB _).setCell (p := ⟨bn, on + 2, none⟩) hB _).setCell (p := ⟨bn, on + 3, none⟩) hB _).setCell (p := ⟨bn, on + 4, none⟩) hB _
        have hnw : Nw w4 W5 (fun b => wr.heap.size ≤ b ∧ b < W5.heap.size) bn on e q := ⟨⟨_, _, _, _, _, _, _, _, _, _, HOLD.out⟩, HOUT.out, _, _, _, HIN.out, HD4.out.mono (fun a ha => HOUT.out a (.inl (by omega))) (fun b hb => ⟨by omega, by omega⟩) (FInS.keep (fun a ha => HOUT.out a (.inl (by omega))) (fun b hb => ⟨by omega, by omega⟩) q)⟩
        obtain ⟨hloc, hns⟩ := node_rep hnw path d p wr.heap.size w2.heap.size w2.heap.size 0 0 (d', p') HNT4.out (by omega) (fun x h1 h2 => ⟨h1, by omega⟩) HPT.out HPA4.out
        have hbnr : wr.heap.size ≤ bn := by omega
        have HMX := Lib.hid (rep_mod path HM.out HME.out HVD.out HVE.out)
        obtain ⟨X, hX⟩ : ∃ X, repV path d p e q = X := ⟨_, rfl⟩
        have HX := Lib.hid hX
        rw [hX] at hns HMX
        obtain ⟨tb5, tn5, tp5, hc5, hd5⟩ := hns
        have HV5 : Hid (VInS W5 (fun b => wr.heap.size ≤ b ∧ b < W5.heap.size) (.agg #[.int .i64 X.1.k, .int .i64 X.1.n, tb5, tn5, tp5]) X.1 X.2) := Lib.hid ⟨_, _, _, rfl, hd5⟩
        obtain ⟨A5, a5, b5, B5, c5, e5, P5, p5, rfl, rfl, rfl, _⟩ := hd5
        have HWR5 := Lib.hid (show Below w.heap.size w W5 from (chain (chain HPR.out HB33.out) hb4).trans ((hbs wr.heap.size (Below.refl _ _) hbnr).mono (by omega)))
        have HX25 : Hid (Bx W5 (w.heap.size + 1 + 1) (.int .i64 0) (.int .i64 0) (.slice none 0 0) (.slice none 0 0) (.slice none 0 0)) := Lib.hid ((HHP.out _ (by omega)).trans (HX2s.out.on hb4))
        have HX35 : Hid (FC W5 (w.heap.size + 1 + 1 + 1) 0 0) := Lib.hid ((HX3s.out.on hb4).below (hbs wr.heap.size (Below.refl _ _) hbnr) (by omega))
        obtain ⟨t0, t1, t2, t3, t4⟩ := hc5
        simp only [Nat.zero_add] at t1 t2 t3 t4
        rw [hW5]
        clear hW5 hbs hnw hX y0 y1 y2 y3 y4 n0 n1 n2 n3 n4
        go_wp2_with fail
        refine (validate_calls HMX.out (HV5.out.vin (fun b h => h.2))).mono ?_
        rintro ev w6 ⟨rfl, hb6⟩
        have hz6 := hb6.size
        have j1 : ¬ w6.heap.size = w.heap.size + 1 + 1 := by omega
        have j2 : ¬ w.heap.size + 1 + 1 = w6.heap.size := by omega
        have hb2 : True := trivial
        rcases valF_cases X.1 X.2 with ⟨cd, ix, hcd, hvf⟩ | hvf
        · have HF := Lib.hid hvf
          have HRF : Hid (RpF d e p q path cd ix) := Lib.hid ⟨hcd, .inr (.inr (.inr ⟨HVD.out, HVE.out, ⟨_, HPT.out⟩, by rw [HX.out]; exact hvf⟩))⟩
          rw [HF.out]
          clear hvf t0 t1 t2 t3 t4
          have hc0 : (cd == 0) = false := by simpa using hcd
          have hneq := flt_neq cd ix 0 0
          have P0 := (HX25.out.on hb6).on (bel1 _ (.cells #[.int .i64 cd, .int .i64 ix] 29))
          have P2 := (HX35.out.on hb6).alloc (.cells #[.int .i64 cd, .int .i64 ix] 29)
          have P1 := FC.new w6 cd ix
          have PB := bel_up (chain HWR5.out hb6) (.cells #[.int .i64 cd, .int .i64 ix] 29)
          clear hcd hb2 hb6
          go_wp2_with fail
          obtain ⟨W4, hW4⟩ : ∃ W4, w6.alloc (.cells #[.int .i64 cd, .int .i64 ix] 29) = W4 := ⟨_, rfl⟩
          rw [hW4] at P0 P1 P2 PB ⊢
          have HPB := Lib.hid PB
          have HP0 := Lib.hid P0
          have HP2 := Lib.hid P2
          clear hW4 PB
          obtain ⟨z3, a0, a1, g0, g1⟩ := P1
          obtain ⟨z4, r0, r1, e0, e1⟩ := P2
          obtain ⟨s0, s1, s2, s3, s4⟩ := P0.cells
          have sf := P0.free
          clear P0
          go_region
          go_wp2_with fail
          exact rp_bad HRF.out rfl rfl HP0.out HP2.out (by omega) (by omega) (by omega) HPB.out
        · have HF := Lib.hid hvf
          rw [HF.out]
          have hneq := flt_neq 0 0 0 0
          have hww := bel_up hb6 (.cells #[.int .i64 0, .int .i64 0] 29)
          have HWW := Lib.hid hww
          have HP0 := Lib.hid (HX25.out.on hww)
          have HP2 := Lib.hid (HX35.out.on hww)
          have HV6 := Lib.hid (HV5.out.keep (S' := fun b => w.heap.size ≤ b ∧ b ≠ w.heap.size + 1 + 1 ∧ b ≠ w.heap.size + 1 + 1 + 1 ∧ b < W5.heap.size) (fun q hq => hww.cell hq.2) (fun b hb => ⟨by omega, by omega, by omega, hb.2⟩))
          have x0 := cell_onR t0 hww
          have x1 := cell_onR t1 hww
          have x2 := cell_onR t2 hww
          have x3 := cell_onR t3 hww
          have x4 := cell_onR t4 hww
          have hz7 := hww.size
          clear hvf hww hb6 t0 t1 t2 t3 t4
          go_upto_region 14 with (fail)
          obtain ⟨W7, hW7⟩ : ∃ W7, w6.alloc (.cells #[.int .i64 0, .int .i64 0] 29) = W7 := ⟨_, rfl⟩
          have g0 : W7.cell? ⟨w6.heap.size, 0, none⟩ = some (.int .i64 0) := by rw [← hW7]; exact (FC.new w6 0 0).2.1
          have g1 : W7.cell? ⟨w6.heap.size, 1, none⟩ = some (.int .i64 0) := by rw [← hW7]; exact (FC.new w6 0 0).2.2.1
          rw [hW7] at HWW HP0 HP2 HV6 x0 x1 x2 x3 x4 hz7
          (try rw [hW7])
          clear hW7
          obtain ⟨z4, r0, r1, e0, e1⟩ := HP2.out
          obtain ⟨s0, s1, s2, s3, s4⟩ := HP0.out.cells
          have sf := HP0.out.free
          go_wp2_with fail
          obtain ⟨W9, hW9⟩ : ∃ W9, (((((((W7.setCell ⟨w.heap.size + 1 + 1, 0, none⟩ (.int .i64 X.1.k)).setCell ⟨w.heap.size + 1 + 1, 1, none⟩ (.int .i64 X.1.n)).setCell ⟨w.heap.size + 1 + 1, 2, none⟩ (.slice A5 a5 b5)).setCell ⟨w.heap.size + 1 + 1, 3, none⟩ (.slice B5 c5 e5)).setCell ⟨w.heap.size + 1 + 1, 4, none⟩ (.slice P5 X.2.len p5)).setCell ⟨w.heap.size + 1 + 1 + 1, 0, none⟩ (.int .i64 0)).setCell ⟨w.heap.size + 1 + 1 + 1, 1, none⟩ (.int .i64 0)) = W9 := ⟨_, rfl⟩
          obtain ⟨v1, v2, v3, v4, v5⟩ := put57 HP0.out HP2.out (by omega) hW9
          rw [hW9]
          refine rp_ret rfl rfl v1 v2 ⟨v4 _ _ (chain HWR5.out HWW.out) (by omega) (by omega), .inr ⟨_, HVD.out, HVE.out, ⟨_, HPT.out⟩, ?_, rfl, ?_⟩⟩
          · rw [HX.out]; exact HF.out
          · rw [HX.out]; exact HV6.out.keep (fun a ha => v5 a ha.2.1 ha.2.2.1) (fun b hb => ⟨hb.1, by omega⟩)
end Go.Proofs.Ytolognhjdmkohaa
