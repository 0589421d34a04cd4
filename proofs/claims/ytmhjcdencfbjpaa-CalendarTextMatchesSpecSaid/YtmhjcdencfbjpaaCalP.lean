/-
  The walk of the law on the texts of days.
-/
import Derived.Test.YtmhjcdencfbjpaaCalO
namespace Go.Proofs.Ytmhjcdencfbjpaa
open Go.RowKit
set_option linter.unusedVariables false
set_option linter.unusedSimpArgs false

theorem not_good {l : List UInt8} {k : Nat} {x : UInt8} (hk : k < 10) (hx : l[k]? = some x) (hn : ¬ okB k x) : ¬ Good l := fun h => hn (h.2 k x hk hx)
theorem pend_not {l : List UInt8} {w w' : World} {e : Ending} (h : PEnd l w e w') (hg : ¬ Good l) : e = .returned (.tuple #[.int .i64 0, .agg #[.int .i64 1, .int .i64 0]]) ∧ Below w.heap.size w w' := by
  rcases h with ⟨hb, ⟨h, _⟩ | ⟨_, h⟩⟩
  · exact absurd h hg
  · exact ⟨h, hb⟩
theorem parse_calls (s : ByteArray) (w : World) : Calls Try.prog 22 #[.string s] w (PEnd s.data.toList w) := by
  by_cases h : s.size = 10
  · exact parse_ten s w h
  · exact parse_len s w h
theorem parse_no (s : ByteArray) (w : World) (hg : ¬ Good s.data.toList) : Calls Try.prog 22 #[.string s] w fun e w' => e = .returned (.tuple #[.int .i64 0, .agg #[.int .i64 1, .int .i64 0]]) ∧ Below w.heap.size w w' :=
  (parse_calls s w).mono fun e w' h => pend_not h hg


theorem txt_parts {l a b c : List UInt8} (h : Txt l a b c) : y_ l = valN a ∧ m_ l = valN b ∧ d_ l = valN c := by
  obtain ⟨e, la, lb, lc⟩ := h
  match a, la, b, lb, c, lc with
  | [x0, x1, x2, x3], _, [x5, x6], _, [x8, x9], _ => subst e; exact ⟨rfl, rfl, rfl⟩
theorem good_all {l a b c : List UInt8} (h : Txt l a b c) : Good l ↔ AllD a b c := by
  obtain ⟨e, la, lb, lc⟩ := h
  match a, la, b, lb, c, lc with
  | [x0, x1, x2, x3], _, [x5, x6], _, [x8, x9], _ =>
    subst e
    constructor
    · intro g
      have k := fun (j : Nat) (x : UInt8) (hj : j < 10) hx (hn : ¬ (j = 4 ∨ j = 7)) => (okB_dig hn).1 (g.2 j x hj hx)
      have k0 := k 0 x0 (by omega) rfl (by omega)
      have k1 := k 1 x1 (by omega) rfl (by omega)
      have k2 := k 2 x2 (by omega) rfl (by omega)
      have k3 := k 3 x3 (by omega) rfl (by omega)
      have k5 := k 5 x5 (by omega) rfl (by omega)
      have k6 := k 6 x6 (by omega) rfl (by omega)
      have k8 := k 8 x8 (by omega) rfl (by omega)
      have k9 := k 9 x9 (by omega) rfl (by omega)
      refine ⟨?_, ?_, ?_⟩ <;> (intro x hx; simp at hx)
      · rcases hx with rfl | rfl | rfl | rfl <;> assumption
      · rcases hx with rfl | rfl <;> assumption
      · rcases hx with rfl | rfl <;> assumption
    · rintro ⟨ha, hb, hc⟩
      simp at ha hb hc
      refine ⟨rfl, fun j x hj hx => ?_⟩
      match j, hj, hx with
      | 0, _, hx => simp at hx; subst hx; exact (okB_dig (by omega)).2 ha.1
      | 1, _, hx => simp at hx; subst hx; exact (okB_dig (by omega)).2 ha.2.1
      | 2, _, hx => simp at hx; subst hx; exact (okB_dig (by omega)).2 ha.2.2.1
      | 3, _, hx => simp at hx; subst hx; exact (okB_dig (by omega)).2 ha.2.2.2
      | 4, _, hx => simp at hx; exact (okB_dash (by omega)).2 hx.symm
      | 5, _, hx => simp at hx; subst hx; exact (okB_dig (by omega)).2 hb.1
      | 6, _, hx => simp at hx; subst hx; exact (okB_dig (by omega)).2 hb.2
      | 7, _, hx => simp at hx; exact (okB_dash (by omega)).2 hx.symm
      | 8, _, hx => simp at hx; subst hx; exact (okB_dig (by omega)).2 hc.1
      | 9, _, hx => simp at hx; subst hx; exact (okB_dig (by omega)).2 hc.2
theorem txt_back {l a b c : List UInt8} {m : Nat} (h : Txt l a b c) (hd : AllD a b c) (hm : (m : Int) = valN b) : dtext (valN a) m (valN c) = l := by
  obtain ⟨e, la, lb, lc⟩ := h
  match a, la, b, lb, c, lc with
  | [x0, x1, x2, x3], _, [x5, x6], _, [x8, x9], _ =>
    subst e
    obtain ⟨ha, hb, hc⟩ := hd
    simp [isD] at ha hb hc
    have key : ∀ (x : Int) (u : UInt8), (48 + x % 10).toNat = u.toNat → dgt x = u := fun x u h => UInt8.toNat_inj.1 (by rw [dgt_nat]; exact h)
    have va : valN [x0, x1, x2, x3] = 1000 * ((x0.toNat : Int) - 48) + 100 * ((x1.toNat : Int) - 48) + 10 * ((x2.toNat : Int) - 48) + ((x3.toNat : Int) - 48) := by simp [valN]; omega
    have vb : valN [x5, x6] = 10 * ((x5.toNat : Int) - 48) + ((x6.toNat : Int) - 48) := by simp [valN]
    have vc : valN [x8, x9] = 10 * ((x8.toNat : Int) - 48) + ((x9.toNat : Int) - 48) := by simp [valN]
    unfold dtext four two
    rw [hm, va, vb, vc]
    simp only [List.cons_append, List.nil_append, List.cons.injEq, and_true, true_and]
    refine ⟨key _ _ (by omega), key _ _ (by omega), key _ _ (by omega), key _ _ (by omega), key _ _ (by omega), key _ _ (by omega), key _ _ (by omega), key _ _ (by omega)⟩

theorem slI : SlT Try.prog 41 3 1 8 := SlT.mk' Try.underlying41 (z := .int .i64 0) (by kernel_rfl) rfl (by decide) (by decide)
def iv (l : List Int) : List Value := l.map (Value.int .i64)
theorem sv_at {ps : List (List UInt8)} {i : Nat} {u : Value} (h : (sv ps)[i]? = some u) : ∃ q : ByteArray, u = .string q ∧ ps[i]? = some q.data.toList := by
  unfold sv at h
  rw [List.getElem?_map] at h
  cases e : ps[i]? with
  | none => rw [e] at h; cases h
  | some p => rw [e] at h; simp at h; exact ⟨⟨p.toArray⟩, h.symm, rfl⟩
/-- what is known of the parser's answer -/
def Ans (l : List UInt8) (v cd ix : Int) : Prop := (Good l → (dateF (y_ l) (m_ l) (d_ l)) = (cd, ix) ∧ v = if cd = 0 then num (y_ l) (m_ l).toNat (d_ l) else 0) ∧ (¬ Good l → v = 0 ∧ cd = 1 ∧ ix = 0)
theorem pend_ans {l : List UInt8} {w w' : World} {e : Ending} (h : PEnd l w e w') : ∃ v cd ix, e = .returned (.tuple #[.int .i64 v, .agg #[.int .i64 cd, .int .i64 ix]]) ∧ Ans l v cd ix ∧ Below w.heap.size w w' := by
  rcases h with ⟨hb, ⟨h, he⟩ | ⟨h, he⟩⟩
  · exact ⟨_, _, _, he, ⟨fun _ => ⟨rfl, rfl⟩, fun g => absurd h g⟩, hb⟩
  · exact ⟨0, 1, 0, he, ⟨fun g => absurd g h, fun _ => ⟨rfl, rfl, rfl⟩⟩, hb⟩
theorem dateFault_at {y m d c i : Int} (h : dateF y m d = (c, i)) (w : World) : Calls Try.prog 13 #[.int .i64 y, .int .i64 m, .int .i64 d] w fun e w' => e = .returned (.agg #[.int .i64 c, .int .i64 i]) ∧ Below w.heap.size w w' := by
  refine (dateFault_calls y m d w).mono ?_
  rintro e w' ⟨rfl, hb⟩
  rw [h]
  exact ⟨rfl, hb⟩
theorem fk_far {w : World} {g h o : Nat} {a b : Int} {v : Value} (k : FK w h a b) (hne : g ≠ h) : FK (w.setCell ⟨g, o, none⟩ v) h a b :=
  ⟨by simpa using k.1, (World.cell?_setCell_far w _ _ v (by exact hne)).trans k.2.1, (World.cell?_setCell_far w _ _ v (by exact hne)).trans k.2.2⟩
theorem fk_put {w : World} {g : Nat} {a b : Int} (h : FR w g) : FK ((w.setCell ⟨g, 0, none⟩ (.int .i64 a)).setCell ⟨g, 1, none⟩ (.int .i64 b)) g a b := by
  obtain ⟨z, c0, c1, f0, f1⟩ := h
  refine ⟨by simpa using z, ?_, ?_⟩
  · rw [World.cell?_setCell_other _ _ _ _ (by simp)]
    exact World.cell?_setCell_same w ⟨g, 0, none⟩ _ c0
  · exact World.cell?_setCell_same _ ⟨g, 1, none⟩ _ ((World.cell?_setCell_other w ⟨g, 0, none⟩ ⟨g, 1, none⟩ _ (by simp)).trans c1)
theorem df_plain {wr w4 : World} (h : Below wr.drew.heap.size wr.drew w4) : Below wr.heap.size wr w4 := ⟨h.os, h.tape, h.output, h.size, h.block⟩
theorem df_boxed {wr w4 : World} (h : Below (wr.alloc (.cells #[.int .i64 0, .int .i64 0] 24)).drew.heap.size (wr.alloc (.cells #[.int .i64 0, .int .i64 0] 24)).drew w4) : Below wr.heap.size wr w4 ∧ FR w4 wr.heap.size :=
  fr_after (w := wr) ⟨h.os, h.tape, h.output, h.size, h.block⟩
/-- some parts have been read -/
def LRel (ps : List (List UInt8)) (w : World) (l i : Value) (wr : World) : Prop :=
  ∃ (k : Nat) (A : Option Addr) (c : Nat), i = .int .i64 (k : Int) ∧ k ≤ ps.length ∧ l = .slice A k c ∧ wr.ownsRow w.heap.size 3 1 (.slice A k c) k (iv ((ps.take k).map valN)) ∧ Below w.heap.size w wr ∧ ∀ p ∈ ps.take k, ∀ x ∈ p, isD x
/-- some digits of a part have been read -/
def DRel (p : List UInt8) (x k : Value) : Prop := ∃ j : Nat, j ≤ p.length ∧ k = .int .i64 (j : Int) ∧ x = .int .i64 (valN (p.take j)) ∧ ∀ y ∈ p.take j, isD y
theorem take_more {p : List UInt8} {j : Nat} {y : UInt8} (hy : p[j]? = some y) : p.take (j + 1) = p.take j ++ [y] := by rw [List.take_add_one, hy, Option.toList_some]
theorem drel_next {p : List UInt8} {j : Nat} {y : UInt8} (hy : p[j]? = some y) (hd : ∀ y ∈ p.take j, isD y) (h : isD y) : valN (p.take (j + 1)) = 10 * valN (p.take j) + ((y.toNat : Int) - 48) ∧ ∀ y ∈ p.take (j + 1), isD y := by
  rw [take_more hy, valN_snoc]
  refine ⟨rfl, fun z hz => ?_⟩
  rcases List.mem_append.1 hz with hz | hz
  · exact hd z hz
  · rw [List.mem_singleton.1 hz]; exact h
theorem valN_small {p : List UInt8} (h : ∀ y ∈ p, isD y) (hl : p.length ≤ 10) : 0 ≤ valN p ∧ valN p ≤ 10000000000 := by
  have := valN_bd p h
  have h1 : (10 : Int) ^ p.length ≤ 10 ^ 10 := by exact_mod_cast Nat.pow_le_pow_right (by omega) hl
  have h2 : (10 : Int) ^ 10 = 10000000000 := by rfl
  omega
theorem lrel_next {ps : List (List UInt8)} {w w' : World} {k : Nat} {p : List UInt8} {A' : Option Addr} {c' : Nat} (hp : ps[k]? = some p) (hd : ∀ p ∈ ps.take k, ∀ x ∈ p, isD x) (hpd : ∀ x ∈ p, isD x)
    (hown : w'.ownsRow w.heap.size 3 1 (.slice A' (k + 1) c') (k + 1) (iv ((ps.take k).map valN) ++ [.int .i64 (valN p)])) (hb : Below w.heap.size w w') : LRel ps w (.slice A' (k + 1) c') (.int .i64 ((k : Int) + 1)) w' := by
  refine ⟨k + 1, A', c', by go_num, (List.getElem?_eq_some_iff.1 hp).1, rfl, ?_, hb, ?_⟩
  · rw [List.take_add_one, hp]
    simpa [iv] using hown
  · rw [List.take_add_one, hp, Option.toList_some]
    intro q hq
    rcases List.mem_append.1 hq with hq | hq
    · exact hd q hq
    · rw [List.mem_singleton.1 hq]; exact hpd

set_option maxRecDepth 100000 in
set_option maxHeartbeats 1000000 in
theorem text_len (s : ByteArray) (w : World) (h : ¬ s.size = 10) :
    Calls Try.prog 10 #[.string s] w fun e w' => e = .returned (.bool true) ∧ Below w.heap.size w w' := by
  have HG := Lib.hid (show ¬ Good s.data.toList from fun g => h (by simpa using g.1))
  have hs : ((s.size : Int) != 10) = true := by simp; omega
  clear h
  go_enter Try.func10, Try.ntmps10
  go_wp2_with fail
  refine (example_calls _).mono ?_
  rintro e w1 ⟨rfl, hb1⟩
  have HB1 := Lib.hid hb1
  clear hb1
  go_wp2_with fail
  refine (parse_no s _ HG.out).mono ?_
  rintro e w2 ⟨rfl, hb2⟩
  have HB2 := Lib.hid (chain HB1.out hb2)
  clear hb2
  obtain ⟨z, q0, q1⟩ := FK.new w2 1 0
  go_wp2_with fail
  go_region_held3 (fun w' => w'.cell? ⟨w2.heap.size, 0, none⟩ = some (.int .i64 1) ∧ w'.cell? ⟨w2.heap.size, 1, none⟩ = some (.int .i64 0)) (go_keep) (first | (go_at_call 17; refine (at_calls _ _ _).mono ?_; rintro e w' ⟨rfl, rfl⟩))
  go_wp2
  go_ret
  exact ⟨rfl, (chain_alloc (chain_alloc HB2.out _) _).drew⟩
set_option maxRecDepth 100000 in
set_option maxHeartbeats 1000000 in
theorem text_4 (s : ByteArray) (w : World) (h : s.size = 10) (hd : ¬ s[4] = 45) :
    Calls Try.prog 10 #[.string s] w fun e w' => e = .returned (.bool true) ∧ Below w.heap.size w w' := by
  have HG := Lib.hid (not_good (k := 4) (by omega) (byte_at (s := s) (k := 4) (by omega)) (fun h => hd ((okB_dash (by omega)).1 h)))
  have hne : ((s[4].toNat : Int) != 45) = true := by
    rw [bne_iff_ne]; intro e; exact hd (UInt8.toNat_inj.1 (by show s[4].toNat = 45; omega))
  clear hd
  go_enter Try.func10, Try.ntmps10
  go_wp2_with fail
  refine (example_calls _).mono ?_
  rintro e w1 ⟨rfl, hb1⟩
  have HB1 := Lib.hid hb1
  clear hb1
  go_wp2_with fail
  refine (parse_no s _ HG.out).mono ?_
  rintro e w2 ⟨rfl, hb2⟩
  have HB2 := Lib.hid (chain HB1.out hb2)
  clear hb2
  obtain ⟨z, q0, q1⟩ := FK.new w2 1 0
  go_wp2_with fail
  go_region_held3 (fun w' => w'.cell? ⟨w2.heap.size, 0, none⟩ = some (.int .i64 1) ∧ w'.cell? ⟨w2.heap.size, 1, none⟩ = some (.int .i64 0)) (go_keep) (first | (go_at_call 17; refine (at_calls _ _ _).mono ?_; rintro e w' ⟨rfl, rfl⟩))
  go_wp2
  go_ret
  exact ⟨rfl, (chain_alloc (chain_alloc HB2.out _) _).drew⟩
set_option maxRecDepth 100000 in
set_option maxHeartbeats 1000000 in
theorem text_7 (s : ByteArray) (w : World) (h : s.size = 10) (h4 : s[4] = 45) (hd : ¬ s[7] = 45) :
    Calls Try.prog 10 #[.string s] w fun e w' => e = .returned (.bool true) ∧ Below w.heap.size w w' := by
  have HG := Lib.hid (not_good (k := 7) (by omega) (byte_at (s := s) (k := 7) (by omega)) (fun h => hd ((okB_dash (by omega)).1 h)))
  have hne : ((s[7].toNat : Int) != 45) = true := by
    rw [bne_iff_ne]; intro e; exact hd (UInt8.toNat_inj.1 (by show s[7].toNat = 45; omega))
  have hne4 : ((s[4].toNat : Int) != 45) = false := by rw [h4]; rfl
  clear h4
  clear hd
  go_enter Try.func10, Try.ntmps10
  go_wp2_with fail
  refine (example_calls _).mono ?_
  rintro e w1 ⟨rfl, hb1⟩
  have HB1 := Lib.hid hb1
  clear hb1
  go_wp2_with fail
  refine (parse_no s _ HG.out).mono ?_
  rintro e w2 ⟨rfl, hb2⟩
  have HB2 := Lib.hid (chain HB1.out hb2)
  clear hb2
  obtain ⟨z, q0, q1⟩ := FK.new w2 1 0
  go_wp2_with fail
  go_region_held3 (fun w' => w'.cell? ⟨w2.heap.size, 0, none⟩ = some (.int .i64 1) ∧ w'.cell? ⟨w2.heap.size, 1, none⟩ = some (.int .i64 0)) (go_keep) (first | (go_at_call 17; refine (at_calls _ _ _).mono ?_; rintro e w' ⟨rfl, rfl⟩))
  go_wp2
  go_ret
  exact ⟨rfl, (chain_alloc (chain_alloc HB2.out _) _).drew⟩
set_option maxRecDepth 100000 in
set_option maxHeartbeats 1000000 in
theorem text_txt (s : ByteArray) (w : World) (h : s.size = 10) (h4 : s[4] = 45) (h7 : s[7] = 45) :
    Calls Try.prog 10 #[.string s] w fun e w' => e = .returned (.bool true) ∧ Below w.heap.size w w' := by
  obtain ⟨a, b, c0, htxt⟩ := txt_of (s := s.data.toList) (by simpa using h) (by rw [byte_at (by omega), h4]) (by rw [byte_at (by omega), h7])
  have HT := Lib.hid htxt
  have HPL := Lib.hid (fun (p : List UInt8) (hp : p ∈ cutL 45 s.data.toList) => show p.length ≤ 10 by have := cutL_len 45 s.data.toList p hp; simpa [h] using this)
  have HCN := Lib.hid (show (cutL 45 s.data.toList).length ≤ 11 by
    have h1 := cutL_count 45 s.data.toList
    have h2 := List.count_le_length (l := s.data.toList) (a := 45)
    have h3 : s.data.toList.length = 10 := by simpa using h
    omega)
  have hne4 : ((s[4].toNat : Int) != 45) = false := by rw [h4]; rfl
  have hne7 : ((s[7].toNat : Int) != 45) = false := by rw [h7]; rfl
  clear h4 h7 htxt
  go_enter Try.func10, Try.ntmps10
  go_wp2_with fail
  refine (example_calls _).mono ?_
  rintro e w1 ⟨rfl, hb1⟩
  have HB1 := Lib.hid hb1
  clear hb1
  go_wp2_with fail
  refine (parse_calls s _).mono ?_
  intro e w2 hp
  obtain ⟨v, cd, ix, he, hans, hb2⟩ := pend_ans hp
  subst he
  have HA := Lib.hid hans
  clear hp hans
  have HB2 := Lib.hid (chain HB1.out hb2)
  clear hb2
  go_wp2_with fail
  refine (cut_calls s 45 _ (by omega)).mono ?_
  rintro e w3 ⟨A, c, rfl, hown, hb3⟩
  have HF := Lib.hid ((FK.new w2 cd ix).on hb3)
  have HB3 := Lib.hid (chain (chain_alloc HB2.out _) hb3)
  have HRD := Lib.hid (Rd.of_own hown)
  have hcap := own_cap hown
  have hgz : w2.heap.size < w3.heap.size := by have := hb3.size; simp at this; omega
  have hw3 := HB3.out.size
  clear hb3 hown
  obtain ⟨n, hn⟩ : ∃ n, (cutL 45 s.data.toList).length = n := ⟨_, rfl⟩
  have HN := Lib.hid hn
  have hn11 : n ≤ 11 := by rw [← hn]; exact HCN.out
  rw [hn] at hcap ⊢
  clear hn
  go_wp2_with fail
  go_loopw [5, 7] (LRel (cutL 45 s.data.toList) w3) (fun _ i _ => n - (intOf i).toNat)
  case atStart => exact ⟨0, none, 0, rfl, Nat.zero_le _, rfl, World.ownsRow_nil _ _ _ _, Below.refl _ _, by simp⟩
  case round =>
    obtain ⟨i, A', c', rfl, hi, rfl, hown, hbw, hd⟩ := hrel
    rw [HN.out] at hi
    have HD := Lib.hid hd
    have HWR := Lib.hid hbw
    have hwz := hbw.size
    clear hd hbw
    by_cases hlt : i < n
    · have hr := HRD.out
      rw [HN.out] at hr
      obtain ⟨bb, oo, u, rfl, hbb, hu, hcell⟩ := hr.at_ hlt
      obtain ⟨q, rfl, hq⟩ := sv_at hu
      have hcell' : wr.cell? ⟨bb, oo + i, none⟩ = some (.string q) := (HWR.out.cell (by exact hbb)).trans hcell
      have HQ := Lib.hid hq
      have hq10 : q.size ≤ 10 := by
        have := HPL.out _ (List.mem_of_getElem? hq)
        simpa using this
      have hli : (i : Int) < (n : Int) := by omega
      have h0 : (0 : Int) ≤ (i : Int) := by omega
      clear hr hu hq hcell
      go_wp2_with fail
      go_loop [8, 9] (DRel q.data.toList) (fun _ k => q.size - (intOf k).toNat)
      case atStart => exact ⟨0, Nat.zero_le _, rfl, rfl, by simp⟩
      case round =>
        obtain ⟨j, hj, rfl, rfl, hdj⟩ := hrel
        have hjq : j ≤ q.size := by simpa using hj
        have hsm := valN_small hdj (by rw [List.length_take]; omega)
        obtain ⟨v1, v2⟩ := hsm
        have HDJ := Lib.hid hdj
        clear hdj hj
        by_cases hjl : j < q.size
        · have HY := Lib.hid (byte_at (s := q) (k := j) hjl)
          by_cases hdg : isD q[j]
          · have HG1 := Lib.hid hdg
            obtain ⟨d1, d2⟩ := hdg
            go_wp2_with (go_at_call 16; refine (in_yes _ (by omega) (by omega)).mono ?_; rintro e w' ⟨rfl, rfl⟩)
            go_round
            case rel =>
              obtain ⟨e1, e2⟩ := drel_next HY.out HDJ.out HG1.out
              exact ⟨j + 1, by simp; omega, by go_num, by rw [e1], e2⟩
            case measure => simp [intOf]; omega
          · have HNG := Lib.hid (show ¬ Good s.data.toList from fun g => hdg (by
              have hall := (good_all HT.out).1 g
              have hc := cut_all HT.out hall
              have hm : q.data.toList ∈ cutL 45 s.data.toList := List.mem_of_getElem? HQ.out
              have hy := List.mem_of_getElem? HY.out
              rw [hc] at hm
              simp at hm
              rcases hm with e | e | e <;> rw [e] at hy
              · exact hall.1 _ hy
              · exact hall.2.1 _ hy
              · exact hall.2.2 _ hy))
            have hdn : (q[j].toNat : Int) < 48 ∨ 57 < (q[j].toNat : Int) := by unfold isD at hdg; omega
            clear hdg
            have hby : q[j].toNat < 256 := UInt8.toNat_lt _
            go_wp2_with fail
            refine (in_no _ hdn).mono ?_
            rintro e w' ⟨rfl, rfl⟩
            go_wp2_with fail
            obtain ⟨z, q0, q1⟩ := HF.out.below HWR.out hgz
            have hv := HA.out.2 HNG.out
            obtain ⟨rfl, rfl, rfl⟩ := hv
            go_region_held3 (fun w' => w'.cell? ⟨w2.heap.size, 0, none⟩ = some (.int .i64 1) ∧ w'.cell? ⟨w2.heap.size, 1, none⟩ = some (.int .i64 0)) (go_keep) (first | (go_at_call 17; refine (at_calls _ _ _).mono ?_; rintro e w' ⟨rfl, rfl⟩))
            go_wp2
            go_ret
            exact ⟨rfl, (chain_alloc (HB3.out.trans (HWR.out.mono hw3)) _).drew⟩
        · have HJE := Lib.hid (show q.data.toList.take j = q.data.toList from List.take_of_length_le (by simp; omega))
          rw [HJE.out] at v1 v2
          have hdj := HDJ.out
          rw [HJE.out] at hdj
          rw [HJE.out]
          have HDJ2 := Lib.hid hdj
          clear hdj HDJ
          go_wp2_with (at_builtin; refine wpList_app1G _ slI rfl (.tmp 84) (.tmp 86) rfl w3.heap.size A' i c' (iv (((cutL 45 s.data.toList).take i).map valN)) rfl hown _ _ rfl rfl rfl (by omega) hwz ?_; intro A4 c4 w4 hown4 hg4 hb4)
          exact ⟨lrel_next HQ.out HD.out HDJ2.out hown4 (HWR.out.trans hb4), by simp [intOf]; omega⟩
    · obtain rfl : i = n := by omega
      have HAD := Lib.hid (show ∀ p ∈ cutL 45 s.data.toList, ∀ x ∈ p, isD x by
        have hd := HD.out
        rw [List.take_of_length_le (by rw [HN.out]; omega)] at hd
        exact hd)
      have HVL := Lib.hid (show iv (((cutL 45 s.data.toList).take i).map valN) = iv ((cutL 45 s.data.toList).map valN) by rw [List.take_of_length_le (by rw [HN.out]; omega)])
      rw [HVL.out] at hown
      by_cases h3 : i = 3
      · subst h3
        have hall := cut_not HT.out HN.out HAD.out
        have HALL := Lib.hid hall
        have HGD := Lib.hid ((good_all HT.out).2 hall)
        rw [cut_all HT.out hall] at hown
        obtain ⟨ya, mb, dc⟩ := txt_parts HT.out
        have hans := HA.out.1 HGD.out
        rw [ya, mb, dc] at hans
        have ba := valN_small hall.1 (by rw [HT.out.la]; omega)
        have bb := valN_small hall.2.1 (by rw [HT.out.lb]; omega)
        have bc := valN_small hall.2.2 (by rw [HT.out.lc]; omega)
        have HTB := Lib.hid (fun (m : Nat) (hm : (m : Int) = valN b) => txt_back HT.out hall hm)
        clear hall ya mb dc
        have HANS := Lib.hid hans
        clear hans
        generalize hy : valN a = y at *
        generalize hm : valN b = m at *
        generalize hd : valN c0 = d at *
        obtain ⟨g1, o1, u1, e1, hg1, hu1, hc1⟩ := (Rd.of_own hown).at_ (k := 0) (by omega)
        obtain ⟨g2, o2, u2, e2, hg2, hu2, hc2⟩ := (Rd.of_own hown).at_ (k := 1) (by omega)
        obtain ⟨g3, o3, u3, e3, hg3, hu3, hc3⟩ := (Rd.of_own hown).at_ (k := 2) (by omega)
        subst e1
        injection e2 with e2
        injection e2 with e2 e2'
        injection e3 with e3
        injection e3 with e3 e3'
        subst e2 e2' e3 e3'
        simp [iv, hy, hm, hd] at hu1 hu2 hu3
        subst hu1 hu2 hu3
        obtain ⟨z, q0, q1⟩ := HF.out.below HWR.out hgz
        clear hown hy hm hd
        simp only [Nat.add_zero] at hc1
        obtain ⟨cd2, ix2, hdf⟩ : ∃ cd2 ix2, dateF y m d = (cd2, ix2) := ⟨_, _, rfl⟩
        have HDF := Lib.hid hdf
        have hans := HANS.out
        rw [hdf] at hans
        obtain ⟨he1, he2⟩ := hans
        injection he1 with e1 e2
        subst e1 e2
        have HV := Lib.hid he2
        clear hdf he2 HANS
        have hgn : ¬ g1 = wr.heap.size := by omega
        have hgn' : ¬ wr.heap.size = g1 := by omega
        go_upto_region 21 with (fail)
        go_cut [10] (fun t wx => ∃ g, t = .pointer (some ⟨g, 0, none⟩) ∧ FK wx g cd2 ix2 ∧ FK wx w2.heap.size cd2 ix2 ∧ Below wr.heap.size wr wx)
        case first =>
          go_region_held3 (fun w' => w'.cell? ⟨g1, o1, none⟩ = some (.int .i64 y) ∧ w'.cell? ⟨g1, o1 + 1, none⟩ = some (.int .i64 m) ∧ w'.cell? ⟨g1, o1 + 2, none⟩ = some (.int .i64 d)) (first | exact ⟨hc1, hc2, hc3⟩ | exact ⟨k1, k2, k3⟩ | go_keep)
            (first
              | (go_at_call 13; refine (dateFault_at HDF.out _).mono ?_; rintro e w4 ⟨rfl, hb4⟩; (first | (have h4x := df_boxed hb4; obtain ⟨h40, z4, c40, c41, f40, f41⟩ := h4x) | (have h40 := df_plain hb4)); have k1 := (h40.cell (p := ⟨g1, o1, none⟩) (by exact hg1)).trans hc1; have k2 := (h40.cell (p := ⟨g1, o1 + 1, none⟩) (by exact hg1)).trans hc2; have k3 := (h40.cell (p := ⟨g1, o1 + 2, none⟩) (by exact hg1)).trans hc3))
          all_goals go_wp2_with fail
          · go_meet
            exact ⟨_, rfl, FK.new w4 cd2 ix2, (FK.on ⟨z, q0, q1⟩ h40).alloc _, h40.alloc h40.size _⟩
          · go_meet
            exact ⟨_, rfl, fk_put ⟨z4, c40, c41, f40, f41⟩, fk_far (fk_far (FK.on ⟨z, q0, q1⟩ h40) (by omega)) (by omega), (h40.setCell (p := ⟨wr.heap.size, 0, none⟩) (Nat.le_refl _) _).setCell (p := ⟨wr.heap.size, 1, none⟩) (Nat.le_refl _) _⟩
        case rest =>
          obtain ⟨g, rfl, ⟨zg, p0, p1⟩, ⟨zh, r0, r1⟩, hbx⟩ := hcut
          have hzx := hbx.size
          have x1 := (hbx.cell (p := ⟨g1, o1, none⟩) (by exact hg1)).trans hc1
          have x2 := (hbx.cell (p := ⟨g1, o1 + 1, none⟩) (by exact hg1)).trans hc2
          have x3 := (hbx.cell (p := ⟨g1, o1 + 2, none⟩) (by exact hg1)).trans hc3
          have HBX := Lib.hid (HB3.out.trans ((HWR.out.trans (hbx.mono hwz)).mono hw3))
          clear hbx
          by_cases hcd : cd2 = 0
          · subst hcd
            obtain ⟨hval, hmk⟩ := valid_of HDF.out
            have hV := HV.out
            rw [if_pos rfl] at hV
            generalize m.toNat = k at *
            subst hmk
            subst hV
            have HVAL := Lib.hid hval
            have hdb := dim_bd y (k : Int)
            obtain ⟨v1, v2, v3, v4, v5, v6⟩ := hval
            have HTB2 := Lib.hid (HTB.out k rfl)
            go_wp2_with fail
            refine (print_at HVAL.out _).mono ?_
            rintro e w5 ⟨rfl, hb5⟩
            rw [HTB2.out]
            obtain ⟨zz, r0', r1'⟩ := FK.on ⟨zh, r0, r1⟩ hb5
            have y1 := (hb5.cell (p := ⟨g1, o1, none⟩) (by show g1 < _; omega)).trans x1
            have y2 := (hb5.cell (p := ⟨g1, o1 + 1, none⟩) (by show g1 < _; omega)).trans x2
            have y3 := (hb5.cell (p := ⟨g1, o1 + 2, none⟩) (by show g1 < _; omega)).trans x3
            have HB5 := Lib.hid (chain HBX.out hb5)
            clear hb5
            have hss : (({ data := s.data } : ByteArray).toList == s.toList) = true := by
              have e : ({ data := s.data } : ByteArray) = s := rfl
              rw [e]; simp
            go_wp2_with fail
            go_region_held3 (fun w' => w'.cell? ⟨w2.heap.size, 0, none⟩ = some (.int .i64 0) ∧ w'.cell? ⟨w5.heap.size, 0, none⟩ = some (.int .i64 0) ∧ w'.cell? ⟨g1, o1, none⟩ = some (.int .i64 y) ∧ w'.cell? ⟨g1, o1 + 1, none⟩ = some (.int .i64 (k : Int)) ∧ w'.cell? ⟨g1, o1 + 2, none⟩ = some (.int .i64 d)) (go_keep) (first | (go_at_call 14; refine (dayOf_calls y d k _ v1 v2 v3 v4 (by omega) (by omega)).mono ?_; rintro e w' ⟨rfl, rfl⟩))
            all_goals go_wp2_with fail
            all_goals go_ret
            all_goals exact ⟨rfl, (chain_alloc HB5.out _).drew⟩
          · have hcd' : (cd2 != 0) = true := by simp [hcd]
            have hV := HV.out
            rw [if_neg hcd] at hV
            subst hV
            clear hcd
            go_wp2_with fail
            go_ret
            exact ⟨rfl, HBX.out⟩
      · have HNG := Lib.hid (show ¬ Good s.data.toList from fun g => h3 (by
          have hc := cut_all HT.out ((good_all HT.out).1 g)
          have hn := HN.out
          rw [hc] at hn
          exact hn.symm))
        have h3' : ((i : Int) != 3) = true := by rw [bne_iff_ne]; omega
        obtain ⟨z, q0, q1⟩ := HF.out.below HWR.out hgz
        have hv := HA.out.2 HNG.out
        obtain ⟨rfl, rfl, rfl⟩ := hv
        clear h3
        go_wp2_with fail
        go_region_held3 (fun w' => w'.cell? ⟨w2.heap.size, 0, none⟩ = some (.int .i64 1) ∧ w'.cell? ⟨w2.heap.size, 1, none⟩ = some (.int .i64 0)) (go_keep) (first | (go_at_call 17; refine (at_calls _ _ _).mono ?_; rintro e w' ⟨rfl, rfl⟩))
        go_wp2
        go_ret
        exact ⟨rfl, (chain_alloc (HB3.out.trans (HWR.out.mono hw3)) _).drew⟩

theorem textMatches_calls (s : ByteArray) (w : World) :
    Calls Try.prog 10 #[.string s] w fun e w' => e = .returned (.bool true) ∧ Below w.heap.size w w' := by
  by_cases h : s.size = 10
  · by_cases h4 : s[4] = 45
    · by_cases h7 : s[7] = 45
      · exact text_txt s w h h4 h7
      · exact text_7 s w h h4 h7
    · exact text_4 s w h h4
  · exact text_len s w h
end Go.Proofs.Ytmhjcdencfbjpaa
