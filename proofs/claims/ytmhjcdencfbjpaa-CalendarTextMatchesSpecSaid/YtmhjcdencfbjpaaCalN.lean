/-
  The contract of calendar.Parse.
-/
import Derived.Test.YtmhjcdencfbjpaaCalJ
import Derived.Test.YtmhjcdencfbjpaaTxtMath
namespace Go.Proofs.Ytmhjcdencfbjpaa
open Go.RowKit
set_option linter.unusedVariables false
set_option linter.unusedSimpArgs false

def pt (k : Nat) : Int := if k ≤ 4 then 0 else if k ≤ 7 then 1 else 2
/-- the number read so far in the part of m digits that begins at a -/
def nS (l : List UInt8) (a m k : Nat) : Int := valN (((l.drop a).take m).take (k - a))
def okB (j : Nat) (x : UInt8) : Prop := if j = 4 ∨ j = 7 then x = 45 else isD x
theorem okB_dash {j : Nat} {x : UInt8} (h : j = 4 ∨ j = 7) : okB j x ↔ x = 45 := by unfold okB; rw [if_pos h]
theorem okB_dig {j : Nat} {x : UInt8} (h : ¬ (j = 4 ∨ j = 7)) : okB j x ↔ isD x := by unfold okB; rw [if_neg h]
theorem nS_in {l : List UInt8} {a m k : Nat} {x : UInt8} (h1 : a ≤ k) (h2 : k < a + m) (hx : l[k]? = some x) : nS l a m (k + 1) = 10 * nS l a m k + ((x.toNat : Int) - 48) := by
  unfold nS
  have e : ((l.drop a).take m)[k - a]? = some x := by
    rw [List.getElem?_take, if_pos (by omega), List.getElem?_drop, show a + (k - a) = k by omega]; exact hx
  rw [show k + 1 - a = (k - a) + 1 by omega, List.take_add_one, e, Option.toList_some, valN_snoc]
theorem nS_out {l : List UInt8} {a m k : Nat} (h : k < a ∨ a + m ≤ k) : nS l a m (k + 1) = nS l a m k := by
  unfold nS
  rcases h with h | h
  · rw [show k + 1 - a = k - a by omega]
  · rw [List.take_of_length_le (by rw [List.length_take]; omega), List.take_of_length_le (l := (l.drop a).take m) (by rw [List.length_take]; omega)]
theorem nS_bd {l : List UInt8} {a m k : Nat} (hok : ∀ j x, j < k → l[j]? = some x → okB j x) (hne : ∀ j, a ≤ j → j < a + m → ¬ (j = 4 ∨ j = 7)) : 0 ≤ nS l a m k ∧ nS l a m k < 10 ^ m := by
  unfold nS
  have hd : ∀ c ∈ ((l.drop a).take m).take (k - a), isD c := by
    intro c hc
    obtain ⟨i, e⟩ := List.mem_iff_getElem?.1 hc
    have hi := (List.getElem?_eq_some_iff.1 e).1
    rw [List.length_take, List.length_take] at hi
    rw [List.getElem?_take, if_pos (by omega), List.getElem?_take, if_pos (by omega), List.getElem?_drop] at e
    exact (okB_dig (hne (a + i) (by omega) (by omega))).1 (hok (a + i) c (by omega) e)
  have h := valN_bd _ hd
  refine ⟨h.1, Int.lt_of_lt_of_le h.2 ?_⟩
  have hl : (((l.drop a).take m).take (k - a)).length ≤ m := by rw [List.length_take, List.length_take]; omega
  exact_mod_cast Nat.pow_le_pow_right (by omega) hl
/-- every byte is as it must be -/
def Good (l : List UInt8) : Prop := l.length = 10 ∧ ∀ j x, j < 10 → l[j]? = some x → okB j x
def y_ (l : List UInt8) : Int := nS l 0 4 10
def m_ (l : List UInt8) : Int := nS l 5 2 10
def d_ (l : List UInt8) : Int := nS l 8 2 10
def PRel (l : List UInt8) (w : World) (part i : Value) (wr : World) : Prop :=
  ∃ k : Nat, k ≤ 10 ∧ i = .int .i64 (k : Int) ∧ part = .int .i64 (pt k) ∧ (∀ j x, j < k → l[j]? = some x → okB j x) ∧
    (w.alloc (.cells #[.int .i64 0, .int .i64 0] 24)).alloc (.cells #[.int .i64 (nS l 0 4 k), .int .i64 (nS l 5 2 k), .int .i64 (nS l 8 2 k)] 48) = wr
def PEnd (l : List UInt8) (w : World) (e : Ending) (w' : World) : Prop :=
  Below w.heap.size w w' ∧ ((Good l ∧ e = .returned (.tuple #[.int .i64 (if (dateF (y_ l) (m_ l) (d_ l)).1 = 0 then num (y_ l) (m_ l).toNat (d_ l) else 0), .agg #[.int .i64 (dateF (y_ l) (m_ l) (d_ l)).1, .int .i64 (dateF (y_ l) (m_ l) (d_ l)).2]])) ∨
    (¬ Good l ∧ e = .returned (.tuple #[.int .i64 0, .agg #[.int .i64 1, .int .i64 0]])))
theorem pend_bad {l : List UInt8} {w w' : World} {k : Nat} {x : UInt8} (hk : k < 10) (hx : l[k]? = some x) (hn : ¬ okB k x) (hb : Below w.heap.size w w') : PEnd l w (.returned (.tuple #[.int .i64 0, .agg #[.int .i64 1, .int .i64 0]])) w' :=
  ⟨hb, .inr ⟨fun h => hn (h.2 k x hk hx), rfl⟩⟩
theorem day_parts {w w' : World} {y m d a b c : Int} {e : Ending} {T : TypeId} (h : DayEnd ((w.alloc (.cells #[.int .i64 0, .int .i64 0] 24)).alloc (.cells #[.int .i64 a, .int .i64 b, .int .i64 c] T)) y m d e w') :
    ∃ v c i, e = .returned (.tuple #[.int .i64 v, .agg #[.int .i64 c, .int .i64 i]]) ∧ Below w.heap.size w w' ∧ Hid (Ending.returned (.tuple #[.int .i64 v, .agg #[.int .i64 c, .int .i64 i]]) = .returned (.tuple #[.int .i64 (if (dateF y m d).1 = 0 then num y m.toNat d else 0), .agg #[.int .i64 (dateF y m d).1, .int .i64 (dateF y m d).2]])) ∧ FR w' w.heap.size ∧ True := by
  obtain ⟨he, hb⟩ := h
  have h1 : Below (w.alloc (.cells #[.int .i64 0, .int .i64 0] 24)).heap.size (w.alloc (.cells #[.int .i64 0, .int .i64 0] 24)) w' := chain ((Below.refl _ _).alloc (Nat.le_refl _) _) hb
  obtain ⟨h2, h3⟩ := fr_after h1
  exact ⟨_, _, _, he, h2, Lib.hid rfl, h3, trivial⟩
theorem pend_day {l : List UInt8} {w w' : World} {e : Ending} (hg : Good l) (he : e = .returned (.tuple #[.int .i64 (if (dateF (y_ l) (m_ l) (d_ l)).1 = 0 then num (y_ l) (m_ l).toNat (d_ l) else 0), .agg #[.int .i64 (dateF (y_ l) (m_ l) (d_ l)).1, .int .i64 (dateF (y_ l) (m_ l) (d_ l)).2]])) (h1 : Below w.heap.size w w') : PEnd l w e w' :=
  ⟨h1, .inl ⟨hg, he⟩⟩
theorem ok_more {l : List UInt8} {k : Nat} {x : UInt8} (hok : ∀ j x, j < k → l[j]? = some x → okB j x) (hx : l[k]? = some x) (h : okB k x) : ∀ j y, j < k + 1 → l[j]? = some y → okB j y := by
  intro j y hj hy
  by_cases e : j = k
  · subst e; rw [hx] at hy; injection hy with hy; subst hy; exact h
  · exact hok j y (by omega) hy
theorem prel_next {l : List UInt8} {w wr : World} {part i : Value} {k : Nat} {x : UInt8} {a b c p : Int} (hk : k < 10) (hok : ∀ j x, j < k → l[j]? = some x → okB j x) (hx : l[k]? = some x) (h : okB k x)
    (hi : i = .int .i64 ((k : Int) + 1)) (hp : part = .int .i64 p) (hp' : p = pt (k + 1)) (ha : nS l 0 4 (k + 1) = a) (hb : nS l 5 2 (k + 1) = b) (hc : nS l 8 2 (k + 1) = c)
    (hw : (w.alloc (.cells #[.int .i64 0, .int .i64 0] 24)).alloc (.cells #[.int .i64 a, .int .i64 b, .int .i64 c] 48) = wr) : PRel l w part i wr := by
  subst hp'
  exact ⟨k + 1, by omega, by rw [hi]; rfl, hp, ok_more hok hx h, by rw [ha, hb, hc]; exact hw⟩
theorem byte_at {s : ByteArray} {k : Nat} (h : k < s.size) : s.data.toList[k]? = some s[k] := by
  rw [List.getElem?_eq_getElem (by simpa using h)]; rfl

set_option maxRecDepth 100000 in
set_option maxHeartbeats 1000000 in
theorem parse_len (s : ByteArray) (w : World) (h : ¬ s.size = 10) : Calls Try.prog 22 #[.string s] w (PEnd s.data.toList w) := by
  have hg : ¬ Good s.data.toList := fun g => h (by simpa using g.1)
  have HG := Lib.hid hg
  have hs : ((s.size : Int) != 10) = true := by simp; omega
  clear h hg
  go_enter Try.func22, Try.ntmps22
  go_wp2_with (go_at_call 24; refine (fault_calls _ _ _).mono ?_; rintro e w' ⟨rfl, rfl⟩)
  refine bodyPost_ret (v := .tuple #[.int .i64 0, .agg #[.int .i64 1, .int .i64 0]]) (by simp [results, Try.results22, go_sem]) rfl ?_
  exact ⟨((Below.refl _ _).alloc (Nat.le_refl _) _).alloc (by simp) _, .inr ⟨HG.out, rfl⟩⟩

set_option maxRecDepth 100000 in
set_option maxHeartbeats 2000000 in
theorem parse_ten (s : ByteArray) (w : World) (h : s.size = 10) : Calls Try.prog 22 #[.string s] w (PEnd s.data.toList w) := by
  go_enter Try.func22, Try.ntmps22
  go_wp2_with fail
  go_loopw [5, 14] (PRel s.data.toList w) (fun _ i _ => 10 - (intOf i).toNat)
  case atStart => exact ⟨0, by omega, rfl, rfl, fun j x hj => absurd hj (by omega), rfl⟩
  case round =>
    obtain ⟨k, hk, rfl, rfl, hok, rfl⟩ := hrel
    have HOK := Lib.hid hok
    clear hok
    by_cases hend : k < 10
    · have HX := Lib.hid (byte_at (s := s) (k := k) (by omega))
      by_cases c0 : k < 4
      · have hp : pt k = 0 := by unfold pt; repeat (first | rw [if_pos (by omega)] | rw [if_neg (by omega)])
        rw [hp]
        clear hp
        have hk4 : ((k : Int) == 4) = false := by simp; omega
        have hk7 : ((k : Int) == 7) = false := by simp; omega
        have hdg : okB k s[k] ↔ isD s[k] := okB_dig (by omega)
        have hbd := nS_bd (a := 0) (m := 4) HOK.out (by omega)
        obtain ⟨b1, b2⟩ := hbd
        simp only [Int.reducePow] at b2
        by_cases hd : isD s[k]
        · have HG := Lib.hid (hdg.2 hd)
          obtain ⟨d1, d2⟩ := hd
          clear hdg
          go_wp2_with fail
          refine ⟨prel_next (k := k) (by omega) HOK.out HX.out HG.out rfl rfl (by unfold pt; repeat (first | rw [if_pos (by omega)] | rw [if_neg (by omega)])) (nS_in (by omega) (by omega) HX.out) (nS_out (by omega)) (nS_out (by omega)) rfl, by simp [intOf]; omega⟩
        · have HN := Lib.hid (fun h => hd (hdg.1 h))
          clear hdg
          by_cases hd1 : s[k].toNat < 48
          · clear hd
            go_wp2_with (go_at_call 24; refine (fault_calls _ _ _).mono ?_; rintro e w' ⟨rfl, rfl⟩)
            refine bodyPost_ret (v := .tuple #[.int .i64 0, .agg #[.int .i64 1, .int .i64 0]]) (by simp [results, Try.results22, go_sem]) rfl ?_
            exact pend_bad (k := k) (by omega) HX.out HN.out ((((Below.refl _ _).alloc (Nat.le_refl _) _).alloc (by simp) _).alloc (by simp; omega) _)
          · have hd2 : 57 < s[k].toNat := by unfold isD at hd; omega
            clear hd
            go_wp2_with (go_at_call 24; refine (fault_calls _ _ _).mono ?_; rintro e w' ⟨rfl, rfl⟩)
            refine bodyPost_ret (v := .tuple #[.int .i64 0, .agg #[.int .i64 1, .int .i64 0]]) (by simp [results, Try.results22, go_sem]) rfl ?_
            exact pend_bad (k := k) (by omega) HX.out HN.out ((((Below.refl _ _).alloc (Nat.le_refl _) _).alloc (by simp) _).alloc (by simp; omega) _)
      · by_cases c1 : k = 4
        · have c1' : k ≤ 4 := by omega
          have c1'' : 4 ≤ k := by omega
          clear c1
          have hp : pt k = 0 := by unfold pt; repeat (first | rw [if_pos (by omega)] | rw [if_neg (by omega)])
          rw [hp]
          clear hp
          have hk4 : ((k : Int) == 4) = true := by simp; omega
          have hk7 : ((k : Int) == 7) = false := by simp; omega
          have hdg : okB k s[k] ↔ s[k] = 45 := okB_dash (by omega)
          by_cases hd : s[k] = 45
          · have HG := Lib.hid (hdg.2 hd)
            have hne : ((s[k].toNat : Int) != 45) = false := by rw [hd]; rfl
            clear hdg hd
            go_wp2_with fail
            refine ⟨prel_next (k := k) (by omega) HOK.out HX.out HG.out rfl rfl (by unfold pt; repeat (first | rw [if_pos (by omega)] | rw [if_neg (by omega)])) (nS_out (by omega)) (nS_out (by omega)) (nS_out (by omega)) rfl, by simp [intOf]; omega⟩
          · have HN := Lib.hid (fun h => hd (hdg.1 h))
            have hne : ((s[k].toNat : Int) != 45) = true := by
              rw [bne_iff_ne]; intro e; exact hd (UInt8.toNat_inj.1 (by show s[k].toNat = 45; omega))
            clear hdg hd
            go_wp2_with (go_at_call 24; refine (fault_calls _ _ _).mono ?_; rintro e w' ⟨rfl, rfl⟩)
            refine bodyPost_ret (v := .tuple #[.int .i64 0, .agg #[.int .i64 1, .int .i64 0]]) (by simp [results, Try.results22, go_sem]) rfl ?_
            exact pend_bad (k := k) (by omega) HX.out HN.out ((((Below.refl _ _).alloc (Nat.le_refl _) _).alloc (by simp) _).alloc (by simp; omega) _)
        · by_cases c2 : k < 7
          · have c1' : 4 < k := by omega
            clear c0 c1
            have hp : pt k = 1 := by unfold pt; repeat (first | rw [if_pos (by omega)] | rw [if_neg (by omega)])
            rw [hp]
            clear hp
            have hk4 : ((k : Int) == 4) = false := by simp; omega
            have hk7 : ((k : Int) == 7) = false := by simp; omega
            have hdg : okB k s[k] ↔ isD s[k] := okB_dig (by omega)
            have hbd := nS_bd (a := 5) (m := 2) HOK.out (by omega)
            obtain ⟨b1, b2⟩ := hbd
            simp only [Int.reducePow] at b2
            by_cases hd : isD s[k]
            · have HG := Lib.hid (hdg.2 hd)
              obtain ⟨d1, d2⟩ := hd
              clear hdg
              go_wp2_with fail
              refine ⟨prel_next (k := k) (by omega) HOK.out HX.out HG.out rfl rfl (by unfold pt; repeat (first | rw [if_pos (by omega)] | rw [if_neg (by omega)])) (nS_out (by omega)) (nS_in (by omega) (by omega) HX.out) (nS_out (by omega)) rfl, by simp [intOf]; omega⟩
            · have HN := Lib.hid (fun h => hd (hdg.1 h))
              clear hdg
              by_cases hd1 : s[k].toNat < 48
              · clear hd
                go_wp2_with (go_at_call 24; refine (fault_calls _ _ _).mono ?_; rintro e w' ⟨rfl, rfl⟩)
                refine bodyPost_ret (v := .tuple #[.int .i64 0, .agg #[.int .i64 1, .int .i64 0]]) (by simp [results, Try.results22, go_sem]) rfl ?_
                exact pend_bad (k := k) (by omega) HX.out HN.out ((((Below.refl _ _).alloc (Nat.le_refl _) _).alloc (by simp) _).alloc (by simp; omega) _)
              · have hd2 : 57 < s[k].toNat := by unfold isD at hd; omega
                clear hd
                go_wp2_with (go_at_call 24; refine (fault_calls _ _ _).mono ?_; rintro e w' ⟨rfl, rfl⟩)
                refine bodyPost_ret (v := .tuple #[.int .i64 0, .agg #[.int .i64 1, .int .i64 0]]) (by simp [results, Try.results22, go_sem]) rfl ?_
                exact pend_bad (k := k) (by omega) HX.out HN.out ((((Below.refl _ _).alloc (Nat.le_refl _) _).alloc (by simp) _).alloc (by simp; omega) _)
          · by_cases c3 : k = 7
            · have c1' : k ≤ 7 := by omega
              clear c0 c1 c3
              have hp : pt k = 1 := by unfold pt; repeat (first | rw [if_pos (by omega)] | rw [if_neg (by omega)])
              rw [hp]
              clear hp
              have hk4 : ((k : Int) == 4) = false := by simp; omega
              have hk7 : ((k : Int) == 7) = true := by simp; omega
              have hdg : okB k s[k] ↔ s[k] = 45 := okB_dash (by omega)
              by_cases hd : s[k] = 45
              · have HG := Lib.hid (hdg.2 hd)
                have hne : ((s[k].toNat : Int) != 45) = false := by rw [hd]; rfl
                clear hdg hd
                go_wp2_with fail
                refine ⟨prel_next (k := k) (by omega) HOK.out HX.out HG.out rfl rfl (by unfold pt; repeat (first | rw [if_pos (by omega)] | rw [if_neg (by omega)])) (nS_out (by omega)) (nS_out (by omega)) (nS_out (by omega)) rfl, by simp [intOf]; omega⟩
              · have HN := Lib.hid (fun h => hd (hdg.1 h))
                have hne : ((s[k].toNat : Int) != 45) = true := by
                  rw [bne_iff_ne]; intro e; exact hd (UInt8.toNat_inj.1 (by show s[k].toNat = 45; omega))
                clear hdg hd
                go_wp2_with (go_at_call 24; refine (fault_calls _ _ _).mono ?_; rintro e w' ⟨rfl, rfl⟩)
                refine bodyPost_ret (v := .tuple #[.int .i64 0, .agg #[.int .i64 1, .int .i64 0]]) (by simp [results, Try.results22, go_sem]) rfl ?_
                exact pend_bad (k := k) (by omega) HX.out HN.out ((((Below.refl _ _).alloc (Nat.le_refl _) _).alloc (by simp) _).alloc (by simp; omega) _)
            · have c1' : 7 < k := by omega
              clear c0 c1 c2 c3
              have hp : pt k = 2 := by unfold pt; repeat (first | rw [if_pos (by omega)] | rw [if_neg (by omega)])
              rw [hp]
              clear hp
              have hk4 : ((k : Int) == 4) = false := by simp; omega
              have hk7 : ((k : Int) == 7) = false := by simp; omega
              have hdg : okB k s[k] ↔ isD s[k] := okB_dig (by omega)
              have hbd := nS_bd (a := 8) (m := 2) HOK.out (by omega)
              obtain ⟨b1, b2⟩ := hbd
              simp only [Int.reducePow] at b2
              by_cases hd : isD s[k]
              · have HG := Lib.hid (hdg.2 hd)
                obtain ⟨d1, d2⟩ := hd
                clear hdg
                go_wp2_with fail
                refine ⟨prel_next (k := k) (by omega) HOK.out HX.out HG.out rfl rfl (by unfold pt; repeat (first | rw [if_pos (by omega)] | rw [if_neg (by omega)])) (nS_out (by omega)) (nS_out (by omega)) (nS_in (by omega) (by omega) HX.out) rfl, by simp [intOf]; omega⟩
              · have HN := Lib.hid (fun h => hd (hdg.1 h))
                clear hdg
                by_cases hd1 : s[k].toNat < 48
                · clear hd
                  go_wp2_with (go_at_call 24; refine (fault_calls _ _ _).mono ?_; rintro e w' ⟨rfl, rfl⟩)
                  refine bodyPost_ret (v := .tuple #[.int .i64 0, .agg #[.int .i64 1, .int .i64 0]]) (by simp [results, Try.results22, go_sem]) rfl ?_
                  exact pend_bad (k := k) (by omega) HX.out HN.out ((((Below.refl _ _).alloc (Nat.le_refl _) _).alloc (by simp) _).alloc (by simp; omega) _)
                · have hd2 : 57 < s[k].toNat := by unfold isD at hd; omega
                  clear hd
                  go_wp2_with (go_at_call 24; refine (fault_calls _ _ _).mono ?_; rintro e w' ⟨rfl, rfl⟩)
                  refine bodyPost_ret (v := .tuple #[.int .i64 0, .agg #[.int .i64 1, .int .i64 0]]) (by simp [results, Try.results22, go_sem]) rfl ?_
                  exact pend_bad (k := k) (by omega) HX.out HN.out ((((Below.refl _ _).alloc (Nat.le_refl _) _).alloc (by simp) _).alloc (by simp; omega) _)
    · obtain rfl : k = 10 := by omega
      have HG := Lib.hid (show Good s.data.toList from ⟨by simpa using h, HOK.out⟩)
      clear HOK
      go_wp2_with fail
      refine (day_calls _ _ _ _).mono ?_
      intro e w' hd
      obtain ⟨v, c, i, he, H1, HE, H2, H3⟩ := day_parts hd
      subst he
      obtain ⟨z, c0, c1, f0, f1⟩ := H2
      clear hd
      go_wp2_with fail
      refine bodyPost_ret (v := .tuple #[.int .i64 v, .agg #[.int .i64 c, .int .i64 i]]) (by simp [results, Try.results22, go_sem, c0, c1, z]) rfl ?_
      exact pend_day HG.out HE.out (((H1.setCell (p := ⟨w.heap.size, 0, none⟩) (Nat.le_refl _) _).setCell (p := ⟨w.heap.size, 1, none⟩) (Nat.le_refl _) _))

end Go.Proofs.Ytmhjcdencfbjpaa
