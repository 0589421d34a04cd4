/-
  The contract of the reference's Get: it reads what wire.ReadNumber reads.
-/
/-
  The contracts of copies and joins of byte strings, of wire.Chunk and PutChunk, of wire.ReadChunk and GetChunk.
-/
import Derived.Test.YtolognhjdmkohaaJ3
import Derived.Test.YtolognhjdmkohaaJ2
import Derived.RegionTactic
namespace Go.Proofs.Ytolognhjdmkohaa
open Go.RowKit
set_option linter.unusedVariables false
set_option linter.unusedSimpArgs false

def syn (i c : Nat) : Prop := (i = 9 ∧ 1 < c) ∨ (0 < i ∧ c = 0)
def GetRel (l : List UInt8) (v : Value) : Prop :=
  ∃ i : Nat, v = .int .i64 (i : Int) ∧ i ≤ 10 ∧ i ≤ l.length ∧ (i = 0 ∨ ∃ (j u : Nat) (c : UInt8), i = j + 1 ∧ l[j]? = some c ∧ u < 128 ^ j ∧ ¬ syn j c.toNat ∧ dec l = comb u j (decF j (l.drop j)))
/-- i bytes that do not end the number -/
def Cont (l : List UInt8) (i : Nat) : Prop := ∃ u, u < 128 ^ i ∧ dec l = comb u i (decF i (l.drop i))
theorem drop_cons_of {l : List UInt8} {j : Nat} {c : UInt8} (h : l[j]? = some c) : l.drop j = c :: l.drop (j + 1) := by
  obtain ⟨hj, rfl⟩ := List.getElem?_eq_some_iff.1 h
  exact List.drop_eq_getElem_cons hj
theorem cont_of {l : List UInt8} {i : Nat} (h : i = 0 ∨ ∃ (j u : Nat) (c : UInt8), i = j + 1 ∧ l[j]? = some c ∧ u < 128 ^ j ∧ ¬ syn j c.toNat ∧ dec l = comb u j (decF j (l.drop j)))
    (hp : ∀ j c, i = j + 1 → l[j]? = some c → 128 ≤ c.toNat) : Cont l i := by
  rcases h with rfl | ⟨j, u, c, rfl, hc, hu, hs, hd⟩
  · exact ⟨0, by simp, by simp [comb_zero, dec]⟩
  · have := hp j c rfl hc
    refine ⟨u + 128 ^ j * (c.toNat % 128), read_lt u j c.toNat hu, ?_⟩
    rw [hd, drop_cons_of hc, comb_next _ _ _ _ hs (by omega), show c.toNat % 128 = c.toNat - 128 by have := UInt8.toNat_lt c; omega]
theorem end_of {l : List UInt8} {i : Nat} (h : i = 0 ∨ ∃ (j u : Nat) (c : UInt8), i = j + 1 ∧ l[j]? = some c ∧ u < 128 ^ j ∧ ¬ syn j c.toNat ∧ dec l = comb u j (decF j (l.drop j)))
    {j : Nat} {c : UInt8} (hi : i = j + 1) (hc : l[j]? = some c) (hp : c.toNat < 128) : ∃ y, dec l = .inr (y, i) := by
  rcases h with rfl | ⟨j', u, c', hi', hc', hu, hs, hd⟩
  · omega
  · obtain rfl : j' = j := by omega
    rw [hc] at hc'; injection hc' with e; subst e
    refine ⟨u + 128 ^ j' * c.toNat, ?_⟩
    rw [hd, drop_cons_of hc, comb_end _ _ _ _ hs hp, hi]
theorem full_of {l : List UInt8} {i : Nat} (h : i = 0 ∨ ∃ (j u : Nat) (c : UInt8), i = j + 1 ∧ l[j]? = some c ∧ u < 128 ^ j ∧ ¬ syn j c.toNat ∧ dec l = comb u j (decF j (l.drop j)))
    {j : Nat} {c : UInt8} (hi : i = j + 1) (hc : l[j]? = some c) (h10 : i = 10) : c.toNat < 128 := by
  rcases h with rfl | ⟨j', u, c', hi', hc', hu, hs, hd⟩
  · omega
  · obtain rfl : j' = j := by omega
    rw [hc] at hc'; injection hc' with e; subst e
    unfold syn at hs
    omega

/-- the test at the loop's head -/
def goB (i k n p : Nat) : Bool := decide (i < 10 ∧ k + i < n ∧ (i = 0 ∨ 128 ≤ p))
theorem goB_yes {i k n p : Nat} (h : i < 10 ∧ k + i < n ∧ (i = 0 ∨ 128 ≤ p)) : goB i k n p = true := decide_eq_true h
theorem goB_no {i k n p : Nat} (h : ¬ (i < 10 ∧ k + i < n ∧ (i = 0 ∨ 128 ≤ p))) : goB i k n p = false := decide_eq_false h
/-- the test behind the loop -/
def shB (i p : Nat) : Bool := decide (i = 0 ∨ 128 ≤ p)
theorem shB_yes {i p : Nat} (h : i = 0 ∨ 128 ≤ p) : shB i p = true := decide_eq_true h
theorem shB_no {i p : Nat} (h : ¬ (i = 0 ∨ 128 ≤ p)) : shB i p = false := decide_eq_false h

def GetRel2 (l : List UInt8) (v k : Value) : Prop :=
  ∃ j : Nat, j ≤ l.length ∧ k = .int .i64 ((j : Int) - 1) ∧ v = .int .u64 ((val (l.drop j) : Nat) : Int)

theorem get_cells {w : World} {b o : Nat} {bs : List UInt8} (h : ∀ j u, (bv bs)[j]? = some u → w.cell? ⟨b, o + j, none⟩ = some u) : ∀ (j : Nat) (c : UInt8), bs[j]? = some c → w.cell? ⟨b, o + j, none⟩ = some (.int .u8 (c.toNat : Int)) := by
  intro j c hc
  exact h j _ (by simp [bv, hc])
theorem get_prev (bs : List UInt8) (k i : Nat) (h : k + i ≤ bs.length) : ∃ p : UInt8, 0 < i → bs[k + i - 1]? = some p := by
  by_cases hi : 0 < i
  · exact ⟨bs[k + i - 1], fun _ => List.getElem?_eq_getElem (by omega)⟩
  · exact ⟨0, fun h => absurd h hi⟩

theorem get_elem {bs : List UInt8} {k i : Nat} (h : k + i < bs.length) : (bs.drop k)[i]? = some bs[k + i] := by
  rw [List.getElem?_drop, List.getElem?_eq_getElem h]
theorem get_cont {bs : List UInt8} {k i : Nat} {p : UInt8} (h : i = 0 ∨ ∃ (j u : Nat) (c : UInt8), i = j + 1 ∧ (bs.drop k)[j]? = some c ∧ u < 128 ^ j ∧ ¬ syn j c.toNat ∧ dec (bs.drop k) = comb u j (decF j ((bs.drop k).drop j))) (hl : k + i < bs.length) (hp : 0 < i → bs[k + i - 1]? = some p) (hpp : i = 0 ∨ 128 ≤ p.toNat) : Cont (bs.drop k) i := by
  refine cont_of h fun j c hj hc => ?_
  subst hj
  rw [List.getElem?_drop] at hc
  have := hp (by omega)
  rw [show k + (j + 1) - 1 = k + j by omega, hc] at this
  injection this with e
  subst e
  omega
theorem get_syn {bs : List UInt8} {k i : Nat} {c : UInt8} {t : List UInt8} (h : Cont (bs.drop k) i) (hb : (bs.drop k).drop i = c :: t) (hs : (i = 9 ∧ 1 < c.toNat) ∨ (0 < i ∧ c.toNat = 0)) : dec (bs.drop k) = .inl 1 := by
  obtain ⟨u, _, hd⟩ := h
  rw [hd, hb, comb_syn _ _ _ _ hs]
theorem get_more {l : List UInt8} {i : Nat} {c : UInt8} (h : Cont l i) (hc : l[i]? = some c) (hs : ¬ ((i = 9 ∧ 1 < c.toNat) ∨ (0 < i ∧ c.toNat = 0))) :
    i + 1 = 0 ∨ ∃ (j u : Nat) (c : UInt8), i + 1 = j + 1 ∧ l[j]? = some c ∧ u < 128 ^ j ∧ ¬ syn j c.toNat ∧ dec l = comb u j (decF j (l.drop j)) := by
  obtain ⟨u, hu, hd⟩ := h
  exact .inr ⟨i, u, c, rfl, hc, hu, hs, hd⟩
theorem get_trunc {bs : List UInt8} {k i : Nat} {p : UInt8} (h : i = 0 ∨ ∃ (j u : Nat) (c : UInt8), i = j + 1 ∧ (bs.drop k)[j]? = some c ∧ u < 128 ^ j ∧ ¬ syn j c.toNat ∧ dec (bs.drop k) = comb u j (decF j ((bs.drop k).drop j))) (hp : 0 < i → bs[k + i - 1]? = some p) (hpp : i = 0 ∨ 128 ≤ p.toNat) (hl : k + i ≤ bs.length)
    (hg : ¬ (i < 10 ∧ k + i < bs.length ∧ (i = 0 ∨ 128 ≤ p.toNat))) (h10 : i ≤ 10) : dec (bs.drop k) = .inl 15 := by
  have hend : k + i = bs.length := by
    rcases Nat.lt_or_ge i 10 with hi | hi
    · omega
    · have e : i = 10 := by omega
      have := hp (by omega)
      have hc := full_of (j := 9) (c := p) h (by omega) (by rw [List.getElem?_drop, ← this]; congr 1; omega) e
      omega
  have hc : Cont (bs.drop k) i := by
    refine cont_of h fun j c hj hc => ?_
    subst hj
    rw [List.getElem?_drop] at hc
    have := hp (by omega)
    rw [show k + (j + 1) - 1 = k + j by omega, hc] at this
    injection this with e
    subst e
    omega
  obtain ⟨u, _, hd⟩ := hc
  exact read_trunc hd hend
theorem get_end {bs : List UInt8} {k i : Nat} {p : UInt8} (h : i = 0 ∨ ∃ (j u : Nat) (c : UInt8), i = j + 1 ∧ (bs.drop k)[j]? = some c ∧ u < 128 ^ j ∧ ¬ syn j c.toNat ∧ dec (bs.drop k) = comb u j (decF j ((bs.drop k).drop j))) (hp : 0 < i → bs[k + i - 1]? = some p) (hpp : ¬ (i = 0 ∨ 128 ≤ p.toNat)) (hl : k + i ≤ bs.length) : ∃ y, dec (bs.drop k) = .inr (y, i) := by
  have := hp (by omega)
  exact end_of (j := i - 1) (c := p) h (by omega) (by rw [List.getElem?_drop, ← this]; congr 1; omega) (by omega)

theorem get_bytes {bs : List UInt8} {k i : Nat} : ∀ m, m < i → k + i ≤ bs.length → ∃ c : UInt8, bs[k + m]? = some c ∧ val (((bs.drop k).take i).drop m) = c.toNat % 128 + 128 * val (((bs.drop k).take i).drop (m + 1)) := by
  intro m hm hl
  have hl2 : ((bs.drop k).take i).length = i := by rw [List.length_take, List.length_drop]; omega
  have hlt : m < ((bs.drop k).take i).length := by omega
  refine ⟨bs[k + m], List.getElem?_eq_getElem (by omega), ?_⟩
  rw [List.drop_eq_getElem_cons hlt]
  simp only [val, List.getElem_take, List.getElem_drop]

theorem get_val {x : Int} {y : Nat} (h : (y : Int) = x) : Value.int .u64 x = .int .u64 (y : Int) := by rw [h]

set_option maxRecDepth 100000 in
set_option maxHeartbeats 1000000 in
theorem get_calls {w : World} {A : Option Addr} {n c : Nat} {bs : List UInt8} (h : Rd w w.heap.size 1 A n (bv bs)) (at_ : Int) (hn : n ≤ maxLen) :
    Calls Try.prog 68 #[.slice A n c, .int .i64 at_] w (NumEnd w (readNum bs at_)) := by
  unfold maxLen at hn
  have hnl : bs.length = n := by have := h.len; rw [bv_len] at this; exact this
  by_cases h0 : ¬ (0 ≤ at_ ∧ at_ ≤ (n : Int))
  · have HR := Lib.hid (show readNum bs at_ = (0, 0, 4, -2) by unfold readNum; rw [if_pos (by omega)])
    have hd : (decide ((0 : Int) ≤ at_) && decide (at_ ≤ (n : Int))) = false := by simp; omega
    clear hnl h0
    go_enter Try.func68, Try.ntmps68
    go_wp2_with (first | (go_at_call 23; refine (in_calls _ _ _ _).mono ?_; rintro e w' ⟨rfl, rfl⟩) | (go_at_call 20; refine (at_calls _ _ _).mono ?_; rintro e w' ⟨rfl, rfl⟩))
    all_goals rw [HR.out]
    all_goals refine bodyPost_ret (v := .tuple #[.int .i64 0, .int .i64 0, .agg #[.int .i64 4, .int .i64 (-2)]]) (by simp [results, Try.results68, go_sem]) rfl ⟨rfl, ?_⟩
    all_goals exact ((Below.refl _ _).alloc (Nat.le_refl _) _).alloc (by simp) _
  · obtain ⟨k, rfl⟩ := Int.eq_ofNat_of_zero_le (show 0 ≤ at_ by omega)
    have hk : k ≤ n := by omega
    have HR := Lib.hid (show readNum bs k = (match dec (bs.drop k) with | .inl e => (0, 0, (e : Int), (k : Int)) | .inr p => (zag p.1, (k : Int) + (p.2 : Int), 0, 0)) by
      unfold readNum; rw [if_neg (by omega)]; rfl)
    have HNL := Lib.hid hnl
    have hd : (decide ((0 : Int) ≤ (k : Int)) && decide ((k : Int) ≤ (n : Int))) = true := by simp; omega
    have d2 : decide (k ≤ n) = true := decide_eq_true hk
    clear hnl h0
    go_enter Try.func68, Try.ntmps68
    go_wp2_with (go_at_call 23; refine (in_calls _ _ _ _).mono ?_; rintro e w' ⟨rfl, rfl⟩)
    go_loop [7] (fun v => GetRel (bs.drop k) v) (fun v => 10 - (intOf v).toNat)
    case atStart => exact ⟨0, rfl, by omega, Nat.zero_le _, .inl rfl⟩
    case round =>
      obtain ⟨i, rfl, hi10, hil, hg⟩ := hrel
      have hil2 : k + i ≤ n := by rw [List.length_drop, HNL.out] at hil; omega
      have HG := Lib.hid hg
      clear hg hil
      by_cases hn0 : 0 < n
      · obtain ⟨b, o, rfl, hbB, hcells⟩ := h.2 hn0
        have HC := Lib.hid (get_cells hcells)
        clear hcells h
        -- the byte ahead
        obtain ⟨p, hp⟩ := get_prev bs k i (by rw [HNL.out]; exact hil2)
        have HP := Lib.hid hp
        have hp256 : (p.toNat : Int) < 256 := by have := UInt8.toNat_lt p; omega
        have hcp : 0 < i → w.cell? ⟨b, o + (k + i - 1), none⟩ = some (.int .u8 (p.toNat : Int)) := fun h => HC.out _ _ (HP.out h)
        clear hp
        go_upto_region 4 with (fail)
        go_cut [39] (fun t wx => t = .bool (goB i k n p.toNat) ∧ wx = (w.alloc (Obj.cells #[Value.int IntKind.i64 0, Value.int IntKind.i64 0] 29)))
        case first =>
          by_cases g1 : i < 10
          · have g1' : (i : Int) < 10 := by omega
            by_cases g2 : k + i < n
            · have g2' : (k : Int) + (i : Int) < (n : Int) := by omega
              by_cases g3 : i = 0
              · have g3' : ((i : Int) == 0) = true := by rw [g3]; rfl
                have HS := Lib.hid (goB_yes (p := p.toNat) ⟨g1, g2, .inl g3⟩)
                clear g3 hcp
                go_wp2_with fail
                go_meet
                exact ⟨by rw [HS.out], rfl⟩
              · have g3' : ((i : Int) == 0) = false := by simp; omega
                have hcell := hcp (by omega)
                clear hcp
                by_cases g4 : 128 ≤ p.toNat
                · have g4' : (128 : Int) ≤ (p.toNat : Int) := by omega
                  have HS := Lib.hid (goB_yes (p := p.toNat) ⟨g1, g2, .inr g4⟩)
                  have hi0 : 0 < i := by omega
                  clear g3
                  go_wp2_with fail
                  go_meet
                  exact ⟨by rw [HS.out], rfl⟩
                · have g4' : ¬ (128 : Int) ≤ (p.toNat : Int) := by omega
                  have HS := Lib.hid (goB_no (p := p.toNat) (i := i) (k := k) (n := n) (by omega))
                  have hi0 : 0 < i := by omega
                  clear g3
                  go_wp2_with fail
                  go_meet
                  exact ⟨by rw [HS.out], rfl⟩
            · have g2' : ¬ (k : Int) + (i : Int) < (n : Int) := by omega
              have HS := Lib.hid (goB_no (p := p.toNat) (i := i) (k := k) (n := n) (by omega))
              clear hcp
              go_wp2_with fail
              go_meet
              exact ⟨by rw [HS.out], rfl⟩
          · have g1' : ¬ (i : Int) < 10 := by omega
            have HS := Lib.hid (goB_no (p := p.toNat) (i := i) (k := k) (n := n) (by omega))
            clear hcp
            go_wp2_with fail
            go_meet
            exact ⟨by rw [HS.out], rfl⟩
        case rest =>
          obtain ⟨rfl, rfl⟩ := hcut
          by_cases hgo : i < 10 ∧ k + i < n ∧ (i = 0 ∨ 128 ≤ p.toNat)
          · rw [goB_yes hgo]
            obtain ⟨hi9, hlt, hpp⟩ := hgo
            have HK := Lib.hid (get_cont HG.out (by rw [HNL.out]; exact hlt) HP.out hpp)
            have hci : k + i < bs.length := by rw [HNL.out]; exact hlt
            have hcell := HC.out (k + i) _ (List.getElem?_eq_getElem hci)
            have HB := Lib.hid (read_cons (bs := bs) (k := k) (i := i) hci)
            have HE := Lib.hid (get_elem (bs := bs) (k := k) (i := i) hci)
            have hc256 : (bs[k + i].toNat : Int) < 256 := by have := UInt8.toNat_lt bs[k + i]; omega
            clear hcp hpp
            generalize bs[k + i] = cb at *
            go_upto_region 5 with (fail)
            go_cut [63] (fun t wx => t = .bool (synB i cb.toNat) ∧ wx = (w.alloc (Obj.cells #[Value.int IntKind.i64 0, Value.int IntKind.i64 0] 29)))
            case first =>
              by_cases g1 : i = 9
              · have g1' : ((i : Int) == 9) = true := by rw [g1]; rfl
                by_cases g2 : 1 < cb.toNat
                · have g2' : (1 : Int) < (cb.toNat : Int) := by omega
                  have HS := Lib.hid (synB_yes (i := i) (c := cb.toNat) (.inl ⟨g1, g2⟩))
                  clear g1
                  go_wp2_with fail
                  go_meet
                  exact ⟨by rw [HS.out], rfl⟩
                · have g2' : ¬ (1 : Int) < (cb.toNat : Int) := by omega
                  have g3 : (0 : Int) < (i : Int) := by omega
                  by_cases g4 : cb.toNat = 0
                  · have g4' : ((cb.toNat : Int) == 0) = true := by rw [g4]; rfl
                    have HS := Lib.hid (synB_yes (i := i) (c := cb.toNat) (.inr ⟨by omega, g4⟩))
                    clear g1 g4
                    go_wp2_with fail
                    go_meet
                    exact ⟨by rw [HS.out], rfl⟩
                  · have g4' : ((cb.toNat : Int) == 0) = false := by simp; omega
                    have HS := Lib.hid (synB_no (i := i) (c := cb.toNat) (by omega))
                    clear g1 g4
                    go_wp2_with fail
                    go_meet
                    exact ⟨by rw [HS.out], rfl⟩
              · have g1' : ((i : Int) == 9) = false := by simp; omega
                by_cases g3 : 0 < i
                · have g3' : (0 : Int) < (i : Int) := by omega
                  by_cases g4 : cb.toNat = 0
                  · have g4' : ((cb.toNat : Int) == 0) = true := by rw [g4]; rfl
                    have HS := Lib.hid (synB_yes (i := i) (c := cb.toNat) (.inr ⟨by omega, g4⟩))
                    clear g1 g4
                    go_wp2_with fail
                    go_meet
                    exact ⟨by rw [HS.out], rfl⟩
                  · have g4' : ((cb.toNat : Int) == 0) = false := by simp; omega
                    have HS := Lib.hid (synB_no (i := i) (c := cb.toNat) (by omega))
                    clear g1 g4
                    go_wp2_with fail
                    go_meet
                    exact ⟨by rw [HS.out], rfl⟩
                · have g3' : ¬ (0 : Int) < (i : Int) := by omega
                  have HS := Lib.hid (synB_no (i := i) (c := cb.toNat) (by omega))
                  clear g1
                  go_wp2_with fail
                  go_meet
                  exact ⟨by rw [HS.out], rfl⟩
            case rest =>
              obtain ⟨rfl, rfl⟩ := hcut
              by_cases hs : (i = 9 ∧ 1 < cb.toNat) ∨ (0 < i ∧ cb.toNat = 0)
              · have HS := Lib.hid hs
                rw [synB_yes hs]
                clear hs
                go_wp2_with (go_at_call 20; refine (at_calls _ _ _).mono ?_; rintro e w' ⟨rfl, rfl⟩)
                refine bodyPost_ret (v := .tuple #[.int .i64 0, .int .i64 0, .agg #[.int .i64 1, .int .i64 k]]) (by simp [results, Try.results68, go_sem]) rfl ?_
                exact read_inl HR.out (get_syn HK.out HB.out HS.out) (((Below.refl _ _).alloc (Nat.le_refl _) _).alloc (by simp) _)
              · have HS := Lib.hid hs
                rw [synB_no hs]
                clear hs
                go_wp2_with fail
                go_round
                case rel => exact ⟨i + 1, by go_num, by omega, by rw [List.length_drop, HNL.out]; omega, get_more HK.out HE.out HS.out⟩
                case measure => simp [intOf]; omega
          · rw [goB_no hgo]
            have HGO := Lib.hid hgo
            clear hgo
            go_upto_region 8 with (fail)
            go_cut [79] (fun t wx => t = .bool (shB i p.toNat) ∧ wx = (w.alloc (Obj.cells #[Value.int IntKind.i64 0, Value.int IntKind.i64 0] 29)))
            case first =>
              by_cases g3 : i = 0
              · have g3' : ((i : Int) == 0) = true := by rw [g3]; rfl
                have HS := Lib.hid (shB_yes (p := p.toNat) (.inl g3))
                clear g3 hcp
                go_wp2_with fail
                go_meet
                exact ⟨by rw [HS.out], rfl⟩
              · have g3' : ((i : Int) == 0) = false := by simp; omega
                have hcell := hcp (by omega)
                clear hcp
                by_cases g4 : 128 ≤ p.toNat
                · have g4' : (128 : Int) ≤ (p.toNat : Int) := by omega
                  have HS := Lib.hid (shB_yes (i := i) (p := p.toNat) (.inr g4))
                  have hi0 : 0 < i := by omega
                  clear g3
                  go_wp2_with fail
                  go_meet
                  exact ⟨by rw [HS.out], rfl⟩
                · have g4' : ¬ (128 : Int) ≤ (p.toNat : Int) := by omega
                  have HS := Lib.hid (shB_no (p := p.toNat) (i := i) (by omega))
                  have hi0 : 0 < i := by omega
                  clear g3
                  go_wp2_with fail
                  go_meet
                  exact ⟨by rw [HS.out], rfl⟩
            case rest =>
              obtain ⟨rfl, rfl⟩ := hcut
              by_cases hsh : i = 0 ∨ 128 ≤ p.toNat
              · have HT := Lib.hid (get_trunc HG.out HP.out hsh (by rw [HNL.out]; exact hil2) (by rw [HNL.out]; exact HGO.out) hi10)
                rw [shB_yes hsh]
                clear hsh hcp
                go_wp2_with (go_at_call 20; refine (at_calls _ _ _).mono ?_; rintro e w' ⟨rfl, rfl⟩)
                refine bodyPost_ret (v := .tuple #[.int .i64 0, .int .i64 0, .agg #[.int .i64 15, .int .i64 k]]) (by simp [results, Try.results68, go_sem]) rfl ?_
                exact read_inl HR.out HT.out (((Below.refl _ _).alloc (Nat.le_refl _) _).alloc (by simp) _)
              · rw [shB_no hsh]
                obtain ⟨y, hy⟩ := get_end HG.out HP.out hsh (by rw [HNL.out]; exact hil2)
                have HY := Lib.hid hy
                have hi0 : 0 < i := by omega
                clear hsh hcp hy
                have hLl : ((bs.drop k).take i).length = i := by rw [List.length_take, List.length_drop, HNL.out]; omega
                have HL := Lib.hid hLl
                have HV := Lib.hid (dec_val HY.out)
                have HY64 := Lib.hid (dec_inv HY.out).2.2.2
                have HLE := Lib.hid (fun j => val_drop ((bs.drop k).take i) j)
                have HX := Lib.hid (get_bytes (bs := bs) (k := k) (i := i))
                generalize (bs.drop k).take i = L at *
                clear hLl
                go_wp2_with fail
                go_loop [8, 9] (fun v t => GetRel2 L v t) (fun _ t => (intOf t + 1).toNat)
                case atStart => exact ⟨i, by rw [HL.out]; exact Nat.le_refl _, rfl, by rw [List.drop_of_length_le (by rw [HL.out]; exact Nat.le_refl _)]; rfl⟩
                case round =>
                  obtain ⟨j, hj, rfl, rfl⟩ := hrel
                  rw [HL.out] at hj
                  by_cases hj0 : j = 0
                  · subst hj0
                    have hyv : val (L.drop 0) = y := HV.out.symm
                    rw [hyv]
                    have hy64 : (y : Int) < 18446744073709551616 := by have := HY64.out; omega
                    have HZ : Hid (zag y = if y % 2 = 0 then ((y / 2 : Nat) : Int) else -((y / 2 : Nat) : Int) - 1) := rfl
                    by_cases hm : y % 2 = 0
                    · have hm' : ((y : Int) % 2 == 0) = true := by simp; omega
                      rw [show (((0 : Nat) : Int) - 1) = -1 from rfl]
                      go_wp2_with fail
                      refine bodyPost_ret (v := .tuple #[.int .i64 ((y : Int) / 2), .int .i64 ((k : Int) + (i : Int)), .agg #[.int .i64 0, .int .i64 0]]) (by simp [results, Try.results68, go_sem]) rfl ?_
                      rw [show ((y : Int) / 2 : Int) = zag y by rw [HZ.out]; rw [if_pos hm]; omega]
                      exact read_inr HR.out HY.out rfl ((Below.refl _ _).alloc (Nat.le_refl _) _)
                    · have hm' : ((y : Int) % 2 == 0) = false := by simp; omega
                      rw [show (((0 : Nat) : Int) - 1) = -1 from rfl]
                      go_wp2_with fail
                      refine bodyPost_ret (v := .tuple #[.int .i64 (-((y : Int) / 2) - 1), .int .i64 ((k : Int) + (i : Int)), .agg #[.int .i64 0, .int .i64 0]]) (by simp [results, Try.results68, go_sem]) rfl ?_
                      rw [show (-((y : Int) / 2) - 1 : Int) = zag y by rw [HZ.out]; rw [if_neg hm]; omega]
                      exact read_inr HR.out HY.out rfl ((Below.refl _ _).alloc (Nat.le_refl _) _)
                  · obtain ⟨m, rfl⟩ : ∃ m, j = m + 1 := ⟨j - 1, by omega⟩
                    rw [show (((m + 1 : Nat) : Int) - 1) = (m : Int) by omega]
                    obtain ⟨cb, hcb, hval⟩ := HX.out m (by omega) (by rw [HNL.out]; exact hil2)
                    have hcell := HC.out (k + m) _ hcb
                    have hc256 : (cb.toNat : Int) < 256 := by have := UInt8.toNat_lt cb; omega
                    have hle := HLE.out m
                    rw [hval, ← HV.out] at hle
                    have hy64 := HY64.out
                    have HVAL := Lib.hid hval
                    have hb1 : (val (L.drop (m + 1)) : Int) * 128 + (cb.toNat : Int) % 128 < 18446744073709551616 := by omega
                    clear hval hcb hle hy64
                    generalize val (L.drop (m + 1)) = x at *
                    go_wp2_with fail
                    go_round
                    case rel => exact ⟨m, by rw [HL.out]; omega, rfl, get_val (by rw [HVAL.out]; omega)⟩
                    case measure => simp [intOf]
      · obtain rfl : n = 0 := by omega
        obtain rfl : k = 0 := by omega
        obtain rfl : i = 0 := by omega
        have HT := Lib.hid (show dec (bs.drop 0) = .inl 15 by rw [List.eq_nil_of_length_eq_zero HNL.out]; rfl)
        clear d2 hd
        go_wp2_with (go_at_call 20; refine (at_calls _ _ _).mono ?_; rintro e w' ⟨rfl, rfl⟩)
        refine bodyPost_ret (v := .tuple #[.int .i64 0, .int .i64 0, .agg #[.int .i64 15, .int .i64 0]]) (by simp [results, Try.results68, go_sem]) rfl ?_
        exact read_inl HR.out HT.out (((Below.refl _ _).alloc (Nat.le_refl _) _).alloc (by simp) _)
end Go.Proofs.Ytolognhjdmkohaa
namespace Go.Proofs.Ytolognhjdmkohaa
open Go.RowKit
set_option linter.unusedVariables false
set_option linter.unusedSimpArgs false

theorem Made.intro {w w' : World} {A : Option Addr} {n c : Nat} {bs : List UInt8} {xs : List Value} (h : w'.ownsRow w.heap.size 5 1 (.slice A n c) n xs) (hx : xs = bv bs) (hb : Below w.heap.size w w') : Made w bs (.returned (.slice A n c)) w' := by
  subst hx
  have hn : n = bs.length := by have := h.1; rw [bv_len] at this; omega
  subst hn
  exact ⟨A, c, rfl, h, hb⟩

theorem Made.as {w w' : World} {A : Option Addr} {n m c : Nat} {bs : List UInt8} {xs : List Value} (h : w'.ownsRow w.heap.size 5 1 (.slice A m c) m xs) (hn : n = m) (hx : xs = bv bs) (hb : Below w.heap.size w w') : Made w bs (.returned (.slice A n c)) w' := by
  subst hn; exact Made.intro h hx hb

theorem copy_calls {w : World} {B : Nat} {A : Option Addr} {n c : Nat} {bs : List UInt8} (h : Rd w B 1 A n (bv bs)) (hn : n ≤ 140737488355328) :
    Calls Try.prog 24 #[.slice A n c] w (Made w bs) := by
  go_enter Try.func24, Try.ntmps24
  go_wp2_with (at_builtin
               refine wpList_app _ slB rfl (.tmp 4) (.tmp 5) rfl w.heap.size none 0 0 [] rfl (World.ownsRow_nil _ _ _ _) B A n c (bv bs) rfl h (bv_one _) (by omega) (Nat.le_refl _) ?_
               intro A1 c1 w1 hown1 hb1)
  simp only [Nat.zero_add, List.nil_append] at hown1
  go_ret
  exact Made.intro hown1 rfl hb1

theorem join_calls {w : World} {B B' : Nat} {A A' : Option Addr} {n c n' c' : Nat} {a b : List UInt8} (ha : Rd w B 1 A n (bv a)) (hb : Rd w B' 1 A' n' (bv b)) (hB : B' ≤ w.heap.size) (hn : n + n' ≤ 140737488355328) :
    Calls Try.prog 65 #[.slice A n c, .slice A' n' c'] w (Made w (a ++ b)) := by
  have hl : a.length = n := by have := ha.len; rw [bv_len] at this; exact this
  go_enter Try.func65, Try.ntmps65
  go_wp2_with fail
  refine (copy_calls ha (by omega)).mono ?_
  rintro e w1 ⟨A1, c1, rfl, hown1, hb1⟩
  have HB := Lib.hid hb
  have HL := Lib.hid hl
  have hsz := hb1.size
  have hn' : a.length + n' ≤ 140737488355328 := by omega
  clear hb hl
  go_wp2_with (at_builtin
               refine wpList_appB _ slB rfl (.tmp 6) (.tmp 7) rfl w.heap.size A1 a.length c1 (bv a) rfl hown1 B' A' n' c' (bv b) rfl (HB.out.below (hb1.mono hB)) (bv_one _) (by omega) hsz hb1 (Nat.le_refl _) ?_
               intro A2 c2 w2 hown2 _ hb2)
  go_ret
  exact Made.intro hown2 (by rw [bv_app]) hb2

/-- a byte string with its length ahead of it -/
def chunk (bs : List UInt8) : List UInt8 := num (bs.length : Int) ++ bs
theorem chunk_len (bs : List UInt8) (h : bs.length ≤ 140737488355318) : (chunk bs).length ≤ bs.length + 10 := by
  unfold chunk; rw [List.length_append]; have := num_len (bs.length : Int) (by omega) (by omega); omega
theorem chunk_calls {w : World} {A : Option Addr} {n c : Nat} {bs : List UInt8} (h : Rd w w.heap.size 1 A n (bv bs)) (hn : n ≤ 140737488355318) :
    Calls Try.prog 64 #[.slice A n c] w (Made w (chunk bs)) := by
  have hl : bs.length = n := by have := h.len; rw [bv_len] at this; exact this
  unfold chunk
  rw [hl]
  have hnl := num_len (n : Int) (by omega) (by omega)
  go_enter Try.func64, Try.ntmps64
  go_wp2_with fail
  refine (number_calls (n : Int) _ (by omega) (by omega)).mono ?_
  rintro e w1 ⟨A1, c1, rfl, hown1, hb1⟩
  have HB := Lib.hid h
  have HL := Lib.hid hl
  have hsz := hb1.size
  clear h hl
  generalize num (n : Int) = m at *
  go_wp2_with (at_builtin
               refine wpList_appB _ slB rfl (.tmp 5) (.tmp 6) rfl w.heap.size A1 m.length c1 (bv m) rfl hown1 w.heap.size A n c (bv bs) rfl (HB.out.below hb1) (bv_one _) (by omega) hsz hb1 (Nat.le_refl _) ?_
               intro A2 c2 w2 hown2 _ hb2)
  go_ret
  exact Made.intro hown2 (by rw [bv_app]) hb2
theorem putChunk_calls {w : World} {A : Option Addr} {n c : Nat} {bs : List UInt8} (h : Rd w w.heap.size 1 A n (bv bs)) (hn : n ≤ 140737488355318) :
    Calls Try.prog 48 #[.slice A n c] w (Made w (chunk bs)) := by
  have hl : bs.length = n := by have := h.len; rw [bv_len] at this; exact this
  unfold chunk
  rw [hl]
  have hnl := num_len (n : Int) (by omega) (by omega)
  go_enter Try.func48, Try.ntmps48
  go_wp2_with fail
  refine (put_calls (n : Int) _ (by omega) (by omega)).mono ?_
  rintro e w1 ⟨A1, c1, rfl, hown1, hb1⟩
  have HB := Lib.hid h
  have HL := Lib.hid hl
  have hsz := hb1.size
  clear h hl
  generalize num (n : Int) = m at *
  go_wp2_with fail
  refine (join_calls (Rd.of_own hown1) (HB.out.below hb1) hsz (by omega)).mono ?_
  rintro e w2 ⟨A2, c2, rfl, hown2, hb2⟩
  go_wp2
  go_ret
  exact Made.as (own_mono hown2 hsz) (by simp) rfl (hb1.trans (hb2.mono hsz))

/-- what the reader of a byte string at an offset answers -/
def readChunk (bs : List UInt8) (a : Int) : List UInt8 × Int × Int × Int :=
  let r := readNum bs a
  if r.2.2.1 ≠ 0 then ([], 0, r.2.2.1, r.2.2.2)
  else if r.1 < 0 then ([], 0, 4, a)
  else if (bs.length : Int) - r.2.1 < r.1 then ([], 0, 15, a)
  else ((bs.drop r.2.1.toNat).take r.1.toNat, r.2.1 + r.1, 0, 0)
def ChunkEnd (w : World) (r : List UInt8 × Int × Int × Int) (e : Ending) (w' : World) : Prop :=
  ∃ A c, e = .returned (.tuple #[.slice A r.1.length c, .int .i64 r.2.1, (.agg #[.int .i64 r.2.2.1, .int .i64 r.2.2.2])]) ∧ w'.ownsRow w.heap.size 5 1 (.slice A r.1.length c) r.1.length (bv r.1) ∧ Below w.heap.size w w'

/-- what is known of a result's fault behind a call -/
theorem after_fault {w w1 : World} (hb1 : Below (w.alloc (Obj.cells #[Value.int IntKind.i64 0, Value.int IntKind.i64 0] 29)).heap.size (w.alloc (Obj.cells #[Value.int IntKind.i64 0, Value.int IntKind.i64 0] 29)) w1) :
    Below w.heap.size w w1 ∧ w.heap.size < w1.heap.size ∧ w1.cell? ⟨w.heap.size, 0, none⟩ = some (.int .i64 0) ∧ w1.cell? ⟨w.heap.size, 1, none⟩ = some (.int .i64 0) ∧ w1.frozen? ⟨w.heap.size, 0, none⟩ = false ∧ w1.frozen? ⟨w.heap.size, 1, none⟩ = false := by
  refine ⟨((Below.refl _ _).alloc (Nat.le_refl _) _).trans (hb1.mono (by simp)), by have := hb1.size; simp at this; omega, ?_, ?_, ?_, ?_⟩
  · rw [hb1.cell (by simp)]; simp
  · rw [hb1.cell (by simp)]; simp
  · rw [hb1.frozen (by simp)]; simp
  · rw [hb1.frozen (by simp)]; simp
/-- the same behind what makes memory of its own -/
theorem after_more {w w1 w2 : World} {o : Obj} (hz : w.heap.size < w1.heap.size) (hc0 : w1.cell? ⟨w.heap.size, 0, none⟩ = some (.int .i64 0)) (hc1 : w1.cell? ⟨w.heap.size, 1, none⟩ = some (.int .i64 0))
    (hf0 : w1.frozen? ⟨w.heap.size, 0, none⟩ = false) (hf1 : w1.frozen? ⟨w.heap.size, 1, none⟩ = false) (hb : Below (w1.heap.size + 1) (w1.alloc o) w2) :
    w.heap.size < w2.heap.size ∧ w2.cell? ⟨w.heap.size, 0, none⟩ = some (.int .i64 0) ∧ w2.cell? ⟨w.heap.size, 1, none⟩ = some (.int .i64 0) ∧ w2.frozen? ⟨w.heap.size, 0, none⟩ = false ∧ w2.frozen? ⟨w.heap.size, 1, none⟩ = false := by
  have hbb : Below w1.heap.size w1 w2 := ((Below.refl _ _).alloc (Nat.le_refl _) o).trans (hb.mono (by omega))
  have := hbb.size
  refine ⟨by omega, ?_, ?_, ?_, ?_⟩
  · rw [hbb.cell (by exact hz)]; exact hc0
  · rw [hbb.cell (by exact hz)]; exact hc1
  · rw [hbb.frozen (by exact hz)]; exact hf0
  · rw [hbb.frozen (by exact hz)]; exact hf1
theorem bv_cut (bs : List UInt8) (k m : Nat) : ((bv bs).drop (k * 1)).take (m * 1) = bv ((bs.drop k).take m) := by simp [bv]
theorem bv_cut_one (bs : List UInt8) (k m : Nat) : ∀ u ∈ ((bv bs).drop (k * 1)).take (m * 1), u.oneCell' = true := by rw [bv_cut]; exact bv_one _
theorem chunk_some {w w1 w2 : World} {o : Obj} {A : Option Addr} {c x k : Nat} {bs : List UInt8} {u v : Value} (h : w2.ownsRow (w1.heap.size + 1) 5 1 (.slice A x c) x (((bv bs).drop (k * 1)).take (x * 1))) (hl : k + x ≤ bs.length)
    (hb0 : Below w.heap.size w w1) (hb2 : Below (w1.heap.size + 1) (w1.alloc o) w2) : ChunkEnd w ((bs.drop k).take x, (k : Int) + (x : Int), 0, 0) (.returned (.tuple #[.slice A x c, .int .i64 ((k : Int) + (x : Int)), .agg #[.int .i64 0, .int .i64 0]]))
      ((w2.setCell ⟨w.heap.size, 0, none⟩ u).setCell ⟨w.heap.size, 1, none⟩ v) := by
  have e : ((bs.drop k).take x).length = x := by rw [List.length_take, List.length_drop]; omega
  have hs := hb0.size
  rw [bv_cut] at h
  have h' := ownsRow_setCell_below (ownsRow_setCell_below h (a := ⟨w.heap.size, 0, none⟩) (by simp; omega) u) (a := ⟨w.heap.size, 1, none⟩) (by simp; omega) v
  have hbb : Below w.heap.size w w2 := hb0.trans (((Below.refl _ _).alloc hs o).trans (hb2.mono (by omega)))
  refine ⟨A, c, by rw [e], ?_, (hbb.setCell (p := ⟨w.heap.size, 0, none⟩) (Nat.le_refl _) _).setCell (p := ⟨w.heap.size, 1, none⟩) (Nat.le_refl _) _⟩
  rw [e]
  exact own_mono h' (by omega)
theorem chunk_none {w w' : World} (a b : Int) (hb : Below w.heap.size w w') : ChunkEnd w ([], 0, a, b) (.returned (.tuple #[.slice none 0 0, .int .i64 0, .agg #[.int .i64 a, .int .i64 b]])) w' :=
  ⟨none, 0, rfl, World.ownsRow_nil _ _ _ _, hb⟩

set_option maxRecDepth 100000 in
set_option maxHeartbeats 400000 in
theorem readChunk_fault {w : World} {A : Option Addr} {n c : Nat} {bs : List UInt8} (h : Rd w w.heap.size 1 A n (bv bs)) (at_ : Int) (hn : n ≤ 140737488355328) {cd ix : Int} (hr : readNum bs at_ = (0, 0, cd, ix)) (hcd : cd ≠ 0) :
    Calls Try.prog 82 #[.slice A n c, .int .i64 at_] w (ChunkEnd w ([], 0, cd, ix)) := by
  have HQ := Lib.hid hr
  clear hr
  go_enter Try.func82, Try.ntmps82
  go_wp2_with fail
  refine (readNumber_calls ((h.alloc (Nat.le_refl _) (Obj.cells #[Value.int IntKind.i64 0, Value.int IntKind.i64 0] 29)).more (by simp)) at_ (by simp only [maxLen]; omega)).mono ?_
  rintro e w1 ⟨rfl, hb1⟩
  rw [HQ.out]
  obtain ⟨hb0, hz1, hc0, hc1, hf0, hf1⟩ := after_fault hb1
  have HB1 := Lib.hid hb1
  clear hb1
  go_wp2
  go_region
  all_goals go_wp2
  refine bodyPost_ret (v := .tuple #[.slice none 0 0, .int .i64 (0), .agg #[.int .i64 cd, .int .i64 ix]]) (by simp [results, Try.results82, go_sem, hc0, hc1, hz1]) rfl ?_
  exact chunk_none _ _ (((hb0.setCell (p := ⟨w.heap.size, 0, none⟩) (Nat.le_refl _) _).setCell (p := ⟨w.heap.size, 1, none⟩) (Nat.le_refl _) _).alloc (by simp [World.setCell]; omega) _).drew

set_option maxRecDepth 100000 in
set_option maxHeartbeats 400000 in
theorem readChunk_neg {w : World} {A : Option Addr} {n c : Nat} {bs : List UInt8} (h : Rd w w.heap.size 1 A n (bv bs)) (at_ : Int) (hn : n ≤ 140737488355328) {x nx : Int} (hr : readNum bs at_ = (x, nx, 0, 0)) (hx : x < 0) :
    Calls Try.prog 82 #[.slice A n c, .int .i64 at_] w (ChunkEnd w ([], 0, 4, at_)) := by
  have HQ := Lib.hid hr
  clear hr
  go_enter Try.func82, Try.ntmps82
  go_wp2_with fail
  refine (readNumber_calls ((h.alloc (Nat.le_refl _) (Obj.cells #[Value.int IntKind.i64 0, Value.int IntKind.i64 0] 29)).more (by simp)) at_ (by simp only [maxLen]; omega)).mono ?_
  rintro e w1 ⟨rfl, hb1⟩
  rw [HQ.out]
  obtain ⟨hb0, hz1, hc0, hc1, hf0, hf1⟩ := after_fault hb1
  have HB1 := Lib.hid hb1
  clear hb1
  go_wp2_with (go_at_call 91; refine (fault_calls _ _ _).mono ?_; rintro e w' ⟨rfl, rfl⟩)
  refine bodyPost_ret (v := .tuple #[.slice none 0 0, .int .i64 (0), .agg #[.int .i64 4, .int .i64 at_]]) (by simp [results, Try.results82, go_sem, hc0, hc1, hz1]) rfl ?_
  exact chunk_none _ _ ((((hb0.setCell (p := ⟨w.heap.size, 0, none⟩) (Nat.le_refl _) _).setCell (p := ⟨w.heap.size, 1, none⟩) (Nat.le_refl _) _).alloc (by simp [World.setCell]; omega) _).alloc (by simp [World.setCell]; omega) _)

set_option maxRecDepth 100000 in
set_option maxHeartbeats 400000 in
theorem readChunk_trunc {w : World} {A : Option Addr} {n c : Nat} {bs : List UInt8} (h : Rd w w.heap.size 1 A n (bv bs)) (at_ : Int) (hn : n ≤ 140737488355328) {x kj : Nat} (hr : readNum bs at_ = ((x : Int), (kj : Int), 0, 0)) (hk : kj ≤ n) (hx : n < kj + x) :
    Calls Try.prog 82 #[.slice A n c, .int .i64 at_] w (ChunkEnd w ([], 0, 15, at_)) := by
  have HQ := Lib.hid hr
  have hx' : (n : Int) - (kj : Int) < (x : Int) := by omega
  clear hr
  go_enter Try.func82, Try.ntmps82
  go_wp2_with fail
  refine (readNumber_calls ((h.alloc (Nat.le_refl _) (Obj.cells #[Value.int IntKind.i64 0, Value.int IntKind.i64 0] 29)).more (by simp)) at_ (by simp only [maxLen]; omega)).mono ?_
  rintro e w1 ⟨rfl, hb1⟩
  rw [HQ.out]
  obtain ⟨hb0, hz1, hc0, hc1, hf0, hf1⟩ := after_fault hb1
  have HB1 := Lib.hid hb1
  clear hb1
  go_wp2_with (go_at_call 91; refine (fault_calls _ _ _).mono ?_; rintro e w' ⟨rfl, rfl⟩)
  refine bodyPost_ret (v := .tuple #[.slice none 0 0, .int .i64 (0), .agg #[.int .i64 15, .int .i64 at_]]) (by simp [results, Try.results82, go_sem, hc0, hc1, hz1]) rfl ?_
  exact chunk_none _ _ ((((hb0.setCell (p := ⟨w.heap.size, 0, none⟩) (Nat.le_refl _) _).setCell (p := ⟨w.heap.size, 1, none⟩) (Nat.le_refl _) _).alloc (by simp [World.setCell]; omega) _).alloc (by simp [World.setCell]; omega) _)

set_option maxRecDepth 100000 in
set_option maxHeartbeats 400000 in
theorem readChunk_ok {w : World} {A : Option Addr} {n c : Nat} {bs : List UInt8} (h : Rd w w.heap.size 1 A n (bv bs)) (at_ : Int) (hn : n ≤ 140737488355328) {x kj : Nat} (hr : readNum bs at_ = ((x : Int), (kj : Int), 0, 0)) (hc : n ≤ c) (hx : kj + x ≤ n) :
    Calls Try.prog 82 #[.slice A n c, .int .i64 at_] w (ChunkEnd w ((bs.drop kj).take x, (kj : Int) + (x : Int), 0, 0)) := by
  have HQ := Lib.hid hr
  have hx' : ¬ (n : Int) - (kj : Int) < (x : Int) := by omega
  clear hr
  go_enter Try.func82, Try.ntmps82
  go_wp2_with fail
  refine (readNumber_calls ((h.alloc (Nat.le_refl _) (Obj.cells #[Value.int IntKind.i64 0, Value.int IntKind.i64 0] 29)).more (by simp)) at_ (by simp only [maxLen]; omega)).mono ?_
  rintro e w1 ⟨rfl, hb1⟩
  rw [HQ.out]
  obtain ⟨hb0, hz1, hc0, hc1, hf0, hf1⟩ := after_fault hb1
  have HB1 := Lib.hid hb1
  clear hb1
  have hsl : ∀ W : World, (Instr.sliceAt 22 (.slice A n c) (some (.int .i64 (kj : Int))) (some (.int .i64 ((kj : Int) + (x : Int)))) none).run Try.prog W = .ok (.slice (cutA A c kj 1) x (c - kj)) W := fun W => by
    have := run_cut slB A n c kj (kj + x) (by omega) (by omega) W
    rw [show kj + x - kj = x by omega] at this
    exact this
  have HRD := Lib.hid (((h.cut (k := kj) (m := x) hx hc).below hb0).alloc (Nat.le_of_lt hz1) (Obj.cells #[Value.int IntKind.i64 0, Value.int IntKind.i64 0] 29))
  have hd1 : decide ((n : Int) - (kj : Int) < (x : Int)) = false := decide_eq_false (by omega)
  have hxn : decide ((x : Int) < 0) = false := decide_eq_false (by omega)
  go_wp2_with (at_builtin
               refine wpList_app _ slB rfl (.const (.slice none 0 0)) (.tmp 41) rfl (w1.heap.size + 1) none 0 0 [] rfl (World.ownsRow_nil _ _ _ _) w.heap.size (cutA A c kj 1) x (c - kj) _ rfl HRD.out (bv_cut_one _ _ _) (by omega) (by simp) ?_
               intro A2 c2 w2 hown2 hb2
               obtain ⟨hy1, hd0, hd1, hg0, hg1⟩ := after_more hz1 hc0 hc1 hf0 hf1 hb2
               clear hc0 hc1 hf0 hf1 hz1)
  simp only [Nat.zero_add, List.nil_append] at hown2
  refine bodyPost_ret (v := .tuple #[.slice A2 x c2, .int .i64 ((kj : Int) + (x : Int)), .agg #[.int .i64 0, .int .i64 0]]) (by simp [results, Try.results82, go_sem, hd0, hd1, hy1]) rfl ?_
  exact chunk_some hown2 (by have := h.len; rw [bv_len] at this; omega) hb0 hb2

theorem readChunk_calls {w : World} {A : Option Addr} {n c : Nat} {bs : List UInt8} (h : Rd w w.heap.size 1 A n (bv bs)) (at_ : Int) (hn : n ≤ 140737488355328) (hc : n ≤ c) :
    Calls Try.prog 82 #[.slice A n c, .int .i64 at_] w (ChunkEnd w (readChunk bs at_)) := by
  have hl : bs.length = n := by have := h.len; rw [bv_len] at this; exact this
  rcases readNum_or bs at_ (by omega) with ⟨cd, ix, hcd, hr⟩ | ⟨k, y, j, rfl, hdec, hr, hkj, hj, hz⟩
  · rw [show readChunk bs at_ = ([], 0, cd, ix) by unfold readChunk; rw [hr]; simp [hcd]]
    exact readChunk_fault h at_ hn hr hcd
  · by_cases hneg : zag y < 0
    · rw [show readChunk bs k = ([], 0, 4, (k : Int)) by unfold readChunk; rw [hr]; simp [hneg]]
      exact readChunk_neg h k hn hr hneg
    · obtain ⟨x, hx⟩ := Int.eq_ofNat_of_zero_le (show 0 ≤ zag y by omega)
      rw [hx] at hr hneg
      by_cases htr : n < k + j + x
      · rw [show readChunk bs k = ([], 0, 15, (k : Int)) by unfold readChunk; rw [hr]; simp only []; rw [if_neg (by simp), if_neg hneg, if_pos (by omega)]]
        exact readChunk_trunc h k hn hr (by omega) htr
      · rw [show readChunk bs k = ((bs.drop (k + j)).take x, ((k + j : Nat) : Int) + (x : Int), 0, 0) by unfold readChunk; rw [hr]; simp only []; rw [if_neg (by simp), if_neg hneg, if_neg (by omega), Int.toNat_natCast, Int.toNat_natCast]]
        exact readChunk_ok h k hn hr hc (by omega)

set_option maxRecDepth 100000 in
set_option maxHeartbeats 400000 in
theorem getChunk_fault {w : World} {A : Option Addr} {n c : Nat} {bs : List UInt8} (h : Rd w w.heap.size 1 A n (bv bs)) (at_ : Int) (hn : n ≤ 140737488355328) {cd ix : Int} (hr : readNum bs at_ = (0, 0, cd, ix)) (hcd : cd ≠ 0) :
    Calls Try.prog 69 #[.slice A n c, .int .i64 at_] w (ChunkEnd w ([], 0, cd, ix)) := by
  have HQ := Lib.hid hr
  have hcd' : (cd != 0) = true := by simp [hcd]
  clear hr hcd
  go_enter Try.func69, Try.ntmps69
  go_wp2_with fail
  refine (get_calls ((h.alloc (Nat.le_refl _) (Obj.cells #[Value.int IntKind.i64 0, Value.int IntKind.i64 0] 29)).more (by simp)) at_ (by simp only [maxLen]; omega)).mono ?_
  rintro e w1 ⟨rfl, hb1⟩
  rw [HQ.out]
  obtain ⟨hb0, hz1, hc0, hc1, hf0, hf1⟩ := after_fault hb1
  have HB1 := Lib.hid hb1
  clear hb1
  go_wp2
  go_region
  all_goals go_wp2
  refine bodyPost_ret (v := .tuple #[.slice none 0 0, .int .i64 (0), .agg #[.int .i64 cd, .int .i64 ix]]) (by simp [results, Try.results69, go_sem, hc0, hc1, hz1]) rfl ?_
  exact chunk_none _ _ (((hb0.setCell (p := ⟨w.heap.size, 0, none⟩) (Nat.le_refl _) _).setCell (p := ⟨w.heap.size, 1, none⟩) (Nat.le_refl _) _).alloc (by simp [World.setCell]; omega) _).drew

set_option maxRecDepth 100000 in
set_option maxHeartbeats 400000 in
theorem getChunk_neg {w : World} {A : Option Addr} {n c : Nat} {bs : List UInt8} (h : Rd w w.heap.size 1 A n (bv bs)) (at_ : Int) (hn : n ≤ 140737488355328) {x nx : Int} (hr : readNum bs at_ = (x, nx, 0, 0)) (hx : x < 0) :
    Calls Try.prog 69 #[.slice A n c, .int .i64 at_] w (ChunkEnd w ([], 0, 4, at_)) := by
  have HQ := Lib.hid hr
  clear hr
  go_enter Try.func69, Try.ntmps69
  go_wp2_with fail
  refine (get_calls ((h.alloc (Nat.le_refl _) (Obj.cells #[Value.int IntKind.i64 0, Value.int IntKind.i64 0] 29)).more (by simp)) at_ (by simp only [maxLen]; omega)).mono ?_
  rintro e w1 ⟨rfl, hb1⟩
  rw [HQ.out]
  obtain ⟨hb0, hz1, hc0, hc1, hf0, hf1⟩ := after_fault hb1
  have HB1 := Lib.hid hb1
  clear hb1
  go_wp2_with (go_at_call 20; refine (at_calls _ _ _).mono ?_; rintro e w' ⟨rfl, rfl⟩)
  refine bodyPost_ret (v := .tuple #[.slice none 0 0, .int .i64 (0), .agg #[.int .i64 4, .int .i64 at_]]) (by simp [results, Try.results69, go_sem, hc0, hc1, hz1]) rfl ?_
  exact chunk_none _ _ ((((hb0.setCell (p := ⟨w.heap.size, 0, none⟩) (Nat.le_refl _) _).setCell (p := ⟨w.heap.size, 1, none⟩) (Nat.le_refl _) _).alloc (by simp [World.setCell]; omega) _).alloc (by simp [World.setCell]; omega) _)

set_option maxRecDepth 100000 in
set_option maxHeartbeats 400000 in
theorem getChunk_trunc {w : World} {A : Option Addr} {n c : Nat} {bs : List UInt8} (h : Rd w w.heap.size 1 A n (bv bs)) (at_ : Int) (hn : n ≤ 140737488355328) {x kj : Nat} (hr : readNum bs at_ = ((x : Int), (kj : Int), 0, 0)) (hk : kj ≤ n) (hx : n < kj + x) :
    Calls Try.prog 69 #[.slice A n c, .int .i64 at_] w (ChunkEnd w ([], 0, 15, at_)) := by
  have HQ := Lib.hid hr
  have hx' : (n : Int) - (x : Int) < (kj : Int) := by omega
  have hxm : (x : Int) ≤ 9223372036854775807 := by have := readNum_bd hr; omega
  clear hr
  go_enter Try.func69, Try.ntmps69
  go_wp2_with fail
  refine (get_calls ((h.alloc (Nat.le_refl _) (Obj.cells #[Value.int IntKind.i64 0, Value.int IntKind.i64 0] 29)).more (by simp)) at_ (by simp only [maxLen]; omega)).mono ?_
  rintro e w1 ⟨rfl, hb1⟩
  rw [HQ.out]
  obtain ⟨hb0, hz1, hc0, hc1, hf0, hf1⟩ := after_fault hb1
  have HB1 := Lib.hid hb1
  clear hb1
  go_wp2_with (go_at_call 20; refine (at_calls _ _ _).mono ?_; rintro e w' ⟨rfl, rfl⟩)
  refine bodyPost_ret (v := .tuple #[.slice none 0 0, .int .i64 (0), .agg #[.int .i64 15, .int .i64 at_]]) (by simp [results, Try.results69, go_sem, hc0, hc1, hz1]) rfl ?_
  exact chunk_none _ _ ((((hb0.setCell (p := ⟨w.heap.size, 0, none⟩) (Nat.le_refl _) _).setCell (p := ⟨w.heap.size, 1, none⟩) (Nat.le_refl _) _).alloc (by simp [World.setCell]; omega) _).alloc (by simp [World.setCell]; omega) _)

set_option maxRecDepth 100000 in
set_option maxHeartbeats 400000 in
theorem getChunk_ok {w : World} {A : Option Addr} {n c : Nat} {bs : List UInt8} (h : Rd w w.heap.size 1 A n (bv bs)) (at_ : Int) (hn : n ≤ 140737488355328) {x kj : Nat} (hr : readNum bs at_ = ((x : Int), (kj : Int), 0, 0)) (hc : n ≤ c) (hx : kj + x ≤ n) :
    Calls Try.prog 69 #[.slice A n c, .int .i64 at_] w (ChunkEnd w ((bs.drop kj).take x, (kj : Int) + (x : Int), 0, 0)) := by
  have HQ := Lib.hid hr
  have hx' : ¬ (n : Int) - (x : Int) < (kj : Int) := by omega
  have hx2 : ¬ (n : Int) < (x : Int) := by omega
  clear hr
  go_enter Try.func69, Try.ntmps69
  go_wp2_with fail
  refine (get_calls ((h.alloc (Nat.le_refl _) (Obj.cells #[Value.int IntKind.i64 0, Value.int IntKind.i64 0] 29)).more (by simp)) at_ (by simp only [maxLen]; omega)).mono ?_
  rintro e w1 ⟨rfl, hb1⟩
  rw [HQ.out]
  obtain ⟨hb0, hz1, hc0, hc1, hf0, hf1⟩ := after_fault hb1
  have HB1 := Lib.hid hb1
  clear hb1
  have hsl : ∀ W : World, (Instr.sliceAt 22 (.slice A n c) (some (.int .i64 (kj : Int))) (some (.int .i64 ((kj : Int) + (x : Int)))) none).run Try.prog W = .ok (.slice (cutA A c kj 1) x (c - kj)) W := fun W => by
    have := run_cut slB A n c kj (kj + x) (by omega) (by omega) W
    rw [show kj + x - kj = x by omega] at this
    exact this
  have HRD := Lib.hid (((h.cut (k := kj) (m := x) hx hc).below hb0).alloc (Nat.le_of_lt hz1) (Obj.cells #[Value.int IntKind.i64 0, Value.int IntKind.i64 0] 29))
  have hd1 : decide ((n : Int) - (x : Int) < (kj : Int)) = false := decide_eq_false (by omega)
  have hd2 : decide ((n : Int) < (x : Int)) = false := decide_eq_false (by omega)
  have hxn : decide ((x : Int) < 0) = false := decide_eq_false (by omega)
  go_wp2_with fail
  refine (copy_calls (bs := (bs.drop kj).take x) (by rw [← bv_cut]; exact HRD.out) (by omega)).mono ?_
  rintro e w2 ⟨A2, c2, rfl, hown2, hb2⟩
  rw [show ((bs.drop kj).take x).length = x by rw [List.length_take, List.length_drop]; have := h.len; rw [bv_len] at this; omega] at hown2 ⊢
  rw [← bv_cut] at hown2
  simp only [World.size_alloc] at hown2 hb2
  obtain ⟨hy1, hd0, hd1, hg0, hg1⟩ := after_more hz1 hc0 hc1 hf0 hf1 hb2
  clear hc0 hc1 hf0 hf1 hz1
  go_wp2_with fail
  refine bodyPost_ret (v := .tuple #[.slice A2 x c2, .int .i64 ((kj : Int) + (x : Int)), .agg #[.int .i64 0, .int .i64 0]]) (by simp [results, Try.results69, go_sem, hd0, hd1, hy1]) rfl ?_
  exact chunk_some hown2 (by have := h.len; rw [bv_len] at this; omega) hb0 hb2

theorem getChunk_calls {w : World} {A : Option Addr} {n c : Nat} {bs : List UInt8} (h : Rd w w.heap.size 1 A n (bv bs)) (at_ : Int) (hn : n ≤ 140737488355328) (hc : n ≤ c) :
    Calls Try.prog 69 #[.slice A n c, .int .i64 at_] w (ChunkEnd w (readChunk bs at_)) := by
  have hl : bs.length = n := by have := h.len; rw [bv_len] at this; exact this
  rcases readNum_or bs at_ (by omega) with ⟨cd, ix, hcd, hr⟩ | ⟨k, y, j, rfl, hdec, hr, hkj, hj, hz⟩
  · rw [show readChunk bs at_ = ([], 0, cd, ix) by unfold readChunk; rw [hr]; simp [hcd]]
    exact getChunk_fault h at_ hn hr hcd
  · by_cases hneg : zag y < 0
    · rw [show readChunk bs k = ([], 0, 4, (k : Int)) by unfold readChunk; rw [hr]; simp [hneg]]
      exact getChunk_neg h k hn hr hneg
    · obtain ⟨x, hx⟩ := Int.eq_ofNat_of_zero_le (show 0 ≤ zag y by omega)
      rw [hx] at hr hneg
      by_cases htr : n < k + j + x
      · rw [show readChunk bs k = ([], 0, 15, (k : Int)) by unfold readChunk; rw [hr]; simp only []; rw [if_neg (by simp), if_neg hneg, if_pos (by omega)]]
        exact getChunk_trunc h k hn hr (by omega) htr
      · rw [show readChunk bs k = ((bs.drop (k + j)).take x, ((k + j : Nat) : Int) + (x : Int), 0, 0) by unfold readChunk; rw [hr]; simp only []; rw [if_neg (by simp), if_neg hneg, if_neg (by omega), Int.toNat_natCast, Int.toNat_natCast]]
        exact getChunk_ok h k hn hr hc (by omega)
end Go.Proofs.Ytolognhjdmkohaa
