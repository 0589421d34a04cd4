import Derived.Test.YtgdiadednlajgaaGreatDoorP2
import Derived.WalkKit
import Derived.Test.YtgdiadednlajgaaGreatDoorP1
import Derived.Outline
import Derived.KernelRfl
import Derived.Deep.DeepCutAuto
import Derived.RegionTactic
import Derived.Deep.RegionHeld3
import Derived.Deep.QuietTactic
import Derived.BigQuiet
namespace Go.Proofs.YtgdiadednlajgaaGreatDoor
open Go.RowKit
set_option linter.unusedVariables false
set_option linter.unusedSimpArgs false
theorem byte_at {s : ByteArray} {k : Nat} (h : k < s.size) : s.data.toList[k]? = some s[k] := by
  rw [List.getElem?_eq_getElem (by simpa using h)]; rfl
def IFEnd (l : List UInt8) (w : World) (e : Ending) (w' : World) : Prop := ∃ n : Int, e = .returned (.int .i64 n) ∧ decide (0 ≤ n) = (!(l.all okC)) ∧ Below w.heap.size w w'
def IFRel (s : ByteArray) (w : World) (i : Value) (wr : World) : Prop := ∃ pos : Nat, pos ≤ s.size ∧ (s.data.toList.take pos).all okC = true ∧ w.iter s pos = wr
theorem all_bad {l : List UInt8} {k : Nat} {c : UInt8} (h : l[k]? = some c) (hc : okC c = false) : l.all okC = false := by
  rw [List.all_eq_false]
  exact ⟨c, List.mem_of_getElem? h, by simp [hc]⟩
theorem all_more {l : List UInt8} {k : Nat} {c : UInt8} (h : l[k]? = some c) (hc : okC c = true) (hl : (l.take k).all okC = true) : (l.take (k + 1)).all okC = true := by
  rw [List.take_add_one, h, Option.toList_some, List.all_append, hl]
  simp [hc]
theorem if_bad {s : ByteArray} {w w' : World} {k : Nat} {c : UInt8} (h : s.data.toList[k]? = some c) (hc : okC c = false) (hb : Below w.heap.size w w') : IFEnd s.data.toList w (.returned (.int .i64 (k : Int))) w' :=
  ⟨_, rfl, by rw [all_bad h hc]; simp, hb⟩
set_option maxRecDepth 100000 in
theorem indexFunc_calls (s : ByteArray) (w : World) (hs : s.size ≤ 9223372036854775807) : Calls Tryz.prog 147 #[.string s, .func (.func 108) #[] #[], .bool true] w (IFEnd s.data.toList w) := by
  go_enter Tryz.func147, Tryz.ntmps147
  go_wp2_with fail
  go_loopw [7] (IFRel s w) (fun _ wr => s.size - wr.iterPos w.heap.size)
  case atStart => exact ⟨0, Nat.zero_le _, rfl, rfl⟩
  case round =>
    obtain ⟨pos, hpos, hall, rfl⟩ := hrel
    have HALL := Lib.hid hall
    clear hall
    by_cases hp : pos < s.size
    · have HX := Lib.hid (byte_at (s := s) (k := pos) hp)
      by_cases ha : s[pos].toNat < 128
      · have hnx : ∀ ty, (Instr.next (.pointer (some ⟨w.heap.size, 0, none⟩)) true ty).run Tryz.prog (w.iter s pos) = _ := fun ty => run_next_ascii w s pos ty hp ha
        by_cases hc : okC s[pos] = true
        · go_wp2_with fail
          refine (nameByte_ascii s[pos] _ ha).mono ?_
          rintro e w' ⟨rfl, rfl⟩
          have HC := Lib.hid hc
          rw [HC.out]
          clear hc hnx
          go_wp2_with fail
          go_roundw
          case rel => exact ⟨pos + 1, by omega, all_more HX.out HC.out HALL.out, rfl⟩
          case measure => simp; omega
        · have hc' : okC s[pos] = false := by simpa using hc
          have HC := Lib.hid hc'
          clear hc hc'
          go_wp2_with fail
          refine (nameByte_ascii s[pos] _ ha).mono ?_
          rintro e w' ⟨rfl, rfl⟩
          rw [HC.out]
          clear hnx
          go_wp2_with fail
          go_ret
          exact if_bad HX.out HC.out ((Below.refl _ _).alloc (Nat.le_refl _) _)
      · have hh := decode_high s pos hp (by omega)
        have HC := Lib.hid (okC_high (c := s[pos]) (by omega))
        have hnx : ∀ ty, (Instr.next (.pointer (some ⟨w.heap.size, 0, none⟩)) true ty).run Tryz.prog (w.iter s pos) = _ := fun ty => run_next_any w s pos ty hp
        generalize (Utf8.decode s pos).1 = r at *
        generalize (Utf8.decode s pos).2 = d at *
        go_wp2_with fail
        refine (nameByte_high r _ hh.1).mono ?_
        rintro e w' ⟨rfl, hb⟩
        clear hnx
        go_wp2_with fail
        go_ret
        exact if_bad HX.out HC.out (((Below.refl _ _).alloc (Nat.le_refl _) _).trans (hb.mono (by simp [World.iter])))
    · have hnx : ∀ ty, (Instr.next (.pointer (some ⟨w.heap.size, 0, none⟩)) true ty).run Tryz.prog (w.iter s pos) = _ := fun ty => run_next_end w s pos ty hp
      have HA : Hid (s.data.toList.all okC = true) := Lib.hid (by
        have := HALL.out
        rwa [List.take_of_length_le (by simp; omega)] at this)
      go_wp2_with fail
      go_ret
      exact ⟨-1, rfl, by rw [HA.out]; rfl, (Below.refl _ _).alloc (Nat.le_refl _) _⟩
theorem indexFunc2_calls (s : ByteArray) (w : World) (hs : s.size ≤ 9223372036854775807) : Calls Tryz.prog 129 #[.string s, .func (.func 108) #[] #[]] w (IFEnd s.data.toList w) := by
  go_enter Tryz.func129, Tryz.ntmps129
  go_wp2_with fail
  refine (indexFunc_calls s _ hs).mono ?_
  rintro e w' ⟨n, rfl, hn, hb⟩
  have HN := Lib.hid hn
  clear hn
  go_wp2_with fail
  go_ret
  exact ⟨n, rfl, HN.out, hb⟩
theorem containsFunc_calls (s : ByteArray) (w : World) (hs : s.size ≤ 9223372036854775807) : Calls Tryz.prog 107 #[.string s, .func (.func 108) #[] #[]] w fun e w' => e = .returned (.bool (!(s.data.toList.all okC))) ∧ Below w.heap.size w w' := by
  go_enter Tryz.func107, Tryz.ntmps107
  go_wp2_with fail
  refine (indexFunc2_calls s _ hs).mono ?_
  rintro e w' ⟨n, rfl, hn, hb⟩
  have HN := Lib.hid hn
  clear hn
  go_wp2_with fail
  go_ret
  exact ⟨by rw [← HN.out]; rfl, hb⟩
def isName (l : List UInt8) : Bool := decide (l.length ≤ 32) && (match l with | [] => false | c :: _ => decide (97 ≤ c.toNat ∧ c.toNat ≤ 122)) && l.all okC
theorem isName_long {l : List UInt8} (h : 32 < l.length) : isName l = false := by
  have : decide (l.length ≤ 32) = false := decide_eq_false (by omega)
  simp [isName, this]
theorem isName_head {l : List UInt8} {c : UInt8} (h : l[0]? = some c) (hc : ¬ (97 ≤ c.toNat ∧ c.toNat ≤ 122)) : isName l = false := by
  match l, h with
  | x :: r, h =>
    simp at h; subst h
    have : decide (97 ≤ x.toNat ∧ x.toNat ≤ 122) = false := decide_eq_false hc
    unfold isName
    simp only [this, Bool.and_false, Bool.false_and]
theorem isName_all {l : List UInt8} {c : UInt8} (hl : l.length ≤ 32) (h : l[0]? = some c) (hc : 97 ≤ c.toNat ∧ c.toNat ≤ 122) : isName l = l.all okC := by
  match l, h with
  | x :: r, h =>
    simp at h; subst h
    have h1 : decide (97 ≤ x.toNat ∧ x.toNat ≤ 122) = true := decide_eq_true hc
    have h2 : decide ((x :: r).length ≤ 32) = true := decide_eq_true hl
    unfold isName
    simp only [h1, h2, Bool.true_and]
theorem name_calls (s : ByteArray) (w : World) (hs : s.size ≤ 9223372036854775807) : Calls Tryz.prog 77 #[.string s] w fun e w' => e = .returned (.bool (isName s.data.toList)) ∧ Below w.heap.size w w' := by
  by_cases h0 : s.size = 0
  · have e0 : s.toList = [] := by rw [Lib.toList_data]; exact List.eq_nil_of_length_eq_zero (by simpa using h0)
    have HK := Lib.hid (show isName s.data.toList = false by rw [List.eq_nil_of_length_eq_zero (l := s.data.toList) (by simpa using h0)]; rfl)
    have e1 : s.toList.isEmpty = true := by rw [e0]; rfl
    go_enter Tryz.func77, Tryz.ntmps77
    go_wp2_with fail
    go_ret
    exact ⟨by rw [HK.out]; rfl, Below.refl _ _⟩
  · have e1 : s.toList.isEmpty = false := by
      rw [Lib.toList_data]
      cases h : s.data.toList with
      | nil => exact absurd (by simpa using congrArg List.length h) h0
      | cons => rfl
    have e2 : ¬ s.toList = [] := by intro e; rw [e] at e1; cases e1
    by_cases h32 : 32 < s.size
    · have HK := Lib.hid (isName_long (l := s.data.toList) (by simpa using h32))
      have h32' : (32 : Int) < (s.size : Int) := by omega
      go_enter Tryz.func77, Tryz.ntmps77
      go_wp2_with fail
      go_ret
      exact ⟨by rw [HK.out]; rfl, Below.refl _ _⟩
    · have h32' : ¬ (32 : Int) < (s.size : Int) := by omega
      have hpos : 0 < s.size := by omega
      have HX := byte_at (s := s) (k := 0) hpos
      by_cases hc : 97 ≤ s[0].toNat ∧ s[0].toNat ≤ 122
      · have HK := Lib.hid (isName_all (l := s.data.toList) (by simpa using (show s.size ≤ 32 by omega)) HX hc)
        obtain ⟨c1, c2⟩ := hc
        have c1' : ¬ (s[0].toNat : Int) < 97 := by omega
        have c2' : ¬ (122 : Int) < (s[0].toNat : Int) := by omega
        clear HX
        go_enter Tryz.func77, Tryz.ntmps77
        go_wp2_with fail
        refine (containsFunc_calls s _ hs).mono ?_
        rintro e w' ⟨rfl, hb⟩
        go_wp2_with fail
        go_ret
        exact ⟨by rw [HK.out]; simp, hb⟩
      · have HK := Lib.hid (isName_head (l := s.data.toList) HX hc)
        clear HX
        by_cases c1 : (s[0].toNat : Int) < 97
        · clear hc
          go_enter Tryz.func77, Tryz.ntmps77
          go_wp2_with fail
          go_ret
          exact ⟨by rw [HK.out]; rfl, Below.refl _ _⟩
        · have c2 : (122 : Int) < (s[0].toNat : Int) := by omega
          clear hc
          go_enter Tryz.func77, Tryz.ntmps77
          go_wp2_with fail
          go_ret
          exact ⟨by rw [HK.out]; rfl, Below.refl _ _⟩
end Go.Proofs.YtgdiadednlajgaaGreatDoor
namespace Go.Proofs.YtgdiadednlajgaaGreatDoor
set_option linter.unusedVariables false
set_option linter.unusedSimpArgs false
structure Nd where
  k : Int
  n : Int
  bs : List UInt8
  ns : List (List UInt8)
inductive VF where
  | nil : VF
  | cons : Nd → VF → VF → VF
def VF.len : VF → Nat
  | .nil => 0
  | .cons _ _ r => r.len + 1
def VF.drop : VF → Nat → VF
  | F, 0 => F
  | .nil, _ + 1 => .nil
  | .cons _ _ r, i + 1 => r.drop i
def VF.take : VF → Nat → VF
  | _, 0 => .nil
  | .nil, _ + 1 => .nil
  | .cons d p r, i + 1 => .cons d p (r.take i)
theorem VF.drop_zero (F : VF) : F.drop 0 = F := by cases F <;> rfl
theorem VF.take_zero (F : VF) : F.take 0 = .nil := by cases F <;> rfl
end Go.Proofs.YtgdiadednlajgaaGreatDoor
namespace Go.Proofs.YtgdiadednlajgaaGreatDoor
set_option linter.unusedVariables false
set_option linter.unusedSimpArgs false
def encF : Nat → Nat → List UInt8
  | 0, u => [UInt8.ofNat u]
  | k + 1, u => if u < 128 then [UInt8.ofNat u] else UInt8.ofNat (u % 128 + 128) :: encF k (u / 128)
def enc (u : Nat) : List UInt8 := encF u u
def zig (n : Int) : Nat := if 0 ≤ n then 2 * n.toNat else 2 * (-(n + 1)).toNat + 1
def num (n : Int) : List UInt8 := enc (zig n)
def decF : Nat → List UInt8 → Sum Nat (Nat × Nat)
  | _, [] => .inl 15
  | i, c :: l =>
    if (i = 9 ∧ 1 < c.toNat) ∨ (0 < i ∧ c.toNat = 0) then .inl 1
    else if c.toNat < 128 then .inr (c.toNat, 1)
    else match decF (i + 1) l with
      | .inl e => .inl e
      | .inr p => .inr (c.toNat - 128 + 128 * p.1, p.2 + 1)
def dec (l : List UInt8) : Sum Nat (Nat × Nat) := decF 0 l
end Go.Proofs.YtgdiadednlajgaaGreatDoor
namespace Go.Proofs.YtgdiadednlajgaaGreatDoor
set_option linter.unusedVariables false
set_option linter.unusedSimpArgs false
end Go.Proofs.YtgdiadednlajgaaGreatDoor
namespace Go.Proofs.YtgdiadednlajgaaGreatDoor
open Go.RowKit
set_option linter.unusedVariables false
set_option linter.unusedSimpArgs false
end Go.Proofs.YtgdiadednlajgaaGreatDoor
namespace Go.Proofs.YtgdiadednlajgaaGreatDoor
open Go.RowKit
set_option linter.unusedVariables false
set_option linter.unusedSimpArgs false
def iv (l : List Int) : List Value := l.map (Value.int .i64)
theorem iv_len (l : List Int) : (iv l).length = l.length := by simp [iv]
theorem iv_app (a b : List Int) : iv (a ++ b) = iv a ++ iv b := by simp [iv]
theorem iv_one (l : List Int) : ∀ u ∈ iv l, u.oneCell' = true := by
  intro u hu
  simp only [iv, List.mem_map] at hu
  obtain ⟨b, _, rfl⟩ := hu
  rfl
end Go.Proofs.YtgdiadednlajgaaGreatDoor
namespace Go.Proofs.YtgdiadednlajgaaGreatDoor
set_option linter.unusedVariables false
set_option linter.unusedSimpArgs false
end Go.Proofs.YtgdiadednlajgaaGreatDoor
namespace Go.Proofs.YtgdiadednlajgaaGreatDoor
open Go.RowKit
set_option linter.unusedVariables false
set_option linter.unusedSimpArgs false
end Go.Proofs.YtgdiadednlajgaaGreatDoor
namespace Go.Proofs.YtgdiadednlajgaaGreatDoor
open Go.RowKit
set_option linter.unusedVariables false
set_option linter.unusedSimpArgs false
end Go.Proofs.YtgdiadednlajgaaGreatDoor
namespace Go.Proofs.YtgdiadednlajgaaGreatDoor
open Go.RowKit
set_option linter.unusedVariables false
set_option linter.unusedSimpArgs false
theorem Made.intro {w w' : World} {A : Option Addr} {n c : Nat} {bs : List UInt8} {xs : List Value} (h : w'.ownsRow w.heap.size 5 1 (.slice A n c) n xs) (hx : xs = bv bs) (hb : Below w.heap.size w w') : Made w bs (.returned (.slice A n c)) w' := by
  subst hx
  have hn : n = bs.length := by have := h.1; rw [bv_len] at this; omega
  subst hn
  exact ⟨A, c, rfl, h, hb⟩
theorem Made.as {w w' : World} {A : Option Addr} {n m c : Nat} {bs : List UInt8} {xs : List Value} (h : w'.ownsRow w.heap.size 5 1 (.slice A m c) m xs) (hn : n = m) (hx : xs = bv bs) (hb : Below w.heap.size w w') : Made w bs (.returned (.slice A n c)) w' := by
  subst hn; exact Made.intro h hx hb
end Go.Proofs.YtgdiadednlajgaaGreatDoor
namespace Go.Proofs.YtgdiadednlajgaaGreatDoor
open Go.RowKit
set_option linter.unusedVariables false
set_option linter.unusedSimpArgs false
def sv (l : List (List UInt8)) : List Value := l.map fun p => .string ⟨p.toArray⟩
theorem sv_len (l : List (List UInt8)) : (sv l).length = l.length := by simp [sv]
theorem sv_app (a b : List (List UInt8)) : sv (a ++ b) = sv a ++ sv b := by simp [sv]
theorem sv_at {w : World} {B n k : Nat} {A : Option Addr} {xs : List (List UInt8)} (h : Rd w B 1 A n (sv xs)) (hk : k < n) : ∃ (b o : Nat) (s : ByteArray), A = some ⟨b, o, none⟩ ∧ b < B ∧ xs[k]? = some s.data.toList ∧ w.cell? ⟨b, o + k, none⟩ = some (.string s) := by
  obtain ⟨b, o, u, rfl, hb, hu, hc⟩ := h.at_ hk
  unfold sv at hu
  rw [List.getElem?_map] at hu
  cases e : xs[k]? with
  | none => rw [e] at hu; cases hu
  | some p => rw [e] at hu; simp at hu; exact ⟨b, o, ⟨p.toArray⟩, rfl, hb, rfl, by rw [hc, ← hu]⟩
end Go.Proofs.YtgdiadednlajgaaGreatDoor
namespace Go.Proofs.YtgdiadednlajgaaGreatDoor
open Go.RowKit
set_option linter.unusedVariables false
set_option linter.unusedSimpArgs false
theorem iv_at {w : World} {B n k : Nat} {A : Option Addr} {xs : List Int} (h : Rd w B 1 A n (iv xs)) (hk : k < n) : ∃ b o x, A = some ⟨b, o, none⟩ ∧ b < B ∧ xs[k]? = some x ∧ w.cell? ⟨b, o + k, none⟩ = some (.int .i64 x) := by
  obtain ⟨b, o, u, rfl, hb, hu, hc⟩ := h.at_ hk
  unfold iv at hu
  rw [List.getElem?_map] at hu
  cases e : xs[k]? with
  | none => rw [e] at hu; cases hu
  | some p => rw [e] at hu; simp at hu; exact ⟨b, o, p, rfl, hb, rfl, by rw [hc, ← hu]⟩
def SrEnd (t : Bool) (w : World) (e : Ending) (w' : World) : Prop := ∃ n : Int, e = .returned (.int .i64 n) ∧ decide (0 ≤ n) = t ∧ w = w'
def hasB {α : Type} [BEq α] (xs : List α) (x : α) : Bool := xs.contains x
def SrRel {α : Type} [BEq α] (xs : List α) (x : α) (k : Value) : Prop := ∃ i : Nat, i ≤ xs.length ∧ k = .int .i64 (i : Int) ∧ hasB (xs.take i) x = false
theorem sr_yes {α : Type} [BEq α] [LawfulBEq α] {xs : List α} {x : α} {i : Nat} (h : xs[i]? = some x) : hasB xs x = true := by
  unfold hasB
  rw [List.contains_iff_mem]; exact List.mem_of_getElem? h
theorem sr_more {α : Type} [BEq α] [LawfulBEq α] {xs : List α} {x y : α} {i : Nat} (h : xs[i]? = some y) (hne : ¬ x = y) (hl : hasB (xs.take i) x = false) : hasB (xs.take (i + 1)) x = false := by
  rw [List.take_add_one, h, Option.toList_some]
  unfold hasB at *
  have h1 : ¬ x ∈ xs.take i := fun hm => by rw [List.contains_iff_mem.2 hm] at hl; cases hl
  cases e : (xs.take i ++ [y]).contains x with
  | false => rfl
  | true =>
    rw [List.contains_iff_mem, List.mem_append, List.mem_singleton] at e
    rcases e with e | e
    · exact absurd e h1
    · exact absurd e hne
theorem sr_all {α : Type} [BEq α] {xs : List α} {x : α} {i : Nat} (h : xs.length ≤ i) (hl : hasB (xs.take i) x = false) : hasB xs x = false := by
  rwa [List.take_of_length_le h] at hl
theorem indexInts_calls {w : World} {B : Nat} {A : Option Addr} {n c : Nat} {xs : List Int} {x : Int} (h : Rd w B 1 A n (iv xs)) (hn : n ≤ 9223372036854775807) : Calls Tryz.prog 135 #[.slice A n c, .int .i64 x] w (SrEnd (hasB xs x) w) := by
  have HL := Lib.hid (show xs.length = n by have := h.len; rw [iv_len] at this; exact this)
  have HR := Lib.hid h
  clear h
  go_enter Tryz.func135, Tryz.ntmps135
  go_wp2_with fail
  go_loop [8] (SrRel xs x) (fun k => n - (intOf k).toNat)
  case atStart => exact ⟨0, Nat.zero_le _, rfl, rfl⟩
  case round =>
    obtain ⟨i, hi, rfl, hf⟩ := hrel
    rw [HL.out] at hi
    have HF := Lib.hid hf
    clear hf
    by_cases hlt : i < n
    · obtain ⟨b, o, y, rfl, hb, hy, hc⟩ := iv_at HR.out hlt
      have HY := Lib.hid hy
      have hli : (i : Int) < (n : Int) := by omega
      have h0 : (0 : Int) ≤ (i : Int) := by omega
      clear hy
      by_cases hxy : x = y
      · subst hxy
        go_wp2_with fail
        go_ret
        exact ⟨i, rfl, by rw [sr_yes HY.out]; simp, rfl⟩
      · have hxy' : (x == y) = false := by simpa using hxy
        have HNE := Lib.hid hxy
        clear hxy
        go_wp2_with fail
        go_round
        case rel => exact ⟨i + 1, by rw [HL.out]; omega, by go_num, sr_more HY.out HNE.out HF.out⟩
        case measure => simp [intOf]; omega
    · go_wp2_with fail
      go_ret
      exact ⟨-1, rfl, by rw [sr_all (by rw [HL.out]; omega) HF.out]; rfl, rfl⟩
theorem containsInts_calls {w : World} {B : Nat} {A : Option Addr} {n c : Nat} {xs : List Int} {x : Int} (h : Rd w B 1 A n (iv xs)) (hn : n ≤ 9223372036854775807) : Calls Tryz.prog 118 #[.slice A n c, .int .i64 x] w fun e w' => e = .returned (.bool (hasB xs x)) ∧ w = w' := by
  go_enter Tryz.func118, Tryz.ntmps118
  go_wp2_with fail
  refine (indexInts_calls h hn).mono ?_
  rintro e w' ⟨m, rfl, hm, rfl⟩
  have HM := Lib.hid hm
  clear hm
  go_wp2_with fail
  go_ret
  exact ⟨by rw [← HM.out]; rfl, rfl⟩
theorem indexStrs_calls {w : World} {B : Nat} {A : Option Addr} {n c : Nat} {xs : List (List UInt8)} {s : ByteArray} (h : Rd w B 1 A n (sv xs)) (hn : n ≤ 9223372036854775807) : Calls Tryz.prog 76 #[.slice A n c, .string s] w (SrEnd (hasB xs s.data.toList) w) := by
  have HL := Lib.hid (show xs.length = n by have := h.len; rw [sv_len] at this; exact this)
  have HR := Lib.hid h
  clear h
  go_enter Tryz.func76, Tryz.ntmps76
  go_wp2_with fail
  go_loop [8] (SrRel xs s.data.toList) (fun k => n - (intOf k).toNat)
  case atStart => exact ⟨0, Nat.zero_le _, rfl, rfl⟩
  case round =>
    obtain ⟨i, hi, rfl, hf⟩ := hrel
    rw [HL.out] at hi
    have HF := Lib.hid hf
    clear hf
    by_cases hlt : i < n
    · obtain ⟨b, o, y, rfl, hb, hy, hc⟩ := sv_at HR.out hlt
      have HY := Lib.hid hy
      have hli : (i : Int) < (n : Int) := by omega
      have h0 : (0 : Int) ≤ (i : Int) := by omega
      clear hy
      by_cases hxy : s = y
      · subst hxy
        go_wp2_with fail
        go_ret
        exact ⟨i, rfl, by rw [sr_yes HY.out]; simp, rfl⟩
      · have hne : ¬ s.toList = y.toList := fun e => hxy (by
          rw [Lib.toList_data, Lib.toList_data] at e
          obtain ⟨⟨l⟩⟩ := s; obtain ⟨⟨m⟩⟩ := y; simp at e; rw [e])
        have hxy' : (s.toList == y.toList) = false := by simpa using hne
        have HNE := Lib.hid (show ¬ s.data.toList = y.data.toList by rw [← Lib.toList_data, ← Lib.toList_data]; exact hne)
        clear hxy hne
        go_wp2_with fail
        go_round
        case rel => exact ⟨i + 1, by rw [HL.out]; omega, by go_num, sr_more HY.out HNE.out HF.out⟩
        case measure => simp [intOf]; omega
    · go_wp2_with fail
      go_ret
      exact ⟨-1, rfl, by rw [sr_all (by rw [HL.out]; omega) HF.out]; rfl, rfl⟩
theorem containsStrs_calls {w : World} {B : Nat} {A : Option Addr} {n c : Nat} {xs : List (List UInt8)} {s : ByteArray} (h : Rd w B 1 A n (sv xs)) (hn : n ≤ 9223372036854775807) : Calls Tryz.prog 92 #[.slice A n c, .string s] w fun e w' => e = .returned (.bool (hasB xs s.data.toList)) ∧ w = w' := by
  go_enter Tryz.func92, Tryz.ntmps92
  go_wp2_with fail
  refine (indexStrs_calls h hn).mono ?_
  rintro e w' ⟨m, rfl, hm, rfl⟩
  have HM := Lib.hid hm
  clear hm
  go_wp2_with fail
  go_ret
  exact ⟨by rw [← HM.out]; rfl, rfl⟩
def Small (xs : List (List UInt8)) : Prop := ∀ x ∈ xs, x.length ≤ 9223372036854775807
end Go.Proofs.YtgdiadednlajgaaGreatDoor
namespace Go.Proofs.YtgdiadednlajgaaGreatDoor
open Go.RowKit
set_option linter.unusedVariables false
set_option linter.unusedSimpArgs false
theorem Rd.lit (w : World) (cs : Array Value) (e : TypeId) : Rd (w.alloc (.cells cs e)) (w.heap.size + 1) 1 (some ⟨w.heap.size, 0, none⟩) cs.size cs.toList := by
  refine ⟨by simp, fun _ => ⟨_, _, rfl, by omega, fun j u hu => ?_⟩⟩
  rw [cell_of_row _ w.heap.size (0 + j) cs e (0, 0) (heap_alloc_new w _)]
  simpa using hu
theorem alloc_size (w : World) (o : Obj) : (w.alloc o).heap.size = w.heap.size + 1 := by simp
theorem cell_up {w : World} {p : Addr} {v : Value} {o : Obj} (h : w.cell? p = some v) : (w.alloc o).cell? p = some v := (World.cell?_alloc_some _ _ _ (by rw [h]; rfl)).trans h
theorem chain {w w1 w2 : World} (h1 : Below w.heap.size w w1) (h2 : Below w1.heap.size w1 w2) : Below w.heap.size w w2 := h1.trans (h2.mono h1.size)
end Go.Proofs.YtgdiadednlajgaaGreatDoor
namespace Go.Proofs.YtgdiadednlajgaaGreatDoor
open Go.RowKit
set_option linter.unusedVariables false
set_option linter.unusedSimpArgs false
def FC (w : World) (g : Nat) (a b : Int) : Prop :=
  g < w.heap.size ∧ w.cell? ⟨g, 0, none⟩ = some (.int .i64 a) ∧ w.cell? ⟨g, 1, none⟩ = some (.int .i64 b) ∧ w.frozen? ⟨g, 0, none⟩ = false ∧ w.frozen? ⟨g, 1, none⟩ = false
theorem FC.new (w : World) (a b : Int) : FC (w.alloc (.cells #[.int .i64 a, .int .i64 b] 27)) w.heap.size a b := ⟨by simp, by simp, by simp, by simp, by simp⟩
theorem FC.below {w w' : World} {B g : Nat} {a b : Int} (h : FC w g a b) (hb : Below B w w') (hg : g < B) : FC w' g a b := by
  obtain ⟨z, c0, c1, f0, f1⟩ := h
  exact ⟨Nat.lt_of_lt_of_le z hb.size, (hb.cell (by exact hg)).trans c0, (hb.cell (by exact hg)).trans c1, (hb.frozen (by exact hg)).trans f0, (hb.frozen (by exact hg)).trans f1⟩
theorem FC.on {w w' : World} {g : Nat} {a b : Int} (h : FC w g a b) (hb : Below w.heap.size w w') : FC w' g a b := h.below hb h.1
theorem FC.alloc {w : World} {g : Nat} {a b : Int} (h : FC w g a b) (o : Obj) : FC (w.alloc o) g a b := h.on ((Below.refl _ _).alloc (Nat.le_refl _) o)
theorem FC.drew {w : World} {g : Nat} {a b : Int} (h : FC w g a b) : FC w.drew g a b := h
theorem FC.put {w : World} {g : Nat} {a b : Int} (h : FC w g a b) (c d : Int) : FC ((w.setCell ⟨g, 0, none⟩ (.int .i64 c)).setCell ⟨g, 1, none⟩ (.int .i64 d)) g c d := by
  obtain ⟨z, c0, c1, f0, f1⟩ := h
  refine ⟨by simpa using z, ?_, ?_, ?_, ?_⟩
  · rw [World.cell?_setCell_other _ _ _ _ (by simp)]
    exact World.cell?_setCell_same w ⟨g, 0, none⟩ _ c0
  · exact World.cell?_setCell_same _ ⟨g, 1, none⟩ _ ((World.cell?_setCell_other w ⟨g, 0, none⟩ ⟨g, 1, none⟩ _ (by simp)).trans c1)
  · rw [World.frozen?_setCell, World.frozen?_setCell]; exact f0
  · rw [World.frozen?_setCell, World.frozen?_setCell]; exact f1
theorem bel1 (w : World) (a : Obj) : Below w.heap.size w (w.alloc a) := (Below.refl _ _).alloc (Nat.le_refl _) a
theorem bel2 (w : World) (a b : Obj) : Below w.heap.size w ((w.alloc a).alloc b) := (bel1 w a).alloc (bel1 w a).size b
theorem bel3 (w : World) (a b c : Obj) : Below w.heap.size w (((w.alloc a).alloc b).alloc c) := (bel2 w a b).alloc (bel2 w a b).size c
end Go.Proofs.YtgdiadednlajgaaGreatDoor
namespace Go.Proofs.YtgdiadednlajgaaGreatDoor
open Go.RowKit
set_option linter.unusedVariables false
set_option linter.unusedSimpArgs false
structure Rl where
  name : List UInt8
  kind : Int
  bs : List UInt8
  size : Int
  big : Bool
  mn : Int
  mx : Int
  stop : Int
  count : Int
  elem : Int
  names : List (List UInt8)
  parts : List Int
def useStop (k : Int) : Bool := hasB [3, 5, 9] k
def useSize (k : Int) : Bool := hasB [2, 4, 5] k
def useMax (k : Int) : Bool := hasB [2, 3] k
def useCount (k : Int) : Bool := hasB [6, 10] k
def useOf (k : Int) : Bool := hasB [6, 9] k
def useParts (k : Int) : Bool := hasB [7, 8] k
def inB (n a b : Int) : Bool := decide (a ≤ n ∧ n ≤ b)
theorem inB_yes {n a b : Int} (h : a ≤ n ∧ n ≤ b) : inB n a b = true := decide_eq_true h
theorem inB_no {n a b : Int} (h : ¬ (a ≤ n ∧ n ≤ b)) : inB n a b = false := decide_eq_false h
theorem fin_calls (n a b : Int) (w : World) : Calls Tryz.prog 52 #[.int .i64 n, .int .i64 a, .int .i64 b] w fun e w' => e = .returned (.bool (inB n a b)) ∧ w = w' := by
  by_cases h1 : a ≤ n
  · by_cases h2 : n ≤ b
    · rw [inB_yes ⟨h1, h2⟩]
      go_enter Tryz.func52, Tryz.ntmps52
      go_wp2_with fail
      go_ret
      exact ⟨rfl, rfl⟩
    · rw [inB_no (fun h => h2 h.2)]
      go_enter Tryz.func52, Tryz.ntmps52
      go_wp2_with fail
      go_ret
      exact ⟨rfl, rfl⟩
  · rw [inB_no (fun h => h1 h.1)]
    go_enter Tryz.func52, Tryz.ntmps52
    go_wp2_with fail
    go_ret
    exact ⟨rfl, rfl⟩
theorem is_calls {a0 a2 a3 a4 a5 a6 a7 a8 a9 a10 a11 : Value} {k : Int} {w : World} {A : Option Addr} {n c : Nat} {ks : List Int} (h : Rd w w.heap.size 1 A n (iv ks)) (hn : n ≤ 1048576) :
    Calls Tryz.prog 100 #[.agg #[a0, .int .i64 k, a2, a3, a4, a5, a6, a7, a8, a9, a10, a11], .slice A n c] w fun e w' => e = .returned (.bool (hasB ks k)) ∧ Below w.heap.size w w' := by
  have HR := Lib.hid h
  clear h
  go_enter Tryz.func100, Tryz.ntmps100
  go_wp2_with fail
  refine (containsInts_calls (HR.out.below (bel1 _ _)) (by omega)).mono ?_
  rintro e w' ⟨rfl, rfl⟩
  go_wp2_with fail
  go_ret
  exact ⟨rfl, bel1 _ _⟩
theorem usesStop_calls {a0 a2 a3 a4 a5 a6 a7 a8 a9 a10 a11 : Value} {k : Int} (w : World) :
    Calls Tryz.prog 66 #[.agg #[a0, .int .i64 k, a2, a3, a4, a5, a6, a7, a8, a9, a10, a11]] w fun e w' => e = .returned (.bool (useStop k)) ∧ Below w.heap.size w w' := by
  go_enter Tryz.func66, Tryz.ntmps66
  go_wp2_with fail
  refine (is_calls (ks := [3, 5, 9]) ?_ (by decide)).mono ?_
  · have h := Rd.lit (w.alloc (.cells #[a0, .int .i64 k, a2, a3, a4, a5, a6, a7, a8, a9, a10, a11] 52)) #[.int .i64 3, .int .i64 5, .int .i64 9] 3
    rw [alloc_size] at h
    refine Rd.more h ?_
    simp
  rintro e w2 ⟨rfl, hb2⟩
  go_wp2_with fail
  go_ret
  exact ⟨rfl, chain (bel2 _ _ _) hb2⟩
theorem usesSize_calls {a0 a2 a3 a4 a5 a6 a7 a8 a9 a10 a11 : Value} {k : Int} (w : World) :
    Calls Tryz.prog 68 #[.agg #[a0, .int .i64 k, a2, a3, a4, a5, a6, a7, a8, a9, a10, a11]] w fun e w' => e = .returned (.bool (useSize k)) ∧ Below w.heap.size w w' := by
  go_enter Tryz.func68, Tryz.ntmps68
  go_wp2_with fail
  refine (is_calls (ks := [2, 4, 5]) ?_ (by decide)).mono ?_
  · have h := Rd.lit (w.alloc (.cells #[a0, .int .i64 k, a2, a3, a4, a5, a6, a7, a8, a9, a10, a11] 52)) #[.int .i64 2, .int .i64 4, .int .i64 5] 3
    rw [alloc_size] at h
    refine Rd.more h ?_
    simp
  rintro e w2 ⟨rfl, hb2⟩
  go_wp2_with fail
  go_ret
  exact ⟨rfl, chain (bel2 _ _ _) hb2⟩
theorem usesMax_calls {a0 a2 a3 a4 a5 a6 a7 a8 a9 a10 a11 : Value} {k : Int} (w : World) :
    Calls Tryz.prog 69 #[.agg #[a0, .int .i64 k, a2, a3, a4, a5, a6, a7, a8, a9, a10, a11]] w fun e w' => e = .returned (.bool (useMax k)) ∧ Below w.heap.size w w' := by
  go_enter Tryz.func69, Tryz.ntmps69
  go_wp2_with fail
  refine (is_calls (ks := [2, 3]) ?_ (by decide)).mono ?_
  · have h := Rd.lit (w.alloc (.cells #[a0, .int .i64 k, a2, a3, a4, a5, a6, a7, a8, a9, a10, a11] 52)) #[.int .i64 2, .int .i64 3] 3
    rw [alloc_size] at h
    refine Rd.more h ?_
    simp
  rintro e w2 ⟨rfl, hb2⟩
  go_wp2_with fail
  go_ret
  exact ⟨rfl, chain (bel2 _ _ _) hb2⟩
theorem usesCount_calls {a0 a2 a3 a4 a5 a6 a7 a8 a9 a10 a11 : Value} {k : Int} (w : World) :
    Calls Tryz.prog 70 #[.agg #[a0, .int .i64 k, a2, a3, a4, a5, a6, a7, a8, a9, a10, a11]] w fun e w' => e = .returned (.bool (useCount k)) ∧ Below w.heap.size w w' := by
  go_enter Tryz.func70, Tryz.ntmps70
  go_wp2_with fail
  refine (is_calls (ks := [6, 10]) ?_ (by decide)).mono ?_
  · have h := Rd.lit (w.alloc (.cells #[a0, .int .i64 k, a2, a3, a4, a5, a6, a7, a8, a9, a10, a11] 52)) #[.int .i64 6, .int .i64 10] 3
    rw [alloc_size] at h
    refine Rd.more h ?_
    simp
  rintro e w2 ⟨rfl, hb2⟩
  go_wp2_with fail
  go_ret
  exact ⟨rfl, chain (bel2 _ _ _) hb2⟩
theorem usesOf_calls {a0 a2 a3 a4 a5 a6 a7 a8 a9 a10 a11 : Value} {k : Int} (w : World) :
    Calls Tryz.prog 71 #[.agg #[a0, .int .i64 k, a2, a3, a4, a5, a6, a7, a8, a9, a10, a11]] w fun e w' => e = .returned (.bool (useOf k)) ∧ Below w.heap.size w w' := by
  go_enter Tryz.func71, Tryz.ntmps71
  go_wp2_with fail
  refine (is_calls (ks := [6, 9]) ?_ (by decide)).mono ?_
  · have h := Rd.lit (w.alloc (.cells #[a0, .int .i64 k, a2, a3, a4, a5, a6, a7, a8, a9, a10, a11] 52)) #[.int .i64 6, .int .i64 9] 3
    rw [alloc_size] at h
    refine Rd.more h ?_
    simp
  rintro e w2 ⟨rfl, hb2⟩
  go_wp2_with fail
  go_ret
  exact ⟨rfl, chain (bel2 _ _ _) hb2⟩
theorem usesParts_calls {a0 a2 a3 a4 a5 a6 a7 a8 a9 a10 a11 : Value} {k : Int} (w : World) :
    Calls Tryz.prog 82 #[.agg #[a0, .int .i64 k, a2, a3, a4, a5, a6, a7, a8, a9, a10, a11]] w fun e w' => e = .returned (.bool (useParts k)) ∧ Below w.heap.size w w' := by
  go_enter Tryz.func82, Tryz.ntmps82
  go_wp2_with fail
  refine (is_calls (ks := [7, 8]) ?_ (by decide)).mono ?_
  · have h := Rd.lit (w.alloc (.cells #[a0, .int .i64 k, a2, a3, a4, a5, a6, a7, a8, a9, a10, a11] 52)) #[.int .i64 7, .int .i64 8] 3
    rw [alloc_size] at h
    refine Rd.more h ?_
    simp
  rintro e w2 ⟨rfl, hb2⟩
  go_wp2_with fail
  go_ret
  exact ⟨rfl, chain (bel2 _ _ _) hb2⟩
end Go.Proofs.YtgdiadednlajgaaGreatDoor
namespace Go.Proofs.YtgdiadednlajgaaGreatDoor
open Go.RowKit
set_option linter.unusedVariables false
set_option linter.unusedSimpArgs false
theorem fm_sm {w : World} {p : Addr} {v : Value} (h : w.cell? p = some v) : p.block < w.heap.size := by
  unfold World.cell? at h
  cases hb : w.heap[p.block]? with
  | none => rw [hb] at h; cases h
  | some o => exact (Array.getElem?_eq_some_iff.1 hb).1
def Up (w : World) : Type := { w' : World // Below w.heap.size w w' }
instance (w : World) : Nonempty (Up w) := ⟨⟨w, Below.refl _ _⟩⟩
def Up.w {w : World} (x : Up w) : World := x.1
theorem Up.b {w : World} (x : Up w) : Below w.heap.size w x.w := x.2
theorem Up.cell {w : World} {q : Addr} {v : Value} (h : w.cell? q = some v) (x : Up w) : x.w.cell? q = some v := (x.b.cell (fm_sm h)).trans h
theorem Up.next {w w' : World} (x : Up w) (h : Below x.w.heap.size x.w w') : ∃ y : Up w, w' = y.w := ⟨⟨w', chain x.b h⟩, rfl⟩
theorem Up.start (w : World) : ∃ y : Up w, w = y.w := ⟨⟨w, Below.refl _ _⟩, rfl⟩
theorem list_of_quiet {P : Program} {ops : Array Oper} {C : World → Prop} {QQ : Act → Prop} {Q : Exit → Act → World → Prop} (hQ : ∀ a w, C w → QQ a → Q .normal a w) : ∀ (l : List Oper) (a : Act) (w : World), C w → wpQuiet P ops C QQ l a → wpList P ops Q l a w := by
  intro l
  induction l with
  | nil => intro a w hC h; exact hQ a w hC h
  | cons o rest ih =>
    intro a w hC h
    refine wpList_step fun K hK => ?_
    unfold wpQuiet at h
    by_cases hw : Region.wanted o (yielded ops a.tmps) = true
    · rw [if_pos hw] at h ⊢
      exact Oper.wp_of_quiet hC (fun a' w' hC' h' => hK a' w' (ih a' w' hC' h')) h
    · rw [if_neg hw] at h ⊢
      exact hK _ _ (ih _ w hC h)
theorem Calls.up {P : Program} {f : FuncId} {args : Array Value} {w : World} {x : Up w} {v : Value} (h : Calls P f args x.w fun e w' => e = .returned v ∧ Below x.w.heap.size x.w w') : Calls P f args x.w fun e w'' => e = .returned v ∧ ∃ y : Up w, w'' = y.w :=
  h.mono fun _ w' ⟨he, hb⟩ => ⟨he, ⟨w', chain x.b hb⟩, rfl⟩
theorem region_flat {P : Program} {Q : Exit → Act → World → Prop} {id : Nat} {a : Act} {w : World} {l : List Oper} (y : Up w)
    (h : wpQuiet P l.toArray (fun w' => ∃ x : Up w, w' = x.w) (fun a' => ∀ w', (∃ x : Up w, w' = x.w) → Q .normal a' w') l a) : (Code.region id l.toArray false).wp P Q a y.w :=
  wp_region_lit (list_of_quiet (fun a w' hC h => h w' hC) l a y.w ⟨y, rfl⟩ h)
theorem quiet_cut {P : Program} {ops : Array Oper} {C : World → Prop} {Q : Act → Prop} (J : Act → Prop) : ∀ (n : Nat) (l : List Oper) (a : Act), wpQuiet P ops C J (l.take n) a → (∀ a', J a' → wpQuiet P ops C Q (l.drop n) a') → wpQuiet P ops C Q l a := by
  intro n
  induction n with
  | zero => intro l a h1 h2; rw [List.take_zero] at h1; rw [List.drop_zero] at h2; exact h2 a h1
  | succ n ih =>
    intro l a h1 h2
    cases l with
    | nil => exact h2 a h1
    | cons o l =>
      unfold wpQuiet at h1 ⊢
      rw [List.take_succ_cons] at h1
      split
      · rename_i hw
        simp only [hw, if_true] at h1
        exact Oper.quiet_mono (fun a' h' => ih l a' h' h2) h1
      · rename_i hw
        simp only [hw] at h1
        exact ih l _ h1 h2
theorem rule_cells {w : World} {b0 b1 b2 b3 b4 b5 b6 b7 b8 b9 b10 b11 : Value} : ∀ (j : Nat) (u : Value), [b0, b1, b2, b3, b4, b5, b6, b7, b8, b9, b10, b11][j]? = some u → (w.alloc (.cells #[b0, b1, b2, b3, b4, b5, b6, b7, b8, b9, b10, b11] 52)).cell? ⟨w.heap.size, j, none⟩ = some u := by
  intro j u hu
  rw [cell_of_row _ w.heap.size j _ 52 (0, 0) (heap_alloc_new w _)]
  simpa using hu
end Go.Proofs.YtgdiadednlajgaaGreatDoor
namespace Go.Proofs.YtgdiadednlajgaaGreatDoor
open Go.RowKit
set_option linter.unusedVariables false
set_option linter.unusedSimpArgs false
def RuSl (w : World) (B : Nat) (r : Rl) (sb sn sp : Value) : Prop :=
  ∃ Ab nb cb An nn cn Ap np cp, sb = .slice Ab nb cb ∧ sn = .slice An nn cn ∧ sp = .slice Ap np cp ∧ nb ≤ cb ∧ nn ≤ cn ∧ np ≤ cp ∧ Rd w B 1 Ab nb (bv r.bs) ∧ Rd w B 1 An nn (sv r.names) ∧ Rd w B 1 Ap np (iv r.parts)
def Cells12 (w : World) (b o : Nat) (r : Rl) (sb sn sp : Value) : Prop :=
  w.cell? ⟨b, o, none⟩ = some (.string ⟨r.name.toArray⟩) ∧ w.cell? ⟨b, o + 1, none⟩ = some (.int .i64 r.kind) ∧ w.cell? ⟨b, o + 2, none⟩ = some sb ∧ w.cell? ⟨b, o + 3, none⟩ = some (.int .i64 r.size) ∧ w.cell? ⟨b, o + 4, none⟩ = some (.bool r.big) ∧ w.cell? ⟨b, o + 5, none⟩ = some (.int .i64 r.mn) ∧
  w.cell? ⟨b, o + 6, none⟩ = some (.int .i64 r.mx) ∧ w.cell? ⟨b, o + 7, none⟩ = some (.int .i64 r.stop) ∧ w.cell? ⟨b, o + 8, none⟩ = some (.int .i64 r.count) ∧ w.cell? ⟨b, o + 9, none⟩ = some (.int .i64 r.elem) ∧ w.cell? ⟨b, o + 10, none⟩ = some sn ∧ w.cell? ⟨b, o + 11, none⟩ = some sp
def RuIn (w : World) (B : Nat) (v : Value) (r : Rl) : Prop :=
  ∃ sb sn sp, v = .agg #[.string ⟨r.name.toArray⟩, .int .i64 r.kind, sb, .int .i64 r.size, .bool r.big, .int .i64 r.mn, .int .i64 r.mx, .int .i64 r.stop, .int .i64 r.count, .int .i64 r.elem, sn, sp] ∧ RuSl w B r sb sn sp
def FmIn (w : World) (B : Nat) (A : Option Addr) (n : Nat) (F : List Rl) : Prop :=
  F.length = n ∧ (0 < n → ∃ b o, A = some ⟨b, o, none⟩ ∧ b < B ∧ ∀ i r, F[i]? = some r → ∃ sb sn sp, Cells12 w b (o + i * 12) r sb sn sp ∧ RuSl w B r sb sn sp)
theorem RuSl.below {w w' : World} {B : Nat} {r : Rl} {sb sn sp : Value} (h : RuSl w B r sb sn sp) (hb : Below B w w') : RuSl w' B r sb sn sp := by
  obtain ⟨Ab, nb, cb, An, nn, cn, Ap, np, cp, h1, h2, h3, h4, h5, h6, h7, h8, h9⟩ := h
  exact ⟨Ab, nb, cb, An, nn, cn, Ap, np, cp, h1, h2, h3, h4, h5, h6, h7.below hb, h8.below hb, h9.below hb⟩
theorem RuSl.more {w : World} {B B' : Nat} {r : Rl} {sb sn sp : Value} (h : RuSl w B r sb sn sp) (hB : B ≤ B') : RuSl w B' r sb sn sp := by
  obtain ⟨Ab, nb, cb, An, nn, cn, Ap, np, cp, h1, h2, h3, h4, h5, h6, h7, h8, h9⟩ := h
  exact ⟨Ab, nb, cb, An, nn, cn, Ap, np, cp, h1, h2, h3, h4, h5, h6, h7.more hB, h8.more hB, h9.more hB⟩
theorem RuSl.on {w w' : World} {r : Rl} {sb sn sp : Value} (h : RuSl w w.heap.size r sb sn sp) (hb : Below w.heap.size w w') : RuSl w' w'.heap.size r sb sn sp := (h.below hb).more hb.size
theorem RuIn.on {w w' : World} {v : Value} {r : Rl} (h : RuIn w w.heap.size v r) (hb : Below w.heap.size w w') : RuIn w' w'.heap.size v r := by
  obtain ⟨sb, sn, sp, e, h⟩ := h
  exact ⟨sb, sn, sp, e, h.on hb⟩
theorem Cells12.below {w w' : World} {B b o : Nat} {r : Rl} {sb sn sp : Value} (h : Cells12 w b o r sb sn sp) (hb : Below B w w') (hB : b < B) : Cells12 w' b o r sb sn sp := by
  obtain ⟨h0, h1, h2, h3, h4, h5, h6, h7, h8, h9, h10, h11⟩ := h
  exact ⟨(hb.cell (by exact hB)).trans h0, (hb.cell (by exact hB)).trans h1, (hb.cell (by exact hB)).trans h2, (hb.cell (by exact hB)).trans h3, (hb.cell (by exact hB)).trans h4, (hb.cell (by exact hB)).trans h5, (hb.cell (by exact hB)).trans h6, (hb.cell (by exact hB)).trans h7, (hb.cell (by exact hB)).trans h8, (hb.cell (by exact hB)).trans h9, (hb.cell (by exact hB)).trans h10, (hb.cell (by exact hB)).trans h11⟩
theorem FmIn.on {w w' : World} {A : Option Addr} {n : Nat} {F : List Rl} (h : FmIn w w.heap.size A n F) (hb : Below w.heap.size w w') : FmIn w' w'.heap.size A n F :=
  ⟨h.1, fun h0 => by
    obtain ⟨b, o, e, hB, hc⟩ := h.2 h0
    refine ⟨b, o, e, Nat.lt_of_lt_of_le hB hb.size, fun i r hr => ?_⟩
    obtain ⟨sb, sn, sp, h1, h2⟩ := hc i r hr
    exact ⟨sb, sn, sp, h1.below hb hB, h2.on hb⟩⟩
theorem FmIn.at_ {w : World} {B : Nat} {A : Option Addr} {n i : Nat} {F : List Rl} (h : FmIn w B A n F) (hi : i < n) : ∃ b o r sb sn sp, A = some ⟨b, o, none⟩ ∧ b < B ∧ F[i]? = some r ∧ Cells12 w b (o + i * 12) r sb sn sp ∧ RuSl w B r sb sn sp := by
  obtain ⟨b, o, e, hB, hc⟩ := h.2 (by omega)
  have hlen : i < F.length := by rw [h.1]; exact hi
  have hr : F[i]? = some F[i] := List.getElem?_eq_getElem hlen
  obtain ⟨sb, sn, sp, h1, h2⟩ := hc i _ hr
  exact ⟨b, o, _, sb, sn, sp, e, hB, hr, h1, h2⟩
def findR (F : List Rl) (s : List UInt8) : Int := match F.findIdx? (fun r => r.name == s) with | some i => (i : Int) | none => -1
def FiEnd (F : List Rl) (s : List UInt8) (w : World) (e : Ending) (w' : World) : Prop := e = .returned (.int .i64 (findR F s)) ∧ Below w.heap.size w w'
def FiRel (F : List Rl) (s : List UInt8) (w : World) (k : Value) (wr : World) : Prop := ∃ i : Nat, i ≤ F.length ∧ k = .int .i64 (i : Int) ∧ (∀ j r, j < i → F[j]? = some r → ¬ r.name = s) ∧ Below w.heap.size w wr
theorem findR_yes {F : List Rl} {s : List UInt8} {i : Nat} {r : Rl} (h : F[i]? = some r) (hn : r.name = s) (hl : ∀ j r, j < i → F[j]? = some r → ¬ r.name = s) : findR F s = (i : Int) := by
  unfold findR
  have : F.findIdx? (fun r => r.name == s) = some i := by
    rw [List.findIdx?_eq_some_iff_getElem]
    obtain ⟨h1, h2⟩ := List.getElem?_eq_some_iff.1 h
    refine ⟨h1, by rw [h2]; simpa using hn, fun j hj => ?_⟩
    have hj' : F[j]? = some F[j] := List.getElem?_eq_getElem (by omega)
    simpa using hl j _ hj hj'
  rw [this]
theorem findR_no {F : List Rl} {s : List UInt8} (hl : ∀ j r, j < F.length → F[j]? = some r → ¬ r.name = s) : findR F s = -1 := by
  unfold findR
  have : F.findIdx? (fun r => r.name == s) = none := by
    rw [List.findIdx?_eq_none_iff]
    intro r hr
    obtain ⟨j, hj, e⟩ := List.mem_iff_getElem.1 hr
    have := hl j r hj (by rw [List.getElem?_eq_getElem hj, e])
    simpa using this
  rw [this]
theorem findOne_calls {a1 a2 a3 a4 a5 a6 a7 a8 a9 a10 a11 : Value} {y s : ByteArray} {g : Nat} (w : World) (hg : w.cell? ⟨g, 0, none⟩ = some (.string s)) :
    Calls Tryz.prog 113 #[.agg #[.string y, a1, a2, a3, a4, a5, a6, a7, a8, a9, a10, a11], .pointer (some ⟨g, 0, none⟩)] w fun e w' => e = .returned (.bool (y.toList == s.toList)) ∧ Below w.heap.size w w' := by
  have hg' := fun ob => cell_up (o := ob) hg
  go_enter Tryz.func113, Tryz.ntmps113
  go_wp2_with fail
  go_ret
  exact ⟨rfl, bel1 _ _⟩
theorem bytes_ext {y s : ByteArray} (h : y.data.toList = s.data.toList) : y = s := by
  obtain ⟨⟨l⟩⟩ := y
  obtain ⟨⟨m⟩⟩ := s
  simp at h
  rw [h]
set_option maxRecDepth 100000 in
set_option maxHeartbeats 1000000 in
theorem indexRules_calls {w : World} {A : Option Addr} {n c g : Nat} {F : List Rl} {s : ByteArray} (h : FmIn w w.heap.size A n F) (hn : n ≤ 1048576) (hg : w.cell? ⟨g, 0, none⟩ = some (.string s)) :
    Calls Tryz.prog 112 #[.slice A n c, .func (.func 113) #[] #[.pointer (some ⟨g, 0, none⟩)]] w (FiEnd F s.data.toList w) := by
  have HL := Lib.hid h.1
  have HR := Lib.hid h
  have HG := Lib.hid hg
  clear h hg
  go_enter Tryz.func112, Tryz.ntmps112
  go_wp2_with fail
  go_loopw [8] (FiRel F s.data.toList w) (fun k _ => n - (intOf k).toNat)
  case atStart => exact ⟨0, Nat.zero_le _, rfl, fun j r hj => absurd hj (by omega), Below.refl _ _⟩
  case round =>
    obtain ⟨i, hi, rfl, hf, hbw⟩ := hrel
    rw [HL.out] at hi
    have HF := Lib.hid hf
    have HB := Lib.hid hbw
    clear hf hbw
    by_cases hlt : i < n
    · obtain ⟨b, o, r, sb, sn, sp, rfl, hb, hr, hcs, hrl⟩ := HR.out.at_ hlt
      have HRR := Lib.hid hr
      obtain ⟨c0, c1, c2, c3, c4, c5, c6, c7, c8, c9, c10, c11⟩ := hcs.below HB.out hb
      have hli : (i : Int) < (n : Int) := by omega
      have h0 : (0 : Int) ≤ (i : Int) := by omega
      clear hr hcs hrl
      go_wp2_with fail
      refine (findOne_calls _ (Up.cell HG.out ⟨_, HB.out⟩)).mono ?_
      rintro e w2 ⟨rfl, hb2⟩
      have HB2 := Lib.hid (chain HB.out hb2)
      clear hb2 c0 c1 c2 c3 c4 c5 c6 c7 c8 c9 c10 c11
      by_cases hnm : r.name = s.data.toList
      · have hx : ((⟨r.name.toArray⟩ : ByteArray).toList == s.toList) = true := by
          rw [Lib.toList_data, Lib.toList_data]; simpa using hnm
        rw [hx]
        have HE := Lib.hid hnm
        clear hx hnm
        go_wp2_with fail
        go_ret
        exact ⟨by rw [findR_yes HRR.out HE.out HF.out]; rfl, HB2.out⟩
      · have hx : ((⟨r.name.toArray⟩ : ByteArray).toList == s.toList) = false := by
          rw [Lib.toList_data, Lib.toList_data]; simpa using hnm
        rw [hx]
        have HE := Lib.hid hnm
        clear hx hnm
        go_wp2_with fail
        go_roundw
        case rel => exact ⟨i + 1, by rw [HL.out]; omega, by go_num, fun j r' hj hr' => by
          by_cases hji : j = i
          · subst hji
            have := HRR.out
            rw [hr'] at this
            cases this
            exact HE.out
          · exact HF.out j r' (by omega) hr', HB2.out⟩
        case measure => simp [intOf]; omega
    · go_wp2_with fail
      go_ret
      exact ⟨by rw [findR_no (fun j r hj => HF.out j r (by rw [HL.out] at hj; omega))]; rfl, HB.out⟩
theorem find_rule_calls {w : World} {A : Option Addr} {n c : Nat} {F : List Rl} {s : ByteArray} (h : FmIn w w.heap.size A n F) (hn : n ≤ 1048576) :
    Calls Tryz.prog 84 #[.slice A n c, .string s] w (FiEnd F s.data.toList w) := by
  have HR := Lib.hid h
  clear h
  go_enter Tryz.func84, Tryz.ntmps84
  go_wp2_with fail
  refine (indexRules_calls (s := s) (g := w.heap.size) (HR.out.on (bel1 _ _)) hn (by simp)).mono ?_
  rintro e w' ⟨rfl, hb⟩
  go_wp2_with fail
  go_ret
  exact ⟨rfl, chain (bel1 _ _) hb⟩
end Go.Proofs.YtgdiadednlajgaaGreatDoor
namespace Go.Proofs.YtgdiadednlajgaaGreatDoor
open Go.RowKit
set_option linter.unusedVariables false
set_option linter.unusedSimpArgs false
section
variable {P : Program} {ops : Array Oper} {C : World → Prop} {Q : Act → Prop} {o : Oper} {rest : List Oper} {a : Act}
theorem q_skip (hw : Region.wanted o (yielded ops a.tmps) = false) (h : wpQuiet P ops C Q rest (a.put o.dst undef)) : wpQuiet P ops C Q (o :: rest) a := by
  unfold wpQuiet
  rw [hw]
  exact h
theorem q_val {v : Value} (hw : Region.wanted o (yielded ops a.tmps) = true) (hv : ∀ w, C w → (execOp a.eval o).run P w = .ok (.value v) w) (h : wpQuiet P ops C Q rest (a.put o.dst v)) : wpQuiet P ops C Q (o :: rest) a := by
  unfold wpQuiet
  rw [if_pos hw]
  exact ⟨v, fun w hC => by unfold Oper.quietAt; rw [hv w hC]; exact ⟨rfl, rfl⟩, h⟩
theorem q_call {f : FuncId} {args : Array Value} {v : Value} (hw : Region.wanted o (yielded ops a.tmps) = true) (hv : ∀ w, C w → (execOp a.eval o).run P w = .ok (.enter f args) w) (hc : ∀ w, C w → Calls P f args w fun e w'' => e = .returned v ∧ C w'') (h : wpQuiet P ops C Q rest (a.put o.dst v)) : wpQuiet P ops C Q (o :: rest) a := by
  unfold wpQuiet
  rw [if_pos hw]
  exact ⟨v, fun w hC => by unfold Oper.quietAt; rw [hv w hC]; exact ⟨rfl, hc w hC⟩, h⟩
theorem ex_move {ρ : Operand → Value} {x : Operand} {v : Value} (ho : o.op = .move x) (hx : ρ x = v) (w : World) : (execOp ρ o).run P w = .ok (.value (v)) w := by
  simp only [execOp, ho, hx]
  rfl
theorem q_move {x : Operand} {v : Value} (ho : o.op = .move x) (hw : Region.wanted o (yielded ops a.tmps) = true) (hx : a.eval x = v) (h : wpQuiet P ops C Q rest (a.put o.dst v)) : wpQuiet P ops C Q (o :: rest) a :=
  q_val hw (fun w _ => ex_move ho hx w) h
theorem ex_assign {ρ : Operand → Value} {x : Operand} {v : Value} (ho : o.op = .assign x) (hx : ρ x = v) (w : World) : (execOp ρ o).run P w = .ok (.value (v)) w := by
  simp only [execOp, ho, hx]
  rfl
theorem q_assign {x : Operand} {v : Value} (ho : o.op = .assign x) (hw : Region.wanted o (yielded ops a.tmps) = true) (hx : a.eval x = v) (h : wpQuiet P ops C Q rest (a.put o.dst v)) : wpQuiet P ops C Q (o :: rest) a :=
  q_val hw (fun w _ => ex_assign ho hx w) h
theorem ex_pick_yes {ρ : Operand → Value} {c x y : Operand} {v : Value} (ho : o.op = .pick c x y) (hc : ρ c = .bool true) (hx : ρ x = v) (w : World) : (execOp ρ o).run P w = .ok (.value (v)) w := by
  simp [execOp, ho, hx, hc, go_sem]
theorem q_pick_yes {c x y : Operand} {v : Value} (ho : o.op = .pick c x y) (hw : Region.wanted o (yielded ops a.tmps) = true) (hc : a.eval c = .bool true) (hx : a.eval x = v) (h : wpQuiet P ops C Q rest (a.put o.dst v)) : wpQuiet P ops C Q (o :: rest) a :=
  q_val hw (fun w _ => ex_pick_yes ho hc hx w) h
theorem ex_pick_no {ρ : Operand → Value} {c x y : Operand} {v : Value} (ho : o.op = .pick c x y) (hc : ρ c = .bool false) (hx : ρ y = v) (w : World) : (execOp ρ o).run P w = .ok (.value (v)) w := by
  simp [execOp, ho, hx, hc, go_sem]
theorem q_pick_no {c x y : Operand} {v : Value} (ho : o.op = .pick c x y) (hw : Region.wanted o (yielded ops a.tmps) = true) (hc : a.eval c = .bool false) (hx : a.eval y = v) (h : wpQuiet P ops C Q rest (a.put o.dst v)) : wpQuiet P ops C Q (o :: rest) a :=
  q_val hw (fun w _ => ex_pick_no ho hc hx w) h
theorem ex_not {ρ : Operand → Value} {x : Operand} {t : TypeId} {b b' : Bool} (ho : o.op = .unOp .not t x) (hx : ρ x = .bool b) (hb : (!b) = b') (w : World) : (execOp ρ o).run P w = .ok (.value ((.bool b'))) w := by
  subst hb
  simp [execOp, ho, hx, go_sem]
theorem q_not {x : Operand} {t : TypeId} {b b' : Bool} (ho : o.op = .unOp .not t x) (hw : Region.wanted o (yielded ops a.tmps) = true) (hx : a.eval x = .bool b) (hb : (!b) = b') (h : wpQuiet P ops C Q rest (a.put o.dst (.bool b'))) : wpQuiet P ops C Q (o :: rest) a :=
  q_val hw (fun w _ => ex_not ho hx hb w) h
theorem ex_eql {ρ : Operand → Value} {x y : Operand} {t t' : TypeId} {k : IntKind} {m n : Int} {b : Bool} (ho : o.op = .binOp .eql t x y t') (hx : ρ x = .int k m) (hy : ρ y = .int k n) (hb : (m == n) = b) (w : World) : (execOp ρ o).run P w = .ok (.value ((.bool b))) w := by
  subst hb
  simp [execOp, ho, hx, hy, go_sem]
theorem q_eql {x y : Operand} {t t' : TypeId} {k : IntKind} {m n : Int} {b : Bool} (ho : o.op = .binOp .eql t x y t') (hw : Region.wanted o (yielded ops a.tmps) = true) (hx : a.eval x = .int k m) (hy : a.eval y = .int k n) (hb : (m == n) = b) (h : wpQuiet P ops C Q rest (a.put o.dst (.bool b))) : wpQuiet P ops C Q (o :: rest) a :=
  q_val hw (fun w _ => ex_eql ho hx hy hb w) h
theorem ex_neq {ρ : Operand → Value} {x y : Operand} {t t' : TypeId} {k : IntKind} {m n : Int} {b : Bool} (ho : o.op = .binOp .neq t x y t') (hx : ρ x = .int k m) (hy : ρ y = .int k n) (hb : (m != n) = b) (w : World) : (execOp ρ o).run P w = .ok (.value ((.bool b))) w := by
  subst hb
  simp [execOp, ho, hx, hy, go_sem]
theorem ex_gtr {ρ : Operand → Value} {x y : Operand} {t t' : TypeId} {k : IntKind} {m n : Int} {b : Bool} (ho : o.op = .binOp .gtr t x y t') (hx : ρ x = .int k m) (hy : ρ y = .int k n) (hb : decide (n < m) = b) (w : World) : (execOp ρ o).run P w = .ok (.value ((.bool b))) w := by
  subst hb
  simp [execOp, ho, hx, hy, go_sem]
theorem ex_len {ρ : Operand → Value} {x : Operand} {t : TypeId} {A : Option Addr} {n c : Nat} (ho : o.op = .call { callee := .builtin .len, args := #[x], argTypes := #[t] }) (ht : ∃ e, P.underlying t = some (.slice e)) (hx : ρ x = .slice A n c) (w : World) : (execOp ρ o).run P w = .ok (.value ((.int .i64 (n : Int)))) w := by
  obtain ⟨e, he⟩ := ht
  simp [execOp, ho, hx, he, go_sem]
theorem q_len {x : Operand} {t : TypeId} {A : Option Addr} {n c : Nat} (ho : o.op = .call { callee := .builtin .len, args := #[x], argTypes := #[t] }) (ht : ∃ e, P.underlying t = some (.slice e)) (hw : Region.wanted o (yielded ops a.tmps) = true) (hx : a.eval x = .slice A n c) (h : wpQuiet P ops C Q rest (a.put o.dst (.int .i64 (n : Int)))) : wpQuiet P ops C Q (o :: rest) a :=
  q_val hw (fun w _ => ex_len ho ht hx w) h
end
section
variable {ops : Array Oper} {C : World → Prop} {Q : Act → Prop} {o : Oper} {rest : List Oper} {a : Act}
theorem ex_field {ρ : Operand → Value} {x : Operand} {b i : Nat} (ho : o.op = .fieldAddr 52 x i) (hi : i < 12) (hx : ρ x = .pointer (some ⟨b, 0, none⟩)) (w : World) : (execOp ρ o).run Tryz.prog w = .ok (.value ((.pointer (some ⟨b, i, none⟩)))) w := by
  rcases (show i = 0 ∨ i = 1 ∨ i = 2 ∨ i = 3 ∨ i = 4 ∨ i = 5 ∨ i = 6 ∨ i = 7 ∨ i = 8 ∨ i = 9 ∨ i = 10 ∨ i = 11 by omega) with rfl | rfl | rfl | rfl | rfl | rfl | rfl | rfl | rfl | rfl | rfl | rfl <;> simp [execOp, ho, hx, go_sem]
theorem q_field {x : Operand} {b i : Nat} (ho : o.op = .fieldAddr 52 x i) (hi : i < 12) (hw : Region.wanted o (yielded ops a.tmps) = true) (hx : a.eval x = .pointer (some ⟨b, 0, none⟩)) (h : wpQuiet Tryz.prog ops C Q rest (a.put o.dst (.pointer (some ⟨b, i, none⟩)))) : wpQuiet Tryz.prog ops C Q (o :: rest) a :=
  q_val hw (fun w _ => ex_field ho hi hx w) h
theorem ex_load_int {ρ : Operand → Value} {x : Operand} {p : Addr} {v : Value} (ho : o.op = .load 3 x) (hx : ρ x = .pointer (some p)) (w : World) (hc : w.cell? p = some v) : (execOp ρ o).run Tryz.prog w = .ok (.value v) w := by
  obtain ⟨b, n, s⟩ := p
  simp [execOp, ho, hx, hc, go_sem]
theorem q_load_int {x : Operand} {p : Addr} {v : Value} (ho : o.op = .load 3 x) (hw : Region.wanted o (yielded ops a.tmps) = true) (hx : a.eval x = .pointer (some p)) (hc : ∀ w, C w → w.cell? p = some v) (h : wpQuiet Tryz.prog ops C Q rest (a.put o.dst v)) : wpQuiet Tryz.prog ops C Q (o :: rest) a :=
  q_val hw (fun w hC => ex_load_int ho hx w (hc w hC)) h
theorem ex_load_bool {ρ : Operand → Value} {x : Operand} {p : Addr} {v : Value} (ho : o.op = .load 4 x) (hx : ρ x = .pointer (some p)) (w : World) (hc : w.cell? p = some v) : (execOp ρ o).run Tryz.prog w = .ok (.value v) w := by
  obtain ⟨b, n, s⟩ := p
  simp [execOp, ho, hx, hc, go_sem]
theorem q_load_bool {x : Operand} {p : Addr} {v : Value} (ho : o.op = .load 4 x) (hw : Region.wanted o (yielded ops a.tmps) = true) (hx : a.eval x = .pointer (some p)) (hc : ∀ w, C w → w.cell? p = some v) (h : wpQuiet Tryz.prog ops C Q rest (a.put o.dst v)) : wpQuiet Tryz.prog ops C Q (o :: rest) a :=
  q_val hw (fun w hC => ex_load_bool ho hx w (hc w hC)) h
theorem ex_load_bytes {ρ : Operand → Value} {x : Operand} {p : Addr} {v : Value} (ho : o.op = .load 49 x) (hx : ρ x = .pointer (some p)) (w : World) (hc : w.cell? p = some v) : (execOp ρ o).run Tryz.prog w = .ok (.value v) w := by
  obtain ⟨b, n, s⟩ := p
  simp [execOp, ho, hx, hc, go_sem]
theorem q_load_bytes {x : Operand} {p : Addr} {v : Value} (ho : o.op = .load 49 x) (hw : Region.wanted o (yielded ops a.tmps) = true) (hx : a.eval x = .pointer (some p)) (hc : ∀ w, C w → w.cell? p = some v) (h : wpQuiet Tryz.prog ops C Q rest (a.put o.dst v)) : wpQuiet Tryz.prog ops C Q (o :: rest) a :=
  q_val hw (fun w hC => ex_load_bytes ho hx w (hc w hC)) h
theorem ex_load_strings {ρ : Operand → Value} {x : Operand} {p : Addr} {v : Value} (ho : o.op = .load 50 x) (hx : ρ x = .pointer (some p)) (w : World) (hc : w.cell? p = some v) : (execOp ρ o).run Tryz.prog w = .ok (.value v) w := by
  obtain ⟨b, n, s⟩ := p
  simp [execOp, ho, hx, hc, go_sem]
theorem q_load_strings {x : Operand} {p : Addr} {v : Value} (ho : o.op = .load 50 x) (hw : Region.wanted o (yielded ops a.tmps) = true) (hx : a.eval x = .pointer (some p)) (hc : ∀ w, C w → w.cell? p = some v) (h : wpQuiet Tryz.prog ops C Q rest (a.put o.dst v)) : wpQuiet Tryz.prog ops C Q (o :: rest) a :=
  q_val hw (fun w hC => ex_load_strings ho hx w (hc w hC)) h
theorem ex_load_ints {ρ : Operand → Value} {x : Operand} {p : Addr} {v : Value} (ho : o.op = .load 30 x) (hx : ρ x = .pointer (some p)) (w : World) (hc : w.cell? p = some v) : (execOp ρ o).run Tryz.prog w = .ok (.value v) w := by
  obtain ⟨b, n, s⟩ := p
  simp [execOp, ho, hx, hc, go_sem]
theorem q_load_ints {x : Operand} {p : Addr} {v : Value} (ho : o.op = .load 30 x) (hw : Region.wanted o (yielded ops a.tmps) = true) (hx : a.eval x = .pointer (some p)) (hc : ∀ w, C w → w.cell? p = some v) (h : wpQuiet Tryz.prog ops C Q rest (a.put o.dst v)) : wpQuiet Tryz.prog ops C Q (o :: rest) a :=
  q_val hw (fun w hC => ex_load_ints ho hx w (hc w hC)) h
theorem ex_load_rule {ρ : Operand → Value} {x : Operand} {b : Nat} {v0 v1 v2 v3 v4 v5 v6 v7 v8 v9 v10 v11 : Value} (ho : o.op = .load 52 x) (hx : ρ x = .pointer (some ⟨b, 0, none⟩)) (w : World) (h0 : w.cell? ⟨b, 0, none⟩ = some v0) (h1 : w.cell? ⟨b, 1, none⟩ = some v1) (h2 : w.cell? ⟨b, 2, none⟩ = some v2) (h3 : w.cell? ⟨b, 3, none⟩ = some v3) (h4 : w.cell? ⟨b, 4, none⟩ = some v4) (h5 : w.cell? ⟨b, 5, none⟩ = some v5) (h6 : w.cell? ⟨b, 6, none⟩ = some v6) (h7 : w.cell? ⟨b, 7, none⟩ = some v7) (h8 : w.cell? ⟨b, 8, none⟩ = some v8) (h9 : w.cell? ⟨b, 9, none⟩ = some v9) (h10 : w.cell? ⟨b, 10, none⟩ = some v10) (h11 : w.cell? ⟨b, 11, none⟩ = some v11) :
    (execOp ρ o).run Tryz.prog w = .ok (.value (.agg #[v0, v1, v2, v3, v4, v5, v6, v7, v8, v9, v10, v11])) w := by
  simp [execOp, ho, hx, h0, h1, h2, h3, h4, h5, h6, h7, h8, h9, h10, h11, go_sem]
def RuVar (C : World → Prop) (b : Nat) (v0 v1 v2 v3 v4 v5 v6 v7 v8 v9 v10 v11 : Value) : Prop := ∀ w, C w → ∀ (j : Nat) (u : Value), [v0, v1, v2, v3, v4, v5, v6, v7, v8, v9, v10, v11][j]? = some u → w.cell? ⟨b, j, none⟩ = some u
theorem q_load_rule {x : Operand} {b : Nat} {v0 v1 v2 v3 v4 v5 v6 v7 v8 v9 v10 v11 : Value} (hr : RuVar C b v0 v1 v2 v3 v4 v5 v6 v7 v8 v9 v10 v11) (ho : o.op = .load 52 x) (hw : Region.wanted o (yielded ops a.tmps) = true) (hx : a.eval x = .pointer (some ⟨b, 0, none⟩)) (h : wpQuiet Tryz.prog ops C Q rest (a.put o.dst (.agg #[v0, v1, v2, v3, v4, v5, v6, v7, v8, v9, v10, v11]))) : wpQuiet Tryz.prog ops C Q (o :: rest) a :=
  q_val hw (fun w hC => ex_load_rule ho hx w (hr w hC 0 _ rfl) (hr w hC 1 _ rfl) (hr w hC 2 _ rfl) (hr w hC 3 _ rfl) (hr w hC 4 _ rfl) (hr w hC 5 _ rfl) (hr w hC 6 _ rfl) (hr w hC 7 _ rfl) (hr w hC 8 _ rfl) (hr w hC 9 _ rfl) (hr w hC 10 _ rfl) (hr w hC 11 _ rfl)) h
theorem q_rule_int {x : Operand} {b i : Nat} {v : Value} {v0 v1 v2 v3 v4 v5 v6 v7 v8 v9 v10 v11 : Value} (hr : RuVar C b v0 v1 v2 v3 v4 v5 v6 v7 v8 v9 v10 v11) (ho : o.op = .load 3 x) (hw : Region.wanted o (yielded ops a.tmps) = true) (hx : a.eval x = .pointer (some ⟨b, i, none⟩)) (hv : [v0, v1, v2, v3, v4, v5, v6, v7, v8, v9, v10, v11][i]? = some v) (h : wpQuiet Tryz.prog ops C Q rest (a.put o.dst v)) : wpQuiet Tryz.prog ops C Q (o :: rest) a :=
  q_load_int ho hw hx (fun w hC => hr w hC i v hv) h
theorem q_rule_bool {x : Operand} {b i : Nat} {v : Value} {v0 v1 v2 v3 v4 v5 v6 v7 v8 v9 v10 v11 : Value} (hr : RuVar C b v0 v1 v2 v3 v4 v5 v6 v7 v8 v9 v10 v11) (ho : o.op = .load 4 x) (hw : Region.wanted o (yielded ops a.tmps) = true) (hx : a.eval x = .pointer (some ⟨b, i, none⟩)) (hv : [v0, v1, v2, v3, v4, v5, v6, v7, v8, v9, v10, v11][i]? = some v) (h : wpQuiet Tryz.prog ops C Q rest (a.put o.dst v)) : wpQuiet Tryz.prog ops C Q (o :: rest) a :=
  q_load_bool ho hw hx (fun w hC => hr w hC i v hv) h
theorem q_rule_bytes {x : Operand} {b i : Nat} {v : Value} {v0 v1 v2 v3 v4 v5 v6 v7 v8 v9 v10 v11 : Value} (hr : RuVar C b v0 v1 v2 v3 v4 v5 v6 v7 v8 v9 v10 v11) (ho : o.op = .load 49 x) (hw : Region.wanted o (yielded ops a.tmps) = true) (hx : a.eval x = .pointer (some ⟨b, i, none⟩)) (hv : [v0, v1, v2, v3, v4, v5, v6, v7, v8, v9, v10, v11][i]? = some v) (h : wpQuiet Tryz.prog ops C Q rest (a.put o.dst v)) : wpQuiet Tryz.prog ops C Q (o :: rest) a :=
  q_load_bytes ho hw hx (fun w hC => hr w hC i v hv) h
theorem q_rule_strings {x : Operand} {b i : Nat} {v : Value} {v0 v1 v2 v3 v4 v5 v6 v7 v8 v9 v10 v11 : Value} (hr : RuVar C b v0 v1 v2 v3 v4 v5 v6 v7 v8 v9 v10 v11) (ho : o.op = .load 50 x) (hw : Region.wanted o (yielded ops a.tmps) = true) (hx : a.eval x = .pointer (some ⟨b, i, none⟩)) (hv : [v0, v1, v2, v3, v4, v5, v6, v7, v8, v9, v10, v11][i]? = some v) (h : wpQuiet Tryz.prog ops C Q rest (a.put o.dst v)) : wpQuiet Tryz.prog ops C Q (o :: rest) a :=
  q_load_strings ho hw hx (fun w hC => hr w hC i v hv) h
theorem q_rule_ints {x : Operand} {b i : Nat} {v : Value} {v0 v1 v2 v3 v4 v5 v6 v7 v8 v9 v10 v11 : Value} (hr : RuVar C b v0 v1 v2 v3 v4 v5 v6 v7 v8 v9 v10 v11) (ho : o.op = .load 30 x) (hw : Region.wanted o (yielded ops a.tmps) = true) (hx : a.eval x = .pointer (some ⟨b, i, none⟩)) (hv : [v0, v1, v2, v3, v4, v5, v6, v7, v8, v9, v10, v11][i]? = some v) (h : wpQuiet Tryz.prog ops C Q rest (a.put o.dst v)) : wpQuiet Tryz.prog ops C Q (o :: rest) a :=
  q_load_ints ho hw hx (fun w hC => hr w hC i v hv) h
theorem q_fun {f : FuncId} {x : Array Operand} {ts : Array TypeId} {v : Value} (ho : o.op = .call { callee := .value (.func f), args := x, argTypes := ts }) (he : ∀ (args : Array Value) (w : World), (callFunc f args).run Tryz.prog w = .ok (.enter f args) w) (hw : Region.wanted o (yielded ops a.tmps) = true) (args : Array Value) (hx : x.map a.eval = args) (hc : ∀ w, C w → Calls Tryz.prog f args w fun e w'' => e = .returned v ∧ C w'') (h : wpQuiet Tryz.prog ops C Q rest (a.put o.dst v)) : wpQuiet Tryz.prog ops C Q (o :: rest) a :=
  q_call hw (fun w _ => by
    revert hx
    generalize hρ : a.eval = ρ
    have hf : ρ (.func f) = .func (.func f) #[] #[] := by rw [← hρ]; rfl
    intro hx
    subst hx
    simp [execOp, ho, hf, he, go_sem]) hc h
end
end Go.Proofs.YtgdiadednlajgaaGreatDoor
namespace Go.Proofs.YtgdiadednlajgaaGreatDoor
open Go.RowKit
set_option linter.unusedVariables false
set_option linter.unusedSimpArgs false
abbrev Env := List (Nat × Value)
structure Ag (N : Nat) (E : Env) (a : Act) : Prop where
  sz : a.tmps.size = N
  df : a.defers = []
  has : ∀ i v, E.lookup i = some v → a.tmps[i]? = some v
theorem Ag.nil {a : Act} {N : Nat} (h : a.tmps.size = N) (hd : a.defers = []) : Ag N [] a := ⟨h, hd, fun i v h => by cases h⟩
theorem Ag.cons {a : Act} {N i : Nat} {E : Env} {v : Value} (h : Ag N E a) (hv : a.tmps[i]? = some v) : Ag N ((i, v) :: E) a :=
  ⟨h.sz, h.df, fun j u hu => by
    rw [List.lookup_cons] at hu
    split at hu
    · next hj =>
      cases hu
      rw [beq_iff_eq] at hj
      rw [hj]; exact hv
    · exact h.has j u hu⟩
theorem Ag.put {a : Act} {N d : Nat} {E : Env} (h : Ag N E a) (v : Value) (hd : d < N) : Ag N ((d, v) :: E) (a.put (some d) v) := by
  refine ⟨by show (a.tmps.setIfInBounds d v).size = N; rw [Array.size_setIfInBounds]; exact h.sz, h.df, fun j u hu => ?_⟩
  show (a.tmps.setIfInBounds d v)[j]? = some u
  rw [List.lookup_cons] at hu
  split at hu
  · next hj =>
    cases hu
    rw [beq_iff_eq] at hj
    subst hj
    rw [Array.getElem?_setIfInBounds]
    simp [h.sz, hd]
  · next hj =>
    have hne : ¬ j = d := by simpa using hj
    rw [Array.getElem?_setIfInBounds, if_neg (fun e => hne e.symm)]
    exact h.has j u hu
def ev (E : Env) : Operand → Option Value
  | .tmp i => E.lookup i
  | .const v => some v
  | _ => none
theorem Ag.eval {a : Act} {N : Nat} {E : Env} {x : Operand} {v : Value} (h : Ag N E a) (hx : ev E x = some v) : a.eval x = v := by
  cases x with
  | tmp i =>
    show a.tmps.getD i undef = v
    rw [Array.getD_eq_getD_getElem?, h.has i v hx]
    rfl
  | const u => cases hx; rfl
  | global g => cases hx
  | func f => cases hx
def wantE (ops : Array Oper) (E : Env) (o : Oper) : Option Bool :=
  match o.guard with
  | none => some true
  | some (j, b) => match (ops[j]?).bind (·.dst) with
    | some s => match E.lookup s with
      | some (.bool c) => some (c == b)
      | some (.tuple _) => some false
      | _ => none
    | none => none
theorem Ag.want {a : Act} {N : Nat} {E : Env} {ops : Array Oper} {o : Oper} {b : Bool} (h : Ag N E a) (hw : wantE ops E o = some b) : Region.wanted o (yielded ops a.tmps) = b := by
  unfold wantE at hw
  unfold Region.wanted
  cases hg : o.guard with
  | none => rw [hg] at hw; cases hw; rfl
  | some p =>
    obtain ⟨j, c⟩ := p
    rw [hg] at hw
    simp only at hw ⊢
    split at hw
    · next s hs =>
      split at hw
      · next u hu =>
        have := h.has s _ hu
        unfold yielded
        rw [hs]
        simp only [Option.bind_some, this]
        cases hw
        cases u <;> cases c <;> rfl
      · next u hu =>
        have := h.has s _ hu
        unfold yielded
        rw [hs]
        simp only [Option.bind_some, this]
        cases hw
        rfl
      · cases hw
    · cases hw
section
variable {P : Program} {ops : Array Oper} {C : World → Prop} {Q : Act → Prop} {N : Nat} {E : Env} {o : Oper} {rest : List Oper} {d : Nat}
def qE (P : Program) (ops : Array Oper) (C : World → Prop) (Q : Act → Prop) (N : Nat) (E : Env) (l : List Oper) : Prop := ∀ a, Ag N E a → wpQuiet P ops C Q l a
theorem qE.start {a : Act} {l : List Oper} (h : qE P ops C Q N E l) (ha : Ag N E a) : wpQuiet P ops C Q l a := h a ha
theorem qE.nil (h : ∀ a, Ag N E a → Q a) : qE P ops C Q N E [] := fun a ha => wpQuiet_nil (h a ha)
theorem qE.cut (E' : Env) (n : Nat) {l : List Oper} (h1 : qE P ops C (fun a => Ag N E' a) N E (l.take n)) (h2 : qE P ops C Q N E' (l.drop n)) : qE P ops C Q N E l := fun a ha =>
  quiet_cut (fun a' => Ag N E' a') n l a (h1 a ha) (fun a' ha' => h2 a' ha')
theorem Ag.at_ {a : Act} {i : Nat} {v : Value} (h : Ag N E a) (hi : E.lookup i = some v) : a.tmps[i]? = some v := h.has i v hi
theorem e_skip (hd : o.dst = some d) (hN : d < N) (hw : wantE ops E o = some false) (h : qE P ops C Q N ((d, undef) :: E) rest) : qE P ops C Q N E (o :: rest) := fun a ha =>
  q_skip (ha.want hw) (h _ (by rw [hd]; exact ha.put _ hN))
theorem e_move {x : Operand} {v : Value} (ho : o.op = .move x) (hd : o.dst = some d) (hN : d < N) (hw : wantE ops E o = some true) (hx : ev E x = some v) (h : qE P ops C Q N ((d, v) :: E) rest) : qE P ops C Q N E (o :: rest) := fun a ha =>
  q_move ho (ha.want hw) (ha.eval hx) (h _ (by rw [hd]; exact ha.put _ hN))
theorem e_assign {x : Operand} {v : Value} (ho : o.op = .assign x) (hd : o.dst = some d) (hN : d < N) (hw : wantE ops E o = some true) (hx : ev E x = some v) (h : qE P ops C Q N ((d, v) :: E) rest) : qE P ops C Q N E (o :: rest) := fun a ha =>
  q_assign ho (ha.want hw) (ha.eval hx) (h _ (by rw [hd]; exact ha.put _ hN))
theorem e_pick_yes {c x y : Operand} {v : Value} (ho : o.op = .pick c x y) (hd : o.dst = some d) (hN : d < N) (hw : wantE ops E o = some true) (hc : ev E c = some (.bool true)) (hx : ev E x = some v) (h : qE P ops C Q N ((d, v) :: E) rest) : qE P ops C Q N E (o :: rest) := fun a ha =>
  q_pick_yes ho (ha.want hw) (ha.eval hc) (ha.eval hx) (h _ (by rw [hd]; exact ha.put _ hN))
theorem e_pick_no {c x y : Operand} {v : Value} (ho : o.op = .pick c x y) (hd : o.dst = some d) (hN : d < N) (hw : wantE ops E o = some true) (hc : ev E c = some (.bool false)) (hx : ev E y = some v) (h : qE P ops C Q N ((d, v) :: E) rest) : qE P ops C Q N E (o :: rest) := fun a ha =>
  q_pick_no ho (ha.want hw) (ha.eval hc) (ha.eval hx) (h _ (by rw [hd]; exact ha.put _ hN))
theorem e_not {x : Operand} {t : TypeId} {b : Bool} (ho : o.op = .unOp .not t x) (hd : o.dst = some d) (hN : d < N) (hw : wantE ops E o = some true) (hx : ev E x = some (.bool b)) (h : qE P ops C Q N ((d, .bool (!b)) :: E) rest) : qE P ops C Q N E (o :: rest) := fun a ha =>
  q_not ho (ha.want hw) (ha.eval hx) rfl (h _ (by rw [hd]; exact ha.put _ hN))
theorem e_eql {x y : Operand} {t t' : TypeId} {k : IntKind} {m n : Int} {b : Bool} (ho : o.op = .binOp .eql t x y t') (hd : o.dst = some d) (hN : d < N) (hw : wantE ops E o = some true) (hx : ev E x = some (.int k m)) (hy : ev E y = some (.int k n)) (hb : (m == n) = b) (h : qE P ops C Q N ((d, .bool b) :: E) rest) : qE P ops C Q N E (o :: rest) := fun a ha =>
  q_eql ho (ha.want hw) (ha.eval hx) (ha.eval hy) hb (h _ (by rw [hd]; exact ha.put _ hN))
theorem e_len {x : Operand} {t e : TypeId} {A : Option Addr} {n c : Nat} (ho : o.op = .call { callee := .builtin .len, args := #[x], argTypes := #[t] }) (ht : P.underlying t = some (.slice e)) (hd : o.dst = some d) (hN : d < N) (hw : wantE ops E o = some true) (hx : ev E x = some (.slice A n c)) (h : qE P ops C Q N ((d, .int .i64 (n : Int)) :: E) rest) : qE P ops C Q N E (o :: rest) := fun a ha =>
  q_len ho ⟨e, ht⟩ (ha.want hw) (ha.eval hx) (h _ (by rw [hd]; exact ha.put _ hN))
end
section
variable {ops : Array Oper} {C : World → Prop} {Q : Act → Prop} {N : Nat} {E : Env} {o : Oper} {rest : List Oper} {d : Nat}
theorem e_field {x : Operand} {b i : Nat} (ho : o.op = .fieldAddr 52 x i) (hi : i < 12) (hd : o.dst = some d) (hN : d < N) (hw : wantE ops E o = some true) (hx : ev E x = some (.pointer (some ⟨b, 0, none⟩))) (h : qE Tryz.prog ops C Q N ((d, .pointer (some ⟨b, i, none⟩)) :: E) rest) : qE Tryz.prog ops C Q N E (o :: rest) := fun a ha =>
  q_field ho hi (ha.want hw) (ha.eval hx) (h _ (by rw [hd]; exact ha.put _ hN))
theorem e_load_rule {x : Operand} {b : Nat} {v0 v1 v2 v3 v4 v5 v6 v7 v8 v9 v10 v11 : Value} (hr : RuVar C b v0 v1 v2 v3 v4 v5 v6 v7 v8 v9 v10 v11) (ho : o.op = .load 52 x) (hd : o.dst = some d) (hN : d < N) (hw : wantE ops E o = some true) (hx : ev E x = some (.pointer (some ⟨b, 0, none⟩))) (h : qE Tryz.prog ops C Q N ((d, .agg #[v0, v1, v2, v3, v4, v5, v6, v7, v8, v9, v10, v11]) :: E) rest) : qE Tryz.prog ops C Q N E (o :: rest) := fun a ha =>
  q_load_rule hr ho (ha.want hw) (ha.eval hx) (h _ (by rw [hd]; exact ha.put _ hN))
theorem e_rule_int {x : Operand} {b i : Nat} {v v0 v1 v2 v3 v4 v5 v6 v7 v8 v9 v10 v11 : Value} (hr : RuVar C b v0 v1 v2 v3 v4 v5 v6 v7 v8 v9 v10 v11) (ho : o.op = .load 3 x) (hd : o.dst = some d) (hN : d < N) (hw : wantE ops E o = some true) (hx : ev E x = some (.pointer (some ⟨b, i, none⟩))) (hv : [v0, v1, v2, v3, v4, v5, v6, v7, v8, v9, v10, v11][i]? = some v) (h : qE Tryz.prog ops C Q N ((d, v) :: E) rest) : qE Tryz.prog ops C Q N E (o :: rest) := fun a ha =>
  q_rule_int hr ho (ha.want hw) (ha.eval hx) hv (h _ (by rw [hd]; exact ha.put _ hN))
theorem e_rule_bool {x : Operand} {b i : Nat} {v v0 v1 v2 v3 v4 v5 v6 v7 v8 v9 v10 v11 : Value} (hr : RuVar C b v0 v1 v2 v3 v4 v5 v6 v7 v8 v9 v10 v11) (ho : o.op = .load 4 x) (hd : o.dst = some d) (hN : d < N) (hw : wantE ops E o = some true) (hx : ev E x = some (.pointer (some ⟨b, i, none⟩))) (hv : [v0, v1, v2, v3, v4, v5, v6, v7, v8, v9, v10, v11][i]? = some v) (h : qE Tryz.prog ops C Q N ((d, v) :: E) rest) : qE Tryz.prog ops C Q N E (o :: rest) := fun a ha =>
  q_rule_bool hr ho (ha.want hw) (ha.eval hx) hv (h _ (by rw [hd]; exact ha.put _ hN))
theorem e_rule_bytes {x : Operand} {b i : Nat} {v v0 v1 v2 v3 v4 v5 v6 v7 v8 v9 v10 v11 : Value} (hr : RuVar C b v0 v1 v2 v3 v4 v5 v6 v7 v8 v9 v10 v11) (ho : o.op = .load 49 x) (hd : o.dst = some d) (hN : d < N) (hw : wantE ops E o = some true) (hx : ev E x = some (.pointer (some ⟨b, i, none⟩))) (hv : [v0, v1, v2, v3, v4, v5, v6, v7, v8, v9, v10, v11][i]? = some v) (h : qE Tryz.prog ops C Q N ((d, v) :: E) rest) : qE Tryz.prog ops C Q N E (o :: rest) := fun a ha =>
  q_rule_bytes hr ho (ha.want hw) (ha.eval hx) hv (h _ (by rw [hd]; exact ha.put _ hN))
theorem e_rule_strings {x : Operand} {b i : Nat} {v v0 v1 v2 v3 v4 v5 v6 v7 v8 v9 v10 v11 : Value} (hr : RuVar C b v0 v1 v2 v3 v4 v5 v6 v7 v8 v9 v10 v11) (ho : o.op = .load 50 x) (hd : o.dst = some d) (hN : d < N) (hw : wantE ops E o = some true) (hx : ev E x = some (.pointer (some ⟨b, i, none⟩))) (hv : [v0, v1, v2, v3, v4, v5, v6, v7, v8, v9, v10, v11][i]? = some v) (h : qE Tryz.prog ops C Q N ((d, v) :: E) rest) : qE Tryz.prog ops C Q N E (o :: rest) := fun a ha =>
  q_rule_strings hr ho (ha.want hw) (ha.eval hx) hv (h _ (by rw [hd]; exact ha.put _ hN))
theorem e_rule_ints {x : Operand} {b i : Nat} {v v0 v1 v2 v3 v4 v5 v6 v7 v8 v9 v10 v11 : Value} (hr : RuVar C b v0 v1 v2 v3 v4 v5 v6 v7 v8 v9 v10 v11) (ho : o.op = .load 30 x) (hd : o.dst = some d) (hN : d < N) (hw : wantE ops E o = some true) (hx : ev E x = some (.pointer (some ⟨b, i, none⟩))) (hv : [v0, v1, v2, v3, v4, v5, v6, v7, v8, v9, v10, v11][i]? = some v) (h : qE Tryz.prog ops C Q N ((d, v) :: E) rest) : qE Tryz.prog ops C Q N E (o :: rest) := fun a ha =>
  q_rule_ints hr ho (ha.want hw) (ha.eval hx) hv (h _ (by rw [hd]; exact ha.put _ hN))
theorem e_fun1 {f : FuncId} {x : Operand} {ts : Array TypeId} {u v : Value} (ho : o.op = .call { callee := .value (.func f), args := #[x], argTypes := ts }) (he : ∀ (args : Array Value) (w : World), (callFunc f args).run Tryz.prog w = .ok (.enter f args) w) (hd : o.dst = some d) (hN : d < N) (hw : wantE ops E o = some true) (hx : ev E x = some u) (hc : ∀ w, C w → Calls Tryz.prog f #[u] w fun e w'' => e = .returned v ∧ C w'') (h : qE Tryz.prog ops C Q N ((d, v) :: E) rest) : qE Tryz.prog ops C Q N E (o :: rest) := fun a ha =>
  q_fun ho he (ha.want hw) #[u] (by simp [ha.eval hx]) hc (h _ (by rw [hd]; exact ha.put _ hN))
end
end Go.Proofs.YtgdiadednlajgaaGreatDoor
namespace Go.Proofs.YtgdiadednlajgaaGreatDoor
open Go.RowKit
set_option linter.unusedVariables false
set_option linter.unusedSimpArgs false
section
variable {P : Program} {W : World} {Q Q0 : Exit → Act → World → Prop} {N : Nat} {E : Env}
def cE (P : Program) (W : World) (Q : Exit → Act → World → Prop) (N : Nat) (E : Env) (c : Code) : Prop := ∀ a, Ag N E a → ∀ x : Up W, c.wp P Q a x.w
theorem cE.go {a : Act} {c : Code} (h : cE P W Q N E c) (ha : Ag N E a) (x : Up W) : c.wp P Q a x.w := h a ha x
end
end Go.Proofs.YtgdiadednlajgaaGreatDoor
namespace Go.Proofs.YtgdiadednlajgaaGreatDoor
open Go.RowKit
set_option linter.unusedVariables false
set_option linter.unusedSimpArgs false
section
variable {P : Program} (w : World)
theorem run_appG {t e : TypeId} {size bytes : Nat} (hT : SlT P t e size bytes) (ty : TypeId) (base : Nat) (A : Option Addr) (n c : Nat) (xs : List Value) (hown : w.ownsRow base e size (.slice A n c) n xs)
    (B : Nat) (A2 : Option Addr) (m c2 : Nat) (news : List Value) (hr : Rd w B size A2 m news) (h1 : ∀ u ∈ news, u.oneCell' = true) (hbytes : (n + m) * bytes ≤ 140737488355328) (hbase : base ≤ w.heap.size) :
    ∃ A' c' w', (Builtin.append_ #[t, t] ty #[.slice A n c, .slice A2 m c2]).run P w = .ok (.slice A' (n + m) c') w' ∧ w'.ownsRow base e size (.slice A' (n + m) c') (n + m) (xs ++ news) ∧ w.grownBy w' (Value.slice A n c).ownBlock ∧ Below base w w' := by
  obtain ⟨i, z, hi, hz, hs, hby, hzs⟩ := hT.info
  have h63 : n + m ≤ maxLen := by
    have h := Nat.le_trans (Nat.le_mul_of_pos_right (n + m) hT.bpos) hbytes
    simp only [maxLen]
    omega
  have hfar : ∀ k, (Value.slice A n c).ownBlock = some k → base ≤ k := fun k hk => (hown.lt k hk).1
  rcases A2 with _ | ad
  · have hm : m = 0 := by
      rcases Nat.eq_zero_or_pos m with h0 | h0
      · exact h0
      · obtain ⟨b, o, h, _⟩ := hr.2 h0
        cases h
    subst hm
    have hn := hr.empty
    subst hn
    refine ⟨A, c, w, ?_, by simpa using hown, World.grownBy.refl _ _, Below.refl _ _⟩
    rcases hown.2 with ⟨hv, rfl⟩ | ⟨g, cap, cur, hv, _, _, hnc, _⟩
    · simp only [Value.slice.injEq] at hv
      obtain ⟨rfl, _, rfl⟩ := hv
      simp [Builtin.append_, run_underlying hT.und, sizeOf, typeInfo, hi, Builtin.lenOf, Builtin.firstCells]
    · simp only [Value.slice.injEq] at hv
      obtain ⟨rfl, _, rfl⟩ := hv
      simp [Builtin.append_, run_underlying hT.und, sizeOf, typeInfo, hi, Builtin.lenOf, Builtin.firstCells, hnc, storeCells]
  · have hcells : ∀ j u, news[j]? = some u → w.cell? (ad.add j) = some u := by
      intro j u hu
      rcases Nat.eq_zero_or_pos m with h0 | h0
      · subst h0
        have hn := hr.empty
        subst hn
        simp at hu
      · obtain ⟨b, o, h, _, hc⟩ := hr.2 h0
        injection h with h
        subst h
        have e : (⟨b, o, none⟩ : Addr).add j = ⟨b, o + j, none⟩ := by unfold Addr.add; split <;> simp_all
        rw [e]
        exact hc j u hu
    obtain ⟨v', w', hrun, h2, h3, _⟩ := run_append_own (P := P) w base t ty e i z size bytes hT.und hi hz hs hby hzs hT.pos _ n xs hown ad m c2 news hr.1 hcells h1 h63 hbytes hbase
    obtain ⟨A', c', rfl⟩ := own_shape h2
    exact ⟨A', c', w', hrun, h2, h3, (Below.refl _ _).grown h3 hbase hfar⟩
end
end Go.Proofs.YtgdiadednlajgaaGreatDoor
