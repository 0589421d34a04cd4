import Derived.Test.YtgdiadednlajgaaGreatDoorP19
import Derived.Test.YtgdiadednlajgaaGreatDoorP20
namespace Go.Proofs.YtgdiadednlajgaaGreatDoor
open Go.RowKit
set_option linter.unusedVariables false
set_option linter.unusedSimpArgs false
def setsC : List (Nat → Bool) → List Value
  | [] => []
  | s :: l => setC s ++ setsC l
theorem setsC_len : ∀ l : List (Nat → Bool), (setsC l).length = l.length * 256
  | [] => rfl
  | s :: l => by rw [setsC, List.length_append, setC_len, setsC_len l, List.length_cons]; omega
theorem setsC_app : ∀ (l m : List (Nat → Bool)), setsC (l ++ m) = setsC l ++ setsC m
  | [], m => rfl
  | s :: l, m => by rw [List.cons_append, setsC, setsC, setsC_app l m, List.append_assoc]
def nilS : Nat → Bool := fun _ => false
theorem setsC_at : ∀ (l : List (Nat → Bool)) (k c : Nat), k < l.length → c < 256 → (setsC l)[k * 256 + c]? = some (.bool ((l.getD k nilS) c))
  | [], k, c, h, _ => absurd h (by simp)
  | s :: l, 0, c, _, hc => by
    rw [setsC, List.getElem?_append_left (by rw [setC_len]; omega), Nat.zero_mul, Nat.zero_add, setC_at s hc]
    rfl
  | s :: l, k + 1, c, h, hc => by
    rw [setsC, List.getElem?_append_right (by rw [setC_len]; omega), setC_len, show (k + 1) * 256 + c - 256 = k * 256 + c by omega, setsC_at l k c (by simpa using h) hc]
    rfl
theorem setsC_set : ∀ (l : List (Nat → Bool)) (k c : Nat) (b : Bool), k < l.length → c < 256 → (setsC l).set (k * 256 + c) (.bool b) = setsC (l.set k (fun j => if j = c then b else (l.getD k nilS) j))
  | [], k, c, b, h, _ => absurd h (by simp)
  | s :: l, 0, c, b, _, hc => by
    rw [setsC, List.set_append_left _ _ (by rw [setC_len]; omega), Nat.zero_mul, Nat.zero_add, setC_set]
    rfl
  | s :: l, k + 1, c, b, h, hc => by
    rw [setsC, List.set_append_right _ _ (by rw [setC_len]; omega), setC_len, show (k + 1) * 256 + c - 256 = k * 256 + c by omega, setsC_set l k c b (by simpa using h) hc]
    rfl
theorem setsC_drop (l : List (Nat → Bool)) (k : Nat) (h : k < l.length) : ∀ j u, (setC (l.getD k nilS))[j]? = some u → (setsC l)[k * 256 + j]? = some u := by
  intro j u hu
  have hj : j < 256 := by
    rcases Nat.lt_or_ge j 256 with hj | hj
    · exact hj
    · rw [List.getElem?_eq_none (by rw [setC_len]; omega)] at hu; cases hu
  rw [setsC_at l k j h hj]
  rw [setC_at _ hj] at hu
  exact hu
def ownR (r : Rl) : Nat → Bool := ownS r.kind r.bs r.size r.big r.mn r.mx r.stop
def orS (s t : Nat → Bool) : Nat → Bool := fun j => s j || t j
def firAdd (Ss : List (Nat → Bool)) (k i : Nat) : List (Nat → Bool) := Ss.set k (orS (Ss.getD k nilS) (Ss.getD i nilS))
def firStep (F : List Rl) (Ss : List (Nat → Bool)) (k : Nat) : List (Nat → Bool) := (bg F k).foldl (fun S i => firAdd S k i) Ss
def firRound (F : List Rl) (Ss : List (Nat → Bool)) : List (Nat → Bool) := (List.range F.length).foldl (firStep F) Ss
def firL (F : List Rl) : List (Nat → Bool) := iter (firRound F) F.length (F.map ownR)
theorem own_calls {r : Rl} {Ab An Ap : Option Addr} {n cb cn cp : Nat} {W : World} (hl : RuL W r Ab cb An cn Ap cp) (hr : ROk n r) :
    Calls Tryz.prog 53 #[.agg (ruC r (.slice Ab r.bs.length cb) (.slice An r.names.length cn) (.slice Ap r.parts.length cp)).toArray] W (OwnEnd W (ownR r)) := by
  obtain ⟨name, kind, bs, size, big, mn, mx, stop, count, elem, names, parts⟩ := r
  have hk := hr.kind
  have hb := hl.b
  have h1 := hr.bs1
  have h2 := hr.num
  have h3 := hr.dec
  have h5 := hr.size5
  have hs := hr.stop
  unfold ownR
  simp only at hk hb h1 h2 h3 h5 hs ⊢
  rcases (show kind = 1 ∨ kind = 2 ∨ kind = 3 ∨ kind = 4 ∨ kind = 5 ∨ kind = 6 ∨ kind = 7 ∨ kind = 8 ∨ kind = 9 ∨ kind = 10 by omega) with rfl | rfl | rfl | rfl | rfl | rfl | rfl | rfl | rfl | rfl
  · exact own_1 W hb (h1 rfl)
  · obtain ⟨a1, a2, a3, a4, a5⟩ := h2 rfl
    have a6 : mx ≤ 4294967295 := by
      have b1 : 1 ≤ size := a1
      have b2 : size ≤ 4 := a2
      have b5 : mx < 256 ^ size.toNat := a5
      clear h1 h2 h3 h5 hs hr hl hb a1 a2 a3 a4 a5
      rcases (show size = 1 ∨ size = 2 ∨ size = 3 ∨ size = 4 by omega) with rfl | rfl | rfl | rfl <;> simp at b5 <;> omega
    cases big with
    | true => exact own_2b (big := true) W ⟨a1, a2⟩ ⟨a3, a4, a6⟩
    | false => exact own_2l (big := true) W ⟨a3, a4, a6⟩
  · exact own_3 W ⟨(h3 rfl).1, (h3 rfl).2.1⟩
  · exact own_4 W
  · by_cases h0 : 0 < size
    · exact own_5a W h0
    · have h50 : 0 ≤ size := (h5 rfl).1
      have h51 : size = 0 := by omega
      exact own_5b W h51 (hs (.inr (.inl rfl)))
  · exact own_6 W
  · exact own_7 W
  · exact own_8 W
  · exact own_9 W (hs (.inr (.inr rfl)))
  · exact own_10 W
end Go.Proofs.YtgdiadednlajgaaGreatDoor
