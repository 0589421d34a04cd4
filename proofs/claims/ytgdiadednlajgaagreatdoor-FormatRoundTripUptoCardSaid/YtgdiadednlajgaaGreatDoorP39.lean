import Derived.Test.YtgdiadednlajgaaGreatDoorP38
namespace Go.Proofs.YtgdiadednlajgaaGreatDoor
set_option linter.unusedVariables false
theorem hexOk_nil : hexOk [] = false := rfl
def okB (bad : Bool) (N k : Nat) : Bool := !bad && (((N - k : Nat) : Int) == 0)
section
variable {name w1 : List UInt8} {rest : List (List UInt8)} {N k1 k2 k3 k4 : Nat} {bad : Bool}
theorem if_okF {b : Bool} {A B : Prop} (h : b = false) (hB : B) : if b then A else B := by rw [h]; exact hB
theorem if_okT {b : Bool} {A B : Prop} (h : b = true) (hA : A) : if b then A else B := by rw [h]; exact hA
theorem okB_more (h : k1 < N) : okB bad N k1 = false := by
  unfold okB
  rw [beq_eq_false_iff_ne.2 (by omega), Bool.and_false]
theorem okB_bad (h : bad = true) : okB bad N k1 = false := by unfold okB; rw [h]; rfl
theorem okB_ok (h : bad = false) (h2 : k1 = N) : okB bad N k1 = true := by unfold okB; rw [h, h2, Nat.sub_self]; rfl
theorem numB_ok {x : List UInt8} (h : numOk x = true) : numB x = some (atoiV x) := by unfold numB; rw [if_pos h]
theorem numB_no {x : List UInt8} (h : numOk x = false) : numB x = none := by unfold numB; rw [if_neg (by rw [h]; exact Bool.false_ne_true)]
theorem readK_1 (ws : List (List UInt8)) : readK name 1 ws = (match ws with | [x] => if x = [] then none else (unhex x).map fun b => ({ bare name 1 with bs := b }, []) | _ => none) := rfl
theorem readK_2 (ws : List (List UInt8)) : readK name 2 ws = (match ws with | [a, o, m, x] => (match numB a, numB m, numB x with | some a, some m, some x => if o = bigW ∨ o = littleW then some ({ bare name 2 with size := a, big := o == bigW, mn := m, mx := x }, []) else none | _, _, _ => none) | _ => none) := rfl
theorem readK_3 (ws : List (List UInt8)) : readK name 3 ws = (match ws with | [a, b] => (match numB a, numB b with | some a, some b => some ({ bare name 3 with stop := a, mx := b }, []) | _, _ => none) | _ => none) := rfl
theorem readK_4 (ws : List (List UInt8)) : readK name 4 ws = (match ws with | [a] => (numB a).map fun a => ({ bare name 4 with size := a }, []) | _ => none) := rfl
theorem readK_5 (ws : List (List UInt8)) : readK name 5 ws = (match ws with | [a, b] => (match numB a, numB b with | some a, some b => some ({ bare name 5 with stop := a, size := b }, []) | _, _ => none) | _ => none) := rfl
theorem readK_6 (ws : List (List UInt8)) : readK name 6 ws = (match ws with | [a, b] => if isName a && isName b then some (bare name 6, [a, b]) else none | _ => none) := rfl
theorem readK_9 (ws : List (List UInt8)) : readK name 9 ws = (match ws with | [a, b] => (match numB a with | some a => if isName b then some ({ bare name 9 with stop := a }, [b]) else none | none => none) | _ => none) := rfl
theorem readK_10 (ws : List (List UInt8)) : readK name 10 ws = (match ws with | [a] => if isName a then some (bare name 10, [a]) else none | _ => none) := rfl
theorem readK_7 (ws : List (List UInt8)) : readK name 7 ws = ((partsRd ws).map fun p => ({ bare name 7 with names := p.1 }, p.2)) := rfl
theorem readK_8 (ws : List (List UInt8)) : readK name 8 ws = (if ws.all isName then some (bare name 8, ws) else none) := rfl
theorem pl_1 {out : List UInt8} (hN : N = rest.length + 2) (h1 : k1 = min (2 + 1) N) (hb : bad = ((false || decide (N ≤ 2)) || !(hexOk (wAt (name :: w1 :: rest) 2)))) (ho : ∀ o, unhex (wAt (name :: w1 :: rest) 2) = some o → wAt (name :: w1 :: rest) 2 ≠ [] → o = out) :
    if okB bad N k1 then readK name 1 rest = some ({ bare name 1 with bs := out }, []) else readK name 1 rest = none := by
  rw [readK_1]
  match rest with
  | [] =>
    have e : okB bad N k1 = false := by rw [hb]; unfold okB; simp [hN]
    exact if_okF e rfl
  | [a] =>
    have hN' : N = 3 := hN
    have hk : k1 = 3 := by omega
    have hw : wAt [name, w1, a] 2 = a := rfl
    rw [hw] at hb ho
    simp only
    by_cases ha : a = []
    · have e : okB bad N k1 = false := by rw [hb, ha]; unfold okB; simp [hexOk_nil]
      exact if_okF e (by rw [if_pos ha])
    · rw [if_neg ha]
      cases hu : unhex a with
      | none =>
        have e : okB bad N k1 = false := by rw [hb]; unfold okB hexOk; simp [hu]
        exact if_okF e rfl
      | some o =>
        have e : okB bad N k1 = true := by rw [hb, hN', hk]; unfold okB hexOk; simp [hu, ha]
        rw [ho o hu ha]
        exact if_okT e rfl
  | a :: b :: t =>
    have hN' : N = t.length + 4 := by rw [hN]; simp only [List.length_cons]
    have e : okB bad N k1 = false := by
      unfold okB
      rw [beq_eq_false_iff_ne.2 (by omega), Bool.and_false]
    exact if_okF e rfl
theorem pl_4 (hN : N = rest.length + 2) (h1 : k1 = min (2 + 1) N) (hb : bad = ((false || decide (N ≤ 2)) || !(numOk (wAt (name :: w1 :: rest) 2)))) :
    if okB bad N k1 then readK name 4 rest = some ({ bare name 4 with size := atoiV (wAt (name :: w1 :: rest) 2) }, []) else readK name 4 rest = none := by
  rw [readK_4]
  match rest with
  | [] => exact if_okF (okB_bad (by rw [hb]; simp [hN])) rfl
  | [a] =>
    have hN' : N = 3 := hN
    have hw : wAt [name, w1, a] 2 = a := rfl
    rw [hw] at hb ⊢
    simp only
    cases ha : numOk a with
    | false => rw [numB_no ha]; exact if_okF (okB_bad (by rw [hb, ha]; simp)) rfl
    | true => rw [numB_ok ha]; exact if_okT (okB_ok (by rw [hb, ha, hN']; rfl) (by omega)) rfl
  | a :: b :: t =>
    have hN' : N = t.length + 4 := by rw [hN]; simp only [List.length_cons]
    exact if_okF (okB_more (by omega)) rfl
theorem pl_10 (hN : N = rest.length + 2) (h1 : k1 = min (2 + 1) N) (hb : bad = ((false || decide (N ≤ 2)) || !(isName (wAt (name :: w1 :: rest) 2)))) :
    if okB bad N k1 then readK name 10 rest = some (bare name 10, [wAt (name :: w1 :: rest) 2]) else readK name 10 rest = none := by
  rw [readK_10]
  match rest with
  | [] => exact if_okF (okB_bad (by rw [hb]; simp [hN])) rfl
  | [a] =>
    have hN' : N = 3 := hN
    have hw : wAt [name, w1, a] 2 = a := rfl
    rw [hw] at hb ⊢
    simp only
    cases ha : isName a with
    | false => exact if_okF (okB_bad (by rw [hb, ha]; simp)) rfl
    | true => exact if_okT (okB_ok (by rw [hb, ha, hN']; rfl) (by omega)) rfl
  | a :: b :: t =>
    have hN' : N = t.length + 4 := by rw [hN]; simp only [List.length_cons]
    exact if_okF (okB_more (by omega)) rfl
theorem pl_two {va vb : List UInt8 → Bool} {X : Option (Rl × List (List UInt8))} {Y : List UInt8 → List UInt8 → Rl × List (List UInt8)} (hva : va [] = false) (hvb : vb [] = false) (hN : N = rest.length + 2) (h1 : k1 = min (2 + 1) N) (h2 : k2 = min (k1 + 1) N) (hb : bad = ((((false || decide (N ≤ 2)) || !(va (wAt (name :: w1 :: rest) 2))) || decide (N ≤ k1)) || !(vb (wAt (name :: w1 :: rest) k1))))
    (hX : ∀ a b, rest = [a, b] → X = if va a && vb b then some (Y a b) else none) (hno : (∀ a b, rest ≠ [a, b]) → X = none) :
    if okB bad N k2 then X = some (Y (wAt (name :: w1 :: rest) 2) (wAt (name :: w1 :: rest) k1)) else X = none := by
  match rest, hX, hno with
  | [], hX, hno => exact if_okF (okB_bad (by rw [hb]; simp [hN])) (hno (by simp))
  | [a], hX, hno =>
    have hN' : N = 3 := hN
    have hk : k1 = 3 := by omega
    exact if_okF (okB_bad (by rw [hb, hN', hk]; simp)) (hno (by simp))
  | [a, b], hX, hno =>
    have hN' : N = 4 := hN
    have hk : k1 = 3 := by omega
    have hk2 : k2 = 4 := by omega
    have hw : wAt [name, w1, a, b] 2 = a := rfl
    have hw2 : wAt [name, w1, a, b] 3 = b := rfl
    rw [hk, hw, hw2, hN'] at hb
    rw [hk, hw, hw2, hX a b rfl]
    cases ha : va a with
    | false => exact if_okF (okB_bad (by rw [hb, ha]; simp)) rfl
    | true =>
      cases hb' : vb b with
      | false => exact if_okF (okB_bad (by rw [hb, ha, hb']; simp)) rfl
      | true => exact if_okT (okB_ok (by rw [hb, ha, hb']; rfl) (by omega)) rfl
  | a :: b :: c :: t, hX, hno =>
    have hN' : N = t.length + 5 := by rw [hN]; simp only [List.length_cons]
    exact if_okF (okB_more (by omega)) (hno (by simp))
theorem pl_3 (hN : N = rest.length + 2) (h1 : k1 = min (2 + 1) N) (h2 : k2 = min (k1 + 1) N) (hb : bad = ((((false || decide (N ≤ 2)) || !(numOk (wAt (name :: w1 :: rest) 2))) || decide (N ≤ k1)) || !(numOk (wAt (name :: w1 :: rest) k1)))) :
    if okB bad N k2 then readK name 3 rest = some ({ bare name 3 with stop := atoiV (wAt (name :: w1 :: rest) 2), mx := atoiV (wAt (name :: w1 :: rest) k1) }, []) else readK name 3 rest = none := by
  refine pl_two (va := numOk) (vb := numOk) (Y := fun a b => ({ bare name 3 with stop := atoiV a, mx := atoiV b }, [])) rfl rfl hN h1 h2 hb (fun a b e => ?_) (fun hno => ?_)
  · rw [e]
    rw [readK_3]
    simp only
    cases ha : numOk a with
    | false => rw [numB_no ha]; rfl
    | true =>
      cases hb' : numOk b with
      | false => rw [numB_ok ha, numB_no hb']; rfl
      | true => rw [numB_ok ha, numB_ok hb']; rfl
  · rw [readK_3]
    match rest with
    | [] => rfl
    | [a] => rfl
    | [a, b] => exact absurd rfl (hno a b)
    | a :: b :: c :: t => rfl
theorem pl_5 (hN : N = rest.length + 2) (h1 : k1 = min (2 + 1) N) (h2 : k2 = min (k1 + 1) N) (hb : bad = ((((false || decide (N ≤ 2)) || !(numOk (wAt (name :: w1 :: rest) 2))) || decide (N ≤ k1)) || !(numOk (wAt (name :: w1 :: rest) k1)))) :
    if okB bad N k2 then readK name 5 rest = some ({ bare name 5 with stop := atoiV (wAt (name :: w1 :: rest) 2), size := atoiV (wAt (name :: w1 :: rest) k1) }, []) else readK name 5 rest = none := by
  refine pl_two (va := numOk) (vb := numOk) (Y := fun a b => ({ bare name 5 with stop := atoiV a, size := atoiV b }, [])) rfl rfl hN h1 h2 hb (fun a b e => ?_) (fun hno => ?_)
  · rw [e]
    rw [readK_5]
    simp only
    cases ha : numOk a with
    | false => rw [numB_no ha]; rfl
    | true =>
      cases hb' : numOk b with
      | false => rw [numB_ok ha, numB_no hb']; rfl
      | true => rw [numB_ok ha, numB_ok hb']; rfl
  · rw [readK_5]
    match rest with
    | [] => rfl
    | [a] => rfl
    | [a, b] => exact absurd rfl (hno a b)
    | a :: b :: c :: t => rfl
theorem pl_6 (hN : N = rest.length + 2) (h1 : k1 = min (2 + 1) N) (h2 : k2 = min (k1 + 1) N) (hb : bad = ((((false || decide (N ≤ 2)) || !(isName (wAt (name :: w1 :: rest) 2))) || decide (N ≤ k1)) || !(isName (wAt (name :: w1 :: rest) k1)))) :
    if okB bad N k2 then readK name 6 rest = some (bare name 6, [wAt (name :: w1 :: rest) 2, wAt (name :: w1 :: rest) k1]) else readK name 6 rest = none := by
  refine pl_two (va := isName) (vb := isName) (Y := fun a b => (bare name 6, [a, b])) rfl rfl hN h1 h2 hb (fun a b e => ?_) (fun hno => ?_)
  · rw [e]
    rw [readK_6]
  · rw [readK_6]
    match rest with
    | [] => rfl
    | [a] => rfl
    | [a, b] => exact absurd rfl (hno a b)
    | a :: b :: c :: t => rfl
theorem pl_9 (hN : N = rest.length + 2) (h1 : k1 = min (2 + 1) N) (h2 : k2 = min (k1 + 1) N) (hb : bad = ((((false || decide (N ≤ 2)) || !(numOk (wAt (name :: w1 :: rest) 2))) || decide (N ≤ k1)) || !(isName (wAt (name :: w1 :: rest) k1)))) :
    if okB bad N k2 then readK name 9 rest = some ({ bare name 9 with stop := atoiV (wAt (name :: w1 :: rest) 2) }, [wAt (name :: w1 :: rest) k1]) else readK name 9 rest = none := by
  refine pl_two (va := numOk) (vb := isName) (Y := fun a b => ({ bare name 9 with stop := atoiV a }, [b])) rfl rfl hN h1 h2 hb (fun a b e => ?_) (fun hno => ?_)
  · rw [e]
    rw [readK_9]
    simp only
    cases ha : numOk a with
    | false => rw [numB_no ha]; rfl
    | true =>
      rw [numB_ok ha, Bool.true_and]
  · rw [readK_9]
    match rest with
    | [] => rfl
    | [a] => rfl
    | [a, b] => exact absurd rfl (hno a b)
    | a :: b :: c :: t => rfl
theorem pl_2 (hN : N = rest.length + 2) (h1 : k1 = min (2 + 1) N) (h2 : k2 = min (k1 + 1) N) (h3 : k3 = min (k2 + 1) N) (h4 : k4 = min (k3 + 1) N) (hb : bad = ((((((((false || decide (N ≤ 2)) || !(numOk (wAt (name :: w1 :: rest) 2))) || decide (N ≤ k1)) || !(orderOk (wAt (name :: w1 :: rest) k1))) || decide (N ≤ k2)) || !(numOk (wAt (name :: w1 :: rest) k2))) || decide (N ≤ k3)) || !(numOk (wAt (name :: w1 :: rest) k3)))) :
    if okB bad N k4 then readK name 2 rest = some ({ bare name 2 with size := atoiV (wAt (name :: w1 :: rest) 2), big := wAt (name :: w1 :: rest) k1 == bigW, mn := atoiV (wAt (name :: w1 :: rest) k2), mx := atoiV (wAt (name :: w1 :: rest) k3) }, []) else readK name 2 rest = none := by
  rw [readK_2]
  match rest with
  | [] => exact if_okF (okB_bad (by rw [hb]; simp [hN])) rfl
  | [a] =>
    have hN' : N = 3 := hN
    have hk : k1 = 3 := by omega
    exact if_okF (okB_bad (by rw [hb, hN', hk]; simp)) rfl
  | [a, b] =>
    have hN' : N = 4 := hN
    have hk : k1 = 3 := by omega
    have hk2 : k2 = 4 := by omega
    exact if_okF (okB_bad (by rw [hb, hN', hk2]; simp)) rfl
  | [a, b, c] =>
    have hN' : N = 5 := hN
    have hk3 : k3 = 5 := by omega
    exact if_okF (okB_bad (by rw [hb, hN', hk3]; simp)) rfl
  | [a, b, c, d] =>
    have hN' : N = 6 := hN
    have hk : k1 = 3 := by omega
    have hk2 : k2 = 4 := by omega
    have hk3 : k3 = 5 := by omega
    have hw : wAt [name, w1, a, b, c, d] 2 = a := rfl
    have hw2 : wAt [name, w1, a, b, c, d] 3 = b := rfl
    have hw3 : wAt [name, w1, a, b, c, d] 4 = c := rfl
    have hw4 : wAt [name, w1, a, b, c, d] 5 = d := rfl
    rw [hk, hk2, hk3, hw, hw2, hw3, hw4, hN'] at hb
    rw [hk, hk2, hk3, hw, hw2, hw3, hw4]
    simp only
    cases ha : numOk a with
    | false => rw [numB_no ha]; exact if_okF (okB_bad (by rw [hb, ha]; simp)) rfl
    | true =>
      rw [numB_ok ha]
      cases hc : numOk c with
      | false => rw [numB_no hc]; exact if_okF (okB_bad (by rw [hb, hc]; simp)) rfl
      | true =>
        rw [numB_ok hc]
        cases hd : numOk d with
        | false => rw [numB_no hd]; exact if_okF (okB_bad (by rw [hb, hd]; simp)) rfl
        | true =>
          rw [numB_ok hd]
          simp only
          by_cases ho : b = bigW ∨ b = littleW
          · rw [if_pos ho]
            have hob : orderOk b = true := by
              unfold orderOk
              rcases ho with e | e <;> rw [e] <;> rfl
            exact if_okT (okB_ok (by rw [hb, ha, hc, hd, hob]; rfl) (by omega)) rfl
          · rw [if_neg ho]
            have hob : orderOk b = false := by
              unfold orderOk
              rw [Bool.or_eq_false_iff, beq_eq_false_iff_ne, beq_eq_false_iff_ne]
              exact ⟨fun e => ho (.inl e), fun e => ho (.inr e)⟩
            exact if_okF (okB_bad (by rw [hb, hob]; simp)) rfl
  | a :: b :: c :: d :: e :: t =>
    have hN' : N = t.length + 7 := by rw [hN]; simp only [List.length_cons]
    exact if_okF (okB_more (by omega)) rfl
theorem partRd_if (w : List UInt8) : partRd w = if pBad true w then none else some (pName w, pRef true w) := by
  have h1 : pBad true w = ((!(cutL 58 w).2.2 || (!((cutL 58 w).1 == [45]) && !(isName (cutL 58 w).1))) || !(isName (cutL 58 w).2.1)) := rfl
  have h2 : pRef true w = (cutL 58 w).2.1 := rfl
  have h3 : pName w = if (cutL 58 w).1 == [45] then [] else (cutL 58 w).1 := rfl
  rw [h1, h2, h3]
  unfold partRd
  cases (cutL 58 w).2.2 <;> cases ((cutL 58 w).1 == [45]) <;> cases isName (cutL 58 w).1 <;> cases isName (cutL 58 w).2.1 <;> rfl
theorem partsRd_if : ∀ ws : List (List UInt8), partsRd ws = if ws.any (pBad true) then none else some (ws.map pName, ws.map (pRef true))
  | [] => rfl
  | w :: l => by
    unfold partsRd
    rw [partRd_if w, partsRd_if l, List.any_cons]
    cases pBad true w <;> cases l.any (pBad true) <;> rfl
theorem bad_all : ∀ ws : List (List UInt8), ws.any (pBad false) = !(ws.all isName)
  | [] => rfl
  | w :: l => by
    rw [List.any_cons, List.all_cons, bad_all l, show pBad false w = !(isName w) from rfl]
    cases isName w <;> cases l.all isName <;> rfl
theorem ref_id : ∀ ws : List (List UInt8), ws.map (pRef false) = ws
  | [] => rfl
  | w :: l => by rw [List.map_cons, ref_id l]; rfl
theorem wIn_rest {j : Nat} (hN : N = rest.length + 2) (hj : j = N) : wIn (name :: w1 :: rest) 2 j = rest := by
  have h := wIn_all (ws := name :: w1 :: rest) (k := 2)
  rw [hj, hN]
  exact h
theorem pl_7 {y : PaY} (hN : N = rest.length + 2) (hj : y.j = N) (h : PaI true (name :: w1 :: rest) N 2 false [] y) :
    if okB y.b N y.j then readK name 7 rest = some ({ bare name 7 with names := y.nm }, y.ns) else readK name 7 rest = none := by
  have hb := h.b
  have hns := h.ns
  have hnm := h.nm
  rw [wIn_rest hN hj] at hb hns hnm
  rw [Bool.false_or] at hb
  rw [readK_7, partsRd_if, hnm, hns, ← hb]
  cases hyb : y.b with
  | true => exact if_okF (okB_bad rfl) rfl
  | false => exact if_okT (okB_ok rfl hj) rfl
theorem pl_8 {y : PaY} (hN : N = rest.length + 2) (hj : y.j = N) (h : PaI false (name :: w1 :: rest) N 2 false [] y) :
    (if okB y.b N y.j then readK name 8 rest = some (bare name 8, y.ns) else readK name 8 rest = none) ∧ y.nm = [] := by
  have hb := h.b
  have hns := h.ns
  have hnm := h.nm
  rw [wIn_rest hN hj] at hb hns
  rw [Bool.false_or, bad_all] at hb
  refine ⟨?_, hnm⟩
  rw [readK_8, hns, ref_id]
  cases hyb : y.b with
  | true =>
    rw [hyb] at hb
    refine if_okF (okB_bad rfl) ?_
    rw [if_neg]
    intro e
    rw [e] at hb
    cases hb
  | false =>
    rw [hyb] at hb
    refine if_okT (okB_ok rfl hj) ?_
    rw [if_pos]
    · rfl
    · cases ha : rest.all isName with
      | true => rfl
      | false => rw [ha] at hb; cases hb
end
end Go.Proofs.YtgdiadednlajgaaGreatDoor
